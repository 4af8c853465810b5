/- hmac.Tag, walked. -/
import Derived.Test.YtljfjjofhclhiaaDoorHmA
namespace Go.Proofs.YtljfjjofhclhiaaDoor
open Go.RowKit
open Mur (b8s Byt Own8 Seg Segs flat cutA)
set_option maxRecDepth 100000
set_option maxHeartbeats 4000000
def Tag_J2_1 (b : Array Value) (u1 : Value) (u4 : Value) (u6 : Value) (u7 : Value) : Act := ⟨#[b.getD 0 undef, u1, b.getD 2 undef, b.getD 3 undef, u4, b.getD 5 undef, u6, u7, b.getD 8 undef, b.getD 9 undef, b.getD 10 undef, b.getD 11 undef, b.getD 12 undef, b.getD 13 undef, b.getD 14 undef, b.getD 15 undef, b.getD 16 undef, b.getD 17 undef, b.getD 18 undef, b.getD 19 undef, b.getD 20 undef, b.getD 21 undef, b.getD 22 undef, b.getD 23 undef, b.getD 24 undef, b.getD 25 undef, b.getD 26 undef, b.getD 27 undef, b.getD 28 undef, b.getD 29 undef, b.getD 30 undef, b.getD 31 undef, b.getD 32 undef, b.getD 33 undef, b.getD 34 undef, b.getD 35 undef, b.getD 36 undef, b.getD 37 undef, b.getD 38 undef], []⟩
def Tag_F1 (b : Array Value) (u4 : Value) (u7 : Value) (u8 : Value) (u21 : Value) (u22 : Value) (u23 : Value) : Act := ⟨#[b.getD 0 undef, b.getD 1 undef, b.getD 2 undef, b.getD 3 undef, u4, b.getD 5 undef, b.getD 6 undef, u7, u8, b.getD 9 undef, b.getD 10 undef, b.getD 11 undef, b.getD 12 undef, b.getD 13 undef, b.getD 14 undef, b.getD 15 undef, b.getD 16 undef, b.getD 17 undef, b.getD 18 undef, b.getD 19 undef, b.getD 20 undef, u21, u22, u23, b.getD 24 undef, b.getD 25 undef, b.getD 26 undef, b.getD 27 undef, b.getD 28 undef, b.getD 29 undef, b.getD 30 undef, b.getD 31 undef, b.getD 32 undef, b.getD 33 undef, b.getD 34 undef, b.getD 35 undef, b.getD 36 undef, b.getD 37 undef, b.getD 38 undef], []⟩
theorem Tag_any (s : List UInt8) (A : Option Addr) (n c : Nat) (L : List Seg) (PA : Option Addr) (pn pc : Nat) (w : World) (hv : ShaVars w) (hb : Byt w A n s) (hnc : n ≤ c) (ha : A = none → c = 0) (hn : n ≤ 140737488351232) (hl : Segs w PA pn L) (hpn : pn ≤ 9223372036854775807) (hf : (flat L).length ≤ 140737488351000) : Calls Tryd.prog 13 #[.slice A n c, .slice PA pn pc] w fun e w' => ∃ d, Hid (d = Mur.hmac s (flat L)) ∧ d.length = 32 ∧ e = .returned (.agg (b8s d).toArray) ∧ Wk.Chg [] w w' := by
  have HV := Go.Lib.hid hv
  clear hv
  have HBY := Go.Lib.hid hb
  clear hb
  have HA := Go.Lib.hid ha
  clear ha
  have HL := Go.Lib.hid hl
  clear hl
  refine calls_of_wp Tryd.func13 rfl ?_
  refine wp_seq ?_
  refine Wk.reg ?_
  refine Wk.rEx 0 (some 4) _ rfl rfl (by kernel_rfl) (Wk.new_ex (.pointer (some ⟨w.heap.size, 0, none⟩)) #[.int .u8 0, .int .u8 0, .int .u8 0, .int .u8 0, .int .u8 0, .int .u8 0, .int .u8 0, .int .u8 0, .int .u8 0, .int .u8 0, .int .u8 0, .int .u8 0, .int .u8 0, .int .u8 0, .int .u8 0, .int .u8 0, .int .u8 0, .int .u8 0, .int .u8 0, .int .u8 0, .int .u8 0, .int .u8 0, .int .u8 0, .int .u8 0, .int .u8 0, .int .u8 0, .int .u8 0, .int .u8 0, .int .u8 0, .int .u8 0, .int .u8 0, .int .u8 0] 25 (by kernel_rfl)) ?_
  rintro _ W1 ⟨rfl, hb1, ch1, sz1⟩
  have zz1 := ch1.size
  refine Wk.rEnd 1 rfl ?_
  refine Wk.nxt ?_
  refine wp_seq ?_
  refine Wk.reg ?_
  refine Wk.rPure 0 (some 12) (.slice A n c) rfl rfl (by kernel_rfl) (by kernel_rfl) ?_
  refine Wk.rCall 1 (some 13) 28 [.tmp 12] #[22] [.slice A n c] rfl rfl (by kernel_rfl) rfl (by kernel_rfl) (by kernel_rfl) ?_
  have kk1 : Wk.Chg [] w W1 := Wk.Chg.step ((Wk.Chg.refl _).more (by simp)) ch1 trivial
  refine (key_any s A n c W1 (HV.out.below (Wk.Chg.below0 kk1)) (Mur.byt_chg HBY.out kk1 (fun g off e hl => trivial)) (by omega) HA.out (by omega)).mono ?_
  rintro _ W2 ⟨kx1, hd1, hdl1, rfl, ch2⟩
  have zz2 := ch2.size
  refine ⟨_, rfl, ?_⟩
  refine Wk.rEx 2 (some 5) _ rfl rfl (by kernel_rfl) (Wk.new_ex (.pointer (some ⟨W2.heap.size, 0, none⟩)) #[.int .u8 0, .int .u8 0, .int .u8 0, .int .u8 0, .int .u8 0, .int .u8 0, .int .u8 0, .int .u8 0, .int .u8 0, .int .u8 0, .int .u8 0, .int .u8 0, .int .u8 0, .int .u8 0, .int .u8 0, .int .u8 0, .int .u8 0, .int .u8 0, .int .u8 0, .int .u8 0, .int .u8 0, .int .u8 0, .int .u8 0, .int .u8 0, .int .u8 0, .int .u8 0, .int .u8 0, .int .u8 0, .int .u8 0, .int .u8 0, .int .u8 0, .int .u8 0, .int .u8 0, .int .u8 0, .int .u8 0, .int .u8 0, .int .u8 0, .int .u8 0, .int .u8 0, .int .u8 0, .int .u8 0, .int .u8 0, .int .u8 0, .int .u8 0, .int .u8 0, .int .u8 0, .int .u8 0, .int .u8 0, .int .u8 0, .int .u8 0, .int .u8 0, .int .u8 0, .int .u8 0, .int .u8 0, .int .u8 0, .int .u8 0, .int .u8 0, .int .u8 0, .int .u8 0, .int .u8 0, .int .u8 0, .int .u8 0, .int .u8 0, .int .u8 0] 56 (by kernel_rfl)) ?_
  rintro _ W3 ⟨rfl, hb2, ch3, sz2⟩
  have zz3 := ch3.size
  refine Wk.rExS 3 none _ rfl rfl (by kernel_rfl) (Mur.storeAll 56 (.tmp 5) (.tmp 13) rfl W2.heap.size (by kernel_rfl) kx1 64 hdl1 (by kernel_rfl) (by kernel_rfl) 56 #[.int .u8 0, .int .u8 0, .int .u8 0, .int .u8 0, .int .u8 0, .int .u8 0, .int .u8 0, .int .u8 0, .int .u8 0, .int .u8 0, .int .u8 0, .int .u8 0, .int .u8 0, .int .u8 0, .int .u8 0, .int .u8 0, .int .u8 0, .int .u8 0, .int .u8 0, .int .u8 0, .int .u8 0, .int .u8 0, .int .u8 0, .int .u8 0, .int .u8 0, .int .u8 0, .int .u8 0, .int .u8 0, .int .u8 0, .int .u8 0, .int .u8 0, .int .u8 0, .int .u8 0, .int .u8 0, .int .u8 0, .int .u8 0, .int .u8 0, .int .u8 0, .int .u8 0, .int .u8 0, .int .u8 0, .int .u8 0, .int .u8 0, .int .u8 0, .int .u8 0, .int .u8 0, .int .u8 0, .int .u8 0, .int .u8 0, .int .u8 0, .int .u8 0, .int .u8 0, .int .u8 0, .int .u8 0, .int .u8 0, .int .u8 0, .int .u8 0, .int .u8 0, .int .u8 0, .int .u8 0, .int .u8 0, .int .u8 0, .int .u8 0, .int .u8 0] hb2 rfl) ?_
  rintro W4 ⟨hb3, ch4⟩
  have zz4 := ch4.size
  refine Wk.rEnd 4 rfl ?_
  refine Wk.nxt ?_
  refine wp_seq ?_
  refine Wk.cut (fun a wj => ∃ (q6 : Nat) (q7 : Nat), a = Tag_J2_1 a.tmps (.slice PA pn pc) (.pointer (some ⟨w.heap.size, 0, none⟩)) (.pointer (some ⟨q6, 0, none⟩)) (.pointer (some ⟨q7, 0, none⟩)) ∧ Wk.Chg [] W4 wj ∧ wj.heap[q6]? = some (.cells (b8s (Mur.xorl 54 kx1)).toArray 56 (0, 0)) ∧ wj.heap[q7]? = some (.cells (b8s (Mur.xorl 92 kx1)).toArray 56 (0, 0)) ∧ W4.heap.size ≤ q6 ∧ W4.heap.size ≤ q7) ?_ ?_
  · refine Wk.dReg ([]) (by kernel_rfl) ?_
    intro W5 ch5 sz3
    have zz5 := ch5.size
    have sS1 : Wk.Chg ([]) W5 W5 := (Wk.Chg.refl _).more (by simp)
    refine Wk.dVal 0 (some 14) (.agg ((b8s kx1).toArray)) rfl rfl (by kernel_rfl) (by kernel_rfl) (by kernel_rfl) (fun _ _ _ h => h) (by kernel_rfl) (fun w' hw' => (Mur.loadAll 56 (.tmp 5) rfl _ Tryd.underlying56 rfl W2.heap.size (by kernel_rfl) kx1 64 hdl1 (by kernel_rfl) 56 (0, 0) (Wk.Chg.hp hw' (Wk.Chg.hp ch5 hb3 trivial) trivial))) sS1 ?_
    refine Wk.dVal 2 (some 16) (.agg ((b8s kx1).toArray)) rfl rfl (by kernel_rfl) (by kernel_rfl) (by kernel_rfl) (fun _ _ _ h => h) (by kernel_rfl) (fun w' hw' => (Mur.loadAll 56 (.tmp 5) rfl _ Tryd.underlying56 rfl W2.heap.size (by kernel_rfl) kx1 64 hdl1 (by kernel_rfl) 56 (0, 0) (Wk.Chg.hp hw' (Wk.Chg.hp ch5 hb3 trivial) trivial))) sS1 ?_
    refine Wk.dOp3 1 4 5 (by kernel_rfl) ?_ ?_ ?_
    · refine Wk.oCall (some 15) 29 [.tmp 14, .const (.int .u8 54)] #[56, 5] [.agg ((b8s kx1).toArray), .int .u8 54] rfl rfl (by kernel_rfl) rfl (by kernel_rfl) (by kernel_rfl) ?_
      refine (with_any 54 kx1 hdl1 W5).mono ?_
      rintro _ W6 ⟨rfl, ch6⟩
      have zz6 := ch6.size
      have sS2 := Wk.Chg.step sS1 ch6 trivial
      refine ⟨_, rfl, sS2, ?_⟩
      refine Wk.dOp3 3 4 5 (by kernel_rfl) ?_ ?_ ?_
      · refine Wk.oCall (some 17) 29 [.tmp 16, .const (.int .u8 92)] #[56, 5] [.agg ((b8s kx1).toArray), .int .u8 92] rfl rfl (by kernel_rfl) rfl (by kernel_rfl) (by kernel_rfl) ?_
        refine (with_any 92 kx1 hdl1 W6).mono ?_
        rintro _ W7 ⟨rfl, ch7⟩
        have zz7 := ch7.size
        have sS3 := Wk.Chg.step sS2 ch7 trivial
        refine ⟨_, rfl, sS3, ?_⟩
        refine Wk.dOp2 4 5 (by kernel_rfl) ?_ ?_
        · refine Wk.oEx (some 6) _ rfl rfl (by kernel_rfl) (Wk.new_ex (.pointer (some ⟨W7.heap.size, 0, none⟩)) #[.int .u8 0, .int .u8 0, .int .u8 0, .int .u8 0, .int .u8 0, .int .u8 0, .int .u8 0, .int .u8 0, .int .u8 0, .int .u8 0, .int .u8 0, .int .u8 0, .int .u8 0, .int .u8 0, .int .u8 0, .int .u8 0, .int .u8 0, .int .u8 0, .int .u8 0, .int .u8 0, .int .u8 0, .int .u8 0, .int .u8 0, .int .u8 0, .int .u8 0, .int .u8 0, .int .u8 0, .int .u8 0, .int .u8 0, .int .u8 0, .int .u8 0, .int .u8 0, .int .u8 0, .int .u8 0, .int .u8 0, .int .u8 0, .int .u8 0, .int .u8 0, .int .u8 0, .int .u8 0, .int .u8 0, .int .u8 0, .int .u8 0, .int .u8 0, .int .u8 0, .int .u8 0, .int .u8 0, .int .u8 0, .int .u8 0, .int .u8 0, .int .u8 0, .int .u8 0, .int .u8 0, .int .u8 0, .int .u8 0, .int .u8 0, .int .u8 0, .int .u8 0, .int .u8 0, .int .u8 0, .int .u8 0, .int .u8 0, .int .u8 0, .int .u8 0] 56 (by kernel_rfl)) ?_
          rintro _ W8 ⟨rfl, hb4, ch8, sz4⟩
          have zz8 := ch8.size
          have sS4 := Wk.Chg.step sS3 ch8 trivial
          refine ⟨sS4, ?_⟩
          refine Wk.dOp 5 (by kernel_rfl) ?_
          refine Wk.oEx (some 7) _ rfl rfl (by kernel_rfl) (Wk.new_ex (.pointer (some ⟨W8.heap.size, 0, none⟩)) #[.int .u8 0, .int .u8 0, .int .u8 0, .int .u8 0, .int .u8 0, .int .u8 0, .int .u8 0, .int .u8 0, .int .u8 0, .int .u8 0, .int .u8 0, .int .u8 0, .int .u8 0, .int .u8 0, .int .u8 0, .int .u8 0, .int .u8 0, .int .u8 0, .int .u8 0, .int .u8 0, .int .u8 0, .int .u8 0, .int .u8 0, .int .u8 0, .int .u8 0, .int .u8 0, .int .u8 0, .int .u8 0, .int .u8 0, .int .u8 0, .int .u8 0, .int .u8 0, .int .u8 0, .int .u8 0, .int .u8 0, .int .u8 0, .int .u8 0, .int .u8 0, .int .u8 0, .int .u8 0, .int .u8 0, .int .u8 0, .int .u8 0, .int .u8 0, .int .u8 0, .int .u8 0, .int .u8 0, .int .u8 0, .int .u8 0, .int .u8 0, .int .u8 0, .int .u8 0, .int .u8 0, .int .u8 0, .int .u8 0, .int .u8 0, .int .u8 0, .int .u8 0, .int .u8 0, .int .u8 0, .int .u8 0, .int .u8 0, .int .u8 0, .int .u8 0] 56 (by kernel_rfl)) ?_
          rintro _ W9 ⟨rfl, hb5, ch9, sz5⟩
          have zz9 := ch9.size
          have sS5 := Wk.Chg.step sS4 ch9 trivial
          refine ⟨sS5, ?_⟩
          refine Wk.dOp 6 (by kernel_rfl) ?_
          refine Wk.oExS none _ rfl rfl (by kernel_rfl) (Mur.storeAll 56 (.tmp 6) (.tmp 15) rfl W7.heap.size (by kernel_rfl) (Mur.xorl 54 kx1) 64 (by rw [Mur.xorl_length, hdl1]) (by kernel_rfl) (by kernel_rfl) 56 #[.int .u8 0, .int .u8 0, .int .u8 0, .int .u8 0, .int .u8 0, .int .u8 0, .int .u8 0, .int .u8 0, .int .u8 0, .int .u8 0, .int .u8 0, .int .u8 0, .int .u8 0, .int .u8 0, .int .u8 0, .int .u8 0, .int .u8 0, .int .u8 0, .int .u8 0, .int .u8 0, .int .u8 0, .int .u8 0, .int .u8 0, .int .u8 0, .int .u8 0, .int .u8 0, .int .u8 0, .int .u8 0, .int .u8 0, .int .u8 0, .int .u8 0, .int .u8 0, .int .u8 0, .int .u8 0, .int .u8 0, .int .u8 0, .int .u8 0, .int .u8 0, .int .u8 0, .int .u8 0, .int .u8 0, .int .u8 0, .int .u8 0, .int .u8 0, .int .u8 0, .int .u8 0, .int .u8 0, .int .u8 0, .int .u8 0, .int .u8 0, .int .u8 0, .int .u8 0, .int .u8 0, .int .u8 0, .int .u8 0, .int .u8 0, .int .u8 0, .int .u8 0, .int .u8 0, .int .u8 0, .int .u8 0, .int .u8 0, .int .u8 0, .int .u8 0] (Wk.Chg.hp ch9 hb4 trivial) rfl) ?_
          rintro W10 ⟨hb6, ch10⟩
          have zz10 := ch10.size
          have sS6 := Wk.Chg.step sS5 ch10 ⟨.inr (by omega), trivial⟩
          refine ⟨sS6, ?_⟩
          refine Wk.dOp 7 (by kernel_rfl) ?_
          refine Wk.oExS none _ rfl rfl (by kernel_rfl) (Mur.storeAll 56 (.tmp 7) (.tmp 17) rfl W8.heap.size (by kernel_rfl) (Mur.xorl 92 kx1) 64 (by rw [Mur.xorl_length, hdl1]) (by kernel_rfl) (by kernel_rfl) 56 #[.int .u8 0, .int .u8 0, .int .u8 0, .int .u8 0, .int .u8 0, .int .u8 0, .int .u8 0, .int .u8 0, .int .u8 0, .int .u8 0, .int .u8 0, .int .u8 0, .int .u8 0, .int .u8 0, .int .u8 0, .int .u8 0, .int .u8 0, .int .u8 0, .int .u8 0, .int .u8 0, .int .u8 0, .int .u8 0, .int .u8 0, .int .u8 0, .int .u8 0, .int .u8 0, .int .u8 0, .int .u8 0, .int .u8 0, .int .u8 0, .int .u8 0, .int .u8 0, .int .u8 0, .int .u8 0, .int .u8 0, .int .u8 0, .int .u8 0, .int .u8 0, .int .u8 0, .int .u8 0, .int .u8 0, .int .u8 0, .int .u8 0, .int .u8 0, .int .u8 0, .int .u8 0, .int .u8 0, .int .u8 0, .int .u8 0, .int .u8 0, .int .u8 0, .int .u8 0, .int .u8 0, .int .u8 0, .int .u8 0, .int .u8 0, .int .u8 0, .int .u8 0, .int .u8 0, .int .u8 0, .int .u8 0, .int .u8 0, .int .u8 0, .int .u8 0] (Wk.Chg.hp ch10 hb5 ⟨by omega, trivial⟩) rfl) ?_
          rintro W11 ⟨hb7, ch11⟩
          have zz11 := ch11.size
          have sS7 := Wk.Chg.step sS6 ch11 ⟨.inr (by omega), trivial⟩
          refine ⟨sS7, ?_⟩
          refine Wk.dEnd (by kernel_rfl) ?_
          refine Wk.nxt ?_
          exact ⟨W7.heap.size, W8.heap.size, by kernel_rfl, (Wk.Chg.step (Wk.Chg.step (Wk.Chg.step (Wk.Chg.step (Wk.Chg.step (Wk.Chg.step (Wk.Chg.step ((Wk.Chg.refl _).more (by simp) : Wk.Chg [] W4 W4) ch5 trivial) ch6 trivial) ch7 trivial) ch8 trivial) ch9 trivial) ch10 ⟨.inr (by omega), trivial⟩) ch11 ⟨.inr (by omega), trivial⟩), (Wk.Chg.hp ch11 hb6 ⟨by omega, trivial⟩), hb7, ⟨by omega, by omega⟩⟩
        · refine Wk.oEx (some 7) _ rfl rfl (by kernel_rfl) (Wk.new_ex (.pointer (some ⟨W7.heap.size, 0, none⟩)) #[.int .u8 0, .int .u8 0, .int .u8 0, .int .u8 0, .int .u8 0, .int .u8 0, .int .u8 0, .int .u8 0, .int .u8 0, .int .u8 0, .int .u8 0, .int .u8 0, .int .u8 0, .int .u8 0, .int .u8 0, .int .u8 0, .int .u8 0, .int .u8 0, .int .u8 0, .int .u8 0, .int .u8 0, .int .u8 0, .int .u8 0, .int .u8 0, .int .u8 0, .int .u8 0, .int .u8 0, .int .u8 0, .int .u8 0, .int .u8 0, .int .u8 0, .int .u8 0, .int .u8 0, .int .u8 0, .int .u8 0, .int .u8 0, .int .u8 0, .int .u8 0, .int .u8 0, .int .u8 0, .int .u8 0, .int .u8 0, .int .u8 0, .int .u8 0, .int .u8 0, .int .u8 0, .int .u8 0, .int .u8 0, .int .u8 0, .int .u8 0, .int .u8 0, .int .u8 0, .int .u8 0, .int .u8 0, .int .u8 0, .int .u8 0, .int .u8 0, .int .u8 0, .int .u8 0, .int .u8 0, .int .u8 0, .int .u8 0, .int .u8 0, .int .u8 0] 56 (by kernel_rfl)) ?_
          rintro _ W12 ⟨rfl, hb8, ch12, sz6⟩
          have zz12 := ch12.size
          have sS8 := Wk.Chg.step sS3 ch12 trivial
          refine ⟨sS8, ?_⟩
          refine Wk.dOp 4 (by kernel_rfl) ?_
          refine Wk.oEx (some 6) _ rfl rfl (by kernel_rfl) (Wk.new_ex (.pointer (some ⟨W12.heap.size, 0, none⟩)) #[.int .u8 0, .int .u8 0, .int .u8 0, .int .u8 0, .int .u8 0, .int .u8 0, .int .u8 0, .int .u8 0, .int .u8 0, .int .u8 0, .int .u8 0, .int .u8 0, .int .u8 0, .int .u8 0, .int .u8 0, .int .u8 0, .int .u8 0, .int .u8 0, .int .u8 0, .int .u8 0, .int .u8 0, .int .u8 0, .int .u8 0, .int .u8 0, .int .u8 0, .int .u8 0, .int .u8 0, .int .u8 0, .int .u8 0, .int .u8 0, .int .u8 0, .int .u8 0, .int .u8 0, .int .u8 0, .int .u8 0, .int .u8 0, .int .u8 0, .int .u8 0, .int .u8 0, .int .u8 0, .int .u8 0, .int .u8 0, .int .u8 0, .int .u8 0, .int .u8 0, .int .u8 0, .int .u8 0, .int .u8 0, .int .u8 0, .int .u8 0, .int .u8 0, .int .u8 0, .int .u8 0, .int .u8 0, .int .u8 0, .int .u8 0, .int .u8 0, .int .u8 0, .int .u8 0, .int .u8 0, .int .u8 0, .int .u8 0, .int .u8 0, .int .u8 0] 56 (by kernel_rfl)) ?_
          rintro _ W13 ⟨rfl, hb9, ch13, sz7⟩
          have zz13 := ch13.size
          have sS9 := Wk.Chg.step sS8 ch13 trivial
          refine ⟨sS9, ?_⟩
          refine Wk.dOp 6 (by kernel_rfl) ?_
          refine Wk.oExS none _ rfl rfl (by kernel_rfl) (Mur.storeAll 56 (.tmp 6) (.tmp 15) rfl W12.heap.size (by kernel_rfl) (Mur.xorl 54 kx1) 64 (by rw [Mur.xorl_length, hdl1]) (by kernel_rfl) (by kernel_rfl) 56 #[.int .u8 0, .int .u8 0, .int .u8 0, .int .u8 0, .int .u8 0, .int .u8 0, .int .u8 0, .int .u8 0, .int .u8 0, .int .u8 0, .int .u8 0, .int .u8 0, .int .u8 0, .int .u8 0, .int .u8 0, .int .u8 0, .int .u8 0, .int .u8 0, .int .u8 0, .int .u8 0, .int .u8 0, .int .u8 0, .int .u8 0, .int .u8 0, .int .u8 0, .int .u8 0, .int .u8 0, .int .u8 0, .int .u8 0, .int .u8 0, .int .u8 0, .int .u8 0, .int .u8 0, .int .u8 0, .int .u8 0, .int .u8 0, .int .u8 0, .int .u8 0, .int .u8 0, .int .u8 0, .int .u8 0, .int .u8 0, .int .u8 0, .int .u8 0, .int .u8 0, .int .u8 0, .int .u8 0, .int .u8 0, .int .u8 0, .int .u8 0, .int .u8 0, .int .u8 0, .int .u8 0, .int .u8 0, .int .u8 0, .int .u8 0, .int .u8 0, .int .u8 0, .int .u8 0, .int .u8 0, .int .u8 0, .int .u8 0, .int .u8 0, .int .u8 0] hb9 rfl) ?_
          rintro W14 ⟨hb10, ch14⟩
          have zz14 := ch14.size
          have sS10 := Wk.Chg.step sS9 ch14 ⟨.inr (by omega), trivial⟩
          refine ⟨sS10, ?_⟩
          refine Wk.dOp 7 (by kernel_rfl) ?_
          refine Wk.oExS none _ rfl rfl (by kernel_rfl) (Mur.storeAll 56 (.tmp 7) (.tmp 17) rfl W7.heap.size (by kernel_rfl) (Mur.xorl 92 kx1) 64 (by rw [Mur.xorl_length, hdl1]) (by kernel_rfl) (by kernel_rfl) 56 #[.int .u8 0, .int .u8 0, .int .u8 0, .int .u8 0, .int .u8 0, .int .u8 0, .int .u8 0, .int .u8 0, .int .u8 0, .int .u8 0, .int .u8 0, .int .u8 0, .int .u8 0, .int .u8 0, .int .u8 0, .int .u8 0, .int .u8 0, .int .u8 0, .int .u8 0, .int .u8 0, .int .u8 0, .int .u8 0, .int .u8 0, .int .u8 0, .int .u8 0, .int .u8 0, .int .u8 0, .int .u8 0, .int .u8 0, .int .u8 0, .int .u8 0, .int .u8 0, .int .u8 0, .int .u8 0, .int .u8 0, .int .u8 0, .int .u8 0, .int .u8 0, .int .u8 0, .int .u8 0, .int .u8 0, .int .u8 0, .int .u8 0, .int .u8 0, .int .u8 0, .int .u8 0, .int .u8 0, .int .u8 0, .int .u8 0, .int .u8 0, .int .u8 0, .int .u8 0, .int .u8 0, .int .u8 0, .int .u8 0, .int .u8 0, .int .u8 0, .int .u8 0, .int .u8 0, .int .u8 0, .int .u8 0, .int .u8 0, .int .u8 0, .int .u8 0] (Wk.Chg.hp ch14 (Wk.Chg.hp ch13 hb8 trivial) ⟨by omega, trivial⟩) rfl) ?_
          rintro W15 ⟨hb11, ch15⟩
          have zz15 := ch15.size
          have sS11 := Wk.Chg.step sS10 ch15 ⟨.inr (by omega), trivial⟩
          refine ⟨sS11, ?_⟩
          refine Wk.dEnd (by kernel_rfl) ?_
          refine Wk.nxt ?_
          exact ⟨W12.heap.size, W7.heap.size, by kernel_rfl, (Wk.Chg.step (Wk.Chg.step (Wk.Chg.step (Wk.Chg.step (Wk.Chg.step (Wk.Chg.step (Wk.Chg.step ((Wk.Chg.refl _).more (by simp) : Wk.Chg [] W4 W4) ch5 trivial) ch6 trivial) ch7 trivial) ch12 trivial) ch13 trivial) ch14 ⟨.inr (by omega), trivial⟩) ch15 ⟨.inr (by omega), trivial⟩), (Wk.Chg.hp ch15 hb10 ⟨by omega, trivial⟩), hb11, ⟨by omega, by omega⟩⟩
      · refine Wk.oEx (some 6) _ rfl rfl (by kernel_rfl) (Wk.new_ex (.pointer (some ⟨W6.heap.size, 0, none⟩)) #[.int .u8 0, .int .u8 0, .int .u8 0, .int .u8 0, .int .u8 0, .int .u8 0, .int .u8 0, .int .u8 0, .int .u8 0, .int .u8 0, .int .u8 0, .int .u8 0, .int .u8 0, .int .u8 0, .int .u8 0, .int .u8 0, .int .u8 0, .int .u8 0, .int .u8 0, .int .u8 0, .int .u8 0, .int .u8 0, .int .u8 0, .int .u8 0, .int .u8 0, .int .u8 0, .int .u8 0, .int .u8 0, .int .u8 0, .int .u8 0, .int .u8 0, .int .u8 0, .int .u8 0, .int .u8 0, .int .u8 0, .int .u8 0, .int .u8 0, .int .u8 0, .int .u8 0, .int .u8 0, .int .u8 0, .int .u8 0, .int .u8 0, .int .u8 0, .int .u8 0, .int .u8 0, .int .u8 0, .int .u8 0, .int .u8 0, .int .u8 0, .int .u8 0, .int .u8 0, .int .u8 0, .int .u8 0, .int .u8 0, .int .u8 0, .int .u8 0, .int .u8 0, .int .u8 0, .int .u8 0, .int .u8 0, .int .u8 0, .int .u8 0, .int .u8 0] 56 (by kernel_rfl)) ?_
        rintro _ W16 ⟨rfl, hb12, ch16, sz8⟩
        have zz16 := ch16.size
        have sS12 := Wk.Chg.step sS2 ch16 trivial
        refine ⟨sS12, ?_⟩
        refine Wk.dOp2 3 5 (by kernel_rfl) ?_ ?_
        · refine Wk.oCall (some 17) 29 [.tmp 16, .const (.int .u8 92)] #[56, 5] [.agg ((b8s kx1).toArray), .int .u8 92] rfl rfl (by kernel_rfl) rfl (by kernel_rfl) (by kernel_rfl) ?_
          refine (with_any 92 kx1 hdl1 W16).mono ?_
          rintro _ W17 ⟨rfl, ch17⟩
          have zz17 := ch17.size
          have sS13 := Wk.Chg.step sS12 ch17 trivial
          refine ⟨_, rfl, sS13, ?_⟩
          refine Wk.dOp 5 (by kernel_rfl) ?_
          refine Wk.oEx (some 7) _ rfl rfl (by kernel_rfl) (Wk.new_ex (.pointer (some ⟨W17.heap.size, 0, none⟩)) #[.int .u8 0, .int .u8 0, .int .u8 0, .int .u8 0, .int .u8 0, .int .u8 0, .int .u8 0, .int .u8 0, .int .u8 0, .int .u8 0, .int .u8 0, .int .u8 0, .int .u8 0, .int .u8 0, .int .u8 0, .int .u8 0, .int .u8 0, .int .u8 0, .int .u8 0, .int .u8 0, .int .u8 0, .int .u8 0, .int .u8 0, .int .u8 0, .int .u8 0, .int .u8 0, .int .u8 0, .int .u8 0, .int .u8 0, .int .u8 0, .int .u8 0, .int .u8 0, .int .u8 0, .int .u8 0, .int .u8 0, .int .u8 0, .int .u8 0, .int .u8 0, .int .u8 0, .int .u8 0, .int .u8 0, .int .u8 0, .int .u8 0, .int .u8 0, .int .u8 0, .int .u8 0, .int .u8 0, .int .u8 0, .int .u8 0, .int .u8 0, .int .u8 0, .int .u8 0, .int .u8 0, .int .u8 0, .int .u8 0, .int .u8 0, .int .u8 0, .int .u8 0, .int .u8 0, .int .u8 0, .int .u8 0, .int .u8 0, .int .u8 0, .int .u8 0] 56 (by kernel_rfl)) ?_
          rintro _ W18 ⟨rfl, hb13, ch18, sz9⟩
          have zz18 := ch18.size
          have sS14 := Wk.Chg.step sS13 ch18 trivial
          refine ⟨sS14, ?_⟩
          refine Wk.dOp 6 (by kernel_rfl) ?_
          refine Wk.oExS none _ rfl rfl (by kernel_rfl) (Mur.storeAll 56 (.tmp 6) (.tmp 15) rfl W6.heap.size (by kernel_rfl) (Mur.xorl 54 kx1) 64 (by rw [Mur.xorl_length, hdl1]) (by kernel_rfl) (by kernel_rfl) 56 #[.int .u8 0, .int .u8 0, .int .u8 0, .int .u8 0, .int .u8 0, .int .u8 0, .int .u8 0, .int .u8 0, .int .u8 0, .int .u8 0, .int .u8 0, .int .u8 0, .int .u8 0, .int .u8 0, .int .u8 0, .int .u8 0, .int .u8 0, .int .u8 0, .int .u8 0, .int .u8 0, .int .u8 0, .int .u8 0, .int .u8 0, .int .u8 0, .int .u8 0, .int .u8 0, .int .u8 0, .int .u8 0, .int .u8 0, .int .u8 0, .int .u8 0, .int .u8 0, .int .u8 0, .int .u8 0, .int .u8 0, .int .u8 0, .int .u8 0, .int .u8 0, .int .u8 0, .int .u8 0, .int .u8 0, .int .u8 0, .int .u8 0, .int .u8 0, .int .u8 0, .int .u8 0, .int .u8 0, .int .u8 0, .int .u8 0, .int .u8 0, .int .u8 0, .int .u8 0, .int .u8 0, .int .u8 0, .int .u8 0, .int .u8 0, .int .u8 0, .int .u8 0, .int .u8 0, .int .u8 0, .int .u8 0, .int .u8 0, .int .u8 0, .int .u8 0] (Wk.Chg.hp ch18 (Wk.Chg.hp ch17 hb12 trivial) trivial) rfl) ?_
          rintro W19 ⟨hb14, ch19⟩
          have zz19 := ch19.size
          have sS15 := Wk.Chg.step sS14 ch19 ⟨.inr (by omega), trivial⟩
          refine ⟨sS15, ?_⟩
          refine Wk.dOp 7 (by kernel_rfl) ?_
          refine Wk.oExS none _ rfl rfl (by kernel_rfl) (Mur.storeAll 56 (.tmp 7) (.tmp 17) rfl W17.heap.size (by kernel_rfl) (Mur.xorl 92 kx1) 64 (by rw [Mur.xorl_length, hdl1]) (by kernel_rfl) (by kernel_rfl) 56 #[.int .u8 0, .int .u8 0, .int .u8 0, .int .u8 0, .int .u8 0, .int .u8 0, .int .u8 0, .int .u8 0, .int .u8 0, .int .u8 0, .int .u8 0, .int .u8 0, .int .u8 0, .int .u8 0, .int .u8 0, .int .u8 0, .int .u8 0, .int .u8 0, .int .u8 0, .int .u8 0, .int .u8 0, .int .u8 0, .int .u8 0, .int .u8 0, .int .u8 0, .int .u8 0, .int .u8 0, .int .u8 0, .int .u8 0, .int .u8 0, .int .u8 0, .int .u8 0, .int .u8 0, .int .u8 0, .int .u8 0, .int .u8 0, .int .u8 0, .int .u8 0, .int .u8 0, .int .u8 0, .int .u8 0, .int .u8 0, .int .u8 0, .int .u8 0, .int .u8 0, .int .u8 0, .int .u8 0, .int .u8 0, .int .u8 0, .int .u8 0, .int .u8 0, .int .u8 0, .int .u8 0, .int .u8 0, .int .u8 0, .int .u8 0, .int .u8 0, .int .u8 0, .int .u8 0, .int .u8 0, .int .u8 0, .int .u8 0, .int .u8 0, .int .u8 0] (Wk.Chg.hp ch19 hb13 ⟨by omega, trivial⟩) rfl) ?_
          rintro W20 ⟨hb15, ch20⟩
          have zz20 := ch20.size
          have sS16 := Wk.Chg.step sS15 ch20 ⟨.inr (by omega), trivial⟩
          refine ⟨sS16, ?_⟩
          refine Wk.dEnd (by kernel_rfl) ?_
          refine Wk.nxt ?_
          exact ⟨W6.heap.size, W17.heap.size, by kernel_rfl, (Wk.Chg.step (Wk.Chg.step (Wk.Chg.step (Wk.Chg.step (Wk.Chg.step (Wk.Chg.step (Wk.Chg.step ((Wk.Chg.refl _).more (by simp) : Wk.Chg [] W4 W4) ch5 trivial) ch6 trivial) ch16 trivial) ch17 trivial) ch18 trivial) ch19 ⟨.inr (by omega), trivial⟩) ch20 ⟨.inr (by omega), trivial⟩), (Wk.Chg.hp ch20 hb14 ⟨by omega, trivial⟩), hb15, ⟨by omega, by omega⟩⟩
        · refine Wk.oEx (some 7) _ rfl rfl (by kernel_rfl) (Wk.new_ex (.pointer (some ⟨W16.heap.size, 0, none⟩)) #[.int .u8 0, .int .u8 0, .int .u8 0, .int .u8 0, .int .u8 0, .int .u8 0, .int .u8 0, .int .u8 0, .int .u8 0, .int .u8 0, .int .u8 0, .int .u8 0, .int .u8 0, .int .u8 0, .int .u8 0, .int .u8 0, .int .u8 0, .int .u8 0, .int .u8 0, .int .u8 0, .int .u8 0, .int .u8 0, .int .u8 0, .int .u8 0, .int .u8 0, .int .u8 0, .int .u8 0, .int .u8 0, .int .u8 0, .int .u8 0, .int .u8 0, .int .u8 0, .int .u8 0, .int .u8 0, .int .u8 0, .int .u8 0, .int .u8 0, .int .u8 0, .int .u8 0, .int .u8 0, .int .u8 0, .int .u8 0, .int .u8 0, .int .u8 0, .int .u8 0, .int .u8 0, .int .u8 0, .int .u8 0, .int .u8 0, .int .u8 0, .int .u8 0, .int .u8 0, .int .u8 0, .int .u8 0, .int .u8 0, .int .u8 0, .int .u8 0, .int .u8 0, .int .u8 0, .int .u8 0, .int .u8 0, .int .u8 0, .int .u8 0, .int .u8 0] 56 (by kernel_rfl)) ?_
          rintro _ W21 ⟨rfl, hb16, ch21, sz10⟩
          have zz21 := ch21.size
          have sS17 := Wk.Chg.step sS12 ch21 trivial
          refine ⟨sS17, ?_⟩
          refine Wk.dOp 3 (by kernel_rfl) ?_
          refine Wk.oCall (some 17) 29 [.tmp 16, .const (.int .u8 92)] #[56, 5] [.agg ((b8s kx1).toArray), .int .u8 92] rfl rfl (by kernel_rfl) rfl (by kernel_rfl) (by kernel_rfl) ?_
          refine (with_any 92 kx1 hdl1 W21).mono ?_
          rintro _ W22 ⟨rfl, ch22⟩
          have zz22 := ch22.size
          have sS18 := Wk.Chg.step sS17 ch22 trivial
          refine ⟨_, rfl, sS18, ?_⟩
          refine Wk.dOp 6 (by kernel_rfl) ?_
          refine Wk.oExS none _ rfl rfl (by kernel_rfl) (Mur.storeAll 56 (.tmp 6) (.tmp 15) rfl W6.heap.size (by kernel_rfl) (Mur.xorl 54 kx1) 64 (by rw [Mur.xorl_length, hdl1]) (by kernel_rfl) (by kernel_rfl) 56 #[.int .u8 0, .int .u8 0, .int .u8 0, .int .u8 0, .int .u8 0, .int .u8 0, .int .u8 0, .int .u8 0, .int .u8 0, .int .u8 0, .int .u8 0, .int .u8 0, .int .u8 0, .int .u8 0, .int .u8 0, .int .u8 0, .int .u8 0, .int .u8 0, .int .u8 0, .int .u8 0, .int .u8 0, .int .u8 0, .int .u8 0, .int .u8 0, .int .u8 0, .int .u8 0, .int .u8 0, .int .u8 0, .int .u8 0, .int .u8 0, .int .u8 0, .int .u8 0, .int .u8 0, .int .u8 0, .int .u8 0, .int .u8 0, .int .u8 0, .int .u8 0, .int .u8 0, .int .u8 0, .int .u8 0, .int .u8 0, .int .u8 0, .int .u8 0, .int .u8 0, .int .u8 0, .int .u8 0, .int .u8 0, .int .u8 0, .int .u8 0, .int .u8 0, .int .u8 0, .int .u8 0, .int .u8 0, .int .u8 0, .int .u8 0, .int .u8 0, .int .u8 0, .int .u8 0, .int .u8 0, .int .u8 0, .int .u8 0, .int .u8 0, .int .u8 0] (Wk.Chg.hp ch22 (Wk.Chg.hp ch21 hb12 trivial) trivial) rfl) ?_
          rintro W23 ⟨hb17, ch23⟩
          have zz23 := ch23.size
          have sS19 := Wk.Chg.step sS18 ch23 ⟨.inr (by omega), trivial⟩
          refine ⟨sS19, ?_⟩
          refine Wk.dOp 7 (by kernel_rfl) ?_
          refine Wk.oExS none _ rfl rfl (by kernel_rfl) (Mur.storeAll 56 (.tmp 7) (.tmp 17) rfl W16.heap.size (by kernel_rfl) (Mur.xorl 92 kx1) 64 (by rw [Mur.xorl_length, hdl1]) (by kernel_rfl) (by kernel_rfl) 56 #[.int .u8 0, .int .u8 0, .int .u8 0, .int .u8 0, .int .u8 0, .int .u8 0, .int .u8 0, .int .u8 0, .int .u8 0, .int .u8 0, .int .u8 0, .int .u8 0, .int .u8 0, .int .u8 0, .int .u8 0, .int .u8 0, .int .u8 0, .int .u8 0, .int .u8 0, .int .u8 0, .int .u8 0, .int .u8 0, .int .u8 0, .int .u8 0, .int .u8 0, .int .u8 0, .int .u8 0, .int .u8 0, .int .u8 0, .int .u8 0, .int .u8 0, .int .u8 0, .int .u8 0, .int .u8 0, .int .u8 0, .int .u8 0, .int .u8 0, .int .u8 0, .int .u8 0, .int .u8 0, .int .u8 0, .int .u8 0, .int .u8 0, .int .u8 0, .int .u8 0, .int .u8 0, .int .u8 0, .int .u8 0, .int .u8 0, .int .u8 0, .int .u8 0, .int .u8 0, .int .u8 0, .int .u8 0, .int .u8 0, .int .u8 0, .int .u8 0, .int .u8 0, .int .u8 0, .int .u8 0, .int .u8 0, .int .u8 0, .int .u8 0, .int .u8 0] (Wk.Chg.hp ch23 (Wk.Chg.hp ch22 hb16 trivial) ⟨by omega, trivial⟩) rfl) ?_
          rintro W24 ⟨hb18, ch24⟩
          have zz24 := ch24.size
          have sS20 := Wk.Chg.step sS19 ch24 ⟨.inr (by omega), trivial⟩
          refine ⟨sS20, ?_⟩
          refine Wk.dEnd (by kernel_rfl) ?_
          refine Wk.nxt ?_
          exact ⟨W6.heap.size, W16.heap.size, by kernel_rfl, (Wk.Chg.step (Wk.Chg.step (Wk.Chg.step (Wk.Chg.step (Wk.Chg.step (Wk.Chg.step (Wk.Chg.step ((Wk.Chg.refl _).more (by simp) : Wk.Chg [] W4 W4) ch5 trivial) ch6 trivial) ch16 trivial) ch21 trivial) ch22 trivial) ch23 ⟨.inr (by omega), trivial⟩) ch24 ⟨.inr (by omega), trivial⟩), (Wk.Chg.hp ch24 hb17 ⟨by omega, trivial⟩), hb18, ⟨by omega, by omega⟩⟩
      · refine Wk.oEx (some 7) _ rfl rfl (by kernel_rfl) (Wk.new_ex (.pointer (some ⟨W6.heap.size, 0, none⟩)) #[.int .u8 0, .int .u8 0, .int .u8 0, .int .u8 0, .int .u8 0, .int .u8 0, .int .u8 0, .int .u8 0, .int .u8 0, .int .u8 0, .int .u8 0, .int .u8 0, .int .u8 0, .int .u8 0, .int .u8 0, .int .u8 0, .int .u8 0, .int .u8 0, .int .u8 0, .int .u8 0, .int .u8 0, .int .u8 0, .int .u8 0, .int .u8 0, .int .u8 0, .int .u8 0, .int .u8 0, .int .u8 0, .int .u8 0, .int .u8 0, .int .u8 0, .int .u8 0, .int .u8 0, .int .u8 0, .int .u8 0, .int .u8 0, .int .u8 0, .int .u8 0, .int .u8 0, .int .u8 0, .int .u8 0, .int .u8 0, .int .u8 0, .int .u8 0, .int .u8 0, .int .u8 0, .int .u8 0, .int .u8 0, .int .u8 0, .int .u8 0, .int .u8 0, .int .u8 0, .int .u8 0, .int .u8 0, .int .u8 0, .int .u8 0, .int .u8 0, .int .u8 0, .int .u8 0, .int .u8 0, .int .u8 0, .int .u8 0, .int .u8 0, .int .u8 0] 56 (by kernel_rfl)) ?_
        rintro _ W25 ⟨rfl, hb19, ch25, sz11⟩
        have zz25 := ch25.size
        have sS21 := Wk.Chg.step sS2 ch25 trivial
        refine ⟨sS21, ?_⟩
        refine Wk.dOp2 3 4 (by kernel_rfl) ?_ ?_
        · refine Wk.oCall (some 17) 29 [.tmp 16, .const (.int .u8 92)] #[56, 5] [.agg ((b8s kx1).toArray), .int .u8 92] rfl rfl (by kernel_rfl) rfl (by kernel_rfl) (by kernel_rfl) ?_
          refine (with_any 92 kx1 hdl1 W25).mono ?_
          rintro _ W26 ⟨rfl, ch26⟩
          have zz26 := ch26.size
          have sS22 := Wk.Chg.step sS21 ch26 trivial
          refine ⟨_, rfl, sS22, ?_⟩
          refine Wk.dOp 4 (by kernel_rfl) ?_
          refine Wk.oEx (some 6) _ rfl rfl (by kernel_rfl) (Wk.new_ex (.pointer (some ⟨W26.heap.size, 0, none⟩)) #[.int .u8 0, .int .u8 0, .int .u8 0, .int .u8 0, .int .u8 0, .int .u8 0, .int .u8 0, .int .u8 0, .int .u8 0, .int .u8 0, .int .u8 0, .int .u8 0, .int .u8 0, .int .u8 0, .int .u8 0, .int .u8 0, .int .u8 0, .int .u8 0, .int .u8 0, .int .u8 0, .int .u8 0, .int .u8 0, .int .u8 0, .int .u8 0, .int .u8 0, .int .u8 0, .int .u8 0, .int .u8 0, .int .u8 0, .int .u8 0, .int .u8 0, .int .u8 0, .int .u8 0, .int .u8 0, .int .u8 0, .int .u8 0, .int .u8 0, .int .u8 0, .int .u8 0, .int .u8 0, .int .u8 0, .int .u8 0, .int .u8 0, .int .u8 0, .int .u8 0, .int .u8 0, .int .u8 0, .int .u8 0, .int .u8 0, .int .u8 0, .int .u8 0, .int .u8 0, .int .u8 0, .int .u8 0, .int .u8 0, .int .u8 0, .int .u8 0, .int .u8 0, .int .u8 0, .int .u8 0, .int .u8 0, .int .u8 0, .int .u8 0, .int .u8 0] 56 (by kernel_rfl)) ?_
          rintro _ W27 ⟨rfl, hb20, ch27, sz12⟩
          have zz27 := ch27.size
          have sS23 := Wk.Chg.step sS22 ch27 trivial
          refine ⟨sS23, ?_⟩
          refine Wk.dOp 6 (by kernel_rfl) ?_
          refine Wk.oExS none _ rfl rfl (by kernel_rfl) (Mur.storeAll 56 (.tmp 6) (.tmp 15) rfl W26.heap.size (by kernel_rfl) (Mur.xorl 54 kx1) 64 (by rw [Mur.xorl_length, hdl1]) (by kernel_rfl) (by kernel_rfl) 56 #[.int .u8 0, .int .u8 0, .int .u8 0, .int .u8 0, .int .u8 0, .int .u8 0, .int .u8 0, .int .u8 0, .int .u8 0, .int .u8 0, .int .u8 0, .int .u8 0, .int .u8 0, .int .u8 0, .int .u8 0, .int .u8 0, .int .u8 0, .int .u8 0, .int .u8 0, .int .u8 0, .int .u8 0, .int .u8 0, .int .u8 0, .int .u8 0, .int .u8 0, .int .u8 0, .int .u8 0, .int .u8 0, .int .u8 0, .int .u8 0, .int .u8 0, .int .u8 0, .int .u8 0, .int .u8 0, .int .u8 0, .int .u8 0, .int .u8 0, .int .u8 0, .int .u8 0, .int .u8 0, .int .u8 0, .int .u8 0, .int .u8 0, .int .u8 0, .int .u8 0, .int .u8 0, .int .u8 0, .int .u8 0, .int .u8 0, .int .u8 0, .int .u8 0, .int .u8 0, .int .u8 0, .int .u8 0, .int .u8 0, .int .u8 0, .int .u8 0, .int .u8 0, .int .u8 0, .int .u8 0, .int .u8 0, .int .u8 0, .int .u8 0, .int .u8 0] hb20 rfl) ?_
          rintro W28 ⟨hb21, ch28⟩
          have zz28 := ch28.size
          have sS24 := Wk.Chg.step sS23 ch28 ⟨.inr (by omega), trivial⟩
          refine ⟨sS24, ?_⟩
          refine Wk.dOp 7 (by kernel_rfl) ?_
          refine Wk.oExS none _ rfl rfl (by kernel_rfl) (Mur.storeAll 56 (.tmp 7) (.tmp 17) rfl W6.heap.size (by kernel_rfl) (Mur.xorl 92 kx1) 64 (by rw [Mur.xorl_length, hdl1]) (by kernel_rfl) (by kernel_rfl) 56 #[.int .u8 0, .int .u8 0, .int .u8 0, .int .u8 0, .int .u8 0, .int .u8 0, .int .u8 0, .int .u8 0, .int .u8 0, .int .u8 0, .int .u8 0, .int .u8 0, .int .u8 0, .int .u8 0, .int .u8 0, .int .u8 0, .int .u8 0, .int .u8 0, .int .u8 0, .int .u8 0, .int .u8 0, .int .u8 0, .int .u8 0, .int .u8 0, .int .u8 0, .int .u8 0, .int .u8 0, .int .u8 0, .int .u8 0, .int .u8 0, .int .u8 0, .int .u8 0, .int .u8 0, .int .u8 0, .int .u8 0, .int .u8 0, .int .u8 0, .int .u8 0, .int .u8 0, .int .u8 0, .int .u8 0, .int .u8 0, .int .u8 0, .int .u8 0, .int .u8 0, .int .u8 0, .int .u8 0, .int .u8 0, .int .u8 0, .int .u8 0, .int .u8 0, .int .u8 0, .int .u8 0, .int .u8 0, .int .u8 0, .int .u8 0, .int .u8 0, .int .u8 0, .int .u8 0, .int .u8 0, .int .u8 0, .int .u8 0, .int .u8 0, .int .u8 0] (Wk.Chg.hp ch28 (Wk.Chg.hp ch27 (Wk.Chg.hp ch26 hb19 trivial) trivial) ⟨by omega, trivial⟩) rfl) ?_
          rintro W29 ⟨hb22, ch29⟩
          have zz29 := ch29.size
          have sS25 := Wk.Chg.step sS24 ch29 ⟨.inr (by omega), trivial⟩
          refine ⟨sS25, ?_⟩
          refine Wk.dEnd (by kernel_rfl) ?_
          refine Wk.nxt ?_
          exact ⟨W26.heap.size, W6.heap.size, by kernel_rfl, (Wk.Chg.step (Wk.Chg.step (Wk.Chg.step (Wk.Chg.step (Wk.Chg.step (Wk.Chg.step (Wk.Chg.step ((Wk.Chg.refl _).more (by simp) : Wk.Chg [] W4 W4) ch5 trivial) ch6 trivial) ch25 trivial) ch26 trivial) ch27 trivial) ch28 ⟨.inr (by omega), trivial⟩) ch29 ⟨.inr (by omega), trivial⟩), (Wk.Chg.hp ch29 hb21 ⟨by omega, trivial⟩), hb22, ⟨by omega, by omega⟩⟩
        · refine Wk.oEx (some 6) _ rfl rfl (by kernel_rfl) (Wk.new_ex (.pointer (some ⟨W25.heap.size, 0, none⟩)) #[.int .u8 0, .int .u8 0, .int .u8 0, .int .u8 0, .int .u8 0, .int .u8 0, .int .u8 0, .int .u8 0, .int .u8 0, .int .u8 0, .int .u8 0, .int .u8 0, .int .u8 0, .int .u8 0, .int .u8 0, .int .u8 0, .int .u8 0, .int .u8 0, .int .u8 0, .int .u8 0, .int .u8 0, .int .u8 0, .int .u8 0, .int .u8 0, .int .u8 0, .int .u8 0, .int .u8 0, .int .u8 0, .int .u8 0, .int .u8 0, .int .u8 0, .int .u8 0, .int .u8 0, .int .u8 0, .int .u8 0, .int .u8 0, .int .u8 0, .int .u8 0, .int .u8 0, .int .u8 0, .int .u8 0, .int .u8 0, .int .u8 0, .int .u8 0, .int .u8 0, .int .u8 0, .int .u8 0, .int .u8 0, .int .u8 0, .int .u8 0, .int .u8 0, .int .u8 0, .int .u8 0, .int .u8 0, .int .u8 0, .int .u8 0, .int .u8 0, .int .u8 0, .int .u8 0, .int .u8 0, .int .u8 0, .int .u8 0, .int .u8 0, .int .u8 0] 56 (by kernel_rfl)) ?_
          rintro _ W30 ⟨rfl, hb23, ch30, sz13⟩
          have zz30 := ch30.size
          have sS26 := Wk.Chg.step sS21 ch30 trivial
          refine ⟨sS26, ?_⟩
          refine Wk.dOp 3 (by kernel_rfl) ?_
          refine Wk.oCall (some 17) 29 [.tmp 16, .const (.int .u8 92)] #[56, 5] [.agg ((b8s kx1).toArray), .int .u8 92] rfl rfl (by kernel_rfl) rfl (by kernel_rfl) (by kernel_rfl) ?_
          refine (with_any 92 kx1 hdl1 W30).mono ?_
          rintro _ W31 ⟨rfl, ch31⟩
          have zz31 := ch31.size
          have sS27 := Wk.Chg.step sS26 ch31 trivial
          refine ⟨_, rfl, sS27, ?_⟩
          refine Wk.dOp 6 (by kernel_rfl) ?_
          refine Wk.oExS none _ rfl rfl (by kernel_rfl) (Mur.storeAll 56 (.tmp 6) (.tmp 15) rfl W25.heap.size (by kernel_rfl) (Mur.xorl 54 kx1) 64 (by rw [Mur.xorl_length, hdl1]) (by kernel_rfl) (by kernel_rfl) 56 #[.int .u8 0, .int .u8 0, .int .u8 0, .int .u8 0, .int .u8 0, .int .u8 0, .int .u8 0, .int .u8 0, .int .u8 0, .int .u8 0, .int .u8 0, .int .u8 0, .int .u8 0, .int .u8 0, .int .u8 0, .int .u8 0, .int .u8 0, .int .u8 0, .int .u8 0, .int .u8 0, .int .u8 0, .int .u8 0, .int .u8 0, .int .u8 0, .int .u8 0, .int .u8 0, .int .u8 0, .int .u8 0, .int .u8 0, .int .u8 0, .int .u8 0, .int .u8 0, .int .u8 0, .int .u8 0, .int .u8 0, .int .u8 0, .int .u8 0, .int .u8 0, .int .u8 0, .int .u8 0, .int .u8 0, .int .u8 0, .int .u8 0, .int .u8 0, .int .u8 0, .int .u8 0, .int .u8 0, .int .u8 0, .int .u8 0, .int .u8 0, .int .u8 0, .int .u8 0, .int .u8 0, .int .u8 0, .int .u8 0, .int .u8 0, .int .u8 0, .int .u8 0, .int .u8 0, .int .u8 0, .int .u8 0, .int .u8 0, .int .u8 0, .int .u8 0] (Wk.Chg.hp ch31 hb23 trivial) rfl) ?_
          rintro W32 ⟨hb24, ch32⟩
          have zz32 := ch32.size
          have sS28 := Wk.Chg.step sS27 ch32 ⟨.inr (by omega), trivial⟩
          refine ⟨sS28, ?_⟩
          refine Wk.dOp 7 (by kernel_rfl) ?_
          refine Wk.oExS none _ rfl rfl (by kernel_rfl) (Mur.storeAll 56 (.tmp 7) (.tmp 17) rfl W6.heap.size (by kernel_rfl) (Mur.xorl 92 kx1) 64 (by rw [Mur.xorl_length, hdl1]) (by kernel_rfl) (by kernel_rfl) 56 #[.int .u8 0, .int .u8 0, .int .u8 0, .int .u8 0, .int .u8 0, .int .u8 0, .int .u8 0, .int .u8 0, .int .u8 0, .int .u8 0, .int .u8 0, .int .u8 0, .int .u8 0, .int .u8 0, .int .u8 0, .int .u8 0, .int .u8 0, .int .u8 0, .int .u8 0, .int .u8 0, .int .u8 0, .int .u8 0, .int .u8 0, .int .u8 0, .int .u8 0, .int .u8 0, .int .u8 0, .int .u8 0, .int .u8 0, .int .u8 0, .int .u8 0, .int .u8 0, .int .u8 0, .int .u8 0, .int .u8 0, .int .u8 0, .int .u8 0, .int .u8 0, .int .u8 0, .int .u8 0, .int .u8 0, .int .u8 0, .int .u8 0, .int .u8 0, .int .u8 0, .int .u8 0, .int .u8 0, .int .u8 0, .int .u8 0, .int .u8 0, .int .u8 0, .int .u8 0, .int .u8 0, .int .u8 0, .int .u8 0, .int .u8 0, .int .u8 0, .int .u8 0, .int .u8 0, .int .u8 0, .int .u8 0, .int .u8 0, .int .u8 0, .int .u8 0] (Wk.Chg.hp ch32 (Wk.Chg.hp ch31 (Wk.Chg.hp ch30 hb19 trivial) trivial) ⟨by omega, trivial⟩) rfl) ?_
          rintro W33 ⟨hb25, ch33⟩
          have zz33 := ch33.size
          have sS29 := Wk.Chg.step sS28 ch33 ⟨.inr (by omega), trivial⟩
          refine ⟨sS29, ?_⟩
          refine Wk.dEnd (by kernel_rfl) ?_
          refine Wk.nxt ?_
          exact ⟨W25.heap.size, W6.heap.size, by kernel_rfl, (Wk.Chg.step (Wk.Chg.step (Wk.Chg.step (Wk.Chg.step (Wk.Chg.step (Wk.Chg.step (Wk.Chg.step ((Wk.Chg.refl _).more (by simp) : Wk.Chg [] W4 W4) ch5 trivial) ch6 trivial) ch25 trivial) ch30 trivial) ch31 trivial) ch32 ⟨.inr (by omega), trivial⟩) ch33 ⟨.inr (by omega), trivial⟩), (Wk.Chg.hp ch33 hb24 ⟨by omega, trivial⟩), hb25, ⟨by omega, by omega⟩⟩
    · refine Wk.oEx (some 6) _ rfl rfl (by kernel_rfl) (Wk.new_ex (.pointer (some ⟨W5.heap.size, 0, none⟩)) #[.int .u8 0, .int .u8 0, .int .u8 0, .int .u8 0, .int .u8 0, .int .u8 0, .int .u8 0, .int .u8 0, .int .u8 0, .int .u8 0, .int .u8 0, .int .u8 0, .int .u8 0, .int .u8 0, .int .u8 0, .int .u8 0, .int .u8 0, .int .u8 0, .int .u8 0, .int .u8 0, .int .u8 0, .int .u8 0, .int .u8 0, .int .u8 0, .int .u8 0, .int .u8 0, .int .u8 0, .int .u8 0, .int .u8 0, .int .u8 0, .int .u8 0, .int .u8 0, .int .u8 0, .int .u8 0, .int .u8 0, .int .u8 0, .int .u8 0, .int .u8 0, .int .u8 0, .int .u8 0, .int .u8 0, .int .u8 0, .int .u8 0, .int .u8 0, .int .u8 0, .int .u8 0, .int .u8 0, .int .u8 0, .int .u8 0, .int .u8 0, .int .u8 0, .int .u8 0, .int .u8 0, .int .u8 0, .int .u8 0, .int .u8 0, .int .u8 0, .int .u8 0, .int .u8 0, .int .u8 0, .int .u8 0, .int .u8 0, .int .u8 0, .int .u8 0] 56 (by kernel_rfl)) ?_
      rintro _ W34 ⟨rfl, hb26, ch34, sz14⟩
      have zz34 := ch34.size
      have sS30 := Wk.Chg.step sS1 ch34 trivial
      refine ⟨sS30, ?_⟩
      refine Wk.dOp2 1 5 (by kernel_rfl) ?_ ?_
      · refine Wk.oCall (some 15) 29 [.tmp 14, .const (.int .u8 54)] #[56, 5] [.agg ((b8s kx1).toArray), .int .u8 54] rfl rfl (by kernel_rfl) rfl (by kernel_rfl) (by kernel_rfl) ?_
        refine (with_any 54 kx1 hdl1 W34).mono ?_
        rintro _ W35 ⟨rfl, ch35⟩
        have zz35 := ch35.size
        have sS31 := Wk.Chg.step sS30 ch35 trivial
        refine ⟨_, rfl, sS31, ?_⟩
        refine Wk.dOp2 3 5 (by kernel_rfl) ?_ ?_
        · refine Wk.oCall (some 17) 29 [.tmp 16, .const (.int .u8 92)] #[56, 5] [.agg ((b8s kx1).toArray), .int .u8 92] rfl rfl (by kernel_rfl) rfl (by kernel_rfl) (by kernel_rfl) ?_
          refine (with_any 92 kx1 hdl1 W35).mono ?_
          rintro _ W36 ⟨rfl, ch36⟩
          have zz36 := ch36.size
          have sS32 := Wk.Chg.step sS31 ch36 trivial
          refine ⟨_, rfl, sS32, ?_⟩
          refine Wk.dOp 5 (by kernel_rfl) ?_
          refine Wk.oEx (some 7) _ rfl rfl (by kernel_rfl) (Wk.new_ex (.pointer (some ⟨W36.heap.size, 0, none⟩)) #[.int .u8 0, .int .u8 0, .int .u8 0, .int .u8 0, .int .u8 0, .int .u8 0, .int .u8 0, .int .u8 0, .int .u8 0, .int .u8 0, .int .u8 0, .int .u8 0, .int .u8 0, .int .u8 0, .int .u8 0, .int .u8 0, .int .u8 0, .int .u8 0, .int .u8 0, .int .u8 0, .int .u8 0, .int .u8 0, .int .u8 0, .int .u8 0, .int .u8 0, .int .u8 0, .int .u8 0, .int .u8 0, .int .u8 0, .int .u8 0, .int .u8 0, .int .u8 0, .int .u8 0, .int .u8 0, .int .u8 0, .int .u8 0, .int .u8 0, .int .u8 0, .int .u8 0, .int .u8 0, .int .u8 0, .int .u8 0, .int .u8 0, .int .u8 0, .int .u8 0, .int .u8 0, .int .u8 0, .int .u8 0, .int .u8 0, .int .u8 0, .int .u8 0, .int .u8 0, .int .u8 0, .int .u8 0, .int .u8 0, .int .u8 0, .int .u8 0, .int .u8 0, .int .u8 0, .int .u8 0, .int .u8 0, .int .u8 0, .int .u8 0, .int .u8 0] 56 (by kernel_rfl)) ?_
          rintro _ W37 ⟨rfl, hb27, ch37, sz15⟩
          have zz37 := ch37.size
          have sS33 := Wk.Chg.step sS32 ch37 trivial
          refine ⟨sS33, ?_⟩
          refine Wk.dOp 6 (by kernel_rfl) ?_
          refine Wk.oExS none _ rfl rfl (by kernel_rfl) (Mur.storeAll 56 (.tmp 6) (.tmp 15) rfl W5.heap.size (by kernel_rfl) (Mur.xorl 54 kx1) 64 (by rw [Mur.xorl_length, hdl1]) (by kernel_rfl) (by kernel_rfl) 56 #[.int .u8 0, .int .u8 0, .int .u8 0, .int .u8 0, .int .u8 0, .int .u8 0, .int .u8 0, .int .u8 0, .int .u8 0, .int .u8 0, .int .u8 0, .int .u8 0, .int .u8 0, .int .u8 0, .int .u8 0, .int .u8 0, .int .u8 0, .int .u8 0, .int .u8 0, .int .u8 0, .int .u8 0, .int .u8 0, .int .u8 0, .int .u8 0, .int .u8 0, .int .u8 0, .int .u8 0, .int .u8 0, .int .u8 0, .int .u8 0, .int .u8 0, .int .u8 0, .int .u8 0, .int .u8 0, .int .u8 0, .int .u8 0, .int .u8 0, .int .u8 0, .int .u8 0, .int .u8 0, .int .u8 0, .int .u8 0, .int .u8 0, .int .u8 0, .int .u8 0, .int .u8 0, .int .u8 0, .int .u8 0, .int .u8 0, .int .u8 0, .int .u8 0, .int .u8 0, .int .u8 0, .int .u8 0, .int .u8 0, .int .u8 0, .int .u8 0, .int .u8 0, .int .u8 0, .int .u8 0, .int .u8 0, .int .u8 0, .int .u8 0, .int .u8 0] (Wk.Chg.hp ch37 (Wk.Chg.hp ch36 (Wk.Chg.hp ch35 hb26 trivial) trivial) trivial) rfl) ?_
          rintro W38 ⟨hb28, ch38⟩
          have zz38 := ch38.size
          have sS34 := Wk.Chg.step sS33 ch38 ⟨.inr (by omega), trivial⟩
          refine ⟨sS34, ?_⟩
          refine Wk.dOp 7 (by kernel_rfl) ?_
          refine Wk.oExS none _ rfl rfl (by kernel_rfl) (Mur.storeAll 56 (.tmp 7) (.tmp 17) rfl W36.heap.size (by kernel_rfl) (Mur.xorl 92 kx1) 64 (by rw [Mur.xorl_length, hdl1]) (by kernel_rfl) (by kernel_rfl) 56 #[.int .u8 0, .int .u8 0, .int .u8 0, .int .u8 0, .int .u8 0, .int .u8 0, .int .u8 0, .int .u8 0, .int .u8 0, .int .u8 0, .int .u8 0, .int .u8 0, .int .u8 0, .int .u8 0, .int .u8 0, .int .u8 0, .int .u8 0, .int .u8 0, .int .u8 0, .int .u8 0, .int .u8 0, .int .u8 0, .int .u8 0, .int .u8 0, .int .u8 0, .int .u8 0, .int .u8 0, .int .u8 0, .int .u8 0, .int .u8 0, .int .u8 0, .int .u8 0, .int .u8 0, .int .u8 0, .int .u8 0, .int .u8 0, .int .u8 0, .int .u8 0, .int .u8 0, .int .u8 0, .int .u8 0, .int .u8 0, .int .u8 0, .int .u8 0, .int .u8 0, .int .u8 0, .int .u8 0, .int .u8 0, .int .u8 0, .int .u8 0, .int .u8 0, .int .u8 0, .int .u8 0, .int .u8 0, .int .u8 0, .int .u8 0, .int .u8 0, .int .u8 0, .int .u8 0, .int .u8 0, .int .u8 0, .int .u8 0, .int .u8 0, .int .u8 0] (Wk.Chg.hp ch38 hb27 ⟨by omega, trivial⟩) rfl) ?_
          rintro W39 ⟨hb29, ch39⟩
          have zz39 := ch39.size
          have sS35 := Wk.Chg.step sS34 ch39 ⟨.inr (by omega), trivial⟩
          refine ⟨sS35, ?_⟩
          refine Wk.dEnd (by kernel_rfl) ?_
          refine Wk.nxt ?_
          exact ⟨W5.heap.size, W36.heap.size, by kernel_rfl, (Wk.Chg.step (Wk.Chg.step (Wk.Chg.step (Wk.Chg.step (Wk.Chg.step (Wk.Chg.step (Wk.Chg.step ((Wk.Chg.refl _).more (by simp) : Wk.Chg [] W4 W4) ch5 trivial) ch34 trivial) ch35 trivial) ch36 trivial) ch37 trivial) ch38 ⟨.inr (by omega), trivial⟩) ch39 ⟨.inr (by omega), trivial⟩), (Wk.Chg.hp ch39 hb28 ⟨by omega, trivial⟩), hb29, ⟨by omega, by omega⟩⟩
        · refine Wk.oEx (some 7) _ rfl rfl (by kernel_rfl) (Wk.new_ex (.pointer (some ⟨W35.heap.size, 0, none⟩)) #[.int .u8 0, .int .u8 0, .int .u8 0, .int .u8 0, .int .u8 0, .int .u8 0, .int .u8 0, .int .u8 0, .int .u8 0, .int .u8 0, .int .u8 0, .int .u8 0, .int .u8 0, .int .u8 0, .int .u8 0, .int .u8 0, .int .u8 0, .int .u8 0, .int .u8 0, .int .u8 0, .int .u8 0, .int .u8 0, .int .u8 0, .int .u8 0, .int .u8 0, .int .u8 0, .int .u8 0, .int .u8 0, .int .u8 0, .int .u8 0, .int .u8 0, .int .u8 0, .int .u8 0, .int .u8 0, .int .u8 0, .int .u8 0, .int .u8 0, .int .u8 0, .int .u8 0, .int .u8 0, .int .u8 0, .int .u8 0, .int .u8 0, .int .u8 0, .int .u8 0, .int .u8 0, .int .u8 0, .int .u8 0, .int .u8 0, .int .u8 0, .int .u8 0, .int .u8 0, .int .u8 0, .int .u8 0, .int .u8 0, .int .u8 0, .int .u8 0, .int .u8 0, .int .u8 0, .int .u8 0, .int .u8 0, .int .u8 0, .int .u8 0, .int .u8 0] 56 (by kernel_rfl)) ?_
          rintro _ W40 ⟨rfl, hb30, ch40, sz16⟩
          have zz40 := ch40.size
          have sS36 := Wk.Chg.step sS31 ch40 trivial
          refine ⟨sS36, ?_⟩
          refine Wk.dOp 3 (by kernel_rfl) ?_
          refine Wk.oCall (some 17) 29 [.tmp 16, .const (.int .u8 92)] #[56, 5] [.agg ((b8s kx1).toArray), .int .u8 92] rfl rfl (by kernel_rfl) rfl (by kernel_rfl) (by kernel_rfl) ?_
          refine (with_any 92 kx1 hdl1 W40).mono ?_
          rintro _ W41 ⟨rfl, ch41⟩
          have zz41 := ch41.size
          have sS37 := Wk.Chg.step sS36 ch41 trivial
          refine ⟨_, rfl, sS37, ?_⟩
          refine Wk.dOp 6 (by kernel_rfl) ?_
          refine Wk.oExS none _ rfl rfl (by kernel_rfl) (Mur.storeAll 56 (.tmp 6) (.tmp 15) rfl W5.heap.size (by kernel_rfl) (Mur.xorl 54 kx1) 64 (by rw [Mur.xorl_length, hdl1]) (by kernel_rfl) (by kernel_rfl) 56 #[.int .u8 0, .int .u8 0, .int .u8 0, .int .u8 0, .int .u8 0, .int .u8 0, .int .u8 0, .int .u8 0, .int .u8 0, .int .u8 0, .int .u8 0, .int .u8 0, .int .u8 0, .int .u8 0, .int .u8 0, .int .u8 0, .int .u8 0, .int .u8 0, .int .u8 0, .int .u8 0, .int .u8 0, .int .u8 0, .int .u8 0, .int .u8 0, .int .u8 0, .int .u8 0, .int .u8 0, .int .u8 0, .int .u8 0, .int .u8 0, .int .u8 0, .int .u8 0, .int .u8 0, .int .u8 0, .int .u8 0, .int .u8 0, .int .u8 0, .int .u8 0, .int .u8 0, .int .u8 0, .int .u8 0, .int .u8 0, .int .u8 0, .int .u8 0, .int .u8 0, .int .u8 0, .int .u8 0, .int .u8 0, .int .u8 0, .int .u8 0, .int .u8 0, .int .u8 0, .int .u8 0, .int .u8 0, .int .u8 0, .int .u8 0, .int .u8 0, .int .u8 0, .int .u8 0, .int .u8 0, .int .u8 0, .int .u8 0, .int .u8 0, .int .u8 0] (Wk.Chg.hp ch41 (Wk.Chg.hp ch40 (Wk.Chg.hp ch35 hb26 trivial) trivial) trivial) rfl) ?_
          rintro W42 ⟨hb31, ch42⟩
          have zz42 := ch42.size
          have sS38 := Wk.Chg.step sS37 ch42 ⟨.inr (by omega), trivial⟩
          refine ⟨sS38, ?_⟩
          refine Wk.dOp 7 (by kernel_rfl) ?_
          refine Wk.oExS none _ rfl rfl (by kernel_rfl) (Mur.storeAll 56 (.tmp 7) (.tmp 17) rfl W35.heap.size (by kernel_rfl) (Mur.xorl 92 kx1) 64 (by rw [Mur.xorl_length, hdl1]) (by kernel_rfl) (by kernel_rfl) 56 #[.int .u8 0, .int .u8 0, .int .u8 0, .int .u8 0, .int .u8 0, .int .u8 0, .int .u8 0, .int .u8 0, .int .u8 0, .int .u8 0, .int .u8 0, .int .u8 0, .int .u8 0, .int .u8 0, .int .u8 0, .int .u8 0, .int .u8 0, .int .u8 0, .int .u8 0, .int .u8 0, .int .u8 0, .int .u8 0, .int .u8 0, .int .u8 0, .int .u8 0, .int .u8 0, .int .u8 0, .int .u8 0, .int .u8 0, .int .u8 0, .int .u8 0, .int .u8 0, .int .u8 0, .int .u8 0, .int .u8 0, .int .u8 0, .int .u8 0, .int .u8 0, .int .u8 0, .int .u8 0, .int .u8 0, .int .u8 0, .int .u8 0, .int .u8 0, .int .u8 0, .int .u8 0, .int .u8 0, .int .u8 0, .int .u8 0, .int .u8 0, .int .u8 0, .int .u8 0, .int .u8 0, .int .u8 0, .int .u8 0, .int .u8 0, .int .u8 0, .int .u8 0, .int .u8 0, .int .u8 0, .int .u8 0, .int .u8 0, .int .u8 0, .int .u8 0] (Wk.Chg.hp ch42 (Wk.Chg.hp ch41 hb30 trivial) ⟨by omega, trivial⟩) rfl) ?_
          rintro W43 ⟨hb32, ch43⟩
          have zz43 := ch43.size
          have sS39 := Wk.Chg.step sS38 ch43 ⟨.inr (by omega), trivial⟩
          refine ⟨sS39, ?_⟩
          refine Wk.dEnd (by kernel_rfl) ?_
          refine Wk.nxt ?_
          exact ⟨W5.heap.size, W35.heap.size, by kernel_rfl, (Wk.Chg.step (Wk.Chg.step (Wk.Chg.step (Wk.Chg.step (Wk.Chg.step (Wk.Chg.step (Wk.Chg.step ((Wk.Chg.refl _).more (by simp) : Wk.Chg [] W4 W4) ch5 trivial) ch34 trivial) ch35 trivial) ch40 trivial) ch41 trivial) ch42 ⟨.inr (by omega), trivial⟩) ch43 ⟨.inr (by omega), trivial⟩), (Wk.Chg.hp ch43 hb31 ⟨by omega, trivial⟩), hb32, ⟨by omega, by omega⟩⟩
      · refine Wk.oEx (some 7) _ rfl rfl (by kernel_rfl) (Wk.new_ex (.pointer (some ⟨W34.heap.size, 0, none⟩)) #[.int .u8 0, .int .u8 0, .int .u8 0, .int .u8 0, .int .u8 0, .int .u8 0, .int .u8 0, .int .u8 0, .int .u8 0, .int .u8 0, .int .u8 0, .int .u8 0, .int .u8 0, .int .u8 0, .int .u8 0, .int .u8 0, .int .u8 0, .int .u8 0, .int .u8 0, .int .u8 0, .int .u8 0, .int .u8 0, .int .u8 0, .int .u8 0, .int .u8 0, .int .u8 0, .int .u8 0, .int .u8 0, .int .u8 0, .int .u8 0, .int .u8 0, .int .u8 0, .int .u8 0, .int .u8 0, .int .u8 0, .int .u8 0, .int .u8 0, .int .u8 0, .int .u8 0, .int .u8 0, .int .u8 0, .int .u8 0, .int .u8 0, .int .u8 0, .int .u8 0, .int .u8 0, .int .u8 0, .int .u8 0, .int .u8 0, .int .u8 0, .int .u8 0, .int .u8 0, .int .u8 0, .int .u8 0, .int .u8 0, .int .u8 0, .int .u8 0, .int .u8 0, .int .u8 0, .int .u8 0, .int .u8 0, .int .u8 0, .int .u8 0, .int .u8 0] 56 (by kernel_rfl)) ?_
        rintro _ W44 ⟨rfl, hb33, ch44, sz17⟩
        have zz44 := ch44.size
        have sS40 := Wk.Chg.step sS30 ch44 trivial
        refine ⟨sS40, ?_⟩
        refine Wk.dOp 1 (by kernel_rfl) ?_
        refine Wk.oCall (some 15) 29 [.tmp 14, .const (.int .u8 54)] #[56, 5] [.agg ((b8s kx1).toArray), .int .u8 54] rfl rfl (by kernel_rfl) rfl (by kernel_rfl) (by kernel_rfl) ?_
        refine (with_any 54 kx1 hdl1 W44).mono ?_
        rintro _ W45 ⟨rfl, ch45⟩
        have zz45 := ch45.size
        have sS41 := Wk.Chg.step sS40 ch45 trivial
        refine ⟨_, rfl, sS41, ?_⟩
        refine Wk.dOp 3 (by kernel_rfl) ?_
        refine Wk.oCall (some 17) 29 [.tmp 16, .const (.int .u8 92)] #[56, 5] [.agg ((b8s kx1).toArray), .int .u8 92] rfl rfl (by kernel_rfl) rfl (by kernel_rfl) (by kernel_rfl) ?_
        refine (with_any 92 kx1 hdl1 W45).mono ?_
        rintro _ W46 ⟨rfl, ch46⟩
        have zz46 := ch46.size
        have sS42 := Wk.Chg.step sS41 ch46 trivial
        refine ⟨_, rfl, sS42, ?_⟩
        refine Wk.dOp 6 (by kernel_rfl) ?_
        refine Wk.oExS none _ rfl rfl (by kernel_rfl) (Mur.storeAll 56 (.tmp 6) (.tmp 15) rfl W5.heap.size (by kernel_rfl) (Mur.xorl 54 kx1) 64 (by rw [Mur.xorl_length, hdl1]) (by kernel_rfl) (by kernel_rfl) 56 #[.int .u8 0, .int .u8 0, .int .u8 0, .int .u8 0, .int .u8 0, .int .u8 0, .int .u8 0, .int .u8 0, .int .u8 0, .int .u8 0, .int .u8 0, .int .u8 0, .int .u8 0, .int .u8 0, .int .u8 0, .int .u8 0, .int .u8 0, .int .u8 0, .int .u8 0, .int .u8 0, .int .u8 0, .int .u8 0, .int .u8 0, .int .u8 0, .int .u8 0, .int .u8 0, .int .u8 0, .int .u8 0, .int .u8 0, .int .u8 0, .int .u8 0, .int .u8 0, .int .u8 0, .int .u8 0, .int .u8 0, .int .u8 0, .int .u8 0, .int .u8 0, .int .u8 0, .int .u8 0, .int .u8 0, .int .u8 0, .int .u8 0, .int .u8 0, .int .u8 0, .int .u8 0, .int .u8 0, .int .u8 0, .int .u8 0, .int .u8 0, .int .u8 0, .int .u8 0, .int .u8 0, .int .u8 0, .int .u8 0, .int .u8 0, .int .u8 0, .int .u8 0, .int .u8 0, .int .u8 0, .int .u8 0, .int .u8 0, .int .u8 0, .int .u8 0] (Wk.Chg.hp ch46 (Wk.Chg.hp ch45 (Wk.Chg.hp ch44 hb26 trivial) trivial) trivial) rfl) ?_
        rintro W47 ⟨hb34, ch47⟩
        have zz47 := ch47.size
        have sS43 := Wk.Chg.step sS42 ch47 ⟨.inr (by omega), trivial⟩
        refine ⟨sS43, ?_⟩
        refine Wk.dOp 7 (by kernel_rfl) ?_
        refine Wk.oExS none _ rfl rfl (by kernel_rfl) (Mur.storeAll 56 (.tmp 7) (.tmp 17) rfl W34.heap.size (by kernel_rfl) (Mur.xorl 92 kx1) 64 (by rw [Mur.xorl_length, hdl1]) (by kernel_rfl) (by kernel_rfl) 56 #[.int .u8 0, .int .u8 0, .int .u8 0, .int .u8 0, .int .u8 0, .int .u8 0, .int .u8 0, .int .u8 0, .int .u8 0, .int .u8 0, .int .u8 0, .int .u8 0, .int .u8 0, .int .u8 0, .int .u8 0, .int .u8 0, .int .u8 0, .int .u8 0, .int .u8 0, .int .u8 0, .int .u8 0, .int .u8 0, .int .u8 0, .int .u8 0, .int .u8 0, .int .u8 0, .int .u8 0, .int .u8 0, .int .u8 0, .int .u8 0, .int .u8 0, .int .u8 0, .int .u8 0, .int .u8 0, .int .u8 0, .int .u8 0, .int .u8 0, .int .u8 0, .int .u8 0, .int .u8 0, .int .u8 0, .int .u8 0, .int .u8 0, .int .u8 0, .int .u8 0, .int .u8 0, .int .u8 0, .int .u8 0, .int .u8 0, .int .u8 0, .int .u8 0, .int .u8 0, .int .u8 0, .int .u8 0, .int .u8 0, .int .u8 0, .int .u8 0, .int .u8 0, .int .u8 0, .int .u8 0, .int .u8 0, .int .u8 0, .int .u8 0, .int .u8 0] (Wk.Chg.hp ch47 (Wk.Chg.hp ch46 (Wk.Chg.hp ch45 hb33 trivial) trivial) ⟨by omega, trivial⟩) rfl) ?_
        rintro W48 ⟨hb35, ch48⟩
        have zz48 := ch48.size
        have sS44 := Wk.Chg.step sS43 ch48 ⟨.inr (by omega), trivial⟩
        refine ⟨sS44, ?_⟩
        refine Wk.dEnd (by kernel_rfl) ?_
        refine Wk.nxt ?_
        exact ⟨W5.heap.size, W34.heap.size, by kernel_rfl, (Wk.Chg.step (Wk.Chg.step (Wk.Chg.step (Wk.Chg.step (Wk.Chg.step (Wk.Chg.step (Wk.Chg.step ((Wk.Chg.refl _).more (by simp) : Wk.Chg [] W4 W4) ch5 trivial) ch34 trivial) ch44 trivial) ch45 trivial) ch46 trivial) ch47 ⟨.inr (by omega), trivial⟩) ch48 ⟨.inr (by omega), trivial⟩), (Wk.Chg.hp ch48 hb34 ⟨by omega, trivial⟩), hb35, ⟨by omega, by omega⟩⟩
    · refine Wk.oEx (some 7) _ rfl rfl (by kernel_rfl) (Wk.new_ex (.pointer (some ⟨W5.heap.size, 0, none⟩)) #[.int .u8 0, .int .u8 0, .int .u8 0, .int .u8 0, .int .u8 0, .int .u8 0, .int .u8 0, .int .u8 0, .int .u8 0, .int .u8 0, .int .u8 0, .int .u8 0, .int .u8 0, .int .u8 0, .int .u8 0, .int .u8 0, .int .u8 0, .int .u8 0, .int .u8 0, .int .u8 0, .int .u8 0, .int .u8 0, .int .u8 0, .int .u8 0, .int .u8 0, .int .u8 0, .int .u8 0, .int .u8 0, .int .u8 0, .int .u8 0, .int .u8 0, .int .u8 0, .int .u8 0, .int .u8 0, .int .u8 0, .int .u8 0, .int .u8 0, .int .u8 0, .int .u8 0, .int .u8 0, .int .u8 0, .int .u8 0, .int .u8 0, .int .u8 0, .int .u8 0, .int .u8 0, .int .u8 0, .int .u8 0, .int .u8 0, .int .u8 0, .int .u8 0, .int .u8 0, .int .u8 0, .int .u8 0, .int .u8 0, .int .u8 0, .int .u8 0, .int .u8 0, .int .u8 0, .int .u8 0, .int .u8 0, .int .u8 0, .int .u8 0, .int .u8 0] 56 (by kernel_rfl)) ?_
      rintro _ W49 ⟨rfl, hb36, ch49, sz18⟩
      have zz49 := ch49.size
      have sS45 := Wk.Chg.step sS1 ch49 trivial
      refine ⟨sS45, ?_⟩
      refine Wk.dOp2 1 4 (by kernel_rfl) ?_ ?_
      · refine Wk.oCall (some 15) 29 [.tmp 14, .const (.int .u8 54)] #[56, 5] [.agg ((b8s kx1).toArray), .int .u8 54] rfl rfl (by kernel_rfl) rfl (by kernel_rfl) (by kernel_rfl) ?_
        refine (with_any 54 kx1 hdl1 W49).mono ?_
        rintro _ W50 ⟨rfl, ch50⟩
        have zz50 := ch50.size
        have sS46 := Wk.Chg.step sS45 ch50 trivial
        refine ⟨_, rfl, sS46, ?_⟩
        refine Wk.dOp2 3 4 (by kernel_rfl) ?_ ?_
        · refine Wk.oCall (some 17) 29 [.tmp 16, .const (.int .u8 92)] #[56, 5] [.agg ((b8s kx1).toArray), .int .u8 92] rfl rfl (by kernel_rfl) rfl (by kernel_rfl) (by kernel_rfl) ?_
          refine (with_any 92 kx1 hdl1 W50).mono ?_
          rintro _ W51 ⟨rfl, ch51⟩
          have zz51 := ch51.size
          have sS47 := Wk.Chg.step sS46 ch51 trivial
          refine ⟨_, rfl, sS47, ?_⟩
          refine Wk.dOp 4 (by kernel_rfl) ?_
          refine Wk.oEx (some 6) _ rfl rfl (by kernel_rfl) (Wk.new_ex (.pointer (some ⟨W51.heap.size, 0, none⟩)) #[.int .u8 0, .int .u8 0, .int .u8 0, .int .u8 0, .int .u8 0, .int .u8 0, .int .u8 0, .int .u8 0, .int .u8 0, .int .u8 0, .int .u8 0, .int .u8 0, .int .u8 0, .int .u8 0, .int .u8 0, .int .u8 0, .int .u8 0, .int .u8 0, .int .u8 0, .int .u8 0, .int .u8 0, .int .u8 0, .int .u8 0, .int .u8 0, .int .u8 0, .int .u8 0, .int .u8 0, .int .u8 0, .int .u8 0, .int .u8 0, .int .u8 0, .int .u8 0, .int .u8 0, .int .u8 0, .int .u8 0, .int .u8 0, .int .u8 0, .int .u8 0, .int .u8 0, .int .u8 0, .int .u8 0, .int .u8 0, .int .u8 0, .int .u8 0, .int .u8 0, .int .u8 0, .int .u8 0, .int .u8 0, .int .u8 0, .int .u8 0, .int .u8 0, .int .u8 0, .int .u8 0, .int .u8 0, .int .u8 0, .int .u8 0, .int .u8 0, .int .u8 0, .int .u8 0, .int .u8 0, .int .u8 0, .int .u8 0, .int .u8 0, .int .u8 0] 56 (by kernel_rfl)) ?_
          rintro _ W52 ⟨rfl, hb37, ch52, sz19⟩
          have zz52 := ch52.size
          have sS48 := Wk.Chg.step sS47 ch52 trivial
          refine ⟨sS48, ?_⟩
          refine Wk.dOp 6 (by kernel_rfl) ?_
          refine Wk.oExS none _ rfl rfl (by kernel_rfl) (Mur.storeAll 56 (.tmp 6) (.tmp 15) rfl W51.heap.size (by kernel_rfl) (Mur.xorl 54 kx1) 64 (by rw [Mur.xorl_length, hdl1]) (by kernel_rfl) (by kernel_rfl) 56 #[.int .u8 0, .int .u8 0, .int .u8 0, .int .u8 0, .int .u8 0, .int .u8 0, .int .u8 0, .int .u8 0, .int .u8 0, .int .u8 0, .int .u8 0, .int .u8 0, .int .u8 0, .int .u8 0, .int .u8 0, .int .u8 0, .int .u8 0, .int .u8 0, .int .u8 0, .int .u8 0, .int .u8 0, .int .u8 0, .int .u8 0, .int .u8 0, .int .u8 0, .int .u8 0, .int .u8 0, .int .u8 0, .int .u8 0, .int .u8 0, .int .u8 0, .int .u8 0, .int .u8 0, .int .u8 0, .int .u8 0, .int .u8 0, .int .u8 0, .int .u8 0, .int .u8 0, .int .u8 0, .int .u8 0, .int .u8 0, .int .u8 0, .int .u8 0, .int .u8 0, .int .u8 0, .int .u8 0, .int .u8 0, .int .u8 0, .int .u8 0, .int .u8 0, .int .u8 0, .int .u8 0, .int .u8 0, .int .u8 0, .int .u8 0, .int .u8 0, .int .u8 0, .int .u8 0, .int .u8 0, .int .u8 0, .int .u8 0, .int .u8 0, .int .u8 0] hb37 rfl) ?_
          rintro W53 ⟨hb38, ch53⟩
          have zz53 := ch53.size
          have sS49 := Wk.Chg.step sS48 ch53 ⟨.inr (by omega), trivial⟩
          refine ⟨sS49, ?_⟩
          refine Wk.dOp 7 (by kernel_rfl) ?_
          refine Wk.oExS none _ rfl rfl (by kernel_rfl) (Mur.storeAll 56 (.tmp 7) (.tmp 17) rfl W5.heap.size (by kernel_rfl) (Mur.xorl 92 kx1) 64 (by rw [Mur.xorl_length, hdl1]) (by kernel_rfl) (by kernel_rfl) 56 #[.int .u8 0, .int .u8 0, .int .u8 0, .int .u8 0, .int .u8 0, .int .u8 0, .int .u8 0, .int .u8 0, .int .u8 0, .int .u8 0, .int .u8 0, .int .u8 0, .int .u8 0, .int .u8 0, .int .u8 0, .int .u8 0, .int .u8 0, .int .u8 0, .int .u8 0, .int .u8 0, .int .u8 0, .int .u8 0, .int .u8 0, .int .u8 0, .int .u8 0, .int .u8 0, .int .u8 0, .int .u8 0, .int .u8 0, .int .u8 0, .int .u8 0, .int .u8 0, .int .u8 0, .int .u8 0, .int .u8 0, .int .u8 0, .int .u8 0, .int .u8 0, .int .u8 0, .int .u8 0, .int .u8 0, .int .u8 0, .int .u8 0, .int .u8 0, .int .u8 0, .int .u8 0, .int .u8 0, .int .u8 0, .int .u8 0, .int .u8 0, .int .u8 0, .int .u8 0, .int .u8 0, .int .u8 0, .int .u8 0, .int .u8 0, .int .u8 0, .int .u8 0, .int .u8 0, .int .u8 0, .int .u8 0, .int .u8 0, .int .u8 0, .int .u8 0] (Wk.Chg.hp ch53 (Wk.Chg.hp ch52 (Wk.Chg.hp ch51 (Wk.Chg.hp ch50 hb36 trivial) trivial) trivial) ⟨by omega, trivial⟩) rfl) ?_
          rintro W54 ⟨hb39, ch54⟩
          have zz54 := ch54.size
          have sS50 := Wk.Chg.step sS49 ch54 ⟨.inr (by omega), trivial⟩
          refine ⟨sS50, ?_⟩
          refine Wk.dEnd (by kernel_rfl) ?_
          refine Wk.nxt ?_
          exact ⟨W51.heap.size, W5.heap.size, by kernel_rfl, (Wk.Chg.step (Wk.Chg.step (Wk.Chg.step (Wk.Chg.step (Wk.Chg.step (Wk.Chg.step (Wk.Chg.step ((Wk.Chg.refl _).more (by simp) : Wk.Chg [] W4 W4) ch5 trivial) ch49 trivial) ch50 trivial) ch51 trivial) ch52 trivial) ch53 ⟨.inr (by omega), trivial⟩) ch54 ⟨.inr (by omega), trivial⟩), (Wk.Chg.hp ch54 hb38 ⟨by omega, trivial⟩), hb39, ⟨by omega, by omega⟩⟩
        · refine Wk.oEx (some 6) _ rfl rfl (by kernel_rfl) (Wk.new_ex (.pointer (some ⟨W50.heap.size, 0, none⟩)) #[.int .u8 0, .int .u8 0, .int .u8 0, .int .u8 0, .int .u8 0, .int .u8 0, .int .u8 0, .int .u8 0, .int .u8 0, .int .u8 0, .int .u8 0, .int .u8 0, .int .u8 0, .int .u8 0, .int .u8 0, .int .u8 0, .int .u8 0, .int .u8 0, .int .u8 0, .int .u8 0, .int .u8 0, .int .u8 0, .int .u8 0, .int .u8 0, .int .u8 0, .int .u8 0, .int .u8 0, .int .u8 0, .int .u8 0, .int .u8 0, .int .u8 0, .int .u8 0, .int .u8 0, .int .u8 0, .int .u8 0, .int .u8 0, .int .u8 0, .int .u8 0, .int .u8 0, .int .u8 0, .int .u8 0, .int .u8 0, .int .u8 0, .int .u8 0, .int .u8 0, .int .u8 0, .int .u8 0, .int .u8 0, .int .u8 0, .int .u8 0, .int .u8 0, .int .u8 0, .int .u8 0, .int .u8 0, .int .u8 0, .int .u8 0, .int .u8 0, .int .u8 0, .int .u8 0, .int .u8 0, .int .u8 0, .int .u8 0, .int .u8 0, .int .u8 0] 56 (by kernel_rfl)) ?_
          rintro _ W55 ⟨rfl, hb40, ch55, sz20⟩
          have zz55 := ch55.size
          have sS51 := Wk.Chg.step sS46 ch55 trivial
          refine ⟨sS51, ?_⟩
          refine Wk.dOp 3 (by kernel_rfl) ?_
          refine Wk.oCall (some 17) 29 [.tmp 16, .const (.int .u8 92)] #[56, 5] [.agg ((b8s kx1).toArray), .int .u8 92] rfl rfl (by kernel_rfl) rfl (by kernel_rfl) (by kernel_rfl) ?_
          refine (with_any 92 kx1 hdl1 W55).mono ?_
          rintro _ W56 ⟨rfl, ch56⟩
          have zz56 := ch56.size
          have sS52 := Wk.Chg.step sS51 ch56 trivial
          refine ⟨_, rfl, sS52, ?_⟩
          refine Wk.dOp 6 (by kernel_rfl) ?_
          refine Wk.oExS none _ rfl rfl (by kernel_rfl) (Mur.storeAll 56 (.tmp 6) (.tmp 15) rfl W50.heap.size (by kernel_rfl) (Mur.xorl 54 kx1) 64 (by rw [Mur.xorl_length, hdl1]) (by kernel_rfl) (by kernel_rfl) 56 #[.int .u8 0, .int .u8 0, .int .u8 0, .int .u8 0, .int .u8 0, .int .u8 0, .int .u8 0, .int .u8 0, .int .u8 0, .int .u8 0, .int .u8 0, .int .u8 0, .int .u8 0, .int .u8 0, .int .u8 0, .int .u8 0, .int .u8 0, .int .u8 0, .int .u8 0, .int .u8 0, .int .u8 0, .int .u8 0, .int .u8 0, .int .u8 0, .int .u8 0, .int .u8 0, .int .u8 0, .int .u8 0, .int .u8 0, .int .u8 0, .int .u8 0, .int .u8 0, .int .u8 0, .int .u8 0, .int .u8 0, .int .u8 0, .int .u8 0, .int .u8 0, .int .u8 0, .int .u8 0, .int .u8 0, .int .u8 0, .int .u8 0, .int .u8 0, .int .u8 0, .int .u8 0, .int .u8 0, .int .u8 0, .int .u8 0, .int .u8 0, .int .u8 0, .int .u8 0, .int .u8 0, .int .u8 0, .int .u8 0, .int .u8 0, .int .u8 0, .int .u8 0, .int .u8 0, .int .u8 0, .int .u8 0, .int .u8 0, .int .u8 0, .int .u8 0] (Wk.Chg.hp ch56 hb40 trivial) rfl) ?_
          rintro W57 ⟨hb41, ch57⟩
          have zz57 := ch57.size
          have sS53 := Wk.Chg.step sS52 ch57 ⟨.inr (by omega), trivial⟩
          refine ⟨sS53, ?_⟩
          refine Wk.dOp 7 (by kernel_rfl) ?_
          refine Wk.oExS none _ rfl rfl (by kernel_rfl) (Mur.storeAll 56 (.tmp 7) (.tmp 17) rfl W5.heap.size (by kernel_rfl) (Mur.xorl 92 kx1) 64 (by rw [Mur.xorl_length, hdl1]) (by kernel_rfl) (by kernel_rfl) 56 #[.int .u8 0, .int .u8 0, .int .u8 0, .int .u8 0, .int .u8 0, .int .u8 0, .int .u8 0, .int .u8 0, .int .u8 0, .int .u8 0, .int .u8 0, .int .u8 0, .int .u8 0, .int .u8 0, .int .u8 0, .int .u8 0, .int .u8 0, .int .u8 0, .int .u8 0, .int .u8 0, .int .u8 0, .int .u8 0, .int .u8 0, .int .u8 0, .int .u8 0, .int .u8 0, .int .u8 0, .int .u8 0, .int .u8 0, .int .u8 0, .int .u8 0, .int .u8 0, .int .u8 0, .int .u8 0, .int .u8 0, .int .u8 0, .int .u8 0, .int .u8 0, .int .u8 0, .int .u8 0, .int .u8 0, .int .u8 0, .int .u8 0, .int .u8 0, .int .u8 0, .int .u8 0, .int .u8 0, .int .u8 0, .int .u8 0, .int .u8 0, .int .u8 0, .int .u8 0, .int .u8 0, .int .u8 0, .int .u8 0, .int .u8 0, .int .u8 0, .int .u8 0, .int .u8 0, .int .u8 0, .int .u8 0, .int .u8 0, .int .u8 0, .int .u8 0] (Wk.Chg.hp ch57 (Wk.Chg.hp ch56 (Wk.Chg.hp ch55 (Wk.Chg.hp ch50 hb36 trivial) trivial) trivial) ⟨by omega, trivial⟩) rfl) ?_
          rintro W58 ⟨hb42, ch58⟩
          have zz58 := ch58.size
          have sS54 := Wk.Chg.step sS53 ch58 ⟨.inr (by omega), trivial⟩
          refine ⟨sS54, ?_⟩
          refine Wk.dEnd (by kernel_rfl) ?_
          refine Wk.nxt ?_
          exact ⟨W50.heap.size, W5.heap.size, by kernel_rfl, (Wk.Chg.step (Wk.Chg.step (Wk.Chg.step (Wk.Chg.step (Wk.Chg.step (Wk.Chg.step (Wk.Chg.step ((Wk.Chg.refl _).more (by simp) : Wk.Chg [] W4 W4) ch5 trivial) ch49 trivial) ch50 trivial) ch55 trivial) ch56 trivial) ch57 ⟨.inr (by omega), trivial⟩) ch58 ⟨.inr (by omega), trivial⟩), (Wk.Chg.hp ch58 hb41 ⟨by omega, trivial⟩), hb42, ⟨by omega, by omega⟩⟩
      · refine Wk.oEx (some 6) _ rfl rfl (by kernel_rfl) (Wk.new_ex (.pointer (some ⟨W49.heap.size, 0, none⟩)) #[.int .u8 0, .int .u8 0, .int .u8 0, .int .u8 0, .int .u8 0, .int .u8 0, .int .u8 0, .int .u8 0, .int .u8 0, .int .u8 0, .int .u8 0, .int .u8 0, .int .u8 0, .int .u8 0, .int .u8 0, .int .u8 0, .int .u8 0, .int .u8 0, .int .u8 0, .int .u8 0, .int .u8 0, .int .u8 0, .int .u8 0, .int .u8 0, .int .u8 0, .int .u8 0, .int .u8 0, .int .u8 0, .int .u8 0, .int .u8 0, .int .u8 0, .int .u8 0, .int .u8 0, .int .u8 0, .int .u8 0, .int .u8 0, .int .u8 0, .int .u8 0, .int .u8 0, .int .u8 0, .int .u8 0, .int .u8 0, .int .u8 0, .int .u8 0, .int .u8 0, .int .u8 0, .int .u8 0, .int .u8 0, .int .u8 0, .int .u8 0, .int .u8 0, .int .u8 0, .int .u8 0, .int .u8 0, .int .u8 0, .int .u8 0, .int .u8 0, .int .u8 0, .int .u8 0, .int .u8 0, .int .u8 0, .int .u8 0, .int .u8 0, .int .u8 0] 56 (by kernel_rfl)) ?_
        rintro _ W59 ⟨rfl, hb43, ch59, sz21⟩
        have zz59 := ch59.size
        have sS55 := Wk.Chg.step sS45 ch59 trivial
        refine ⟨sS55, ?_⟩
        refine Wk.dOp 1 (by kernel_rfl) ?_
        refine Wk.oCall (some 15) 29 [.tmp 14, .const (.int .u8 54)] #[56, 5] [.agg ((b8s kx1).toArray), .int .u8 54] rfl rfl (by kernel_rfl) rfl (by kernel_rfl) (by kernel_rfl) ?_
        refine (with_any 54 kx1 hdl1 W59).mono ?_
        rintro _ W60 ⟨rfl, ch60⟩
        have zz60 := ch60.size
        have sS56 := Wk.Chg.step sS55 ch60 trivial
        refine ⟨_, rfl, sS56, ?_⟩
        refine Wk.dOp 3 (by kernel_rfl) ?_
        refine Wk.oCall (some 17) 29 [.tmp 16, .const (.int .u8 92)] #[56, 5] [.agg ((b8s kx1).toArray), .int .u8 92] rfl rfl (by kernel_rfl) rfl (by kernel_rfl) (by kernel_rfl) ?_
        refine (with_any 92 kx1 hdl1 W60).mono ?_
        rintro _ W61 ⟨rfl, ch61⟩
        have zz61 := ch61.size
        have sS57 := Wk.Chg.step sS56 ch61 trivial
        refine ⟨_, rfl, sS57, ?_⟩
        refine Wk.dOp 6 (by kernel_rfl) ?_
        refine Wk.oExS none _ rfl rfl (by kernel_rfl) (Mur.storeAll 56 (.tmp 6) (.tmp 15) rfl W49.heap.size (by kernel_rfl) (Mur.xorl 54 kx1) 64 (by rw [Mur.xorl_length, hdl1]) (by kernel_rfl) (by kernel_rfl) 56 #[.int .u8 0, .int .u8 0, .int .u8 0, .int .u8 0, .int .u8 0, .int .u8 0, .int .u8 0, .int .u8 0, .int .u8 0, .int .u8 0, .int .u8 0, .int .u8 0, .int .u8 0, .int .u8 0, .int .u8 0, .int .u8 0, .int .u8 0, .int .u8 0, .int .u8 0, .int .u8 0, .int .u8 0, .int .u8 0, .int .u8 0, .int .u8 0, .int .u8 0, .int .u8 0, .int .u8 0, .int .u8 0, .int .u8 0, .int .u8 0, .int .u8 0, .int .u8 0, .int .u8 0, .int .u8 0, .int .u8 0, .int .u8 0, .int .u8 0, .int .u8 0, .int .u8 0, .int .u8 0, .int .u8 0, .int .u8 0, .int .u8 0, .int .u8 0, .int .u8 0, .int .u8 0, .int .u8 0, .int .u8 0, .int .u8 0, .int .u8 0, .int .u8 0, .int .u8 0, .int .u8 0, .int .u8 0, .int .u8 0, .int .u8 0, .int .u8 0, .int .u8 0, .int .u8 0, .int .u8 0, .int .u8 0, .int .u8 0, .int .u8 0, .int .u8 0] (Wk.Chg.hp ch61 (Wk.Chg.hp ch60 hb43 trivial) trivial) rfl) ?_
        rintro W62 ⟨hb44, ch62⟩
        have zz62 := ch62.size
        have sS58 := Wk.Chg.step sS57 ch62 ⟨.inr (by omega), trivial⟩
        refine ⟨sS58, ?_⟩
        refine Wk.dOp 7 (by kernel_rfl) ?_
        refine Wk.oExS none _ rfl rfl (by kernel_rfl) (Mur.storeAll 56 (.tmp 7) (.tmp 17) rfl W5.heap.size (by kernel_rfl) (Mur.xorl 92 kx1) 64 (by rw [Mur.xorl_length, hdl1]) (by kernel_rfl) (by kernel_rfl) 56 #[.int .u8 0, .int .u8 0, .int .u8 0, .int .u8 0, .int .u8 0, .int .u8 0, .int .u8 0, .int .u8 0, .int .u8 0, .int .u8 0, .int .u8 0, .int .u8 0, .int .u8 0, .int .u8 0, .int .u8 0, .int .u8 0, .int .u8 0, .int .u8 0, .int .u8 0, .int .u8 0, .int .u8 0, .int .u8 0, .int .u8 0, .int .u8 0, .int .u8 0, .int .u8 0, .int .u8 0, .int .u8 0, .int .u8 0, .int .u8 0, .int .u8 0, .int .u8 0, .int .u8 0, .int .u8 0, .int .u8 0, .int .u8 0, .int .u8 0, .int .u8 0, .int .u8 0, .int .u8 0, .int .u8 0, .int .u8 0, .int .u8 0, .int .u8 0, .int .u8 0, .int .u8 0, .int .u8 0, .int .u8 0, .int .u8 0, .int .u8 0, .int .u8 0, .int .u8 0, .int .u8 0, .int .u8 0, .int .u8 0, .int .u8 0, .int .u8 0, .int .u8 0, .int .u8 0, .int .u8 0, .int .u8 0, .int .u8 0, .int .u8 0, .int .u8 0] (Wk.Chg.hp ch62 (Wk.Chg.hp ch61 (Wk.Chg.hp ch60 (Wk.Chg.hp ch59 hb36 trivial) trivial) trivial) ⟨by omega, trivial⟩) rfl) ?_
        rintro W63 ⟨hb45, ch63⟩
        have zz63 := ch63.size
        have sS59 := Wk.Chg.step sS58 ch63 ⟨.inr (by omega), trivial⟩
        refine ⟨sS59, ?_⟩
        refine Wk.dEnd (by kernel_rfl) ?_
        refine Wk.nxt ?_
        exact ⟨W49.heap.size, W5.heap.size, by kernel_rfl, (Wk.Chg.step (Wk.Chg.step (Wk.Chg.step (Wk.Chg.step (Wk.Chg.step (Wk.Chg.step (Wk.Chg.step ((Wk.Chg.refl _).more (by simp) : Wk.Chg [] W4 W4) ch5 trivial) ch49 trivial) ch59 trivial) ch60 trivial) ch61 trivial) ch62 ⟨.inr (by omega), trivial⟩) ch63 ⟨.inr (by omega), trivial⟩), (Wk.Chg.hp ch63 hb44 ⟨by omega, trivial⟩), hb45, ⟨by omega, by omega⟩⟩
  · rintro aa1 W64 ⟨q6, q7, hF1, ch64, hq6, hq7, hqb⟩
    have zz64 := ch64.size
    generalize aa1.tmps = bb1 at hF1
    subst hF1
    have hlq6 := (Array.getElem?_eq_some_iff.1 hq6).1
    have hlq7 := (Array.getElem?_eq_some_iff.1 hq7).1
    refine Wk.nxt ?_
    refine wp_seq ?_
    refine Wk.reg ?_
    refine Wk.rEx 0 (some 18) _ rfl rfl (by kernel_rfl) (Wk.new_ex (.slice (some ⟨W64.heap.size, 0, none⟩) 0 0) #[] 5 (by kernel_rfl)) ?_
    rintro _ W65 ⟨rfl, hb46, ch65, sz22⟩
    have zz65 := ch65.size
    refine Wk.rPure 1 (some 19) (.slice (some ⟨q6, 0, none⟩) 64 64) rfl rfl (by kernel_rfl) (Mur.arr_slice 56 5 (.tmp 6) 64 rfl Tryd.underlying56 (by kernel_rfl) q6 (by kernel_rfl)) ?_
    have ow1 := Mur.own8_empty hb46 (Nat.le_refl _)
    refine Wk.rEx 2 (some 20) _ rfl rfl (by kernel_rfl) (Mur.append8 (.tmp 18) (.tmp 19) 22 5 rfl Tryd.underlying22 (by kernel_rfl) W64.heap.size (some ⟨W64.heap.size, 0, none⟩) 0 0 ([]) (some ⟨q6, 0, none⟩) 64 64 (Mur.xorl 54 kx1) (by kernel_rfl) (by kernel_rfl) ow1.own (Mur.byt_blk (Mur.xorl 54 kx1) (by rw [Mur.xorl_length, hdl1]) (Wk.Chg.hp ch65 hq6 trivial)) (fun h => by cases h) (by omega) (by omega) 64 (by omega) (Mur.xorl 54 kx1) rfl) ?_
    rintro _ W66 ⟨AA1, nn1, rfl, ow2, ch66, ha1⟩
    have zz66 := ch66.size
    have hq1 := ow2.nc
    have hq2 := ow2.cm
    refine Wk.rPure 3 (some 8) (.slice AA1 64 nn1) rfl rfl (by kernel_rfl) (by kernel_rfl) ?_
    refine Wk.rEnd 4 rfl ?_
    refine Wk.nxt ?_
    refine wp_seq ?_
    refine wp_seq ?_
    refine Wk.reg ?_
    refine Wk.rPure 0 (some 21) (.slice PA pn pc) rfl rfl (by kernel_rfl) (by kernel_rfl) ?_
    refine Wk.rPure 1 (some 22) (.int .i64 ((pn : Nat) : Int)) rfl rfl (by kernel_rfl) (by kernel_rfl) ?_
    refine Wk.rPure 2 (some 23) (.int .i64 0) rfl rfl (by kernel_rfl) (by kernel_rfl) ?_
    refine Wk.rEnd 3 rfl ?_
    refine Wk.nxt ?_
    refine wp_block ?_
    refine Wk.loop (fun m_ a wr => ∃ (k : Nat) (A1 : Option Addr) (N : Nat) (c1 : Nat), m_ = pn - k ∧ a = Tag_F1 a.tmps (.pointer (some ⟨w.heap.size, 0, none⟩)) (.pointer (some ⟨q7, 0, none⟩)) (.slice A1 N c1) (.slice PA pn pc) (.int .i64 ((pn : Nat) : Int)) (.int .i64 ((k : Nat) : Int)) ∧ k ≤ pn ∧ Own8 wr W64.heap.size 5 A1 N c1 (Mur.xorl 54 kx1 ++ flat (L.take k)) ∧ N = 64 + (flat (L.take k)).length ∧ wr.heap[q7]? = some (.cells (b8s (Mur.xorl 92 kx1)).toArray 56 (0, 0)) ∧ wr.heap[w.heap.size]? = some (.cells #[.int .u8 0, .int .u8 0, .int .u8 0, .int .u8 0, .int .u8 0, .int .u8 0, .int .u8 0, .int .u8 0, .int .u8 0, .int .u8 0, .int .u8 0, .int .u8 0, .int .u8 0, .int .u8 0, .int .u8 0, .int .u8 0, .int .u8 0, .int .u8 0, .int .u8 0, .int .u8 0, .int .u8 0, .int .u8 0, .int .u8 0, .int .u8 0, .int .u8 0, .int .u8 0, .int .u8 0, .int .u8 0, .int .u8 0, .int .u8 0, .int .u8 0, .int .u8 0] 25 (0, 0)) ∧ Wk.Chg [] w wr ∧ W64.heap.size ≤ wr.heap.size) (pn - 0) ?_ ?_
    · have kk2 := Wk.Chg.step kk1 ch2 trivial
      have kk3 := Wk.Chg.step kk2 ch3 trivial
      have kk4 := Wk.Chg.step kk3 ch4 ⟨.inr (by omega), trivial⟩
      have kk5 := Wk.Chg.step kk4 ch64 trivial
      have kk6 := Wk.Chg.step kk5 ch65 trivial
      have kk7 := Wk.Chg.step kk6 ch66 (Wk.newOr_blk (fun g hg => by have := ow1.lt g hg; omega))
      refine ⟨0, AA1, 64, nn1, rfl, by kernel_rfl, by omega, (by rw [List.take_zero, show flat [] = [] from rfl, List.append_nil]; exact ow2), by rw [List.take_zero]; rfl, (Wk.Chg.hp ch66 (Wk.Chg.hp ch65 hq7 trivial) (Wk.off_blk (fun gz hgz => by have := ow1.lt gz hgz; omega))), (Wk.Chg.hp ch66 (Wk.Chg.hp ch65 (Wk.Chg.hp ch64 (Wk.Chg.hp ch4 (Wk.Chg.hp ch3 (Wk.Chg.hp ch2 hb1 trivial) trivial) ⟨by omega, trivial⟩) trivial) trivial) (Wk.off_blk (fun gz hgz => by have := ow1.lt gz hgz; omega))), kk7, (by omega)⟩
    · rintro mm1 aa2 W67 ⟨k, A1, N, c1, hmm1, hF2, hi, hO, hN, h7, hZ, HB, hbs⟩
      generalize aa2.tmps = bb2 at hF2
      subst hF2
      have hqn := hO.nc
      have hqm := hO.cm
      unfold Go.maxLen at hqm
      by_cases hlt : k < pn
      · obtain ⟨g, off, As, ns, cs, ls, rfl, hg, hcell, hby, hsn, hsc, hsnil, hfl, hfle⟩ := HL.out.at hlt
        refine wp_seq ?_
        refine Wk.reg ?_
        refine Wk.rPure 0 (some 24) (.bool true) rfl rfl (by kernel_rfl) (Wk.boolT (b := decide (((k : Nat) : Int) < ((pn : Nat) : Int))) (decide_eq_true (by omega)) (by kernel_rfl)) ?_
        refine Wk.rEnd 1 rfl ?_
        refine Wk.nxt ?_
        refine wp_seq ?_
        refine wp_cond_true (by kernel_rfl) ?_
        refine wp_skip ?_
        refine Wk.nxt ?_
        refine wp_seq ?_
        refine wp_block ?_
        refine wp_seq ?_
        refine Wk.reg ?_
        refine Wk.rPure 0 (some 25) (.pointer (some ⟨g, off + k * 1, none⟩)) rfl rfl (by kernel_rfl) (Wk.index_sl 29 22 (.tmp 21) (.tmp 23) rfl Tryd.underlying29 1 (by kernel_rfl) g off pn pc k .i64 (by kernel_rfl) (by kernel_rfl) (by omega)) ?_
        refine Wk.rPure 1 (some 26) (.slice As ns cs) rfl rfl (by kernel_rfl) (Wk.load1 22 (.tmp 25) rfl (by kernel_rfl) ⟨g, off + k * 1, none⟩ (by kernel_rfl) (.slice As ns cs) (Wk.Chg.cell HB hcell trivial)) ?_
        refine Wk.rPure 2 (some 10) (.slice As ns cs) rfl rfl (by kernel_rfl) (by kernel_rfl) ?_
        refine Wk.rEnd 3 rfl ?_
        refine Wk.nxt ?_
        refine Wk.reg ?_
        refine Wk.rPure 0 (some 27) (.slice A1 N c1) rfl rfl (by kernel_rfl) (by kernel_rfl) ?_
        refine Wk.rPure 1 (some 28) (.slice As ns cs) rfl rfl (by kernel_rfl) (by kernel_rfl) ?_
        refine Wk.rEx 2 (some 29) _ rfl rfl (by kernel_rfl) (Mur.append8 (.tmp 27) (.tmp 28) 22 5 rfl Tryd.underlying22 (by kernel_rfl) W64.heap.size A1 N c1 (Mur.xorl 54 kx1 ++ flat (L.take k)) As ns cs ls (by kernel_rfl) (by kernel_rfl) hO.own (Mur.byt_chg hby HB (fun g off e hl => trivial)) hsnil (by omega) (by omega) (N + ns) (by omega) ((Mur.xorl 54 kx1 ++ flat (L.take k)) ++ ls) rfl) ?_
        rintro _ W68 ⟨AA2, nn2, rfl, ow3, ch67, ha2⟩
        have zz67 := ch67.size
        have hq3 := ow3.nc
        have hq4 := ow3.cm
        refine Wk.rPure 3 (some 8) (.slice AA2 (N + ns) nn2) rfl rfl (by kernel_rfl) (by kernel_rfl) ?_
        refine Wk.rEnd 4 rfl ?_
        refine Wk.inN ?_
        refine Wk.nxt ?_
        refine Wk.reg ?_
        refine Wk.rPure 0 (some 30) (.int .i64 ((k + 1 : Nat) : Int)) rfl rfl (by kernel_rfl) (Wk.int64 (n := ((k : Nat) : Int) + 1) (z := ((k + 1 : Nat) : Int)) (by omega) (by omega) (by omega) (by kernel_rfl)) ?_
        refine Wk.rPure 1 (some 23) (.int .i64 ((k + 1 : Nat) : Int)) rfl rfl (by kernel_rfl) (by kernel_rfl) ?_
        refine Wk.rEnd 2 rfl ?_
        refine Wk.nxt ?_
        have kk8 := Wk.Chg.step HB ch67 (Wk.newOr_blk (fun g hg => by have := hO.lt g hg; omega))
        refine ⟨_, ?_, k + 1, AA2, N + ns, nn2, rfl, by kernel_rfl, (by omega), (by rw [hfl, ← List.append_assoc]; exact ow3), (by rw [hfl, List.length_append]; have := hby.1; omega), (Wk.Chg.hp ch67 h7 (Wk.off_blk (fun gz hgz => by have := hO.lt gz hgz; omega))), (Wk.Chg.hp ch67 hZ (Wk.off_blk (fun gz hgz => by have := hO.lt gz hgz; omega))), kk8, (by omega)⟩
        · omega
      · have hfa : flat (L.take k) = flat L := by rw [show k = pn by omega]; exact Mur.flat_all HL.out.len
        have hfl := congrArg List.length hfa
        refine wp_seq ?_
        refine Wk.reg ?_
        refine Wk.rPure 0 (some 24) (.bool false) rfl rfl (by kernel_rfl) (Wk.boolF (b := decide (((k : Nat) : Int) < ((pn : Nat) : Int))) (decide_eq_false (by omega)) (by kernel_rfl)) ?_
        refine Wk.rEnd 1 rfl ?_
        refine Wk.nxt ?_
        refine wp_seq ?_
        refine wp_cond_false (by kernel_rfl) ?_
        refine wp_exit ?_
        refine Wk.thX ?_
        refine Wk.thX ?_
        refine Wk.inX ?_
        refine Wk.nxt ?_
        refine wp_seq ?_
        refine Wk.reg ?_
        refine Wk.rPure 0 (some 31) (.slice A1 N c1) rfl rfl (by kernel_rfl) (by kernel_rfl) ?_
        refine Wk.rCall 1 (some 32) 15 [.tmp 31] #[22] [.slice A1 N c1] rfl rfl (by kernel_rfl) rfl (by kernel_rfl) (by kernel_rfl) ?_
        refine (Sum_var (Mur.xorl 54 kx1 ++ flat (L.take k)) A1 N c1 W67 (HV.out.below (Wk.Chg.below0 HB)) hO.byt (by omega) hO.nil (by omega)).mono ?_
        rintro _ W69 ⟨dd1, hd2, hdl2, rfl, hB2⟩
        have ch68 := Wk.Chg.ofBelow hB2
        have zz68 := ch68.size
        refine ⟨_, rfl, ?_⟩
        refine Wk.rEx 2 (some 11) _ rfl rfl (by kernel_rfl) (Wk.new_ex (.pointer (some ⟨W69.heap.size, 0, none⟩)) #[.int .u8 0, .int .u8 0, .int .u8 0, .int .u8 0, .int .u8 0, .int .u8 0, .int .u8 0, .int .u8 0, .int .u8 0, .int .u8 0, .int .u8 0, .int .u8 0, .int .u8 0, .int .u8 0, .int .u8 0, .int .u8 0, .int .u8 0, .int .u8 0, .int .u8 0, .int .u8 0, .int .u8 0, .int .u8 0, .int .u8 0, .int .u8 0, .int .u8 0, .int .u8 0, .int .u8 0, .int .u8 0, .int .u8 0, .int .u8 0, .int .u8 0, .int .u8 0] 25 (by kernel_rfl)) ?_
        rintro _ W70 ⟨rfl, hb47, ch69, sz23⟩
        have zz69 := ch69.size
        refine Wk.rExS 3 none _ rfl rfl (by kernel_rfl) (Mur.storeAll 25 (.tmp 11) (.tmp 32) rfl W69.heap.size (by kernel_rfl) dd1 32 hdl2 (by kernel_rfl) (by kernel_rfl) 25 #[.int .u8 0, .int .u8 0, .int .u8 0, .int .u8 0, .int .u8 0, .int .u8 0, .int .u8 0, .int .u8 0, .int .u8 0, .int .u8 0, .int .u8 0, .int .u8 0, .int .u8 0, .int .u8 0, .int .u8 0, .int .u8 0, .int .u8 0, .int .u8 0, .int .u8 0, .int .u8 0, .int .u8 0, .int .u8 0, .int .u8 0, .int .u8 0, .int .u8 0, .int .u8 0, .int .u8 0, .int .u8 0, .int .u8 0, .int .u8 0, .int .u8 0, .int .u8 0] hb47 rfl) ?_
        rintro W71 ⟨hb48, ch70⟩
        have zz70 := ch70.size
        refine Wk.rEnd 4 rfl ?_
        refine Wk.nxt ?_
        refine wp_seq ?_
        refine Wk.dReg ([w.heap.size]) (by kernel_rfl) ?_
        intro W72 ch71 sz24
        have zz71 := ch71.size
        have sS60 : Wk.Chg ([w.heap.size]) W72 W72 := (Wk.Chg.refl _).more (by simp)
        refine Wk.dVal 1 (some 34) (.slice (some ⟨q7, 0, none⟩) 64 64) rfl rfl (by kernel_rfl) (by kernel_rfl) (by kernel_rfl) (fun _ _ _ h => h) (by kernel_rfl) (fun w' hw' => (Mur.arr_slice 56 5 (.tmp 7) 64 rfl Tryd.underlying56 (by kernel_rfl) q7 (by kernel_rfl))) sS60 ?_
        refine Wk.dVal 3 (some 36) (.slice (some ⟨W69.heap.size, 0, none⟩) 32 32) rfl rfl (by kernel_rfl) (by kernel_rfl) (by kernel_rfl) (fun _ _ _ h => h) (by kernel_rfl) (fun w' hw' => (Mur.arr_slice 25 5 (.tmp 11) 32 rfl Tryd.underlying25 (by kernel_rfl) W69.heap.size (by kernel_rfl))) sS60 ?_
        refine Wk.dOp 0 (by kernel_rfl) ?_
        refine Wk.oEx (some 33) _ rfl rfl (by kernel_rfl) (Wk.new_ex (.slice (some ⟨W72.heap.size, 0, none⟩) 0 0) #[] 5 (by kernel_rfl)) ?_
        rintro _ W73 ⟨rfl, hb49, ch72, sz25⟩
        have zz72 := ch72.size
        have sS61 := Wk.Chg.step sS60 ch72 trivial
        refine ⟨sS61, ?_⟩
        refine Wk.dOp 2 (by kernel_rfl) ?_
        have ow4 := Mur.own8_empty hb49 (Nat.le_refl _)
        refine Wk.oEx (some 35) _ rfl rfl (by kernel_rfl) (Mur.append8 (.tmp 33) (.tmp 34) 22 5 rfl Tryd.underlying22 (by kernel_rfl) W72.heap.size (some ⟨W72.heap.size, 0, none⟩) 0 0 ([]) (some ⟨q7, 0, none⟩) 64 64 (Mur.xorl 92 kx1) (by kernel_rfl) (by kernel_rfl) ow4.own (Mur.byt_blk (Mur.xorl 92 kx1) (by rw [Mur.xorl_length, hdl1]) (Wk.Chg.hp ch72 (Wk.Chg.hp ch71 (Wk.Chg.hp ch70 (Wk.Chg.hp ch69 (Wk.Chg.hp ch68 h7 trivial) trivial) ⟨by omega, trivial⟩) trivial) trivial)) (fun h => by cases h) (by omega) (by omega) 64 (by omega) (Mur.xorl 92 kx1) rfl) ?_
        rintro _ W74 ⟨AA3, nn3, rfl, ow5, ch73, ha3⟩
        have zz73 := ch73.size
        have hq5 := ow5.nc
        have hq6 := ow5.cm
        have sS62 := Wk.Chg.step sS61 ch73 (Wk.newOr_blk (fun g hg => by have := ow4.lt g hg; omega))
        refine ⟨sS62, ?_⟩
        refine Wk.dOp 4 (by kernel_rfl) ?_
        refine Wk.oEx (some 37) _ rfl rfl (by kernel_rfl) (Mur.append8 (.tmp 35) (.tmp 36) 22 5 rfl Tryd.underlying22 (by kernel_rfl) W72.heap.size AA3 64 nn3 (Mur.xorl 92 kx1) (some ⟨W69.heap.size, 0, none⟩) 32 32 dd1 (by kernel_rfl) (by kernel_rfl) ow5.own (Mur.byt_blk dd1 hdl2 (Wk.Chg.hp ch73 (Wk.Chg.hp ch72 (Wk.Chg.hp ch71 hb48 trivial) trivial) (Wk.off_blk (fun gz hgz => by have := ow4.lt gz hgz; omega)))) (fun h => by cases h) (by omega) (by omega) 96 (by omega) ((Mur.xorl 92 kx1) ++ dd1) rfl) ?_
        rintro _ W75 ⟨AA4, nn4, rfl, ow6, ch74, ha4⟩
        have zz74 := ch74.size
        have hq7 := ow6.nc
        have hq8 := ow6.cm
        have sS63 := Wk.Chg.step sS62 ch74 (Wk.newOr_blk (fun g hg => by have := ow5.lt g hg; omega))
        refine ⟨sS63, ?_⟩
        refine Wk.dOp 5 (by kernel_rfl) ?_
        refine Wk.oCall (some 38) 15 [.tmp 37] #[22] [.slice AA4 96 nn4] rfl rfl (by kernel_rfl) rfl (by kernel_rfl) (by kernel_rfl) ?_
        have kk9 := Wk.Chg.step HB ch68 trivial
        have kk10 := Wk.Chg.step kk9 ch69 trivial
        have kk11 := Wk.Chg.step kk10 ch70 ⟨.inr (by omega), trivial⟩
        have kk12 := Wk.Chg.step kk11 ch71 trivial
        have kk13 := Wk.Chg.step kk12 ch72 trivial
        have kk14 := Wk.Chg.step kk13 ch73 (Wk.newOr_blk (fun g hg => by have := ow4.lt g hg; omega))
        have kk15 := Wk.Chg.step kk14 ch74 (Wk.newOr_blk (fun g hg => by have := ow5.lt g hg; omega))
        refine (Sum_var ((Mur.xorl 92 kx1) ++ dd1) AA4 96 nn4 W75 (HV.out.below (Wk.Chg.below0 kk15)) ow6.byt (by omega) ow6.nil (by omega)).mono ?_
        rintro _ W76 ⟨dd2, hd3, hdl3, rfl, hB3⟩
        have ch75 := Wk.Chg.ofBelow hB3
        have zz75 := ch75.size
        have sS64 := Wk.Chg.step sS63 ch75 trivial
        refine ⟨_, rfl, sS64, ?_⟩
        refine Wk.dOp 6 (by kernel_rfl) ?_
        refine Wk.oExS none _ rfl rfl (by kernel_rfl) (Mur.storeAll 25 (.tmp 4) (.tmp 38) rfl w.heap.size (by kernel_rfl) dd2 32 hdl3 (by kernel_rfl) (by kernel_rfl) 25 #[.int .u8 0, .int .u8 0, .int .u8 0, .int .u8 0, .int .u8 0, .int .u8 0, .int .u8 0, .int .u8 0, .int .u8 0, .int .u8 0, .int .u8 0, .int .u8 0, .int .u8 0, .int .u8 0, .int .u8 0, .int .u8 0, .int .u8 0, .int .u8 0, .int .u8 0, .int .u8 0, .int .u8 0, .int .u8 0, .int .u8 0, .int .u8 0, .int .u8 0, .int .u8 0, .int .u8 0, .int .u8 0, .int .u8 0, .int .u8 0, .int .u8 0, .int .u8 0] (Wk.Chg.hp ch75 (Wk.Chg.hp ch74 (Wk.Chg.hp ch73 (Wk.Chg.hp ch72 (Wk.Chg.hp ch71 (Wk.Chg.hp ch70 (Wk.Chg.hp ch69 (Wk.Chg.hp ch68 hZ trivial) trivial) ⟨by omega, trivial⟩) trivial) trivial) (Wk.off_blk (fun gz hgz => by have := ow4.lt gz hgz; omega))) (Wk.off_blk (fun gz hgz => by have := ow5.lt gz hgz; omega))) trivial) rfl) ?_
        rintro W77 ⟨hb50, ch76⟩
        have zz76 := ch76.size
        have sS65 := Wk.Chg.step sS64 ch76 ⟨.inl (by simp), trivial⟩
        refine ⟨sS65, ?_⟩
        refine Wk.dEnd (by kernel_rfl) ?_
        refine Wk.nxt ?_
        refine wp_ret ?_
        have kk16 := Wk.Chg.step kk15 ch75 trivial
        have kk17 := Wk.Chg.step kk16 ch76 ⟨.inr (by omega), trivial⟩
        refine Wk.ret (.agg (b8s dd2).toArray) rfl (results_cell_row rfl _ _ w.heap.size 25 (b8s dd2).toArray (0, 0) _ (by kernel_rfl) hb50 Tryd.underlying25 rfl (by rw [List.size_toArray, Mur.b8s_length, hdl3]; kernel_rfl)) ?_
        exact ⟨_, Go.Lib.hid (by unfold Mur.hmac; rw [hd3.out, hd2.out, hfa, hd1.out]), hdl3, rfl, kk17⟩
end Go.Proofs.YtljfjjofhclhiaaDoor
