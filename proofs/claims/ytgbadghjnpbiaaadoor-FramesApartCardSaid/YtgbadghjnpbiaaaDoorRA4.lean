/- What the row rests on, part 4. -/
import Derived.Test.YtgbadghjnpbiaaaDoorRA3
namespace Go.Proofs.YtgbadghjnpbiaaaDoor
open Go.RowKit Wk
open Mur (b8s Byt Own8 Seg Segs flat cutA)
set_option maxRecDepth 100000
set_option maxHeartbeats 4000000
def Tag_J2_1 (b : Array Value) (u1 : Value) (u4 : Value) (u6 : Value) (u7 : Value) : Act := ⟨#[gd b 0, u1, gd b 2, gd b 3, u4, gd b 5, u6, u7, gd b 8, gd b 9, gd b 10, gd b 11, gd b 12, gd b 13, gd b 14, gd b 15, gd b 16, gd b 17, gd b 18, gd b 19, gd b 20, gd b 21, gd b 22, gd b 23, gd b 24, gd b 25, gd b 26, gd b 27, gd b 28, gd b 29, gd b 30, gd b 31, gd b 32, gd b 33, gd b 34, gd b 35, gd b 36, gd b 37, gd b 38], []⟩
def Tag_F1 (b : Array Value) (u4 : Value) (u7 : Value) (u8 : Value) (u21 : Value) (u22 : Value) (u23 : Value) : Act := ⟨#[gd b 0, gd b 1, gd b 2, gd b 3, u4, gd b 5, gd b 6, u7, u8, gd b 9, gd b 10, gd b 11, gd b 12, gd b 13, gd b 14, gd b 15, gd b 16, gd b 17, gd b 18, gd b 19, gd b 20, u21, u22, u23, gd b 24, gd b 25, gd b 26, gd b 27, gd b 28, gd b 29, gd b 30, gd b 31, gd b 32, gd b 33, gd b 34, gd b 35, gd b 36, gd b 37, gd b 38], []⟩
theorem Tag_any (s : List UInt8) (A : Option Addr) (n c : Nat) (L : List Seg) (PA : Option Addr) (pn pc : Nat) (w : World) (hv : ShaVars w) (hb : Byt w A n s) (hnc : n ≤ c) (ha : A = none → c = 0) (hn : n ≤ 140737488351232) (hl : Segs w PA pn L) (hpn : pn ≤ 9223372036854775807) (hf : (flat L).length ≤ 140737488351000) : Calls Tryd.prog 48 #[.slice A n c, .slice PA pn pc] w fun e w' => ∃ d, Hid (d = Mur.hmac s (flat L)) ∧ d.length = 32 ∧ e = .returned (.agg (b8s d).toArray) ∧ Chg [] w w' := by
 have HV := Go.Lib.hid hv
 clear hv
 have HBY := Go.Lib.hid hb
 clear hb
 have HA := Go.Lib.hid ha
 clear ha
 have HL := Go.Lib.hid hl
 clear hl
 refine calls_of_wp Tryd.func48 rfl ?_
 refine wp_seq (reg ?_)
 refine rX 0 4 rfl rfl (new_ex (pt w.heap.size 0) Z32 29 (by kernel_rfl)) ?_
 rintro _ W1 ⟨rfl, hb1, ch1, sz1⟩
 have zz1 := ch1.size
 refine rEnd 1 rfl (nxt (wp_seq (reg ?_)))
 refine rP 0 12 (.slice A n c) ?_
 refine rC 1 13 76 [.tmp 12] #[22] [.slice A n c] ?_
 have kk1 : Chg [] w W1 := Chg.step ((Chg.refl _).more (by simp)) ch1 trivial
 refine (key_any s A n c W1 (HV.out.below (Chg.below0 kk1)) (Mur.byt_chg HBY.out kk1 (fun g off e hl => trivial)) (by omega) HA.out (by omega)).mono ?_
 rintro _ W2 ⟨kx1, hd1, hdl1, rfl, ch2⟩
 have zz2 := ch2.size
 refine ⟨_, rfl, ?_⟩
 refine rX 2 5 rfl rfl (new_ex (pt W2.heap.size 0) Z64 129 (by kernel_rfl)) ?_
 rintro _ W3 ⟨rfl, hb2, ch3, sz2⟩
 have zz3 := ch3.size
 refine rY 3 rfl rfl (Mur.storeAll 129 (.tmp 5) (.tmp 13) rfl W2.heap.size (by kernel_rfl) kx1 64 hdl1 (by kernel_rfl) (by kernel_rfl) 129 Z64 hb2 rfl) ?_
 rintro W4 ⟨hb3, ch4⟩
 have zz4 := ch4.size
 refine rEnd 4 rfl (nxt (wp_seq ?_))
 refine Wk.cut (fun a wj => ∃ (q6 : Nat) (q7 : Nat), a = Tag_J2_1 a.tmps (.slice PA pn pc) (pt w.heap.size 0) (pt q6 0) (pt q7 0) ∧ Chg [] W4 wj ∧ wj.heap[q6]? = some (.cells (b8s (Mur.xorl 54 kx1)).toArray 129 (0, 0)) ∧ wj.heap[q7]? = some (.cells (b8s (Mur.xorl 92 kx1)).toArray 129 (0, 0)) ∧ W4.heap.size ≤ q6 ∧ W4.heap.size ≤ q7) ?_ ?_
 ·refine dReg ([]) (by kernel_rfl) ?_
  intro W5 ch5 sz3
  have zz5 := ch5.size
  have sS1 : Chg ([]) W5 W5 := (Chg.refl _).more (by simp)
  refine dV 0 14 (.agg ((b8s kx1).toArray)) rfl rfl (fun w' hw' => (Mur.loadAll 129 (.tmp 5) rfl _ Tryd.underlying129 rfl W2.heap.size (by kernel_rfl) kx1 64 hdl1 (by kernel_rfl) 129 (0, 0) (Chg.hp hw' (Chg.hp ch5 hb3 trivial) trivial))) sS1 ?_
  refine dV 2 16 (.agg ((b8s kx1).toArray)) rfl rfl (fun w' hw' => (Mur.loadAll 129 (.tmp 5) rfl _ Tryd.underlying129 rfl W2.heap.size (by kernel_rfl) kx1 64 hdl1 (by kernel_rfl) 129 (0, 0) (Chg.hp hw' (Chg.hp ch5 hb3 trivial) trivial))) sS1 ?_
  refine Wk.dOp3 1 4 5 (by kernel_rfl) ?_ ?_ ?_
  ·refine oCall (some 15) 77 [.tmp 14, .const (.int .u8 54)] #[129, 5] [.agg ((b8s kx1).toArray), .int .u8 54] rfl rfl (by kernel_rfl) rfl (by kernel_rfl) (by kernel_rfl) ?_
   refine (with_any 54 kx1 hdl1 W5).mono ?_
   rintro _ W6 ⟨rfl, ch6⟩
   have zz6 := ch6.size
   have sS2 := Chg.step sS1 ch6 trivial
   refine ⟨_, rfl, sS2, ?_⟩
   refine Wk.dOp3 3 4 5 (by kernel_rfl) ?_ ?_ ?_
   ·refine oCall (some 17) 77 [.tmp 16, .const (.int .u8 92)] #[129, 5] [.agg ((b8s kx1).toArray), .int .u8 92] rfl rfl (by kernel_rfl) rfl (by kernel_rfl) (by kernel_rfl) ?_
    refine (with_any 92 kx1 hdl1 W6).mono ?_
    rintro _ W7 ⟨rfl, ch7⟩
    have zz7 := ch7.size
    have sS3 := Chg.step sS2 ch7 trivial
    refine ⟨_, rfl, sS3, ?_⟩
    refine dOp2 4 5 (by kernel_rfl) ?_ ?_
    ·refine oEx (some 6) _ rfl rfl (by kernel_rfl) (new_ex (pt W7.heap.size 0) Z64 129 (by kernel_rfl)) ?_
     rintro _ W8 ⟨rfl, hb4, ch8, sz4⟩
     have zz8 := ch8.size
     have sS4 := Chg.step sS3 ch8 trivial
     refine ⟨sS4, ?_⟩
     refine dOp 5 (by kernel_rfl) ?_
     refine oEx (some 7) _ rfl rfl (by kernel_rfl) (new_ex (pt W8.heap.size 0) Z64 129 (by kernel_rfl)) ?_
     rintro _ W9 ⟨rfl, hb5, ch9, sz5⟩
     have zz9 := ch9.size
     have sS5 := Chg.step sS4 ch9 trivial
     refine ⟨sS5, ?_⟩
     refine dOp 6 (by kernel_rfl) ?_
     refine oExS none _ rfl rfl (by kernel_rfl) (Mur.storeAll 129 (.tmp 6) (.tmp 15) rfl W7.heap.size (by kernel_rfl) (Mur.xorl 54 kx1) 64 (by rw [Mur.xorl_length, hdl1]) (by kernel_rfl) (by kernel_rfl) 129 Z64 (Chg.hp ch9 hb4 trivial) rfl) ?_
     rintro W10 ⟨hb6, ch10⟩
     have zz10 := ch10.size
     have sS6 := Chg.step sS5 ch10 ⟨.inr (by omega), trivial⟩
     refine ⟨sS6, ?_⟩
     refine dOp 7 (by kernel_rfl) ?_
     refine oExS none _ rfl rfl (by kernel_rfl) (Mur.storeAll 129 (.tmp 7) (.tmp 17) rfl W8.heap.size (by kernel_rfl) (Mur.xorl 92 kx1) 64 (by rw [Mur.xorl_length, hdl1]) (by kernel_rfl) (by kernel_rfl) 129 Z64 (Chg.hp ch10 hb5 ⟨by omega, trivial⟩) rfl) ?_
     rintro W11 ⟨hb7, ch11⟩
     have zz11 := ch11.size
     have sS7 := Chg.step sS6 ch11 ⟨.inr (by omega), trivial⟩
     refine ⟨sS7, ?_⟩
     refine dEnd (by kernel_rfl) (nxt ?_)
     exact ⟨W7.heap.size, W8.heap.size, by kernel_rfl, (Chg.step (Chg.step (Chg.step (Chg.step (Chg.step (Chg.step (Chg.step ((Chg.refl _).more (by simp) : Chg [] W4 W4) ch5 trivial) ch6 trivial) ch7 trivial) ch8 trivial) ch9 trivial) ch10 ⟨.inr (by omega), trivial⟩) ch11 ⟨.inr (by omega), trivial⟩), (Chg.hp ch11 hb6 ⟨by omega, trivial⟩), hb7, ⟨by omega, by omega⟩⟩
    refine oEx (some 7) _ rfl rfl (by kernel_rfl) (new_ex (pt W7.heap.size 0) Z64 129 (by kernel_rfl)) ?_
    rintro _ W12 ⟨rfl, hb8, ch12, sz6⟩
    have zz12 := ch12.size
    have sS8 := Chg.step sS3 ch12 trivial
    refine ⟨sS8, ?_⟩
    refine dOp 4 (by kernel_rfl) ?_
    refine oEx (some 6) _ rfl rfl (by kernel_rfl) (new_ex (pt W12.heap.size 0) Z64 129 (by kernel_rfl)) ?_
    rintro _ W13 ⟨rfl, hb9, ch13, sz7⟩
    have zz13 := ch13.size
    have sS9 := Chg.step sS8 ch13 trivial
    refine ⟨sS9, ?_⟩
    refine dOp 6 (by kernel_rfl) ?_
    refine oExS none _ rfl rfl (by kernel_rfl) (Mur.storeAll 129 (.tmp 6) (.tmp 15) rfl W12.heap.size (by kernel_rfl) (Mur.xorl 54 kx1) 64 (by rw [Mur.xorl_length, hdl1]) (by kernel_rfl) (by kernel_rfl) 129 Z64 hb9 rfl) ?_
    rintro W14 ⟨hb10, ch14⟩
    have zz14 := ch14.size
    have sS10 := Chg.step sS9 ch14 ⟨.inr (by omega), trivial⟩
    refine ⟨sS10, ?_⟩
    refine dOp 7 (by kernel_rfl) ?_
    refine oExS none _ rfl rfl (by kernel_rfl) (Mur.storeAll 129 (.tmp 7) (.tmp 17) rfl W7.heap.size (by kernel_rfl) (Mur.xorl 92 kx1) 64 (by rw [Mur.xorl_length, hdl1]) (by kernel_rfl) (by kernel_rfl) 129 Z64 (Chg.hp ch14 (Chg.hp ch13 hb8 trivial) ⟨by omega, trivial⟩) rfl) ?_
    rintro W15 ⟨hb11, ch15⟩
    have zz15 := ch15.size
    have sS11 := Chg.step sS10 ch15 ⟨.inr (by omega), trivial⟩
    refine ⟨sS11, ?_⟩
    refine dEnd (by kernel_rfl) (nxt ?_)
    exact ⟨W12.heap.size, W7.heap.size, by kernel_rfl, (Chg.step (Chg.step (Chg.step (Chg.step (Chg.step (Chg.step (Chg.step ((Chg.refl _).more (by simp) : Chg [] W4 W4) ch5 trivial) ch6 trivial) ch7 trivial) ch12 trivial) ch13 trivial) ch14 ⟨.inr (by omega), trivial⟩) ch15 ⟨.inr (by omega), trivial⟩), (Chg.hp ch15 hb10 ⟨by omega, trivial⟩), hb11, ⟨by omega, by omega⟩⟩
   ·refine oEx (some 6) _ rfl rfl (by kernel_rfl) (new_ex (pt W6.heap.size 0) Z64 129 (by kernel_rfl)) ?_
    rintro _ W16 ⟨rfl, hb12, ch16, sz8⟩
    have zz16 := ch16.size
    have sS12 := Chg.step sS2 ch16 trivial
    refine ⟨sS12, ?_⟩
    refine dOp2 3 5 (by kernel_rfl) ?_ ?_
    ·refine oCall (some 17) 77 [.tmp 16, .const (.int .u8 92)] #[129, 5] [.agg ((b8s kx1).toArray), .int .u8 92] rfl rfl (by kernel_rfl) rfl (by kernel_rfl) (by kernel_rfl) ?_
     refine (with_any 92 kx1 hdl1 W16).mono ?_
     rintro _ W17 ⟨rfl, ch17⟩
     have zz17 := ch17.size
     have sS13 := Chg.step sS12 ch17 trivial
     refine ⟨_, rfl, sS13, ?_⟩
     refine dOp 5 (by kernel_rfl) ?_
     refine oEx (some 7) _ rfl rfl (by kernel_rfl) (new_ex (pt W17.heap.size 0) Z64 129 (by kernel_rfl)) ?_
     rintro _ W18 ⟨rfl, hb13, ch18, sz9⟩
     have zz18 := ch18.size
     have sS14 := Chg.step sS13 ch18 trivial
     refine ⟨sS14, ?_⟩
     refine dOp 6 (by kernel_rfl) ?_
     refine oExS none _ rfl rfl (by kernel_rfl) (Mur.storeAll 129 (.tmp 6) (.tmp 15) rfl W6.heap.size (by kernel_rfl) (Mur.xorl 54 kx1) 64 (by rw [Mur.xorl_length, hdl1]) (by kernel_rfl) (by kernel_rfl) 129 Z64 (Chg.hp ch18 (Chg.hp ch17 hb12 trivial) trivial) rfl) ?_
     rintro W19 ⟨hb14, ch19⟩
     have zz19 := ch19.size
     have sS15 := Chg.step sS14 ch19 ⟨.inr (by omega), trivial⟩
     refine ⟨sS15, ?_⟩
     refine dOp 7 (by kernel_rfl) ?_
     refine oExS none _ rfl rfl (by kernel_rfl) (Mur.storeAll 129 (.tmp 7) (.tmp 17) rfl W17.heap.size (by kernel_rfl) (Mur.xorl 92 kx1) 64 (by rw [Mur.xorl_length, hdl1]) (by kernel_rfl) (by kernel_rfl) 129 Z64 (Chg.hp ch19 hb13 ⟨by omega, trivial⟩) rfl) ?_
     rintro W20 ⟨hb15, ch20⟩
     have zz20 := ch20.size
     have sS16 := Chg.step sS15 ch20 ⟨.inr (by omega), trivial⟩
     refine ⟨sS16, ?_⟩
     refine dEnd (by kernel_rfl) (nxt ?_)
     exact ⟨W6.heap.size, W17.heap.size, by kernel_rfl, (Chg.step (Chg.step (Chg.step (Chg.step (Chg.step (Chg.step (Chg.step ((Chg.refl _).more (by simp) : Chg [] W4 W4) ch5 trivial) ch6 trivial) ch16 trivial) ch17 trivial) ch18 trivial) ch19 ⟨.inr (by omega), trivial⟩) ch20 ⟨.inr (by omega), trivial⟩), (Chg.hp ch20 hb14 ⟨by omega, trivial⟩), hb15, ⟨by omega, by omega⟩⟩
    refine oEx (some 7) _ rfl rfl (by kernel_rfl) (new_ex (pt W16.heap.size 0) Z64 129 (by kernel_rfl)) ?_
    rintro _ W21 ⟨rfl, hb16, ch21, sz10⟩
    have zz21 := ch21.size
    have sS17 := Chg.step sS12 ch21 trivial
    refine ⟨sS17, ?_⟩
    refine dOp 3 (by kernel_rfl) ?_
    refine oCall (some 17) 77 [.tmp 16, .const (.int .u8 92)] #[129, 5] [.agg ((b8s kx1).toArray), .int .u8 92] rfl rfl (by kernel_rfl) rfl (by kernel_rfl) (by kernel_rfl) ?_
    refine (with_any 92 kx1 hdl1 W21).mono ?_
    rintro _ W22 ⟨rfl, ch22⟩
    have zz22 := ch22.size
    have sS18 := Chg.step sS17 ch22 trivial
    refine ⟨_, rfl, sS18, ?_⟩
    refine dOp 6 (by kernel_rfl) ?_
    refine oExS none _ rfl rfl (by kernel_rfl) (Mur.storeAll 129 (.tmp 6) (.tmp 15) rfl W6.heap.size (by kernel_rfl) (Mur.xorl 54 kx1) 64 (by rw [Mur.xorl_length, hdl1]) (by kernel_rfl) (by kernel_rfl) 129 Z64 (Chg.hp ch22 (Chg.hp ch21 hb12 trivial) trivial) rfl) ?_
    rintro W23 ⟨hb17, ch23⟩
    have zz23 := ch23.size
    have sS19 := Chg.step sS18 ch23 ⟨.inr (by omega), trivial⟩
    refine ⟨sS19, ?_⟩
    refine dOp 7 (by kernel_rfl) ?_
    refine oExS none _ rfl rfl (by kernel_rfl) (Mur.storeAll 129 (.tmp 7) (.tmp 17) rfl W16.heap.size (by kernel_rfl) (Mur.xorl 92 kx1) 64 (by rw [Mur.xorl_length, hdl1]) (by kernel_rfl) (by kernel_rfl) 129 Z64 (Chg.hp ch23 (Chg.hp ch22 hb16 trivial) ⟨by omega, trivial⟩) rfl) ?_
    rintro W24 ⟨hb18, ch24⟩
    have zz24 := ch24.size
    have sS20 := Chg.step sS19 ch24 ⟨.inr (by omega), trivial⟩
    refine ⟨sS20, ?_⟩
    refine dEnd (by kernel_rfl) (nxt ?_)
    exact ⟨W6.heap.size, W16.heap.size, by kernel_rfl, (Chg.step (Chg.step (Chg.step (Chg.step (Chg.step (Chg.step (Chg.step ((Chg.refl _).more (by simp) : Chg [] W4 W4) ch5 trivial) ch6 trivial) ch16 trivial) ch21 trivial) ch22 trivial) ch23 ⟨.inr (by omega), trivial⟩) ch24 ⟨.inr (by omega), trivial⟩), (Chg.hp ch24 hb17 ⟨by omega, trivial⟩), hb18, ⟨by omega, by omega⟩⟩
   refine oEx (some 7) _ rfl rfl (by kernel_rfl) (new_ex (pt W6.heap.size 0) Z64 129 (by kernel_rfl)) ?_
   rintro _ W25 ⟨rfl, hb19, ch25, sz11⟩
   have zz25 := ch25.size
   have sS21 := Chg.step sS2 ch25 trivial
   refine ⟨sS21, ?_⟩
   refine dOp2 3 4 (by kernel_rfl) ?_ ?_
   ·refine oCall (some 17) 77 [.tmp 16, .const (.int .u8 92)] #[129, 5] [.agg ((b8s kx1).toArray), .int .u8 92] rfl rfl (by kernel_rfl) rfl (by kernel_rfl) (by kernel_rfl) ?_
    refine (with_any 92 kx1 hdl1 W25).mono ?_
    rintro _ W26 ⟨rfl, ch26⟩
    have zz26 := ch26.size
    have sS22 := Chg.step sS21 ch26 trivial
    refine ⟨_, rfl, sS22, ?_⟩
    refine dOp 4 (by kernel_rfl) ?_
    refine oEx (some 6) _ rfl rfl (by kernel_rfl) (new_ex (pt W26.heap.size 0) Z64 129 (by kernel_rfl)) ?_
    rintro _ W27 ⟨rfl, hb20, ch27, sz12⟩
    have zz27 := ch27.size
    have sS23 := Chg.step sS22 ch27 trivial
    refine ⟨sS23, ?_⟩
    refine dOp 6 (by kernel_rfl) ?_
    refine oExS none _ rfl rfl (by kernel_rfl) (Mur.storeAll 129 (.tmp 6) (.tmp 15) rfl W26.heap.size (by kernel_rfl) (Mur.xorl 54 kx1) 64 (by rw [Mur.xorl_length, hdl1]) (by kernel_rfl) (by kernel_rfl) 129 Z64 hb20 rfl) ?_
    rintro W28 ⟨hb21, ch28⟩
    have zz28 := ch28.size
    have sS24 := Chg.step sS23 ch28 ⟨.inr (by omega), trivial⟩
    refine ⟨sS24, ?_⟩
    refine dOp 7 (by kernel_rfl) ?_
    refine oExS none _ rfl rfl (by kernel_rfl) (Mur.storeAll 129 (.tmp 7) (.tmp 17) rfl W6.heap.size (by kernel_rfl) (Mur.xorl 92 kx1) 64 (by rw [Mur.xorl_length, hdl1]) (by kernel_rfl) (by kernel_rfl) 129 Z64 (Chg.hp ch28 (Chg.hp ch27 (Chg.hp ch26 hb19 trivial) trivial) ⟨by omega, trivial⟩) rfl) ?_
    rintro W29 ⟨hb22, ch29⟩
    have zz29 := ch29.size
    have sS25 := Chg.step sS24 ch29 ⟨.inr (by omega), trivial⟩
    refine ⟨sS25, ?_⟩
    refine dEnd (by kernel_rfl) (nxt ?_)
    exact ⟨W26.heap.size, W6.heap.size, by kernel_rfl, (Chg.step (Chg.step (Chg.step (Chg.step (Chg.step (Chg.step (Chg.step ((Chg.refl _).more (by simp) : Chg [] W4 W4) ch5 trivial) ch6 trivial) ch25 trivial) ch26 trivial) ch27 trivial) ch28 ⟨.inr (by omega), trivial⟩) ch29 ⟨.inr (by omega), trivial⟩), (Chg.hp ch29 hb21 ⟨by omega, trivial⟩), hb22, ⟨by omega, by omega⟩⟩
   refine oEx (some 6) _ rfl rfl (by kernel_rfl) (new_ex (pt W25.heap.size 0) Z64 129 (by kernel_rfl)) ?_
   rintro _ W30 ⟨rfl, hb23, ch30, sz13⟩
   have zz30 := ch30.size
   have sS26 := Chg.step sS21 ch30 trivial
   refine ⟨sS26, ?_⟩
   refine dOp 3 (by kernel_rfl) ?_
   refine oCall (some 17) 77 [.tmp 16, .const (.int .u8 92)] #[129, 5] [.agg ((b8s kx1).toArray), .int .u8 92] rfl rfl (by kernel_rfl) rfl (by kernel_rfl) (by kernel_rfl) ?_
   refine (with_any 92 kx1 hdl1 W30).mono ?_
   rintro _ W31 ⟨rfl, ch31⟩
   have zz31 := ch31.size
   have sS27 := Chg.step sS26 ch31 trivial
   refine ⟨_, rfl, sS27, ?_⟩
   refine dOp 6 (by kernel_rfl) ?_
   refine oExS none _ rfl rfl (by kernel_rfl) (Mur.storeAll 129 (.tmp 6) (.tmp 15) rfl W25.heap.size (by kernel_rfl) (Mur.xorl 54 kx1) 64 (by rw [Mur.xorl_length, hdl1]) (by kernel_rfl) (by kernel_rfl) 129 Z64 (Chg.hp ch31 hb23 trivial) rfl) ?_
   rintro W32 ⟨hb24, ch32⟩
   have zz32 := ch32.size
   have sS28 := Chg.step sS27 ch32 ⟨.inr (by omega), trivial⟩
   refine ⟨sS28, ?_⟩
   refine dOp 7 (by kernel_rfl) ?_
   refine oExS none _ rfl rfl (by kernel_rfl) (Mur.storeAll 129 (.tmp 7) (.tmp 17) rfl W6.heap.size (by kernel_rfl) (Mur.xorl 92 kx1) 64 (by rw [Mur.xorl_length, hdl1]) (by kernel_rfl) (by kernel_rfl) 129 Z64 (Chg.hp ch32 (Chg.hp ch31 (Chg.hp ch30 hb19 trivial) trivial) ⟨by omega, trivial⟩) rfl) ?_
   rintro W33 ⟨hb25, ch33⟩
   have zz33 := ch33.size
   have sS29 := Chg.step sS28 ch33 ⟨.inr (by omega), trivial⟩
   refine ⟨sS29, ?_⟩
   refine dEnd (by kernel_rfl) (nxt ?_)
   exact ⟨W25.heap.size, W6.heap.size, by kernel_rfl, (Chg.step (Chg.step (Chg.step (Chg.step (Chg.step (Chg.step (Chg.step ((Chg.refl _).more (by simp) : Chg [] W4 W4) ch5 trivial) ch6 trivial) ch25 trivial) ch30 trivial) ch31 trivial) ch32 ⟨.inr (by omega), trivial⟩) ch33 ⟨.inr (by omega), trivial⟩), (Chg.hp ch33 hb24 ⟨by omega, trivial⟩), hb25, ⟨by omega, by omega⟩⟩
  ·refine oEx (some 6) _ rfl rfl (by kernel_rfl) (new_ex (pt W5.heap.size 0) Z64 129 (by kernel_rfl)) ?_
   rintro _ W34 ⟨rfl, hb26, ch34, sz14⟩
   have zz34 := ch34.size
   have sS30 := Chg.step sS1 ch34 trivial
   refine ⟨sS30, ?_⟩
   refine dOp2 1 5 (by kernel_rfl) ?_ ?_
   ·refine oCall (some 15) 77 [.tmp 14, .const (.int .u8 54)] #[129, 5] [.agg ((b8s kx1).toArray), .int .u8 54] rfl rfl (by kernel_rfl) rfl (by kernel_rfl) (by kernel_rfl) ?_
    refine (with_any 54 kx1 hdl1 W34).mono ?_
    rintro _ W35 ⟨rfl, ch35⟩
    have zz35 := ch35.size
    have sS31 := Chg.step sS30 ch35 trivial
    refine ⟨_, rfl, sS31, ?_⟩
    refine dOp2 3 5 (by kernel_rfl) ?_ ?_
    ·refine oCall (some 17) 77 [.tmp 16, .const (.int .u8 92)] #[129, 5] [.agg ((b8s kx1).toArray), .int .u8 92] rfl rfl (by kernel_rfl) rfl (by kernel_rfl) (by kernel_rfl) ?_
     refine (with_any 92 kx1 hdl1 W35).mono ?_
     rintro _ W36 ⟨rfl, ch36⟩
     have zz36 := ch36.size
     have sS32 := Chg.step sS31 ch36 trivial
     refine ⟨_, rfl, sS32, ?_⟩
     refine dOp 5 (by kernel_rfl) ?_
     refine oEx (some 7) _ rfl rfl (by kernel_rfl) (new_ex (pt W36.heap.size 0) Z64 129 (by kernel_rfl)) ?_
     rintro _ W37 ⟨rfl, hb27, ch37, sz15⟩
     have zz37 := ch37.size
     have sS33 := Chg.step sS32 ch37 trivial
     refine ⟨sS33, ?_⟩
     refine dOp 6 (by kernel_rfl) ?_
     refine oExS none _ rfl rfl (by kernel_rfl) (Mur.storeAll 129 (.tmp 6) (.tmp 15) rfl W5.heap.size (by kernel_rfl) (Mur.xorl 54 kx1) 64 (by rw [Mur.xorl_length, hdl1]) (by kernel_rfl) (by kernel_rfl) 129 Z64 (Chg.hp ch37 (Chg.hp ch36 (Chg.hp ch35 hb26 trivial) trivial) trivial) rfl) ?_
     rintro W38 ⟨hb28, ch38⟩
     have zz38 := ch38.size
     have sS34 := Chg.step sS33 ch38 ⟨.inr (by omega), trivial⟩
     refine ⟨sS34, ?_⟩
     refine dOp 7 (by kernel_rfl) ?_
     refine oExS none _ rfl rfl (by kernel_rfl) (Mur.storeAll 129 (.tmp 7) (.tmp 17) rfl W36.heap.size (by kernel_rfl) (Mur.xorl 92 kx1) 64 (by rw [Mur.xorl_length, hdl1]) (by kernel_rfl) (by kernel_rfl) 129 Z64 (Chg.hp ch38 hb27 ⟨by omega, trivial⟩) rfl) ?_
     rintro W39 ⟨hb29, ch39⟩
     have zz39 := ch39.size
     have sS35 := Chg.step sS34 ch39 ⟨.inr (by omega), trivial⟩
     refine ⟨sS35, ?_⟩
     refine dEnd (by kernel_rfl) (nxt ?_)
     exact ⟨W5.heap.size, W36.heap.size, by kernel_rfl, (Chg.step (Chg.step (Chg.step (Chg.step (Chg.step (Chg.step (Chg.step ((Chg.refl _).more (by simp) : Chg [] W4 W4) ch5 trivial) ch34 trivial) ch35 trivial) ch36 trivial) ch37 trivial) ch38 ⟨.inr (by omega), trivial⟩) ch39 ⟨.inr (by omega), trivial⟩), (Chg.hp ch39 hb28 ⟨by omega, trivial⟩), hb29, ⟨by omega, by omega⟩⟩
    refine oEx (some 7) _ rfl rfl (by kernel_rfl) (new_ex (pt W35.heap.size 0) Z64 129 (by kernel_rfl)) ?_
    rintro _ W40 ⟨rfl, hb30, ch40, sz16⟩
    have zz40 := ch40.size
    have sS36 := Chg.step sS31 ch40 trivial
    refine ⟨sS36, ?_⟩
    refine dOp 3 (by kernel_rfl) ?_
    refine oCall (some 17) 77 [.tmp 16, .const (.int .u8 92)] #[129, 5] [.agg ((b8s kx1).toArray), .int .u8 92] rfl rfl (by kernel_rfl) rfl (by kernel_rfl) (by kernel_rfl) ?_
    refine (with_any 92 kx1 hdl1 W40).mono ?_
    rintro _ W41 ⟨rfl, ch41⟩
    have zz41 := ch41.size
    have sS37 := Chg.step sS36 ch41 trivial
    refine ⟨_, rfl, sS37, ?_⟩
    refine dOp 6 (by kernel_rfl) ?_
    refine oExS none _ rfl rfl (by kernel_rfl) (Mur.storeAll 129 (.tmp 6) (.tmp 15) rfl W5.heap.size (by kernel_rfl) (Mur.xorl 54 kx1) 64 (by rw [Mur.xorl_length, hdl1]) (by kernel_rfl) (by kernel_rfl) 129 Z64 (Chg.hp ch41 (Chg.hp ch40 (Chg.hp ch35 hb26 trivial) trivial) trivial) rfl) ?_
    rintro W42 ⟨hb31, ch42⟩
    have zz42 := ch42.size
    have sS38 := Chg.step sS37 ch42 ⟨.inr (by omega), trivial⟩
    refine ⟨sS38, ?_⟩
    refine dOp 7 (by kernel_rfl) ?_
    refine oExS none _ rfl rfl (by kernel_rfl) (Mur.storeAll 129 (.tmp 7) (.tmp 17) rfl W35.heap.size (by kernel_rfl) (Mur.xorl 92 kx1) 64 (by rw [Mur.xorl_length, hdl1]) (by kernel_rfl) (by kernel_rfl) 129 Z64 (Chg.hp ch42 (Chg.hp ch41 hb30 trivial) ⟨by omega, trivial⟩) rfl) ?_
    rintro W43 ⟨hb32, ch43⟩
    have zz43 := ch43.size
    have sS39 := Chg.step sS38 ch43 ⟨.inr (by omega), trivial⟩
    refine ⟨sS39, ?_⟩
    refine dEnd (by kernel_rfl) (nxt ?_)
    exact ⟨W5.heap.size, W35.heap.size, by kernel_rfl, (Chg.step (Chg.step (Chg.step (Chg.step (Chg.step (Chg.step (Chg.step ((Chg.refl _).more (by simp) : Chg [] W4 W4) ch5 trivial) ch34 trivial) ch35 trivial) ch40 trivial) ch41 trivial) ch42 ⟨.inr (by omega), trivial⟩) ch43 ⟨.inr (by omega), trivial⟩), (Chg.hp ch43 hb31 ⟨by omega, trivial⟩), hb32, ⟨by omega, by omega⟩⟩
   refine oEx (some 7) _ rfl rfl (by kernel_rfl) (new_ex (pt W34.heap.size 0) Z64 129 (by kernel_rfl)) ?_
   rintro _ W44 ⟨rfl, hb33, ch44, sz17⟩
   have zz44 := ch44.size
   have sS40 := Chg.step sS30 ch44 trivial
   refine ⟨sS40, ?_⟩
   refine dOp 1 (by kernel_rfl) ?_
   refine oCall (some 15) 77 [.tmp 14, .const (.int .u8 54)] #[129, 5] [.agg ((b8s kx1).toArray), .int .u8 54] rfl rfl (by kernel_rfl) rfl (by kernel_rfl) (by kernel_rfl) ?_
   refine (with_any 54 kx1 hdl1 W44).mono ?_
   rintro _ W45 ⟨rfl, ch45⟩
   have zz45 := ch45.size
   have sS41 := Chg.step sS40 ch45 trivial
   refine ⟨_, rfl, sS41, ?_⟩
   refine dOp 3 (by kernel_rfl) ?_
   refine oCall (some 17) 77 [.tmp 16, .const (.int .u8 92)] #[129, 5] [.agg ((b8s kx1).toArray), .int .u8 92] rfl rfl (by kernel_rfl) rfl (by kernel_rfl) (by kernel_rfl) ?_
   refine (with_any 92 kx1 hdl1 W45).mono ?_
   rintro _ W46 ⟨rfl, ch46⟩
   have zz46 := ch46.size
   have sS42 := Chg.step sS41 ch46 trivial
   refine ⟨_, rfl, sS42, ?_⟩
   refine dOp 6 (by kernel_rfl) ?_
   refine oExS none _ rfl rfl (by kernel_rfl) (Mur.storeAll 129 (.tmp 6) (.tmp 15) rfl W5.heap.size (by kernel_rfl) (Mur.xorl 54 kx1) 64 (by rw [Mur.xorl_length, hdl1]) (by kernel_rfl) (by kernel_rfl) 129 Z64 (Chg.hp ch46 (Chg.hp ch45 (Chg.hp ch44 hb26 trivial) trivial) trivial) rfl) ?_
   rintro W47 ⟨hb34, ch47⟩
   have zz47 := ch47.size
   have sS43 := Chg.step sS42 ch47 ⟨.inr (by omega), trivial⟩
   refine ⟨sS43, ?_⟩
   refine dOp 7 (by kernel_rfl) ?_
   refine oExS none _ rfl rfl (by kernel_rfl) (Mur.storeAll 129 (.tmp 7) (.tmp 17) rfl W34.heap.size (by kernel_rfl) (Mur.xorl 92 kx1) 64 (by rw [Mur.xorl_length, hdl1]) (by kernel_rfl) (by kernel_rfl) 129 Z64 (Chg.hp ch47 (Chg.hp ch46 (Chg.hp ch45 hb33 trivial) trivial) ⟨by omega, trivial⟩) rfl) ?_
   rintro W48 ⟨hb35, ch48⟩
   have zz48 := ch48.size
   have sS44 := Chg.step sS43 ch48 ⟨.inr (by omega), trivial⟩
   refine ⟨sS44, ?_⟩
   refine dEnd (by kernel_rfl) (nxt ?_)
   exact ⟨W5.heap.size, W34.heap.size, by kernel_rfl, (Chg.step (Chg.step (Chg.step (Chg.step (Chg.step (Chg.step (Chg.step ((Chg.refl _).more (by simp) : Chg [] W4 W4) ch5 trivial) ch34 trivial) ch44 trivial) ch45 trivial) ch46 trivial) ch47 ⟨.inr (by omega), trivial⟩) ch48 ⟨.inr (by omega), trivial⟩), (Chg.hp ch48 hb34 ⟨by omega, trivial⟩), hb35, ⟨by omega, by omega⟩⟩
  refine oEx (some 7) _ rfl rfl (by kernel_rfl) (new_ex (pt W5.heap.size 0) Z64 129 (by kernel_rfl)) ?_
  rintro _ W49 ⟨rfl, hb36, ch49, sz18⟩
  have zz49 := ch49.size
  have sS45 := Chg.step sS1 ch49 trivial
  refine ⟨sS45, ?_⟩
  refine dOp2 1 4 (by kernel_rfl) ?_ ?_
  ·refine oCall (some 15) 77 [.tmp 14, .const (.int .u8 54)] #[129, 5] [.agg ((b8s kx1).toArray), .int .u8 54] rfl rfl (by kernel_rfl) rfl (by kernel_rfl) (by kernel_rfl) ?_
   refine (with_any 54 kx1 hdl1 W49).mono ?_
   rintro _ W50 ⟨rfl, ch50⟩
   have zz50 := ch50.size
   have sS46 := Chg.step sS45 ch50 trivial
   refine ⟨_, rfl, sS46, ?_⟩
   refine dOp2 3 4 (by kernel_rfl) ?_ ?_
   ·refine oCall (some 17) 77 [.tmp 16, .const (.int .u8 92)] #[129, 5] [.agg ((b8s kx1).toArray), .int .u8 92] rfl rfl (by kernel_rfl) rfl (by kernel_rfl) (by kernel_rfl) ?_
    refine (with_any 92 kx1 hdl1 W50).mono ?_
    rintro _ W51 ⟨rfl, ch51⟩
    have zz51 := ch51.size
    have sS47 := Chg.step sS46 ch51 trivial
    refine ⟨_, rfl, sS47, ?_⟩
    refine dOp 4 (by kernel_rfl) ?_
    refine oEx (some 6) _ rfl rfl (by kernel_rfl) (new_ex (pt W51.heap.size 0) Z64 129 (by kernel_rfl)) ?_
    rintro _ W52 ⟨rfl, hb37, ch52, sz19⟩
    have zz52 := ch52.size
    have sS48 := Chg.step sS47 ch52 trivial
    refine ⟨sS48, ?_⟩
    refine dOp 6 (by kernel_rfl) ?_
    refine oExS none _ rfl rfl (by kernel_rfl) (Mur.storeAll 129 (.tmp 6) (.tmp 15) rfl W51.heap.size (by kernel_rfl) (Mur.xorl 54 kx1) 64 (by rw [Mur.xorl_length, hdl1]) (by kernel_rfl) (by kernel_rfl) 129 Z64 hb37 rfl) ?_
    rintro W53 ⟨hb38, ch53⟩
    have zz53 := ch53.size
    have sS49 := Chg.step sS48 ch53 ⟨.inr (by omega), trivial⟩
    refine ⟨sS49, ?_⟩
    refine dOp 7 (by kernel_rfl) ?_
    refine oExS none _ rfl rfl (by kernel_rfl) (Mur.storeAll 129 (.tmp 7) (.tmp 17) rfl W5.heap.size (by kernel_rfl) (Mur.xorl 92 kx1) 64 (by rw [Mur.xorl_length, hdl1]) (by kernel_rfl) (by kernel_rfl) 129 Z64 (Chg.hp ch53 (Chg.hp ch52 (Chg.hp ch51 (Chg.hp ch50 hb36 trivial) trivial) trivial) ⟨by omega, trivial⟩) rfl) ?_
    rintro W54 ⟨hb39, ch54⟩
    have zz54 := ch54.size
    have sS50 := Chg.step sS49 ch54 ⟨.inr (by omega), trivial⟩
    refine ⟨sS50, ?_⟩
    refine dEnd (by kernel_rfl) (nxt ?_)
    exact ⟨W51.heap.size, W5.heap.size, by kernel_rfl, (Chg.step (Chg.step (Chg.step (Chg.step (Chg.step (Chg.step (Chg.step ((Chg.refl _).more (by simp) : Chg [] W4 W4) ch5 trivial) ch49 trivial) ch50 trivial) ch51 trivial) ch52 trivial) ch53 ⟨.inr (by omega), trivial⟩) ch54 ⟨.inr (by omega), trivial⟩), (Chg.hp ch54 hb38 ⟨by omega, trivial⟩), hb39, ⟨by omega, by omega⟩⟩
   refine oEx (some 6) _ rfl rfl (by kernel_rfl) (new_ex (pt W50.heap.size 0) Z64 129 (by kernel_rfl)) ?_
   rintro _ W55 ⟨rfl, hb40, ch55, sz20⟩
   have zz55 := ch55.size
   have sS51 := Chg.step sS46 ch55 trivial
   refine ⟨sS51, ?_⟩
   refine dOp 3 (by kernel_rfl) ?_
   refine oCall (some 17) 77 [.tmp 16, .const (.int .u8 92)] #[129, 5] [.agg ((b8s kx1).toArray), .int .u8 92] rfl rfl (by kernel_rfl) rfl (by kernel_rfl) (by kernel_rfl) ?_
   refine (with_any 92 kx1 hdl1 W55).mono ?_
   rintro _ W56 ⟨rfl, ch56⟩
   have zz56 := ch56.size
   have sS52 := Chg.step sS51 ch56 trivial
   refine ⟨_, rfl, sS52, ?_⟩
   refine dOp 6 (by kernel_rfl) ?_
   refine oExS none _ rfl rfl (by kernel_rfl) (Mur.storeAll 129 (.tmp 6) (.tmp 15) rfl W50.heap.size (by kernel_rfl) (Mur.xorl 54 kx1) 64 (by rw [Mur.xorl_length, hdl1]) (by kernel_rfl) (by kernel_rfl) 129 Z64 (Chg.hp ch56 hb40 trivial) rfl) ?_
   rintro W57 ⟨hb41, ch57⟩
   have zz57 := ch57.size
   have sS53 := Chg.step sS52 ch57 ⟨.inr (by omega), trivial⟩
   refine ⟨sS53, ?_⟩
   refine dOp 7 (by kernel_rfl) ?_
   refine oExS none _ rfl rfl (by kernel_rfl) (Mur.storeAll 129 (.tmp 7) (.tmp 17) rfl W5.heap.size (by kernel_rfl) (Mur.xorl 92 kx1) 64 (by rw [Mur.xorl_length, hdl1]) (by kernel_rfl) (by kernel_rfl) 129 Z64 (Chg.hp ch57 (Chg.hp ch56 (Chg.hp ch55 (Chg.hp ch50 hb36 trivial) trivial) trivial) ⟨by omega, trivial⟩) rfl) ?_
   rintro W58 ⟨hb42, ch58⟩
   have zz58 := ch58.size
   have sS54 := Chg.step sS53 ch58 ⟨.inr (by omega), trivial⟩
   refine ⟨sS54, ?_⟩
   refine dEnd (by kernel_rfl) (nxt ?_)
   exact ⟨W50.heap.size, W5.heap.size, by kernel_rfl, (Chg.step (Chg.step (Chg.step (Chg.step (Chg.step (Chg.step (Chg.step ((Chg.refl _).more (by simp) : Chg [] W4 W4) ch5 trivial) ch49 trivial) ch50 trivial) ch55 trivial) ch56 trivial) ch57 ⟨.inr (by omega), trivial⟩) ch58 ⟨.inr (by omega), trivial⟩), (Chg.hp ch58 hb41 ⟨by omega, trivial⟩), hb42, ⟨by omega, by omega⟩⟩
  refine oEx (some 6) _ rfl rfl (by kernel_rfl) (new_ex (pt W49.heap.size 0) Z64 129 (by kernel_rfl)) ?_
  rintro _ W59 ⟨rfl, hb43, ch59, sz21⟩
  have zz59 := ch59.size
  have sS55 := Chg.step sS45 ch59 trivial
  refine ⟨sS55, ?_⟩
  refine dOp 1 (by kernel_rfl) ?_
  refine oCall (some 15) 77 [.tmp 14, .const (.int .u8 54)] #[129, 5] [.agg ((b8s kx1).toArray), .int .u8 54] rfl rfl (by kernel_rfl) rfl (by kernel_rfl) (by kernel_rfl) ?_
  refine (with_any 54 kx1 hdl1 W59).mono ?_
  rintro _ W60 ⟨rfl, ch60⟩
  have zz60 := ch60.size
  have sS56 := Chg.step sS55 ch60 trivial
  refine ⟨_, rfl, sS56, ?_⟩
  refine dOp 3 (by kernel_rfl) ?_
  refine oCall (some 17) 77 [.tmp 16, .const (.int .u8 92)] #[129, 5] [.agg ((b8s kx1).toArray), .int .u8 92] rfl rfl (by kernel_rfl) rfl (by kernel_rfl) (by kernel_rfl) ?_
  refine (with_any 92 kx1 hdl1 W60).mono ?_
  rintro _ W61 ⟨rfl, ch61⟩
  have zz61 := ch61.size
  have sS57 := Chg.step sS56 ch61 trivial
  refine ⟨_, rfl, sS57, ?_⟩
  refine dOp 6 (by kernel_rfl) ?_
  refine oExS none _ rfl rfl (by kernel_rfl) (Mur.storeAll 129 (.tmp 6) (.tmp 15) rfl W49.heap.size (by kernel_rfl) (Mur.xorl 54 kx1) 64 (by rw [Mur.xorl_length, hdl1]) (by kernel_rfl) (by kernel_rfl) 129 Z64 (Chg.hp ch61 (Chg.hp ch60 hb43 trivial) trivial) rfl) ?_
  rintro W62 ⟨hb44, ch62⟩
  have zz62 := ch62.size
  have sS58 := Chg.step sS57 ch62 ⟨.inr (by omega), trivial⟩
  refine ⟨sS58, ?_⟩
  refine dOp 7 (by kernel_rfl) ?_
  refine oExS none _ rfl rfl (by kernel_rfl) (Mur.storeAll 129 (.tmp 7) (.tmp 17) rfl W5.heap.size (by kernel_rfl) (Mur.xorl 92 kx1) 64 (by rw [Mur.xorl_length, hdl1]) (by kernel_rfl) (by kernel_rfl) 129 Z64 (Chg.hp ch62 (Chg.hp ch61 (Chg.hp ch60 (Chg.hp ch59 hb36 trivial) trivial) trivial) ⟨by omega, trivial⟩) rfl) ?_
  rintro W63 ⟨hb45, ch63⟩
  have zz63 := ch63.size
  have sS59 := Chg.step sS58 ch63 ⟨.inr (by omega), trivial⟩
  refine ⟨sS59, ?_⟩
  refine dEnd (by kernel_rfl) (nxt ?_)
  exact ⟨W49.heap.size, W5.heap.size, by kernel_rfl, (Chg.step (Chg.step (Chg.step (Chg.step (Chg.step (Chg.step (Chg.step ((Chg.refl _).more (by simp) : Chg [] W4 W4) ch5 trivial) ch49 trivial) ch59 trivial) ch60 trivial) ch61 trivial) ch62 ⟨.inr (by omega), trivial⟩) ch63 ⟨.inr (by omega), trivial⟩), (Chg.hp ch63 hb44 ⟨by omega, trivial⟩), hb45, ⟨by omega, by omega⟩⟩
 rintro aa1 W64 ⟨q6, q7, hF1, ch64, hq6, hq7, hqb⟩
 have zz64 := ch64.size
 generalize aa1.tmps = bb1 at hF1
 subst hF1
 have hlq6 := (Array.getElem?_eq_some_iff.1 hq6).1
 have hlq7 := (Array.getElem?_eq_some_iff.1 hq7).1
 refine nxt (wp_seq (reg ?_))
 refine rX 0 18 rfl rfl (new_ex (.slice (some ⟨W64.heap.size, 0, none⟩) 0 0) #[] 5 (by kernel_rfl)) ?_
 rintro _ W65 ⟨rfl, hb46, ch65, sz22⟩
 have zz65 := ch65.size
 refine rQ 1 19 (.slice (some ⟨q6, 0, none⟩) 64 64) rfl rfl (Mur.arr_slice 129 5 (.tmp 6) 64 rfl Tryd.underlying129 (by kernel_rfl) q6 (by kernel_rfl)) ?_
 have ow1 := Mur.own8_empty hb46 (Nat.le_refl _)
 refine rX 2 20 rfl rfl (Mur.append8 (.tmp 18) (.tmp 19) 22 5 rfl Tryd.underlying22 (by kernel_rfl) W64.heap.size (some ⟨W64.heap.size, 0, none⟩) 0 0 ([]) (some ⟨q6, 0, none⟩) 64 64 (Mur.xorl 54 kx1) (by kernel_rfl) (by kernel_rfl) ow1.own (Mur.byt_blk (Mur.xorl 54 kx1) (by rw [Mur.xorl_length, hdl1]) (Chg.hp ch65 hq6 trivial)) (fun h => by cases h) (by omega) (by omega) 64 (by omega) (Mur.xorl 54 kx1) rfl) ?_
 rintro _ W66 ⟨AA1, nn1, rfl, ow2, ch66, ha1⟩
 have zz66 := ch66.size
 have hq1 := ow2.nc
 have hq2 := ow2.cm
 refine rP 3 8 (.slice AA1 64 nn1) ?_
 refine rEnd 4 rfl (nxt (wp_seq (wp_seq (reg ?_))))
 refine rP 0 21 (.slice PA pn pc) ?_
 refine rP 1 22 (.int .i64 ((pn : Nat) : Int)) ?_
 refine rP 2 23 (.int .i64 0) ?_
 refine rEnd 3 rfl (nxt (wp_block ?_))
 refine Wk.loop (fun m_ a wr => ∃ (k : Nat) (A1 : Option Addr) (N : Nat) (c1 : Nat), m_ = pn - k ∧ a = Tag_F1 a.tmps (pt w.heap.size 0) (pt q7 0) (.slice A1 N c1) (.slice PA pn pc) (.int .i64 ((pn : Nat) : Int)) (.int .i64 ((k : Nat) : Int)) ∧ k ≤ pn ∧ Own8 wr W64.heap.size 5 A1 N c1 (Mur.xorl 54 kx1 ++ flat (L.take k)) ∧ N = 64 + (flat (L.take k)).length ∧ wr.heap[q7]? = some (.cells (b8s (Mur.xorl 92 kx1)).toArray 129 (0, 0)) ∧ wr.heap[w.heap.size]? = some (.cells Z32 29 (0, 0)) ∧ Chg [] w wr ∧ W64.heap.size ≤ wr.heap.size) (pn - 0) ?_ ?_
 ·have kk2 := Chg.step kk1 ch2 trivial
  have kk3 := Chg.step kk2 ch3 trivial
  have kk4 := Chg.step kk3 ch4 ⟨.inr (by omega), trivial⟩
  have kk5 := Chg.step kk4 ch64 trivial
  have kk6 := Chg.step kk5 ch65 trivial
  have kk7 := Chg.step kk6 ch66 (newOr_blk (fun g hg => by have := ow1.lt g hg; omega))
  refine ⟨0, AA1, 64, nn1, rfl, by kernel_rfl, by omega, (by rw [List.take_zero, show flat [] = [] from rfl, List.append_nil]; exact ow2), by rw [List.take_zero]; rfl, (Chg.hp ch66 (Chg.hp ch65 hq7 trivial) (off_blk (fun gz hgz => by have := ow1.lt gz hgz; omega))), (Chg.hp ch66 (Chg.hp ch65 (Chg.hp ch64 (Chg.hp ch4 (Chg.hp ch3 (Chg.hp ch2 hb1 trivial) trivial) ⟨by omega, trivial⟩) trivial) trivial) (off_blk (fun gz hgz => by have := ow1.lt gz hgz; omega))), kk7, (by omega)⟩
 rintro mm1 aa2 W67 ⟨k, A1, N, c1, hmm1, hF2, hi, hO, hN, h7, hZ, HB, hbs⟩
 generalize aa2.tmps = bb2 at hF2
 subst hF2
 have hqn := hO.nc
 have hqm := hO.cm
 unfold Go.maxLen at hqm
 by_cases hlt : k < pn
 ·obtain ⟨g, off, As, ns, cs, ls, rfl, hg, hcell, hby, hsn, hsc, hsnil, hfl, hfle⟩ := HL.out.at hlt
  refine wp_seq (reg ?_)
  refine rQ 0 24 _ rfl rfl (qboolT (b := decide (((k : Nat) : Int) < ((pn : Nat) : Int))) (decide_eq_true (by omega))) ?_
  refine rEnd 1 rfl (nxt (wp_seq (wp_cond_true (by kernel_rfl) (wp_skip (nxt (wp_seq (wp_block (wp_seq (reg ?_)))))))))
  refine rQ 0 25 (pt g (off + k * 1)) rfl rfl (index_sl 127 22 (.tmp 21) (.tmp 23) rfl Tryd.underlying127 1 (by kernel_rfl) g off pn pc k .i64 (by kernel_rfl) (by kernel_rfl) (by omega)) ?_
  refine rQ 1 26 _ rfl rfl (ld 22 25 g (off + k * 1) (.slice As ns cs) (Chg.cell HB hcell trivial)) ?_
  refine rP 2 10 (.slice As ns cs) ?_
  refine rEnd 3 rfl (nxt (reg ?_))
  refine rP 0 27 (.slice A1 N c1) ?_
  refine rP 1 28 (.slice As ns cs) ?_
  refine rX 2 29 rfl rfl (Mur.append8 (.tmp 27) (.tmp 28) 22 5 rfl Tryd.underlying22 (by kernel_rfl) W64.heap.size A1 N c1 (Mur.xorl 54 kx1 ++ flat (L.take k)) As ns cs ls (by kernel_rfl) (by kernel_rfl) hO.own (Mur.byt_chg hby HB (fun g off e hl => trivial)) hsnil (by omega) (by omega) (N + ns) (by omega) ((Mur.xorl 54 kx1 ++ flat (L.take k)) ++ ls) rfl) ?_
  rintro _ W68 ⟨AA2, nn2, rfl, ow3, ch67, ha2⟩
  have zz67 := ch67.size
  have hq3 := ow3.nc
  have hq4 := ow3.cm
  refine rP 3 8 (.slice AA2 (N + ns) nn2) ?_
  refine rEnd 4 rfl (inN (nxt (reg ?_)))
  refine rQ 0 30 _ rfl rfl (qint64 (n := ((k : Nat) : Int) + 1) (z := ((k + 1 : Nat) : Int)) (by omega) (by omega) (by omega)) ?_
  refine rP 1 23 (.int .i64 ((k + 1 : Nat) : Int)) ?_
  refine rEnd 2 rfl (nxt ?_)
  have kk8 := Chg.step HB ch67 (newOr_blk (fun g hg => by have := hO.lt g hg; omega))
  refine ⟨_, ?_, k + 1, AA2, N + ns, nn2, rfl, by kernel_rfl, (by omega), (by rw [hfl, ← List.append_assoc]; exact ow3), (by rw [hfl, List.length_append]; have := hby.1; omega), (Chg.hp ch67 h7 (off_blk (fun gz hgz => by have := hO.lt gz hgz; omega))), (Chg.hp ch67 hZ (off_blk (fun gz hgz => by have := hO.lt gz hgz; omega))), kk8, (by omega)⟩
  omega
 have hfa : flat (L.take k) = flat L := by rw [show k = pn by omega]; exact Mur.flat_all HL.out.len
 have hfl := congrArg List.length hfa
 refine wp_seq (reg ?_)
 refine rQ 0 24 _ rfl rfl (qboolF (b := decide (((k : Nat) : Int) < ((pn : Nat) : Int))) (decide_eq_false (by omega))) ?_
 refine rEnd 1 rfl (nxt (wp_seq (wp_cond_false (by kernel_rfl) (wp_exit (thX (thX (inX (nxt (wp_seq (reg ?_))))))))))
 refine rP 0 31 (.slice A1 N c1) ?_
 refine rC 1 32 78 [.tmp 31] #[22] [.slice A1 N c1] ?_
 refine (Sum_var (Mur.xorl 54 kx1 ++ flat (L.take k)) A1 N c1 W67 (HV.out.below (Chg.below0 HB)) hO.byt (by omega) hO.nil (by omega)).mono ?_
 rintro _ W69 ⟨dd1, hd2, hdl2, rfl, hB2⟩
 have ch68 := Chg.ofBelow hB2
 have zz68 := ch68.size
 refine ⟨_, rfl, ?_⟩
 refine rX 2 11 rfl rfl (new_ex (pt W69.heap.size 0) Z32 29 (by kernel_rfl)) ?_
 rintro _ W70 ⟨rfl, hb47, ch69, sz23⟩
 have zz69 := ch69.size
 refine rY 3 rfl rfl (Mur.storeAll 29 (.tmp 11) (.tmp 32) rfl W69.heap.size (by kernel_rfl) dd1 32 hdl2 (by kernel_rfl) (by kernel_rfl) 29 Z32 hb47 rfl) ?_
 rintro W71 ⟨hb48, ch70⟩
 have zz70 := ch70.size
 refine rEnd 4 rfl (nxt (wp_seq ?_))
 refine dReg ([w.heap.size]) (by kernel_rfl) ?_
 intro W72 ch71 sz24
 have zz71 := ch71.size
 have sS60 : Chg ([w.heap.size]) W72 W72 := (Chg.refl _).more (by simp)
 refine dV 1 34 (.slice (some ⟨q7, 0, none⟩) 64 64) rfl rfl (fun w' hw' => (Mur.arr_slice 129 5 (.tmp 7) 64 rfl Tryd.underlying129 (by kernel_rfl) q7 (by kernel_rfl))) sS60 ?_
 refine dV 3 36 (.slice (some ⟨W69.heap.size, 0, none⟩) 32 32) rfl rfl (fun w' hw' => (Mur.arr_slice 29 5 (.tmp 11) 32 rfl Tryd.underlying29 (by kernel_rfl) W69.heap.size (by kernel_rfl))) sS60 ?_
 refine dOp 0 (by kernel_rfl) ?_
 refine oEx (some 33) _ rfl rfl (by kernel_rfl) (new_ex (.slice (some ⟨W72.heap.size, 0, none⟩) 0 0) #[] 5 (by kernel_rfl)) ?_
 rintro _ W73 ⟨rfl, hb49, ch72, sz25⟩
 have zz72 := ch72.size
 have sS61 := Chg.step sS60 ch72 trivial
 refine ⟨sS61, ?_⟩
 refine dOp 2 (by kernel_rfl) ?_
 have ow4 := Mur.own8_empty hb49 (Nat.le_refl _)
 refine oEx (some 35) _ rfl rfl (by kernel_rfl) (Mur.append8 (.tmp 33) (.tmp 34) 22 5 rfl Tryd.underlying22 (by kernel_rfl) W72.heap.size (some ⟨W72.heap.size, 0, none⟩) 0 0 ([]) (some ⟨q7, 0, none⟩) 64 64 (Mur.xorl 92 kx1) (by kernel_rfl) (by kernel_rfl) ow4.own (Mur.byt_blk (Mur.xorl 92 kx1) (by rw [Mur.xorl_length, hdl1]) (Chg.hp ch72 (Chg.hp ch71 (Chg.hp ch70 (Chg.hp ch69 (Chg.hp ch68 h7 trivial) trivial) ⟨by omega, trivial⟩) trivial) trivial)) (fun h => by cases h) (by omega) (by omega) 64 (by omega) (Mur.xorl 92 kx1) rfl) ?_
 rintro _ W74 ⟨AA3, nn3, rfl, ow5, ch73, ha3⟩
 have zz73 := ch73.size
 have hq5 := ow5.nc
 have hq6 := ow5.cm
 have sS62 := Chg.step sS61 ch73 (newOr_blk (fun g hg => by have := ow4.lt g hg; omega))
 refine ⟨sS62, ?_⟩
 refine dOp 4 (by kernel_rfl) ?_
 refine oEx (some 37) _ rfl rfl (by kernel_rfl) (Mur.append8 (.tmp 35) (.tmp 36) 22 5 rfl Tryd.underlying22 (by kernel_rfl) W72.heap.size AA3 64 nn3 (Mur.xorl 92 kx1) (some ⟨W69.heap.size, 0, none⟩) 32 32 dd1 (by kernel_rfl) (by kernel_rfl) ow5.own (Mur.byt_blk dd1 hdl2 (Chg.hp ch73 (Chg.hp ch72 (Chg.hp ch71 hb48 trivial) trivial) (off_blk (fun gz hgz => by have := ow4.lt gz hgz; omega)))) (fun h => by cases h) (by omega) (by omega) 96 (by omega) ((Mur.xorl 92 kx1) ++ dd1) rfl) ?_
 rintro _ W75 ⟨AA4, nn4, rfl, ow6, ch74, ha4⟩
 have zz74 := ch74.size
 have hq7 := ow6.nc
 have hq8 := ow6.cm
 have sS63 := Chg.step sS62 ch74 (newOr_blk (fun g hg => by have := ow5.lt g hg; omega))
 refine ⟨sS63, ?_⟩
 refine dOp 5 (by kernel_rfl) ?_
 refine oCall (some 38) 78 [.tmp 37] #[22] [.slice AA4 96 nn4] rfl rfl (by kernel_rfl) rfl (by kernel_rfl) (by kernel_rfl) ?_
 have kk9 := Chg.step HB ch68 trivial
 have kk10 := Chg.step kk9 ch69 trivial
 have kk11 := Chg.step kk10 ch70 ⟨.inr (by omega), trivial⟩
 have kk12 := Chg.step kk11 ch71 trivial
 have kk13 := Chg.step kk12 ch72 trivial
 have kk14 := Chg.step kk13 ch73 (newOr_blk (fun g hg => by have := ow4.lt g hg; omega))
 have kk15 := Chg.step kk14 ch74 (newOr_blk (fun g hg => by have := ow5.lt g hg; omega))
 refine (Sum_var ((Mur.xorl 92 kx1) ++ dd1) AA4 96 nn4 W75 (HV.out.below (Chg.below0 kk15)) ow6.byt (by omega) ow6.nil (by omega)).mono ?_
 rintro _ W76 ⟨dd2, hd3, hdl3, rfl, hB3⟩
 have ch75 := Chg.ofBelow hB3
 have zz75 := ch75.size
 have sS64 := Chg.step sS63 ch75 trivial
 refine ⟨_, rfl, sS64, ?_⟩
 refine dOp 6 (by kernel_rfl) ?_
 refine oExS none _ rfl rfl (by kernel_rfl) (Mur.storeAll 29 (.tmp 4) (.tmp 38) rfl w.heap.size (by kernel_rfl) dd2 32 hdl3 (by kernel_rfl) (by kernel_rfl) 29 Z32 (Chg.hp ch75 (Chg.hp ch74 (Chg.hp ch73 (Chg.hp ch72 (Chg.hp ch71 (Chg.hp ch70 (Chg.hp ch69 (Chg.hp ch68 hZ trivial) trivial) ⟨by omega, trivial⟩) trivial) trivial) (off_blk (fun gz hgz => by have := ow4.lt gz hgz; omega))) (off_blk (fun gz hgz => by have := ow5.lt gz hgz; omega))) trivial) rfl) ?_
 rintro W77 ⟨hb50, ch76⟩
 have zz76 := ch76.size
 have sS65 := Chg.step sS64 ch76 ⟨.inl (by simp), trivial⟩
 refine ⟨sS65, ?_⟩
 refine dEnd (by kernel_rfl) (nxt (wp_ret ?_))
 have kk16 := Chg.step kk15 ch75 trivial
 have kk17 := Chg.step kk16 ch76 ⟨.inr (by omega), trivial⟩
 refine Wk.ret (.agg (b8s dd2).toArray) rfl (results_cell_row rfl _ _ w.heap.size 29 (b8s dd2).toArray (0, 0) _ (by kernel_rfl) hb50 Tryd.underlying29 rfl (by rw [List.size_toArray, Mur.b8s_length, hdl3]; kernel_rfl)) ?_
 exact ⟨_, Go.Lib.hid (by unfold Mur.hmac; rw [hd3.out, hd2.out, hfa, hd1.out]), hdl3, rfl, kk17⟩
end Go.Proofs.YtgbadghjnpbiaaaDoor
namespace Go.Proofs.YtgbadghjnpbiaaaDoor
open Go.RowKit Wk
open Mur (b8s Byt Own8 Seg Segs flat cutA attC)
set_option maxRecDepth 100000
set_option maxHeartbeats 4000000
theorem may_any (k r t : List UInt8) (n : Int) (hk : k.length = 32) (hr : r.length = 32) (_ht : t.length = 32) (w : World) : Calls Tryd.prog 74 #[.agg (attC k r n t).toArray] w fun e w' => e = .returned (.bool (decide (Mur.may n))) ∧ Chg [] w w' := by
 refine calls_of_wp Tryd.func74 rfl ?_
 refine wp_seq (reg ?_)
 refine rX 0 1 rfl rfl (new_ex (pt w.heap.size 0) ((Mur.attC k r n t).toArray) 36 (by kernel_rfl)) ?_
 rintro _ W1 ⟨rfl, hb1, ch1, sz1⟩
 have zz1 := ch1.size
 refine rP 1 2 (.bool false) ?_
 refine rEnd 2 rfl (nxt (wp_seq (reg ?_)))
 refine rP 0 3 (pt w.heap.size 64) ?_
 refine rQ 1 4 _ rfl rfl (ld 3 3 w.heap.size 64 (.int .i64 n) (Mur.att_len hk hr hb1)) ?_
 by_cases hx1 : n ≥ (1 : Int)
 ·refine rQ 2 5 _ rfl rfl (qboolT (b := decide (n ≥ (1 : Int))) (decide_eq_true (by first | exact hx1 | omega))) ?_
  refine rP 3 6 (.bool true) ?_
  refine rP 4 7 (pt w.heap.size 64) ?_
  refine rQ 5 8 _ rfl rfl (ld 3 7 w.heap.size 64 (.int .i64 n) (Mur.att_len hk hr hb1)) ?_
  by_cases hx2 : n ≤ (5000 : Int)
  ·refine rQ 6 9 _ rfl rfl (qboolT (b := decide (n ≤ (5000 : Int))) (decide_eq_true (by first | exact hx2 | omega))) ?_
   refine rP 7 10 (.bool true) ?_
   refine rP 8 2 (.bool true) ?_
   refine rEnd 9 rfl (nxt (wp_ret ?_))
   have kk1 : Chg [] w W1 := Chg.step ((Chg.refl _).more (by simp)) ch1 trivial
   refine rt (.bool true) ?_
   exact ⟨by rw [decide_eq_true (show Mur.may n from by unfold Mur.may; omega)], kk1⟩
  refine rQ 6 9 _ rfl rfl (qboolF (b := decide (n ≤ (5000 : Int))) (decide_eq_false (by first | exact hx2 | omega))) ?_
  refine rP 7 10 (.bool false) ?_
  refine rP 8 2 (.bool false) ?_
  refine rEnd 9 rfl (nxt (wp_ret ?_))
  have kk2 : Chg [] w W1 := Chg.step ((Chg.refl _).more (by simp)) ch1 trivial
  refine rt (.bool false) ?_
  exact ⟨by rw [decide_eq_false (show ¬ Mur.may n from by unfold Mur.may; omega)], kk2⟩
 refine rQ 2 5 _ rfl rfl (qboolF (b := decide (n ≥ (1 : Int))) (decide_eq_false (by first | exact hx1 | omega))) ?_
 refine rP 3 6 (.bool false) ?_
 refine rZ 4 7 ?_
 refine rZ 5 8 ?_
 refine rZ 6 9 ?_
 refine rP 7 10 (.bool false) ?_
 refine rP 8 2 (.bool false) ?_
 refine rEnd 9 rfl (nxt (wp_ret ?_))
 have kk3 : Chg [] w W1 := Chg.step ((Chg.refl _).more (by simp)) ch1 trivial
 refine rt (.bool false) ?_
 exact ⟨by rw [decide_eq_false (show ¬ Mur.may n from by unfold Mur.may; omega)], kk3⟩
theorem eight_any (n : Int) (w : World) : Calls Tryd.prog 91 #[.int .i64 n] w fun e w' => ∃ E, Hid (E = Mur.e8 (Mur.u64n n)) ∧ E.length = 8 ∧ e = .returned (.agg (b8s E).toArray) ∧ Chg [] w w' := by
 refine calls_of_wp Tryd.func91 rfl ?_
 refine wp_seq (reg ?_)
 refine rX 0 2 rfl rfl (new_ex (pt w.heap.size 0) #[.int .u8 0, .int .u8 0, .int .u8 0, .int .u8 0, .int .u8 0, .int .u8 0, .int .u8 0, .int .u8 0] 144 (by kernel_rfl)) ?_
 rintro _ W1 ⟨rfl, hb1, ch1, sz1⟩
 have zz1 := ch1.size
 refine rEnd 1 rfl (nxt (wp_seq (wp_seq (reg ?_))))
 refine rP 0 4 (.int .i64 0) ?_
 refine rEnd 1 rfl (nxt (wp_block ?_))
 refine Wk.loopN 9 ?_
 refine Wk.rdS (wp_seq (reg ?_))
 refine rQ 0 5 _ rfl rfl (qboolT (b := decide ((0 : Int) < (8 : Int))) (decide_eq_true (by decide))) ?_
 refine rEnd 1 rfl (nxt (wp_seq (wp_cond_true (by kernel_rfl) (wp_skip (nxt (wp_seq (wp_block (wp_seq (reg ?_)))))))))
 refine rP 0 6 (.int .i64 0) ?_
 refine rP 1 3 (.int .i64 0) ?_
 refine rEnd 2 rfl (nxt (reg ?_))
 refine rP 0 7 (.int .i64 0) ?_
 refine rP 1 8 (.int .i64 n) ?_
 refine rQ 2 9 (.int .u64 ((Mur.u64n n : Nat) : Int)) rfl rfl (Mur.conv_u64n 3 24 (.tmp 8) rfl (by kernel_rfl) Tryd.underlying24 .i64 n (by kernel_rfl)) ?_
 refine rP 3 10 (.int .i64 0) ?_
 refine rQ 4 11 _ rfl rfl (qint64 (n := 8 * 0) (z := 0) (by omega) (by omega) (by omega)) ?_
 refine rQ 5 12 _ rfl rfl (qint64 (n := 56 - 0) (z := 56) (by omega) (by omega) (by omega)) ?_
 refine rQ 6 13 (.int .u64 (((Mur.u64n n) / 72057594037927936 : Nat) : Int)) rfl rfl (Mur.shr64 24 3 (.tmp 9) (.tmp 12) rfl (Mur.u64n n) 56 .i64 (by kernel_rfl) (by kernel_rfl) (by omega) 72057594037927936 rfl) ?_
 refine rQ 7 14 (.int .u8 (((Mur.u64n n) / 72057594037927936 % 256 : Nat) : Int)) rfl rfl (Mur.conv_u8 24 5 (.tmp 13) rfl (by kernel_rfl) Tryd.underlying5 .u64 ((Mur.u64n n) / 72057594037927936) (by kernel_rfl)) ?_
 refine rQ 8 15 (pt w.heap.size 0) rfl rfl (Wk.index_arr 144 5 (.tmp 2) (.tmp 7) rfl 8 Tryd.underlying144 1 (by kernel_rfl) w.heap.size 0 0 .i64 (by kernel_rfl) (by kernel_rfl) (by decide)) ?_
 refine rY 9 rfl rfl (store1 5 (.tmp 15) (.tmp 14) rfl (by kernel_rfl) w.heap.size 0 (by kernel_rfl) (.int .u8 (((Mur.u64n n) / 72057594037927936 % 256 : Nat) : Int)) (by kernel_rfl) rfl 144 #[.int .u8 0, .int .u8 0, .int .u8 0, .int .u8 0, .int .u8 0, .int .u8 0, .int .u8 0, .int .u8 0] hb1 (by simp)) ?_
 rintro W2 ⟨hb2, ch2⟩
 replace hb2 : W2.heap[w.heap.size]? = some (.cells #[.int .u8 (((Mur.u64n n) / 72057594037927936 % 256 : Nat) : Int), .int .u8 0, .int .u8 0, .int .u8 0, .int .u8 0, .int .u8 0, .int .u8 0, .int .u8 0] 144 (0, 0)) := hb2
 have zz2 := ch2.size
 refine rEnd 10 rfl (inN (nxt (reg ?_)))
 refine rQ 0 16 _ rfl rfl (qint64 (n := 0 + 1) (z := 1) (by omega) (by omega) (by omega)) ?_
 refine rP 1 4 (.int .i64 1) ?_
 refine rEnd 2 rfl (nxt (Wk.rdS (wp_seq (reg ?_))))
 refine rQ 0 5 _ rfl rfl (qboolT (b := decide ((1 : Int) < (8 : Int))) (decide_eq_true (by decide))) ?_
 refine rEnd 1 rfl (nxt (wp_seq (wp_cond_true (by kernel_rfl) (wp_skip (nxt (wp_seq (wp_block (wp_seq (reg ?_)))))))))
 refine rP 0 6 (.int .i64 1) ?_
 refine rP 1 3 (.int .i64 1) ?_
 refine rEnd 2 rfl (nxt (reg ?_))
 refine rP 0 7 (.int .i64 1) ?_
 refine rP 1 8 (.int .i64 n) ?_
 refine rQ 2 9 (.int .u64 ((Mur.u64n n : Nat) : Int)) rfl rfl (Mur.conv_u64n 3 24 (.tmp 8) rfl (by kernel_rfl) Tryd.underlying24 .i64 n (by kernel_rfl)) ?_
 refine rP 3 10 (.int .i64 1) ?_
 refine rQ 4 11 _ rfl rfl (qint64 (n := 8 * 1) (z := 8) (by omega) (by omega) (by omega)) ?_
 refine rQ 5 12 _ rfl rfl (qint64 (n := 56 - 8) (z := 48) (by omega) (by omega) (by omega)) ?_
 refine rQ 6 13 (.int .u64 (((Mur.u64n n) / 281474976710656 : Nat) : Int)) rfl rfl (Mur.shr64 24 3 (.tmp 9) (.tmp 12) rfl (Mur.u64n n) 48 .i64 (by kernel_rfl) (by kernel_rfl) (by omega) 281474976710656 rfl) ?_
 refine rQ 7 14 (.int .u8 (((Mur.u64n n) / 281474976710656 % 256 : Nat) : Int)) rfl rfl (Mur.conv_u8 24 5 (.tmp 13) rfl (by kernel_rfl) Tryd.underlying5 .u64 ((Mur.u64n n) / 281474976710656) (by kernel_rfl)) ?_
 refine rQ 8 15 (pt w.heap.size 1) rfl rfl (Wk.index_arr 144 5 (.tmp 2) (.tmp 7) rfl 8 Tryd.underlying144 1 (by kernel_rfl) w.heap.size 0 1 .i64 (by kernel_rfl) (by kernel_rfl) (by decide)) ?_
 refine rY 9 rfl rfl (store1 5 (.tmp 15) (.tmp 14) rfl (by kernel_rfl) w.heap.size 1 (by kernel_rfl) (.int .u8 (((Mur.u64n n) / 281474976710656 % 256 : Nat) : Int)) (by kernel_rfl) rfl 144 #[.int .u8 (((Mur.u64n n) / 72057594037927936 % 256 : Nat) : Int), .int .u8 0, .int .u8 0, .int .u8 0, .int .u8 0, .int .u8 0, .int .u8 0, .int .u8 0] hb2 (by simp)) ?_
 rintro W3 ⟨hb3, ch3⟩
 replace hb3 : W3.heap[w.heap.size]? = some (.cells #[.int .u8 (((Mur.u64n n) / 72057594037927936 % 256 : Nat) : Int), .int .u8 (((Mur.u64n n) / 281474976710656 % 256 : Nat) : Int), .int .u8 0, .int .u8 0, .int .u8 0, .int .u8 0, .int .u8 0, .int .u8 0] 144 (0, 0)) := hb3
 have zz3 := ch3.size
 refine rEnd 10 rfl (inN (nxt (reg ?_)))
 refine rQ 0 16 _ rfl rfl (qint64 (n := 1 + 1) (z := 2) (by omega) (by omega) (by omega)) ?_
 refine rP 1 4 (.int .i64 2) ?_
 refine rEnd 2 rfl (nxt (Wk.rdS (wp_seq (reg ?_))))
 refine rQ 0 5 _ rfl rfl (qboolT (b := decide ((2 : Int) < (8 : Int))) (decide_eq_true (by decide))) ?_
 refine rEnd 1 rfl (nxt (wp_seq (wp_cond_true (by kernel_rfl) (wp_skip (nxt (wp_seq (wp_block (wp_seq (reg ?_)))))))))
 refine rP 0 6 (.int .i64 2) ?_
 refine rP 1 3 (.int .i64 2) ?_
 refine rEnd 2 rfl (nxt (reg ?_))
 refine rP 0 7 (.int .i64 2) ?_
 refine rP 1 8 (.int .i64 n) ?_
 refine rQ 2 9 (.int .u64 ((Mur.u64n n : Nat) : Int)) rfl rfl (Mur.conv_u64n 3 24 (.tmp 8) rfl (by kernel_rfl) Tryd.underlying24 .i64 n (by kernel_rfl)) ?_
 refine rP 3 10 (.int .i64 2) ?_
 refine rQ 4 11 _ rfl rfl (qint64 (n := 8 * 2) (z := 16) (by omega) (by omega) (by omega)) ?_
 refine rQ 5 12 _ rfl rfl (qint64 (n := 56 - 16) (z := 40) (by omega) (by omega) (by omega)) ?_
 refine rQ 6 13 (.int .u64 (((Mur.u64n n) / 1099511627776 : Nat) : Int)) rfl rfl (Mur.shr64 24 3 (.tmp 9) (.tmp 12) rfl (Mur.u64n n) 40 .i64 (by kernel_rfl) (by kernel_rfl) (by omega) 1099511627776 rfl) ?_
 refine rQ 7 14 (.int .u8 (((Mur.u64n n) / 1099511627776 % 256 : Nat) : Int)) rfl rfl (Mur.conv_u8 24 5 (.tmp 13) rfl (by kernel_rfl) Tryd.underlying5 .u64 ((Mur.u64n n) / 1099511627776) (by kernel_rfl)) ?_
 refine rQ 8 15 (pt w.heap.size 2) rfl rfl (Wk.index_arr 144 5 (.tmp 2) (.tmp 7) rfl 8 Tryd.underlying144 1 (by kernel_rfl) w.heap.size 0 2 .i64 (by kernel_rfl) (by kernel_rfl) (by decide)) ?_
 refine rY 9 rfl rfl (store1 5 (.tmp 15) (.tmp 14) rfl (by kernel_rfl) w.heap.size 2 (by kernel_rfl) (.int .u8 (((Mur.u64n n) / 1099511627776 % 256 : Nat) : Int)) (by kernel_rfl) rfl 144 #[.int .u8 (((Mur.u64n n) / 72057594037927936 % 256 : Nat) : Int), .int .u8 (((Mur.u64n n) / 281474976710656 % 256 : Nat) : Int), .int .u8 0, .int .u8 0, .int .u8 0, .int .u8 0, .int .u8 0, .int .u8 0] hb3 (by simp)) ?_
 rintro W4 ⟨hb4, ch4⟩
 replace hb4 : W4.heap[w.heap.size]? = some (.cells #[.int .u8 (((Mur.u64n n) / 72057594037927936 % 256 : Nat) : Int), .int .u8 (((Mur.u64n n) / 281474976710656 % 256 : Nat) : Int), .int .u8 (((Mur.u64n n) / 1099511627776 % 256 : Nat) : Int), .int .u8 0, .int .u8 0, .int .u8 0, .int .u8 0, .int .u8 0] 144 (0, 0)) := hb4
 have zz4 := ch4.size
 refine rEnd 10 rfl (inN (nxt (reg ?_)))
 refine rQ 0 16 _ rfl rfl (qint64 (n := 2 + 1) (z := 3) (by omega) (by omega) (by omega)) ?_
 refine rP 1 4 (.int .i64 3) ?_
 refine rEnd 2 rfl (nxt (Wk.rdS (wp_seq (reg ?_))))
 refine rQ 0 5 _ rfl rfl (qboolT (b := decide ((3 : Int) < (8 : Int))) (decide_eq_true (by decide))) ?_
 refine rEnd 1 rfl (nxt (wp_seq (wp_cond_true (by kernel_rfl) (wp_skip (nxt (wp_seq (wp_block (wp_seq (reg ?_)))))))))
 refine rP 0 6 (.int .i64 3) ?_
 refine rP 1 3 (.int .i64 3) ?_
 refine rEnd 2 rfl (nxt (reg ?_))
 refine rP 0 7 (.int .i64 3) ?_
 refine rP 1 8 (.int .i64 n) ?_
 refine rQ 2 9 (.int .u64 ((Mur.u64n n : Nat) : Int)) rfl rfl (Mur.conv_u64n 3 24 (.tmp 8) rfl (by kernel_rfl) Tryd.underlying24 .i64 n (by kernel_rfl)) ?_
 refine rP 3 10 (.int .i64 3) ?_
 refine rQ 4 11 _ rfl rfl (qint64 (n := 8 * 3) (z := 24) (by omega) (by omega) (by omega)) ?_
 refine rQ 5 12 _ rfl rfl (qint64 (n := 56 - 24) (z := 32) (by omega) (by omega) (by omega)) ?_
 refine rQ 6 13 (.int .u64 (((Mur.u64n n) / 4294967296 : Nat) : Int)) rfl rfl (Mur.shr64 24 3 (.tmp 9) (.tmp 12) rfl (Mur.u64n n) 32 .i64 (by kernel_rfl) (by kernel_rfl) (by omega) 4294967296 rfl) ?_
 refine rQ 7 14 (.int .u8 (((Mur.u64n n) / 4294967296 % 256 : Nat) : Int)) rfl rfl (Mur.conv_u8 24 5 (.tmp 13) rfl (by kernel_rfl) Tryd.underlying5 .u64 ((Mur.u64n n) / 4294967296) (by kernel_rfl)) ?_
 refine rQ 8 15 (pt w.heap.size 3) rfl rfl (Wk.index_arr 144 5 (.tmp 2) (.tmp 7) rfl 8 Tryd.underlying144 1 (by kernel_rfl) w.heap.size 0 3 .i64 (by kernel_rfl) (by kernel_rfl) (by decide)) ?_
 refine rY 9 rfl rfl (store1 5 (.tmp 15) (.tmp 14) rfl (by kernel_rfl) w.heap.size 3 (by kernel_rfl) (.int .u8 (((Mur.u64n n) / 4294967296 % 256 : Nat) : Int)) (by kernel_rfl) rfl 144 #[.int .u8 (((Mur.u64n n) / 72057594037927936 % 256 : Nat) : Int), .int .u8 (((Mur.u64n n) / 281474976710656 % 256 : Nat) : Int), .int .u8 (((Mur.u64n n) / 1099511627776 % 256 : Nat) : Int), .int .u8 0, .int .u8 0, .int .u8 0, .int .u8 0, .int .u8 0] hb4 (by simp)) ?_
 rintro W5 ⟨hb5, ch5⟩
 replace hb5 : W5.heap[w.heap.size]? = some (.cells #[.int .u8 (((Mur.u64n n) / 72057594037927936 % 256 : Nat) : Int), .int .u8 (((Mur.u64n n) / 281474976710656 % 256 : Nat) : Int), .int .u8 (((Mur.u64n n) / 1099511627776 % 256 : Nat) : Int), .int .u8 (((Mur.u64n n) / 4294967296 % 256 : Nat) : Int), .int .u8 0, .int .u8 0, .int .u8 0, .int .u8 0] 144 (0, 0)) := hb5
 have zz5 := ch5.size
 refine rEnd 10 rfl (inN (nxt (reg ?_)))
 refine rQ 0 16 _ rfl rfl (qint64 (n := 3 + 1) (z := 4) (by omega) (by omega) (by omega)) ?_
 refine rP 1 4 (.int .i64 4) ?_
 refine rEnd 2 rfl (nxt (Wk.rdS (wp_seq (reg ?_))))
 refine rQ 0 5 _ rfl rfl (qboolT (b := decide ((4 : Int) < (8 : Int))) (decide_eq_true (by decide))) ?_
 refine rEnd 1 rfl (nxt (wp_seq (wp_cond_true (by kernel_rfl) (wp_skip (nxt (wp_seq (wp_block (wp_seq (reg ?_)))))))))
 refine rP 0 6 (.int .i64 4) ?_
 refine rP 1 3 (.int .i64 4) ?_
 refine rEnd 2 rfl (nxt (reg ?_))
 refine rP 0 7 (.int .i64 4) ?_
 refine rP 1 8 (.int .i64 n) ?_
 refine rQ 2 9 (.int .u64 ((Mur.u64n n : Nat) : Int)) rfl rfl (Mur.conv_u64n 3 24 (.tmp 8) rfl (by kernel_rfl) Tryd.underlying24 .i64 n (by kernel_rfl)) ?_
 refine rP 3 10 (.int .i64 4) ?_
 refine rQ 4 11 _ rfl rfl (qint64 (n := 8 * 4) (z := 32) (by omega) (by omega) (by omega)) ?_
 refine rQ 5 12 _ rfl rfl (qint64 (n := 56 - 32) (z := 24) (by omega) (by omega) (by omega)) ?_
 refine rQ 6 13 (.int .u64 (((Mur.u64n n) / 16777216 : Nat) : Int)) rfl rfl (Mur.shr64 24 3 (.tmp 9) (.tmp 12) rfl (Mur.u64n n) 24 .i64 (by kernel_rfl) (by kernel_rfl) (by omega) 16777216 rfl) ?_
 refine rQ 7 14 (.int .u8 (((Mur.u64n n) / 16777216 % 256 : Nat) : Int)) rfl rfl (Mur.conv_u8 24 5 (.tmp 13) rfl (by kernel_rfl) Tryd.underlying5 .u64 ((Mur.u64n n) / 16777216) (by kernel_rfl)) ?_
 refine rQ 8 15 (pt w.heap.size 4) rfl rfl (Wk.index_arr 144 5 (.tmp 2) (.tmp 7) rfl 8 Tryd.underlying144 1 (by kernel_rfl) w.heap.size 0 4 .i64 (by kernel_rfl) (by kernel_rfl) (by decide)) ?_
 refine rY 9 rfl rfl (store1 5 (.tmp 15) (.tmp 14) rfl (by kernel_rfl) w.heap.size 4 (by kernel_rfl) (.int .u8 (((Mur.u64n n) / 16777216 % 256 : Nat) : Int)) (by kernel_rfl) rfl 144 #[.int .u8 (((Mur.u64n n) / 72057594037927936 % 256 : Nat) : Int), .int .u8 (((Mur.u64n n) / 281474976710656 % 256 : Nat) : Int), .int .u8 (((Mur.u64n n) / 1099511627776 % 256 : Nat) : Int), .int .u8 (((Mur.u64n n) / 4294967296 % 256 : Nat) : Int), .int .u8 0, .int .u8 0, .int .u8 0, .int .u8 0] hb5 (by simp)) ?_
 rintro W6 ⟨hb6, ch6⟩
 replace hb6 : W6.heap[w.heap.size]? = some (.cells #[.int .u8 (((Mur.u64n n) / 72057594037927936 % 256 : Nat) : Int), .int .u8 (((Mur.u64n n) / 281474976710656 % 256 : Nat) : Int), .int .u8 (((Mur.u64n n) / 1099511627776 % 256 : Nat) : Int), .int .u8 (((Mur.u64n n) / 4294967296 % 256 : Nat) : Int), .int .u8 (((Mur.u64n n) / 16777216 % 256 : Nat) : Int), .int .u8 0, .int .u8 0, .int .u8 0] 144 (0, 0)) := hb6
 have zz6 := ch6.size
 refine rEnd 10 rfl (inN (nxt (reg ?_)))
 refine rQ 0 16 _ rfl rfl (qint64 (n := 4 + 1) (z := 5) (by omega) (by omega) (by omega)) ?_
 refine rP 1 4 (.int .i64 5) ?_
 refine rEnd 2 rfl (nxt (Wk.rdS (wp_seq (reg ?_))))
 refine rQ 0 5 _ rfl rfl (qboolT (b := decide ((5 : Int) < (8 : Int))) (decide_eq_true (by decide))) ?_
 refine rEnd 1 rfl (nxt (wp_seq (wp_cond_true (by kernel_rfl) (wp_skip (nxt (wp_seq (wp_block (wp_seq (reg ?_)))))))))
 refine rP 0 6 (.int .i64 5) ?_
 refine rP 1 3 (.int .i64 5) ?_
 refine rEnd 2 rfl (nxt (reg ?_))
 refine rP 0 7 (.int .i64 5) ?_
 refine rP 1 8 (.int .i64 n) ?_
 refine rQ 2 9 (.int .u64 ((Mur.u64n n : Nat) : Int)) rfl rfl (Mur.conv_u64n 3 24 (.tmp 8) rfl (by kernel_rfl) Tryd.underlying24 .i64 n (by kernel_rfl)) ?_
 refine rP 3 10 (.int .i64 5) ?_
 refine rQ 4 11 _ rfl rfl (qint64 (n := 8 * 5) (z := 40) (by omega) (by omega) (by omega)) ?_
 refine rQ 5 12 _ rfl rfl (qint64 (n := 56 - 40) (z := 16) (by omega) (by omega) (by omega)) ?_
 refine rQ 6 13 (.int .u64 (((Mur.u64n n) / 65536 : Nat) : Int)) rfl rfl (Mur.shr64 24 3 (.tmp 9) (.tmp 12) rfl (Mur.u64n n) 16 .i64 (by kernel_rfl) (by kernel_rfl) (by omega) 65536 rfl) ?_
 refine rQ 7 14 (.int .u8 (((Mur.u64n n) / 65536 % 256 : Nat) : Int)) rfl rfl (Mur.conv_u8 24 5 (.tmp 13) rfl (by kernel_rfl) Tryd.underlying5 .u64 ((Mur.u64n n) / 65536) (by kernel_rfl)) ?_
 refine rQ 8 15 (pt w.heap.size 5) rfl rfl (Wk.index_arr 144 5 (.tmp 2) (.tmp 7) rfl 8 Tryd.underlying144 1 (by kernel_rfl) w.heap.size 0 5 .i64 (by kernel_rfl) (by kernel_rfl) (by decide)) ?_
 refine rY 9 rfl rfl (store1 5 (.tmp 15) (.tmp 14) rfl (by kernel_rfl) w.heap.size 5 (by kernel_rfl) (.int .u8 (((Mur.u64n n) / 65536 % 256 : Nat) : Int)) (by kernel_rfl) rfl 144 #[.int .u8 (((Mur.u64n n) / 72057594037927936 % 256 : Nat) : Int), .int .u8 (((Mur.u64n n) / 281474976710656 % 256 : Nat) : Int), .int .u8 (((Mur.u64n n) / 1099511627776 % 256 : Nat) : Int), .int .u8 (((Mur.u64n n) / 4294967296 % 256 : Nat) : Int), .int .u8 (((Mur.u64n n) / 16777216 % 256 : Nat) : Int), .int .u8 0, .int .u8 0, .int .u8 0] hb6 (by simp)) ?_
 rintro W7 ⟨hb7, ch7⟩
 replace hb7 : W7.heap[w.heap.size]? = some (.cells #[.int .u8 (((Mur.u64n n) / 72057594037927936 % 256 : Nat) : Int), .int .u8 (((Mur.u64n n) / 281474976710656 % 256 : Nat) : Int), .int .u8 (((Mur.u64n n) / 1099511627776 % 256 : Nat) : Int), .int .u8 (((Mur.u64n n) / 4294967296 % 256 : Nat) : Int), .int .u8 (((Mur.u64n n) / 16777216 % 256 : Nat) : Int), .int .u8 (((Mur.u64n n) / 65536 % 256 : Nat) : Int), .int .u8 0, .int .u8 0] 144 (0, 0)) := hb7
 have zz7 := ch7.size
 refine rEnd 10 rfl (inN (nxt (reg ?_)))
 refine rQ 0 16 _ rfl rfl (qint64 (n := 5 + 1) (z := 6) (by omega) (by omega) (by omega)) ?_
 refine rP 1 4 (.int .i64 6) ?_
 refine rEnd 2 rfl (nxt (Wk.rdS (wp_seq (reg ?_))))
 refine rQ 0 5 _ rfl rfl (qboolT (b := decide ((6 : Int) < (8 : Int))) (decide_eq_true (by decide))) ?_
 refine rEnd 1 rfl (nxt (wp_seq (wp_cond_true (by kernel_rfl) (wp_skip (nxt (wp_seq (wp_block (wp_seq (reg ?_)))))))))
 refine rP 0 6 (.int .i64 6) ?_
 refine rP 1 3 (.int .i64 6) ?_
 refine rEnd 2 rfl (nxt (reg ?_))
 refine rP 0 7 (.int .i64 6) ?_
 refine rP 1 8 (.int .i64 n) ?_
 refine rQ 2 9 (.int .u64 ((Mur.u64n n : Nat) : Int)) rfl rfl (Mur.conv_u64n 3 24 (.tmp 8) rfl (by kernel_rfl) Tryd.underlying24 .i64 n (by kernel_rfl)) ?_
 refine rP 3 10 (.int .i64 6) ?_
 refine rQ 4 11 _ rfl rfl (qint64 (n := 8 * 6) (z := 48) (by omega) (by omega) (by omega)) ?_
 refine rQ 5 12 _ rfl rfl (qint64 (n := 56 - 48) (z := 8) (by omega) (by omega) (by omega)) ?_
 refine rQ 6 13 (.int .u64 (((Mur.u64n n) / 256 : Nat) : Int)) rfl rfl (Mur.shr64 24 3 (.tmp 9) (.tmp 12) rfl (Mur.u64n n) 8 .i64 (by kernel_rfl) (by kernel_rfl) (by omega) 256 rfl) ?_
 refine rQ 7 14 (.int .u8 (((Mur.u64n n) / 256 % 256 : Nat) : Int)) rfl rfl (Mur.conv_u8 24 5 (.tmp 13) rfl (by kernel_rfl) Tryd.underlying5 .u64 ((Mur.u64n n) / 256) (by kernel_rfl)) ?_
 refine rQ 8 15 (pt w.heap.size 6) rfl rfl (Wk.index_arr 144 5 (.tmp 2) (.tmp 7) rfl 8 Tryd.underlying144 1 (by kernel_rfl) w.heap.size 0 6 .i64 (by kernel_rfl) (by kernel_rfl) (by decide)) ?_
 refine rY 9 rfl rfl (store1 5 (.tmp 15) (.tmp 14) rfl (by kernel_rfl) w.heap.size 6 (by kernel_rfl) (.int .u8 (((Mur.u64n n) / 256 % 256 : Nat) : Int)) (by kernel_rfl) rfl 144 #[.int .u8 (((Mur.u64n n) / 72057594037927936 % 256 : Nat) : Int), .int .u8 (((Mur.u64n n) / 281474976710656 % 256 : Nat) : Int), .int .u8 (((Mur.u64n n) / 1099511627776 % 256 : Nat) : Int), .int .u8 (((Mur.u64n n) / 4294967296 % 256 : Nat) : Int), .int .u8 (((Mur.u64n n) / 16777216 % 256 : Nat) : Int), .int .u8 (((Mur.u64n n) / 65536 % 256 : Nat) : Int), .int .u8 0, .int .u8 0] hb7 (by simp)) ?_
 rintro W8 ⟨hb8, ch8⟩
 replace hb8 : W8.heap[w.heap.size]? = some (.cells #[.int .u8 (((Mur.u64n n) / 72057594037927936 % 256 : Nat) : Int), .int .u8 (((Mur.u64n n) / 281474976710656 % 256 : Nat) : Int), .int .u8 (((Mur.u64n n) / 1099511627776 % 256 : Nat) : Int), .int .u8 (((Mur.u64n n) / 4294967296 % 256 : Nat) : Int), .int .u8 (((Mur.u64n n) / 16777216 % 256 : Nat) : Int), .int .u8 (((Mur.u64n n) / 65536 % 256 : Nat) : Int), .int .u8 (((Mur.u64n n) / 256 % 256 : Nat) : Int), .int .u8 0] 144 (0, 0)) := hb8
 have zz8 := ch8.size
 refine rEnd 10 rfl (inN (nxt (reg ?_)))
 refine rQ 0 16 _ rfl rfl (qint64 (n := 6 + 1) (z := 7) (by omega) (by omega) (by omega)) ?_
 refine rP 1 4 (.int .i64 7) ?_
 refine rEnd 2 rfl (nxt (Wk.rdS (wp_seq (reg ?_))))
 refine rQ 0 5 _ rfl rfl (qboolT (b := decide ((7 : Int) < (8 : Int))) (decide_eq_true (by decide))) ?_
 refine rEnd 1 rfl (nxt (wp_seq (wp_cond_true (by kernel_rfl) (wp_skip (nxt (wp_seq (wp_block (wp_seq (reg ?_)))))))))
 refine rP 0 6 (.int .i64 7) ?_
 refine rP 1 3 (.int .i64 7) ?_
 refine rEnd 2 rfl (nxt (reg ?_))
 refine rP 0 7 (.int .i64 7) ?_
 refine rP 1 8 (.int .i64 n) ?_
 refine rQ 2 9 (.int .u64 ((Mur.u64n n : Nat) : Int)) rfl rfl (Mur.conv_u64n 3 24 (.tmp 8) rfl (by kernel_rfl) Tryd.underlying24 .i64 n (by kernel_rfl)) ?_
 refine rP 3 10 (.int .i64 7) ?_
 refine rQ 4 11 _ rfl rfl (qint64 (n := 8 * 7) (z := 56) (by omega) (by omega) (by omega)) ?_
 refine rQ 5 12 _ rfl rfl (qint64 (n := 56 - 56) (z := 0) (by omega) (by omega) (by omega)) ?_
 refine rQ 6 13 (.int .u64 (((Mur.u64n n) / 1 : Nat) : Int)) rfl rfl (Mur.shr64 24 3 (.tmp 9) (.tmp 12) rfl (Mur.u64n n) 0 .i64 (by kernel_rfl) (by kernel_rfl) (by omega) 1 rfl) ?_
 refine rQ 7 14 (.int .u8 (((Mur.u64n n) / 1 % 256 : Nat) : Int)) rfl rfl (Mur.conv_u8 24 5 (.tmp 13) rfl (by kernel_rfl) Tryd.underlying5 .u64 ((Mur.u64n n) / 1) (by kernel_rfl)) ?_
 refine rQ 8 15 (pt w.heap.size 7) rfl rfl (Wk.index_arr 144 5 (.tmp 2) (.tmp 7) rfl 8 Tryd.underlying144 1 (by kernel_rfl) w.heap.size 0 7 .i64 (by kernel_rfl) (by kernel_rfl) (by decide)) ?_
 refine rY 9 rfl rfl (store1 5 (.tmp 15) (.tmp 14) rfl (by kernel_rfl) w.heap.size 7 (by kernel_rfl) (.int .u8 (((Mur.u64n n) / 1 % 256 : Nat) : Int)) (by kernel_rfl) rfl 144 #[.int .u8 (((Mur.u64n n) / 72057594037927936 % 256 : Nat) : Int), .int .u8 (((Mur.u64n n) / 281474976710656 % 256 : Nat) : Int), .int .u8 (((Mur.u64n n) / 1099511627776 % 256 : Nat) : Int), .int .u8 (((Mur.u64n n) / 4294967296 % 256 : Nat) : Int), .int .u8 (((Mur.u64n n) / 16777216 % 256 : Nat) : Int), .int .u8 (((Mur.u64n n) / 65536 % 256 : Nat) : Int), .int .u8 (((Mur.u64n n) / 256 % 256 : Nat) : Int), .int .u8 0] hb8 (by simp)) ?_
 rintro W9 ⟨hb9, ch9⟩
 replace hb9 : W9.heap[w.heap.size]? = some (.cells #[.int .u8 (((Mur.u64n n) / 72057594037927936 % 256 : Nat) : Int), .int .u8 (((Mur.u64n n) / 281474976710656 % 256 : Nat) : Int), .int .u8 (((Mur.u64n n) / 1099511627776 % 256 : Nat) : Int), .int .u8 (((Mur.u64n n) / 4294967296 % 256 : Nat) : Int), .int .u8 (((Mur.u64n n) / 16777216 % 256 : Nat) : Int), .int .u8 (((Mur.u64n n) / 65536 % 256 : Nat) : Int), .int .u8 (((Mur.u64n n) / 256 % 256 : Nat) : Int), .int .u8 (((Mur.u64n n) / 1 % 256 : Nat) : Int)] 144 (0, 0)) := hb9
 have zz9 := ch9.size
 refine rEnd 10 rfl (inN (nxt (reg ?_)))
 refine rQ 0 16 _ rfl rfl (qint64 (n := 7 + 1) (z := 8) (by omega) (by omega) (by omega)) ?_
 refine rP 1 4 (.int .i64 8) ?_
 refine rEnd 2 rfl (nxt (Wk.rdS (wp_seq (reg ?_))))
 refine rQ 0 5 _ rfl rfl (qboolF (b := decide ((8 : Int) < (8 : Int))) (decide_eq_false (by decide))) ?_
 refine rEnd 1 rfl (nxt (wp_seq (wp_cond_false (by kernel_rfl) (wp_exit (thX (thX (inX (nxt (wp_seq (reg ?_))))))))))
 refine rQ 0 17 (.agg #[.int .u8 (((Mur.u64n n) / 72057594037927936 % 256 : Nat) : Int), .int .u8 (((Mur.u64n n) / 281474976710656 % 256 : Nat) : Int), .int .u8 (((Mur.u64n n) / 1099511627776 % 256 : Nat) : Int), .int .u8 (((Mur.u64n n) / 4294967296 % 256 : Nat) : Int), .int .u8 (((Mur.u64n n) / 16777216 % 256 : Nat) : Int), .int .u8 (((Mur.u64n n) / 65536 % 256 : Nat) : Int), .int .u8 (((Mur.u64n n) / 256 % 256 : Nat) : Int), .int .u8 (((Mur.u64n n) / 1 % 256 : Nat) : Int)]) rfl rfl (loadR 144 (.tmp 2) rfl _ Tryd.underlying144 rfl w.heap.size 0 (by kernel_rfl) ([.int .u8 (((Mur.u64n n) / 72057594037927936 % 256 : Nat) : Int), .int .u8 (((Mur.u64n n) / 281474976710656 % 256 : Nat) : Int), .int .u8 (((Mur.u64n n) / 1099511627776 % 256 : Nat) : Int), .int .u8 (((Mur.u64n n) / 4294967296 % 256 : Nat) : Int), .int .u8 (((Mur.u64n n) / 16777216 % 256 : Nat) : Int), .int .u8 (((Mur.u64n n) / 65536 % 256 : Nat) : Int), .int .u8 (((Mur.u64n n) / 256 % 256 : Nat) : Int), .int .u8 (((Mur.u64n n) / 1 % 256 : Nat) : Int)]) (by kernel_rfl) (range_row hb9)) ?_
 refine rY 1 rfl rfl (Wk.storeR 144 (.tmp 2) (.tmp 17) rfl w.heap.size 0 (by kernel_rfl) ([.int .u8 (((Mur.u64n n) / 72057594037927936 % 256 : Nat) : Int), .int .u8 (((Mur.u64n n) / 281474976710656 % 256 : Nat) : Int), .int .u8 (((Mur.u64n n) / 1099511627776 % 256 : Nat) : Int), .int .u8 (((Mur.u64n n) / 4294967296 % 256 : Nat) : Int), .int .u8 (((Mur.u64n n) / 16777216 % 256 : Nat) : Int), .int .u8 (((Mur.u64n n) / 65536 % 256 : Nat) : Int), .int .u8 (((Mur.u64n n) / 256 % 256 : Nat) : Int), .int .u8 (((Mur.u64n n) / 1 % 256 : Nat) : Int)]) (by kernel_rfl) (by kernel_rfl) (by intro v hv; simp at hv; rcases hv with h | h | h | h | h | h | h | h <;> (subst h; rfl)) 144 ([.int .u8 (((Mur.u64n n) / 72057594037927936 % 256 : Nat) : Int), .int .u8 (((Mur.u64n n) / 281474976710656 % 256 : Nat) : Int), .int .u8 (((Mur.u64n n) / 1099511627776 % 256 : Nat) : Int), .int .u8 (((Mur.u64n n) / 4294967296 % 256 : Nat) : Int), .int .u8 (((Mur.u64n n) / 16777216 % 256 : Nat) : Int), .int .u8 (((Mur.u64n n) / 65536 % 256 : Nat) : Int), .int .u8 (((Mur.u64n n) / 256 % 256 : Nat) : Int), .int .u8 (((Mur.u64n n) / 1 % 256 : Nat) : Int)]) hb9 (by simp)) ?_
 rintro W10 ⟨hb10, ch10⟩
 replace hb10 : W10.heap[w.heap.size]? = some (.cells #[.int .u8 (((Mur.u64n n) / 72057594037927936 % 256 : Nat) : Int), .int .u8 (((Mur.u64n n) / 281474976710656 % 256 : Nat) : Int), .int .u8 (((Mur.u64n n) / 1099511627776 % 256 : Nat) : Int), .int .u8 (((Mur.u64n n) / 4294967296 % 256 : Nat) : Int), .int .u8 (((Mur.u64n n) / 16777216 % 256 : Nat) : Int), .int .u8 (((Mur.u64n n) / 65536 % 256 : Nat) : Int), .int .u8 (((Mur.u64n n) / 256 % 256 : Nat) : Int), .int .u8 (((Mur.u64n n) / 1 % 256 : Nat) : Int)] 144 (0, 0)) := hb10
 have zz10 := ch10.size
 refine rEnd 2 rfl (nxt (wp_ret ?_))
 have kk1 : Chg [] w W1 := Chg.step ((Chg.refl _).more (by simp)) ch1 trivial
 have kk2 := Chg.step kk1 ch2 ⟨.inr (by omega), trivial⟩
 have kk3 := Chg.step kk2 ch3 ⟨.inr (by omega), trivial⟩
 have kk4 := Chg.step kk3 ch4 ⟨.inr (by omega), trivial⟩
 have kk5 := Chg.step kk4 ch5 ⟨.inr (by omega), trivial⟩
 have kk6 := Chg.step kk5 ch6 ⟨.inr (by omega), trivial⟩
 have kk7 := Chg.step kk6 ch7 ⟨.inr (by omega), trivial⟩
 have kk8 := Chg.step kk7 ch8 ⟨.inr (by omega), trivial⟩
 have kk9 := Chg.step kk8 ch9 ⟨.inr (by omega), trivial⟩
 have kk10 := Chg.step kk9 ch10 ⟨.inr (by omega), trivial⟩
 refine Wk.ret (.agg #[.int .u8 (((Mur.u64n n) / 72057594037927936 % 256 : Nat) : Int), .int .u8 (((Mur.u64n n) / 281474976710656 % 256 : Nat) : Int), .int .u8 (((Mur.u64n n) / 1099511627776 % 256 : Nat) : Int), .int .u8 (((Mur.u64n n) / 4294967296 % 256 : Nat) : Int), .int .u8 (((Mur.u64n n) / 16777216 % 256 : Nat) : Int), .int .u8 (((Mur.u64n n) / 65536 % 256 : Nat) : Int), .int .u8 (((Mur.u64n n) / 256 % 256 : Nat) : Int), .int .u8 (((Mur.u64n n) / 1 % 256 : Nat) : Int)]) rfl (results_cell_row rfl _ _ w.heap.size 144 #[.int .u8 (((Mur.u64n n) / 72057594037927936 % 256 : Nat) : Int), .int .u8 (((Mur.u64n n) / 281474976710656 % 256 : Nat) : Int), .int .u8 (((Mur.u64n n) / 1099511627776 % 256 : Nat) : Int), .int .u8 (((Mur.u64n n) / 4294967296 % 256 : Nat) : Int), .int .u8 (((Mur.u64n n) / 16777216 % 256 : Nat) : Int), .int .u8 (((Mur.u64n n) / 65536 % 256 : Nat) : Int), .int .u8 (((Mur.u64n n) / 256 % 256 : Nat) : Int), .int .u8 (((Mur.u64n n) / 1 % 256 : Nat) : Int)] (0, 0) _ (by kernel_rfl) hb10 Tryd.underlying144 rfl (by kernel_rfl)) ?_
 exact ⟨_, Go.Lib.hid rfl, Mur.e8_length _, by rw [Mur.e8_cells], kk10⟩
end Go.Proofs.YtgbadghjnpbiaaaDoor
namespace Go.Proofs.YtgbadghjnpbiaaaDoor
open Go.RowKit Wk
open Mur (b8s Byt Own8 Seg Segs flat cutA attC)
set_option maxRecDepth 100000
set_option maxHeartbeats 4000000
end Go.Proofs.YtgbadghjnpbiaaaDoor
namespace Go.Proofs.YtgbadghjnpbiaaaDoor
open Go.RowKit Wk
open Mur (b8s Byt Own8 Seg Segs flat cutA attC)
set_option maxRecDepth 100000
set_option maxHeartbeats 4000000
theorem Join4_any (gp : Nat) (T : TypeId) (fr : Nat × Nat) (A1 A2 A3 A4 : Option Addr) (c1 c2 c3 c4 : Nat) (k r E t : List UInt8) (w : World) (hp : w.heap[gp]? = some (.cells #[.slice A1 32 c1, .slice A2 32 c2, .slice A3 8 c3, .slice A4 32 c4] T fr)) (hy1 : Byt w A1 32 k) (hy2 : Byt w A2 32 r) (hy3 : Byt w A3 8 E) (hy4 : Byt w A4 32 t) : Calls Tryd.prog 92 #[.slice (some ⟨gp, 0, none⟩) 4 4, .slice none 0 0] w fun e w' => ∃ q, e = .returned (.slice (some ⟨q, 0, none⟩) 104 104) ∧ Byt w' (some ⟨q, 0, none⟩) 104 (((k ++ r) ++ E) ++ t) ∧ (w.heap.size ≤ q ∧ q < w'.heap.size) ∧ Chg [] w w' := by
 have hgp := (Array.getElem?_eq_some_iff.1 hp).1
 refine calls_of_wp Tryd.func92 rfl ?_
 refine wp_seq (reg ?_)
 refine rP 0 4 (.slice none 0 0) ?_
 refine rEnd 1 rfl (nxt (wp_seq (wp_seq (reg ?_))))
 refine rP 0 12 (.slice (some ⟨gp, 0, none⟩) 4 4) ?_
 refine rP 1 13 (.int .i64 4) ?_
 refine rQ 2 14 _ rfl rfl (qboolF (b := ((4 : Int) == (0 : Int))) (beq_eq_false_iff_ne.2 (by decide))) ?_
 refine rEnd 3 rfl (nxt (wp_cond_false (by kernel_rfl) (wp_skip (nxt (wp_seq (wp_seq (reg ?_)))))))
 refine rP 0 16 (.slice (some ⟨gp, 0, none⟩) 4 4) ?_
 refine rP 1 17 (.int .i64 4) ?_
 refine rQ 2 18 _ rfl rfl (qboolF (b := ((4 : Int) == (1 : Int))) (beq_eq_false_iff_ne.2 (by decide))) ?_
 refine rEnd 3 rfl (nxt (wp_cond_false (by kernel_rfl) (wp_skip (nxt (wp_seq (reg ?_))))))
 refine rP 0 5 (.int .i64 0) ?_
 refine rEnd 1 rfl (nxt (wp_seq (wp_seq (reg ?_))))
 refine rP 0 23 (.slice none 0 0) ?_
 refine rP 1 24 (.int .i64 0) ?_
 refine rQ 2 25 _ rfl rfl (qboolF (b := decide ((0 : Int) > (0 : Int))) (decide_eq_false (by decide))) ?_
 refine rEnd 3 rfl (nxt (wp_cond_false (by kernel_rfl) (wp_skip (nxt (wp_seq (wp_seq (reg ?_)))))))
 refine rP 0 42 (.slice (some ⟨gp, 0, none⟩) 4 4) ?_
 refine rP 1 43 (.int .i64 4) ?_
 refine rP 2 44 (.int .i64 0) ?_
 refine rEnd 3 rfl (nxt (wp_block ?_))
 refine Wk.loopN 5 ?_
 refine Wk.rdS (wp_seq (reg ?_))
 refine rQ 0 45 _ rfl rfl (qboolT (b := decide ((0 : Int) < (4 : Int))) (decide_eq_true (by decide))) ?_
 refine rEnd 1 rfl (nxt (wp_seq (wp_cond_true (by kernel_rfl) (wp_skip (nxt (wp_seq (wp_block (wp_seq (reg ?_)))))))))
 refine rQ 0 46 (pt gp 0) rfl rfl (index_sl 127 22 (.tmp 42) (.tmp 44) rfl Tryd.underlying127 1 (by kernel_rfl) gp 0 4 4 0 .i64 (by kernel_rfl) (by kernel_rfl) (by omega)) ?_
 refine rQ 1 47 _ rfl rfl (ld 22 46 gp 0 (.slice A1 32 c1) ((cell_of_row _ _ 0 _ _ _ hp).trans rfl)) ?_
 refine rP 2 7 (.slice A1 32 c1) ?_
 refine rEnd 3 rfl (nxt (wp_seq (wp_seq (reg ?_))))
 refine rP 0 48 (.slice A1 32 c1) ?_
 refine rP 1 49 (.int .i64 32) ?_
 refine rP 2 50 (.int .i64 0) ?_
 refine rQ 3 51 _ rfl rfl (qint64 (n := 9223372036854775807 - 0) (z := 9223372036854775807) (by omega) (by omega) (by omega)) ?_
 refine rQ 4 52 _ rfl rfl (qboolF (b := decide ((32 : Int) > (9223372036854775807 : Int))) (decide_eq_false (by decide))) ?_
 refine rEnd 5 rfl (nxt (wp_cond_false (by kernel_rfl) (wp_skip (nxt (reg ?_)))))
 refine rP 0 54 (.int .i64 0) ?_
 refine rP 1 55 (.slice A1 32 c1) ?_
 refine rP 2 56 (.int .i64 32) ?_
 refine rQ 3 57 _ rfl rfl (qint64 (n := 0 + 32) (z := 32) (by omega) (by omega) (by omega)) ?_
 refine rP 4 5 (.int .i64 32) ?_
 refine rEnd 5 rfl (inN (nxt (reg ?_)))
 refine rQ 0 58 _ rfl rfl (qint64 (n := 0 + 1) (z := 1) (by omega) (by omega) (by omega)) ?_
 refine rP 1 44 (.int .i64 1) ?_
 refine rEnd 2 rfl (nxt (Wk.rdS (wp_seq (reg ?_))))
 refine rQ 0 45 _ rfl rfl (qboolT (b := decide ((1 : Int) < (4 : Int))) (decide_eq_true (by decide))) ?_
 refine rEnd 1 rfl (nxt (wp_seq (wp_cond_true (by kernel_rfl) (wp_skip (nxt (wp_seq (wp_block (wp_seq (reg ?_)))))))))
 refine rQ 0 46 (pt gp 1) rfl rfl (index_sl 127 22 (.tmp 42) (.tmp 44) rfl Tryd.underlying127 1 (by kernel_rfl) gp 0 4 4 1 .i64 (by kernel_rfl) (by kernel_rfl) (by omega)) ?_
 refine rQ 1 47 _ rfl rfl (ld 22 46 gp 1 (.slice A2 32 c2) ((cell_of_row _ _ 1 _ _ _ hp).trans rfl)) ?_
 refine rP 2 7 (.slice A2 32 c2) ?_
 refine rEnd 3 rfl (nxt (wp_seq (wp_seq (reg ?_))))
 refine rP 0 48 (.slice A2 32 c2) ?_
 refine rP 1 49 (.int .i64 32) ?_
 refine rP 2 50 (.int .i64 32) ?_
 refine rQ 3 51 _ rfl rfl (qint64 (n := 9223372036854775807 - 32) (z := 9223372036854775775) (by omega) (by omega) (by omega)) ?_
 refine rQ 4 52 _ rfl rfl (qboolF (b := decide ((32 : Int) > (9223372036854775775 : Int))) (decide_eq_false (by decide))) ?_
 refine rEnd 5 rfl (nxt (wp_cond_false (by kernel_rfl) (wp_skip (nxt (reg ?_)))))
 refine rP 0 54 (.int .i64 32) ?_
 refine rP 1 55 (.slice A2 32 c2) ?_
 refine rP 2 56 (.int .i64 32) ?_
 refine rQ 3 57 _ rfl rfl (qint64 (n := 32 + 32) (z := 64) (by omega) (by omega) (by omega)) ?_
 refine rP 4 5 (.int .i64 64) ?_
 refine rEnd 5 rfl (inN (nxt (reg ?_)))
 refine rQ 0 58 _ rfl rfl (qint64 (n := 1 + 1) (z := 2) (by omega) (by omega) (by omega)) ?_
 refine rP 1 44 (.int .i64 2) ?_
 refine rEnd 2 rfl (nxt (Wk.rdS (wp_seq (reg ?_))))
 refine rQ 0 45 _ rfl rfl (qboolT (b := decide ((2 : Int) < (4 : Int))) (decide_eq_true (by decide))) ?_
 refine rEnd 1 rfl (nxt (wp_seq (wp_cond_true (by kernel_rfl) (wp_skip (nxt (wp_seq (wp_block (wp_seq (reg ?_)))))))))
 refine rQ 0 46 (pt gp 2) rfl rfl (index_sl 127 22 (.tmp 42) (.tmp 44) rfl Tryd.underlying127 1 (by kernel_rfl) gp 0 4 4 2 .i64 (by kernel_rfl) (by kernel_rfl) (by omega)) ?_
 refine rQ 1 47 _ rfl rfl (ld 22 46 gp 2 (.slice A3 8 c3) ((cell_of_row _ _ 2 _ _ _ hp).trans rfl)) ?_
 refine rP 2 7 (.slice A3 8 c3) ?_
 refine rEnd 3 rfl (nxt (wp_seq (wp_seq (reg ?_))))
 refine rP 0 48 (.slice A3 8 c3) ?_
 refine rP 1 49 (.int .i64 8) ?_
 refine rP 2 50 (.int .i64 64) ?_
 refine rQ 3 51 _ rfl rfl (qint64 (n := 9223372036854775807 - 64) (z := 9223372036854775743) (by omega) (by omega) (by omega)) ?_
 refine rQ 4 52 _ rfl rfl (qboolF (b := decide ((8 : Int) > (9223372036854775743 : Int))) (decide_eq_false (by decide))) ?_
 refine rEnd 5 rfl (nxt (wp_cond_false (by kernel_rfl) (wp_skip (nxt (reg ?_)))))
 refine rP 0 54 (.int .i64 64) ?_
 refine rP 1 55 (.slice A3 8 c3) ?_
 refine rP 2 56 (.int .i64 8) ?_
 refine rQ 3 57 _ rfl rfl (qint64 (n := 64 + 8) (z := 72) (by omega) (by omega) (by omega)) ?_
 refine rP 4 5 (.int .i64 72) ?_
 refine rEnd 5 rfl (inN (nxt (reg ?_)))
 refine rQ 0 58 _ rfl rfl (qint64 (n := 2 + 1) (z := 3) (by omega) (by omega) (by omega)) ?_
 refine rP 1 44 (.int .i64 3) ?_
 refine rEnd 2 rfl (nxt (Wk.rdS (wp_seq (reg ?_))))
 refine rQ 0 45 _ rfl rfl (qboolT (b := decide ((3 : Int) < (4 : Int))) (decide_eq_true (by decide))) ?_
 refine rEnd 1 rfl (nxt (wp_seq (wp_cond_true (by kernel_rfl) (wp_skip (nxt (wp_seq (wp_block (wp_seq (reg ?_)))))))))
 refine rQ 0 46 (pt gp 3) rfl rfl (index_sl 127 22 (.tmp 42) (.tmp 44) rfl Tryd.underlying127 1 (by kernel_rfl) gp 0 4 4 3 .i64 (by kernel_rfl) (by kernel_rfl) (by omega)) ?_
 refine rQ 1 47 _ rfl rfl (ld 22 46 gp 3 (.slice A4 32 c4) ((cell_of_row _ _ 3 _ _ _ hp).trans rfl)) ?_
 refine rP 2 7 (.slice A4 32 c4) ?_
 refine rEnd 3 rfl (nxt (wp_seq (wp_seq (reg ?_))))
 refine rP 0 48 (.slice A4 32 c4) ?_
 refine rP 1 49 (.int .i64 32) ?_
 refine rP 2 50 (.int .i64 72) ?_
 refine rQ 3 51 _ rfl rfl (qint64 (n := 9223372036854775807 - 72) (z := 9223372036854775735) (by omega) (by omega) (by omega)) ?_
 refine rQ 4 52 _ rfl rfl (qboolF (b := decide ((32 : Int) > (9223372036854775735 : Int))) (decide_eq_false (by decide))) ?_
 refine rEnd 5 rfl (nxt (wp_cond_false (by kernel_rfl) (wp_skip (nxt (reg ?_)))))
 refine rP 0 54 (.int .i64 72) ?_
 refine rP 1 55 (.slice A4 32 c4) ?_
 refine rP 2 56 (.int .i64 32) ?_
 refine rQ 3 57 _ rfl rfl (qint64 (n := 72 + 32) (z := 104) (by omega) (by omega) (by omega)) ?_
 refine rP 4 5 (.int .i64 104) ?_
 refine rEnd 5 rfl (inN (nxt (reg ?_)))
 refine rQ 0 58 _ rfl rfl (qint64 (n := 3 + 1) (z := 4) (by omega) (by omega) (by omega)) ?_
 refine rP 1 44 (.int .i64 4) ?_
 refine rEnd 2 rfl (nxt (Wk.rdS (wp_seq (reg ?_))))
 refine rQ 0 45 _ rfl rfl (qboolF (b := decide ((4 : Int) < (4 : Int))) (decide_eq_false (by decide))) ?_
 refine rEnd 1 rfl (nxt (wp_seq (wp_cond_false (by kernel_rfl) (wp_exit (thX (thX (inX (nxt (wp_seq (reg ?_))))))))))
 refine rP 0 59 (.int .i64 104) ?_
 refine rX 1 60 rfl rfl (Mur.run_nz Tryd.f98.params 22 5 Tryd.func98 (by kernel_rfl) (by kernel_rfl) (by kernel_rfl) (by kernel_rfl) Tryd.underlying22 (.tmp 59) _ rfl 104 (by kernel_rfl) (by omega)) ?_
 rintro _ W1 ⟨cs1, rfl, hb1, hl1, ch1, sz1⟩
 have zz1 := ch1.size
 refine rP 2 61 (.int .i64 104) ?_
 refine rP 3 62 (.int .i64 104) ?_
 refine rQ 4 63 (.slice (some ⟨w.heap.size, 0, none⟩) 104 104) rfl rfl (Mur.run_cut3 22 (.tmp 60) none (.tmp 61) (.tmp 62) rfl 5 Tryd.underlying22 (by kernel_rfl) w.heap.size 0 104 cs1.length 0 104 104 104 (by kernel_rfl) (.inr ⟨rfl, rfl⟩) (by kernel_rfl) (by kernel_rfl) rfl rfl (by omega) (by omega)) ?_
 refine rP 5 8 (.slice (some ⟨w.heap.size, 0, none⟩) 104 104) ?_
 refine rEnd 6 rfl (nxt (wp_seq (reg ?_)))
 refine rP 0 64 (.slice (some ⟨w.heap.size, 0, none⟩) 104 104) ?_
 refine rP 1 65 (.slice (some ⟨gp, 0, none⟩) 4 4) ?_
 refine rQ 2 66 (pt gp 0) rfl rfl (index_sl 127 22 (.tmp 65) (.const (.int .i64 0)) rfl Tryd.underlying127 1 (by kernel_rfl) gp 0 4 4 0 .i64 (by kernel_rfl) (by kernel_rfl) (by omega)) ?_
 have kk1 : Chg [] w W1 := Chg.step ((Chg.refl _).more (by simp)) ch1 trivial
 refine rQ 3 67 _ rfl rfl (ld 22 66 gp 0 (.slice A1 32 c1) ((cell_of_row _ _ 0 _ _ _ (Chg.hp kk1 hp trivial)).trans rfl)) ?_
 refine rX 4 68 rfl rfl (Mur.copy_mid (.tmp 64) (.tmp 67) 22 22 rfl 5 Tryd.underlying22 (by kernel_rfl) w.heap.size 0 104 104 (by kernel_rfl) A1 32 c1 (by kernel_rfl) 5 (b8s ([]) ++ cs1.drop 0) k hb1 (Mur.byt_chg hy1 kk1 (fun g off e hl => trivial)) (by omega) (by omega) (by have hfl_ := Mur.fill_len (cs := cs1) (acc := []) (p := 0) (rfl : ([] : List UInt8).length = 0) (by omega); omega) (b8s (k) ++ cs1.drop 32) (Mur.fill_step (rfl : ([] : List UInt8).length = 0) hy1.1 rfl (by omega))) ?_
 rintro _ W2 ⟨rfl, hb2, ch2⟩
 have zz2 := ch2.size
 refine rP 5 9 (.int .i64 32) ?_
 refine rEnd 6 rfl (nxt (wp_seq (wp_seq (reg ?_))))
 refine rP 0 69 (.slice (some ⟨gp, 0, none⟩) 4 4) ?_
 refine rQ 1 70 (.slice (some ⟨gp, 1, none⟩) 3 3) rfl rfl (Mur.run_from_at 127 (.tmp 69) (.const (.int .i64 1)) rfl 22 Tryd.underlying127 (by kernel_rfl) gp 0 4 4 1 3 (by kernel_rfl) (by kernel_rfl) (by omega) (by omega) rfl) ?_
 refine rP 2 71 (.int .i64 3) ?_
 refine rP 3 72 (.int .i64 0) ?_
 refine rEnd 4 rfl (nxt (wp_block ?_))
 refine Wk.loopN 4 ?_
 refine Wk.rdS (wp_seq (reg ?_))
 refine rQ 0 73 _ rfl rfl (qboolT (b := decide ((0 : Int) < (3 : Int))) (decide_eq_true (by decide))) ?_
 refine rEnd 1 rfl (nxt (wp_seq (wp_cond_true (by kernel_rfl) (wp_skip (nxt (wp_seq (wp_block (wp_seq (reg ?_)))))))))
 refine rQ 0 74 (pt gp 1) rfl rfl (index_sl 127 22 (.tmp 70) (.tmp 72) rfl Tryd.underlying127 1 (by kernel_rfl) gp 1 3 3 0 .i64 (by kernel_rfl) (by kernel_rfl) (by omega)) ?_
 have kk2 := Chg.step kk1 ch2 ⟨.inr (by omega), trivial⟩
 refine rQ 1 75 _ rfl rfl (ld 22 74 gp 1 (.slice A2 32 c2) ((cell_of_row _ _ 1 _ _ _ (Chg.hp kk2 hp trivial)).trans rfl)) ?_
 refine rP 2 11 (.slice A2 32 c2) ?_
 refine rEnd 3 rfl (nxt (wp_seq (reg ?_)))
 refine rP 0 76 (.int .i64 32) ?_
 refine rP 1 77 (.slice (some ⟨w.heap.size, 0, none⟩) 104 104) ?_
 refine rP 2 78 (.int .i64 32) ?_
 refine rQ 3 79 (.slice (some ⟨w.heap.size, 32, none⟩) 72 72) rfl rfl (Mur.run_from_at 22 (.tmp 77) (.tmp 78) rfl 5 Tryd.underlying22 (by kernel_rfl) w.heap.size 0 104 104 32 72 (by kernel_rfl) (by kernel_rfl) (by omega) (by omega) rfl) ?_
 refine rP 4 80 (.slice none 0 0) ?_
 refine rQ 5 81 (.int .i64 0) rfl rfl (Mur.copy_none (.tmp 79) (.tmp 80) 22 22 rfl 5 Tryd.underlying22 (by kernel_rfl) ⟨w.heap.size, 32, none⟩ 72 72 (by kernel_rfl) (by kernel_rfl)) ?_
 refine rQ 6 82 _ rfl rfl (qint64 (n := 32 + 0) (z := 32) (by omega) (by omega) (by omega)) ?_
 refine rP 7 9 (.int .i64 32) ?_
 refine rEnd 8 rfl (nxt (reg ?_))
 refine rP 0 83 (.int .i64 32) ?_
 refine rP 1 84 (.slice (some ⟨w.heap.size, 0, none⟩) 104 104) ?_
 refine rP 2 85 (.int .i64 32) ?_
 refine rQ 3 86 (.slice (some ⟨w.heap.size, 32, none⟩) 72 72) rfl rfl (Mur.run_from_at 22 (.tmp 84) (.tmp 85) rfl 5 Tryd.underlying22 (by kernel_rfl) w.heap.size 0 104 104 32 72 (by kernel_rfl) (by kernel_rfl) (by omega) (by omega) rfl) ?_
 refine rP 4 87 (.slice A2 32 c2) ?_
 refine rX 5 88 rfl rfl (Mur.copy_mid (.tmp 86) (.tmp 87) 22 22 rfl 5 Tryd.underlying22 (by kernel_rfl) w.heap.size 32 72 72 (by kernel_rfl) A2 32 c2 (by kernel_rfl) 5 (b8s (k) ++ cs1.drop 32) r hb2 (Mur.byt_chg hy2 kk2 (fun g off e hl => trivial)) (by omega) (by omega) (by have hfl_ := Mur.fill_len (cs := cs1) (acc := k) (p := 32) hy1.1 (by omega); omega) (b8s (k ++ r) ++ cs1.drop 64) (Mur.fill_step hy1.1 hy2.1 rfl (by omega))) ?_
 rintro _ W3 ⟨rfl, hb3, ch3⟩
 have zz3 := ch3.size
 refine rQ 6 89 _ rfl rfl (qint64 (n := 32 + 32) (z := 64) (by omega) (by omega) (by omega)) ?_
 refine rP 7 9 (.int .i64 64) ?_
 refine rEnd 8 rfl (inN (nxt (reg ?_)))
 refine rQ 0 90 _ rfl rfl (qint64 (n := 0 + 1) (z := 1) (by omega) (by omega) (by omega)) ?_
 refine rP 1 72 (.int .i64 1) ?_
 refine rEnd 2 rfl (nxt (Wk.rdS (wp_seq (reg ?_))))
 refine rQ 0 73 _ rfl rfl (qboolT (b := decide ((1 : Int) < (3 : Int))) (decide_eq_true (by decide))) ?_
 refine rEnd 1 rfl (nxt (wp_seq (wp_cond_true (by kernel_rfl) (wp_skip (nxt (wp_seq (wp_block (wp_seq (reg ?_)))))))))
 refine rQ 0 74 (pt gp 2) rfl rfl (index_sl 127 22 (.tmp 70) (.tmp 72) rfl Tryd.underlying127 1 (by kernel_rfl) gp 1 3 3 1 .i64 (by kernel_rfl) (by kernel_rfl) (by omega)) ?_
 have kk3 := Chg.step kk2 ch3 ⟨.inr (by omega), trivial⟩
 refine rQ 1 75 _ rfl rfl (ld 22 74 gp 2 (.slice A3 8 c3) ((cell_of_row _ _ 2 _ _ _ (Chg.hp kk3 hp trivial)).trans rfl)) ?_
 refine rP 2 11 (.slice A3 8 c3) ?_
 refine rEnd 3 rfl (nxt (wp_seq (reg ?_)))
 refine rP 0 76 (.int .i64 64) ?_
 refine rP 1 77 (.slice (some ⟨w.heap.size, 0, none⟩) 104 104) ?_
 refine rP 2 78 (.int .i64 64) ?_
 refine rQ 3 79 (.slice (some ⟨w.heap.size, 64, none⟩) 40 40) rfl rfl (Mur.run_from_at 22 (.tmp 77) (.tmp 78) rfl 5 Tryd.underlying22 (by kernel_rfl) w.heap.size 0 104 104 64 40 (by kernel_rfl) (by kernel_rfl) (by omega) (by omega) rfl) ?_
 refine rP 4 80 (.slice none 0 0) ?_
 refine rQ 5 81 (.int .i64 0) rfl rfl (Mur.copy_none (.tmp 79) (.tmp 80) 22 22 rfl 5 Tryd.underlying22 (by kernel_rfl) ⟨w.heap.size, 64, none⟩ 40 40 (by kernel_rfl) (by kernel_rfl)) ?_
 refine rQ 6 82 _ rfl rfl (qint64 (n := 64 + 0) (z := 64) (by omega) (by omega) (by omega)) ?_
 refine rP 7 9 (.int .i64 64) ?_
 refine rEnd 8 rfl (nxt (reg ?_))
 refine rP 0 83 (.int .i64 64) ?_
 refine rP 1 84 (.slice (some ⟨w.heap.size, 0, none⟩) 104 104) ?_
 refine rP 2 85 (.int .i64 64) ?_
 refine rQ 3 86 (.slice (some ⟨w.heap.size, 64, none⟩) 40 40) rfl rfl (Mur.run_from_at 22 (.tmp 84) (.tmp 85) rfl 5 Tryd.underlying22 (by kernel_rfl) w.heap.size 0 104 104 64 40 (by kernel_rfl) (by kernel_rfl) (by omega) (by omega) rfl) ?_
 refine rP 4 87 (.slice A3 8 c3) ?_
 refine rX 5 88 rfl rfl (Mur.copy_mid (.tmp 86) (.tmp 87) 22 22 rfl 5 Tryd.underlying22 (by kernel_rfl) w.heap.size 64 40 40 (by kernel_rfl) A3 8 c3 (by kernel_rfl) 5 (b8s (k ++ r) ++ cs1.drop 64) E hb3 (Mur.byt_chg hy3 kk3 (fun g off e hl => trivial)) (by omega) (by omega) (by have hfl_ := Mur.fill_len (cs := cs1) (acc := k ++ r) (p := 64) (by simp only [List.length_append]; have := hy1.1; have := hy2.1; have := hy3.1; omega) (by omega); omega) (b8s ((k ++ r) ++ E) ++ cs1.drop 72) (Mur.fill_step (by simp only [List.length_append]; have := hy1.1; have := hy2.1; have := hy3.1; omega) hy3.1 rfl (by omega))) ?_
 rintro _ W4 ⟨rfl, hb4, ch4⟩
 have zz4 := ch4.size
 refine rQ 6 89 _ rfl rfl (qint64 (n := 64 + 8) (z := 72) (by omega) (by omega) (by omega)) ?_
 refine rP 7 9 (.int .i64 72) ?_
 refine rEnd 8 rfl (inN (nxt (reg ?_)))
 refine rQ 0 90 _ rfl rfl (qint64 (n := 1 + 1) (z := 2) (by omega) (by omega) (by omega)) ?_
 refine rP 1 72 (.int .i64 2) ?_
 refine rEnd 2 rfl (nxt (Wk.rdS (wp_seq (reg ?_))))
 refine rQ 0 73 _ rfl rfl (qboolT (b := decide ((2 : Int) < (3 : Int))) (decide_eq_true (by decide))) ?_
 refine rEnd 1 rfl (nxt (wp_seq (wp_cond_true (by kernel_rfl) (wp_skip (nxt (wp_seq (wp_block (wp_seq (reg ?_)))))))))
 refine rQ 0 74 (pt gp 3) rfl rfl (index_sl 127 22 (.tmp 70) (.tmp 72) rfl Tryd.underlying127 1 (by kernel_rfl) gp 1 3 3 2 .i64 (by kernel_rfl) (by kernel_rfl) (by omega)) ?_
 have kk4 := Chg.step kk3 ch4 ⟨.inr (by omega), trivial⟩
 refine rQ 1 75 _ rfl rfl (ld 22 74 gp 3 (.slice A4 32 c4) ((cell_of_row _ _ 3 _ _ _ (Chg.hp kk4 hp trivial)).trans rfl)) ?_
 refine rP 2 11 (.slice A4 32 c4) ?_
 refine rEnd 3 rfl (nxt (wp_seq (reg ?_)))
 refine rP 0 76 (.int .i64 72) ?_
 refine rP 1 77 (.slice (some ⟨w.heap.size, 0, none⟩) 104 104) ?_
 refine rP 2 78 (.int .i64 72) ?_
 refine rQ 3 79 (.slice (some ⟨w.heap.size, 72, none⟩) 32 32) rfl rfl (Mur.run_from_at 22 (.tmp 77) (.tmp 78) rfl 5 Tryd.underlying22 (by kernel_rfl) w.heap.size 0 104 104 72 32 (by kernel_rfl) (by kernel_rfl) (by omega) (by omega) rfl) ?_
 refine rP 4 80 (.slice none 0 0) ?_
 refine rQ 5 81 (.int .i64 0) rfl rfl (Mur.copy_none (.tmp 79) (.tmp 80) 22 22 rfl 5 Tryd.underlying22 (by kernel_rfl) ⟨w.heap.size, 72, none⟩ 32 32 (by kernel_rfl) (by kernel_rfl)) ?_
 refine rQ 6 82 _ rfl rfl (qint64 (n := 72 + 0) (z := 72) (by omega) (by omega) (by omega)) ?_
 refine rP 7 9 (.int .i64 72) ?_
 refine rEnd 8 rfl (nxt (reg ?_))
 refine rP 0 83 (.int .i64 72) ?_
 refine rP 1 84 (.slice (some ⟨w.heap.size, 0, none⟩) 104 104) ?_
 refine rP 2 85 (.int .i64 72) ?_
 refine rQ 3 86 (.slice (some ⟨w.heap.size, 72, none⟩) 32 32) rfl rfl (Mur.run_from_at 22 (.tmp 84) (.tmp 85) rfl 5 Tryd.underlying22 (by kernel_rfl) w.heap.size 0 104 104 72 32 (by kernel_rfl) (by kernel_rfl) (by omega) (by omega) rfl) ?_
 refine rP 4 87 (.slice A4 32 c4) ?_
 refine rX 5 88 rfl rfl (Mur.copy_mid (.tmp 86) (.tmp 87) 22 22 rfl 5 Tryd.underlying22 (by kernel_rfl) w.heap.size 72 32 32 (by kernel_rfl) A4 32 c4 (by kernel_rfl) 5 (b8s ((k ++ r) ++ E) ++ cs1.drop 72) t hb4 (Mur.byt_chg hy4 kk4 (fun g off e hl => trivial)) (by omega) (by omega) (by have hfl_ := Mur.fill_len (cs := cs1) (acc := (k ++ r) ++ E) (p := 72) (by simp only [List.length_append]; have := hy1.1; have := hy2.1; have := hy3.1; omega) (by omega); omega) (b8s (((k ++ r) ++ E) ++ t) ++ cs1.drop 104) (Mur.fill_step (by simp only [List.length_append]; have := hy1.1; have := hy2.1; have := hy3.1; omega) hy4.1 rfl (by omega))) ?_
 rintro _ W5 ⟨rfl, hb5, ch5⟩
 have zz5 := ch5.size
 refine rQ 6 89 _ rfl rfl (qint64 (n := 72 + 32) (z := 104) (by omega) (by omega) (by omega)) ?_
 refine rP 7 9 (.int .i64 104) ?_
 refine rEnd 8 rfl (inN (nxt (reg ?_)))
 refine rQ 0 90 _ rfl rfl (qint64 (n := 2 + 1) (z := 3) (by omega) (by omega) (by omega)) ?_
 refine rP 1 72 (.int .i64 3) ?_
 refine rEnd 2 rfl (nxt (Wk.rdS (wp_seq (reg ?_))))
 refine rQ 0 73 _ rfl rfl (qboolF (b := decide ((3 : Int) < (3 : Int))) (decide_eq_false (by decide))) ?_
 refine rEnd 1 rfl (nxt (wp_seq (wp_cond_false (by kernel_rfl) (wp_exit (thX (thX (inX (nxt (wp_seq (reg ?_))))))))))
 refine rP 0 91 (.slice (some ⟨w.heap.size, 0, none⟩) 104 104) ?_
 refine rP 1 4 (.slice (some ⟨w.heap.size, 0, none⟩) 104 104) ?_
 refine rEnd 2 rfl (nxt (wp_ret ?_))
 have kk5 := Chg.step kk4 ch5 ⟨.inr (by omega), trivial⟩
 refine rt (.slice (some ⟨w.heap.size, 0, none⟩) 104 104) ?_
 exact ⟨w.heap.size, rfl, Mur.byt_fill hb5 (by simp only [List.length_append]; have := hy1.1; have := hy2.1; have := hy3.1; have := hy4.1; omega), ⟨by omega, by omega⟩, kk5⟩
end Go.Proofs.YtgbadghjnpbiaaaDoor
namespace Go.Proofs.YtgbadghjnpbiaaaDoor
open Go.RowKit Wk
open Mur (b8s Byt Own8 Seg Segs flat cutA attC)
set_option maxRecDepth 100000
set_option maxHeartbeats 4000000
theorem raw_any (k r t : List UInt8) (n : Int) (hk : k.length = 32) (hr : r.length = 32) (ht : t.length = 32) (w : World) : Calls Tryd.prog 75 #[.agg (attC k r n t).toArray] w fun e w' => ∃ q cq B, Hid (B = Mur.rawL k r n t) ∧ e = .returned (.slice (some ⟨q, 0, none⟩) 104 cq) ∧ Byt w' (some ⟨q, 0, none⟩) 104 B ∧ (w.heap.size ≤ q ∧ q < w'.heap.size) ∧ (104 ≤ cq ∧ cq ≤ 9223372036854775807) ∧ Chg [] w w' := by
 refine calls_of_wp Tryd.func75 rfl ?_
 refine wp_seq (reg ?_)
 refine rX 0 1 rfl rfl (new_ex (pt w.heap.size 0) ((Mur.attC k r n t).toArray) 36 (by kernel_rfl)) ?_
 rintro _ W1 ⟨rfl, hb1, ch1, sz1⟩
 have zz1 := ch1.size
 refine rP 1 2 (.slice none 0 0) ?_
 refine rEnd 2 rfl (nxt (wp_seq (reg ?_)))
 refine rP 0 4 (pt w.heap.size 64) ?_
 refine rQ 1 5 _ rfl rfl (ld 3 4 w.heap.size 64 (.int .i64 n) (Mur.att_len hk hr hb1)) ?_
 refine rC 2 6 91 [.tmp 5] #[3] [.int .i64 n] ?_
 refine (eight_any n W1).mono ?_
 rintro _ W2 ⟨e8_1, hd1, hdl1, rfl, ch2⟩
 have zz2 := ch2.size
 refine ⟨_, rfl, ?_⟩
 refine rX 3 3 rfl rfl (new_ex (pt W2.heap.size 0) #[.int .u8 0, .int .u8 0, .int .u8 0, .int .u8 0, .int .u8 0, .int .u8 0, .int .u8 0, .int .u8 0] 144 (by kernel_rfl)) ?_
 rintro _ W3 ⟨rfl, hb2, ch3, sz2⟩
 have zz3 := ch3.size
 refine rY 4 rfl rfl (Mur.storeAll 144 (.tmp 3) (.tmp 6) rfl W2.heap.size (by kernel_rfl) e8_1 8 hdl1 (by kernel_rfl) (by kernel_rfl) 144 #[.int .u8 0, .int .u8 0, .int .u8 0, .int .u8 0, .int .u8 0, .int .u8 0, .int .u8 0, .int .u8 0] hb2 rfl) ?_
 rintro W4 ⟨hb3, ch4⟩
 have zz4 := ch4.size
 refine rEnd 5 rfl (nxt (wp_seq ?_))
 refine dReg ([]) (by kernel_rfl) ?_
 intro W5 ch5 sz3
 have zz5 := ch5.size
 have sS1 : Chg ([]) W5 W5 := (Chg.refl _).more (by simp)
 refine dW 0 7 (pt w.heap.size 0) sS1 ?_
 refine dV 1 8 (.slice (some ⟨w.heap.size, 0, none⟩) 32 32) rfl rfl (fun w' hw' => (Mur.arr_slice 29 5 (.tmp 7) 32 rfl Tryd.underlying29 (by kernel_rfl) w.heap.size (by kernel_rfl))) sS1 ?_
 refine dW 2 9 (pt w.heap.size 32) sS1 ?_
 refine dV 3 10 (.slice (some ⟨w.heap.size, 32, none⟩) 32 32) rfl rfl (fun w' hw' => (Mur.arr_slice_at 29 5 (.tmp 9) 32 rfl Tryd.underlying29 (by kernel_rfl) w.heap.size 32 (by kernel_rfl))) sS1 ?_
 refine dV 4 11 (.slice (some ⟨W2.heap.size, 0, none⟩) 8 8) rfl rfl (fun w' hw' => (Mur.arr_slice 144 5 (.tmp 3) 8 rfl Tryd.underlying144 (by kernel_rfl) W2.heap.size (by kernel_rfl))) sS1 ?_
 refine dW 5 12 (pt w.heap.size 65) sS1 ?_
 refine dV 6 13 (.slice (some ⟨w.heap.size, 65, none⟩) 32 32) rfl rfl (fun w' hw' => (Mur.arr_slice_at 29 5 (.tmp 12) 32 rfl Tryd.underlying29 (by kernel_rfl) w.heap.size 65 (by kernel_rfl))) sS1 ?_
 refine dOp 7 (by kernel_rfl) ?_
 refine oEx (some 14) _ rfl rfl (by kernel_rfl) (new_ex (.slice (some ⟨W5.heap.size, 0, none⟩) 4 4) #[.slice (some ⟨w.heap.size, 0, none⟩) 32 32, .slice (some ⟨w.heap.size, 32, none⟩) 32 32, .slice (some ⟨W2.heap.size, 0, none⟩) 8 8, .slice (some ⟨w.heap.size, 65, none⟩) 32 32] 22 (by kernel_rfl)) ?_
 rintro _ W6 ⟨rfl, hb4, ch6, sz4⟩
 have zz6 := ch6.size
 have sS2 := Chg.step sS1 ch6 trivial
 refine ⟨sS2, ?_⟩
 refine dOp 8 (by kernel_rfl) ?_
 refine oCall (some 15) 92 [.tmp 14, .const (.slice none 0 0)] #[127, 22] [.slice (some ⟨W5.heap.size, 0, none⟩) 4 4, .slice none 0 0] rfl rfl (by kernel_rfl) rfl (by kernel_rfl) (by kernel_rfl) ?_
 refine (Join4_any W5.heap.size 22 (0, 0) (some ⟨w.heap.size, 0, none⟩) (some ⟨w.heap.size, 32, none⟩) (some ⟨W2.heap.size, 0, none⟩) (some ⟨w.heap.size, 65, none⟩) 32 32 8 32 k r e8_1 t W6 hb4 (Mur.byt_rng (Mur.att_key (Chg.hp ch6 (Chg.hp ch5 (Chg.hp ch4 (Chg.hp ch3 (Chg.hp ch2 hb1 trivial) trivial) ⟨by omega, trivial⟩) trivial) trivial)) hk) (Mur.byt_rng (Mur.att_root hk (Chg.hp ch6 (Chg.hp ch5 (Chg.hp ch4 (Chg.hp ch3 (Chg.hp ch2 hb1 trivial) trivial) ⟨by omega, trivial⟩) trivial) trivial)) hr) (Mur.byt_blk e8_1 hdl1 (Chg.hp ch6 (Chg.hp ch5 hb3 trivial) trivial)) (Mur.byt_rng (Mur.att_tag hk hr (Chg.hp ch6 (Chg.hp ch5 (Chg.hp ch4 (Chg.hp ch3 (Chg.hp ch2 hb1 trivial) trivial) ⟨by omega, trivial⟩) trivial) trivial)) ht)).mono ?_
 rintro _ W7 ⟨qj1, rfl, hbj1, hq1, ch7⟩
 have zz7 := ch7.size
 have hBt1 : ∀ g off, (some ⟨qj1, 0, none⟩ : Option Addr) = some ⟨g, off, none⟩ → W6.heap.size ≤ g ∧ g < W7.heap.size := fun g off e => by cases e; exact hq1
 have sS3 := Chg.step sS2 ch7 trivial
 refine ⟨_, rfl, sS3, ?_⟩
 refine dW 9 2 (.slice (some ⟨qj1, 0, none⟩) 104 104) sS3 ?_
 refine dEnd (by kernel_rfl) (nxt (wp_ret ?_))
 have kk1 : Chg [] w W1 := Chg.step ((Chg.refl _).more (by simp)) ch1 trivial
 have kk2 := Chg.step kk1 ch2 trivial
 have kk3 := Chg.step kk2 ch3 trivial
 have kk4 := Chg.step kk3 ch4 ⟨.inr (by omega), trivial⟩
 have kk5 := Chg.step kk4 ch5 trivial
 have kk6 := Chg.step kk5 ch6 trivial
 have kk7 := Chg.step kk6 ch7 trivial
 refine rt (.slice (some ⟨qj1, 0, none⟩) 104 104) ?_
 exact ⟨_, _, _, Go.Lib.hid (by rw [hd1.out]; rfl), rfl, hbj1, ⟨by omega, by omega⟩, ⟨by omega, by omega⟩, kk7⟩
theorem Compare_any (A : Option Addr) (n c : Nat) (l : List UInt8) (B : Option Addr) (m d : Nat) (r : List UInt8) (w : World) (hy1 : Byt w A n l) (hy2 : Byt w B m r) : Calls Tryd.prog 90 #[.slice A n c, .slice B m d] w fun e w' => e = .returned (.int .i64 (Go.Lib.compareBytes l r)) ∧ w = w' := by
 refine calls_of_wp Tryd.func90 rfl ?_
 refine wp_seq (reg ?_)
 refine rP 0 4 (.int .i64 0) ?_
 refine rEnd 1 rfl (nxt (wp_seq (reg ?_)))
 refine rP 0 5 (.slice A n c) ?_
 refine rP 1 6 (.slice B m d) ?_
 refine rQ 2 7 (.int .i64 (Go.Lib.compareBytes l r)) rfl rfl (Mur.run_cmp Tryd.func97 (by kernel_rfl) (by kernel_rfl) (by kernel_rfl) (by kernel_rfl) (.tmp 5) (.tmp 6) _ rfl A n c l B m d r (by kernel_rfl) (by kernel_rfl) hy1 hy2) ?_
 refine rP 3 4 (.int .i64 (Go.Lib.compareBytes l r)) ?_
 refine rEnd 4 rfl (nxt (wp_ret ?_))
 refine rt (.int .i64 (Go.Lib.compareBytes l r)) ?_
 exact ⟨rfl, rfl⟩
theorem Less_any (k1 r1 t1 : List UInt8) (n1 : Int) (hk1 : k1.length = 32) (hr1 : r1.length = 32) (ht1 : t1.length = 32) (k2 r2 t2 : List UInt8) (n2 : Int) (hk2 : k2.length = 32) (hr2 : r2.length = 32) (ht2 : t2.length = 32) (w : World) : Calls Tryd.prog 73 #[.agg (attC k1 r1 n1 t1).toArray, .agg (attC k2 r2 n2 t2).toArray] w fun e w' => e = .returned (.bool (decide (Go.Lib.compareBytes (Mur.rawL k1 r1 n1 t1) (Mur.rawL k2 r2 n2 t2) < 0))) ∧ Chg [] w w' := by
 refine calls_of_wp Tryd.func73 rfl ?_
 refine wp_seq (reg ?_)
 refine rX 0 2 rfl rfl (new_ex (pt w.heap.size 0) ((Mur.attC k1 r1 n1 t1).toArray) 36 (by kernel_rfl)) ?_
 rintro _ W1 ⟨rfl, hb1, ch1, sz1⟩
 have zz1 := ch1.size
 refine rX 1 3 rfl rfl (new_ex (pt W1.heap.size 0) ((Mur.attC k2 r2 n2 t2).toArray) 36 (by kernel_rfl)) ?_
 rintro _ W2 ⟨rfl, hb2, ch2, sz2⟩
 have zz2 := ch2.size
 refine rP 2 4 (.bool false) ?_
 refine rEnd 3 rfl (nxt (wp_seq ?_))
 refine dReg ([]) (by kernel_rfl) ?_
 intro W3 ch3 sz3
 have zz3 := ch3.size
 have sS1 : Chg ([]) W3 W3 := (Chg.refl _).more (by simp)
 refine dV 0 5 (.agg ((Mur.attC k1 r1 n1 t1).toArray)) rfl rfl (fun w' hw' => (Mur.loadArr 36 (.tmp 2) rfl _ Tryd.underlying36 rfl w.heap.size (by kernel_rfl) (Mur.attC k1 r1 n1 t1).toArray 97 (Mur.attC_size hk1 hr1 ht1) (by kernel_rfl) 36 (0, 0) (Chg.hp hw' (Chg.hp ch3 (Chg.hp ch2 hb1 trivial) trivial) trivial))) sS1 ?_
 refine dV 2 7 (.agg ((Mur.attC k2 r2 n2 t2).toArray)) rfl rfl (fun w' hw' => (Mur.loadArr 36 (.tmp 3) rfl _ Tryd.underlying36 rfl W1.heap.size (by kernel_rfl) (Mur.attC k2 r2 n2 t2).toArray 97 (Mur.attC_size hk2 hr2 ht2) (by kernel_rfl) 36 (0, 0) (Chg.hp hw' (Chg.hp ch3 hb2 trivial) trivial))) sS1 ?_
 refine dOp 1 (by kernel_rfl) ?_
 refine oCall (some 6) 75 [.tmp 5] #[36] [.agg ((Mur.attC k1 r1 n1 t1).toArray)] rfl rfl (by kernel_rfl) rfl (by kernel_rfl) (by kernel_rfl) ?_
 refine (raw_any k1 r1 t1 n1 hk1 hr1 ht1 W3).mono ?_
 rintro _ W4 ⟨qr1, cr1, RB1, hRB1, rfl, hbr1, hq1, hq2, ch4⟩
 have zz4 := ch4.size
 have hBt1 : ∀ g off, (some ⟨qr1, 0, none⟩ : Option Addr) = some ⟨g, off, none⟩ → W3.heap.size ≤ g ∧ g < W4.heap.size := fun g off e => by cases e; exact hq1
 have sS2 := Chg.step sS1 ch4 trivial
 refine ⟨_, rfl, sS2, ?_⟩
 refine dOp 3 (by kernel_rfl) ?_
 refine oCall (some 8) 75 [.tmp 7] #[36] [.agg ((Mur.attC k2 r2 n2 t2).toArray)] rfl rfl (by kernel_rfl) rfl (by kernel_rfl) (by kernel_rfl) ?_
 refine (raw_any k2 r2 t2 n2 hk2 hr2 ht2 W4).mono ?_
 rintro _ W5 ⟨qr2, cr2, RB2, hRB2, rfl, hbr2, hq3, hq4, ch5⟩
 have zz5 := ch5.size
 have hBt2 : ∀ g off, (some ⟨qr2, 0, none⟩ : Option Addr) = some ⟨g, off, none⟩ → W4.heap.size ≤ g ∧ g < W5.heap.size := fun g off e => by cases e; exact hq3
 have sS3 := Chg.step sS2 ch5 trivial
 refine ⟨_, rfl, sS3, ?_⟩
 refine dOp 4 (by kernel_rfl) ?_
 refine oCall (some 9) 90 [.tmp 6, .tmp 8] #[22, 22] [.slice (some ⟨qr1, 0, none⟩) 104 cr1, .slice (some ⟨qr2, 0, none⟩) 104 cr2] rfl rfl (by kernel_rfl) rfl (by kernel_rfl) (by kernel_rfl) ?_
 refine (Compare_any (some ⟨qr1, 0, none⟩) 104 cr1 RB1 (some ⟨qr2, 0, none⟩) 104 cr2 RB2 W5 (Mur.byt_chg hbr1 ch5 (fun g off e hl => trivial)) hbr2).mono ?_
 rintro _ _ ⟨rfl, rfl⟩
 refine ⟨_, rfl, sS3, ?_⟩
 by_cases hx1 : (Go.Lib.compareBytes RB1 RB2) < (0 : Int)
 ·refine dV 5 10 (.bool true) rfl rfl (fun w' hw' => (boolT (b := decide ((Go.Lib.compareBytes RB1 RB2) < (0 : Int))) (decide_eq_true (by first | exact hx1 | omega)) (by kernel_rfl))) sS3 ?_
  refine dW 6 4 (.bool true) sS3 ?_
  refine dEnd (by kernel_rfl) (nxt (wp_ret ?_))
  have kk1 : Chg [] w W1 := Chg.step ((Chg.refl _).more (by simp)) ch1 trivial
  have kk2 := Chg.step kk1 ch2 trivial
  have kk3 := Chg.step kk2 ch3 trivial
  have kk4 := Chg.step kk3 ch4 trivial
  have kk5 := Chg.step kk4 ch5 trivial
  refine rt (.bool true) ?_
  exact ⟨by rw [← hRB1.out, ← hRB2.out, decide_eq_true (by assumption)], kk5⟩
 refine dV 5 10 (.bool false) rfl rfl (fun w' hw' => (boolF (b := decide ((Go.Lib.compareBytes RB1 RB2) < (0 : Int))) (decide_eq_false (by first | exact hx1 | omega)) (by kernel_rfl))) sS3 ?_
 refine dW 6 4 (.bool false) sS3 ?_
 refine dEnd (by kernel_rfl) (nxt (wp_ret ?_))
 have kk6 : Chg [] w W1 := Chg.step ((Chg.refl _).more (by simp)) ch1 trivial
 have kk7 := Chg.step kk6 ch2 trivial
 have kk8 := Chg.step kk7 ch3 trivial
 have kk9 := Chg.step kk8 ch4 trivial
 have kk10 := Chg.step kk9 ch5 trivial
 refine rt (.bool false) ?_
 exact ⟨by rw [← hRB1.out, ← hRB2.out, decide_eq_false (by assumption)], kk10⟩
end Go.Proofs.YtgbadghjnpbiaaaDoor
namespace Mur
open Go Go.RowKit Wk
section
variable {k r t : List UInt8} {n : Int}
theorem raw_len (hk : k.length = 32) (hr : r.length = 32) (ht : t.length = 32) : (rawL k r n t).length = 104 := by simp only [rawL, List.length_append, hk, hr, ht, e8_length]
theorem raw_eq : rawL k r n t = k ++ (r ++ (e8 (u64n n) ++ t)) := by simp only [rawL, List.append_assoc]
theorem raw_k (hk : k.length = 32) : ((rawL k r n t).take 32).drop 0 = k := by
  rw [raw_eq, List.take_left' hk]
  rfl
theorem raw_r (hk : k.length = 32) (hr : r.length = 32) : ((rawL k r n t).take 64).drop 32 = r := by
  rw [raw_eq, ← List.append_assoc, List.take_left' (by rw [List.length_append, hk, hr]), List.drop_left' hk]
theorem raw_e (hk : k.length = 32) (hr : r.length = 32) : ((rawL k r n t).take 72).drop 64 = e8 (u64n n) := by
  rw [rawL, List.take_left' (by rw [List.length_append, List.length_append, hk, hr, e8_length]), List.drop_left' (by rw [List.length_append, hk, hr])]
theorem raw_t (hk : k.length = 32) (hr : r.length = 32) (ht : t.length = 32) : ((rawL k r n t).take 104).drop 72 = t := by
  rw [List.take_of_length_le (by rw [raw_len hk hr ht]; exact Nat.le_refl _), rawL, List.drop_left' (by rw [List.length_append, List.length_append, hk, hr, e8_length])]
end
theorem u8_ofNat {x : UInt8} {m : Nat} (h : m % 256 = x.toNat) : UInt8.ofNat m = x := UInt8.toNat_inj.1 (by simp; omega)
theorem be_e8 {E : List UInt8} (h : E.length = 8) : e8 (be8 E) = E := by
  rcases E with _ | ⟨a, _ | ⟨b, _ | ⟨c, _ | ⟨d, _ | ⟨e, _ | ⟨f, _ | ⟨g, _ | ⟨i, _ | ⟨j, E⟩⟩⟩⟩⟩⟩⟩⟩⟩ <;> simp at h
  have ha := a.toNat_lt; have hb := b.toNat_lt; have hc := c.toNat_lt; have hd := d.toNat_lt
  have he := e.toNat_lt; have hf := f.toNat_lt; have hg := g.toNat_lt; have hi := i.toNat_lt
  simp only [be8, List.getD_cons_zero, List.getD_cons_succ, e8]
  rw [u8_ofNat (x := a) (by omega), u8_ofNat (x := b) (by omega), u8_ofNat (x := c) (by omega), u8_ofNat (x := d) (by omega), u8_ofNat (x := e) (by omega), u8_ofNat (x := f) (by omega), u8_ofNat (x := g) (by omega), u8_ofNat (x := i) (by omega)]
theorem u64n_nat {V : Nat} (h : V ≤ 5000) : u64n ((V : Nat) : Int) = V := by
  have h1 : IntKind.u64.wrap ((V : Nat) : Int) = ((V : Nat) : Int) % 18446744073709551616 := rfl
  unfold u64n
  rw [h1]
  omega
theorem raw_back {b K R E T : List UInt8} {V : Nat} (hb : b.length = 104) (hK : (b.take 32).drop 0 = K) (hR : (b.take 64).drop 32 = R) (hE : (b.take 72).drop 64 = E) (hT : (b.take 104).drop 72 = T) (hV : be8 E = V) (hm : V ≤ 5000) : rawL K R ((V : Nat) : Int) T = b := by
  have hEl : E.length = 8 := by rw [← hE, List.length_drop, List.length_take, hb]; rfl
  unfold rawL
  rw [u64n_nat hm, ← hV, be_e8 hEl, ← hK, ← hR, ← hE, ← hT]
  have e1 : (b.take 64).drop 32 = (b.drop 32).take 32 := by rw [List.drop_take]
  have e2 : (b.take 72).drop 64 = (b.drop 64).take 8 := by rw [List.drop_take]
  have e3 : (b.take 104).drop 72 = b.drop 72 := by rw [List.take_of_length_le (by omega)]
  have s1 : b.take 64 = b.take 32 ++ (b.drop 32).take 32 := List.take_add (i := 32) (j := 32)
  have s2 : b.take 72 = b.take 64 ++ (b.drop 64).take 8 := List.take_add (i := 64) (j := 8)
  rw [e1, e2, e3, List.drop_zero, ← s1, ← s2, List.take_append_drop]
theorem sub_len {b : List UInt8} {lo hi m : Nat} (hb : b.length = 104) (h : hi ≤ 104) (hm : lo + m = hi) : ((b.take hi).drop lo).length = m := by
  rw [List.length_drop, List.length_take, hb]
  omega
end Mur
