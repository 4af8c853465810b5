/- adverts' document: Add. gossip: summed. -/
import Derived.Test.YtfhneademopciaaDoorPM9
import Derived.Test.YtfhneademopciaaDoorPM5
import Derived.Test.YtfhneademopciaaDoorPM10
namespace Go.Proofs.YtfhneademopciaaDoor
open Go.RowKit
open Mur (b8s Byt Own8 Seg Segs flat cutA attC Att SlA OwnA rowA)
set_option maxRecDepth 100000
set_option maxHeartbeats 4000000
def Radd_F1 (b : Array Value) (u0 : Value) (u3 : Value) (u6 : Value) (u7 : Value) (u8 : Value) : Act := ⟨#[u0, b.getD 1 undef, b.getD 2 undef, u3, b.getD 4 undef, b.getD 5 undef, u6, u7, u8, b.getD 9 undef, b.getD 10 undef, b.getD 11 undef, b.getD 12 undef, b.getD 13 undef, b.getD 14 undef, b.getD 15 undef, b.getD 16 undef, b.getD 17 undef, b.getD 18 undef, b.getD 19 undef, b.getD 20 undef, b.getD 21 undef, b.getD 22 undef, b.getD 23 undef, b.getD 24 undef, b.getD 25 undef, b.getD 26 undef, b.getD 27 undef, b.getD 28 undef, b.getD 29 undef, b.getD 30 undef, b.getD 31 undef, b.getD 32 undef, b.getD 33 undef, b.getD 34 undef, b.getD 35 undef, b.getD 36 undef, b.getD 37 undef, b.getD 38 undef, b.getD 39 undef, b.getD 40 undef, b.getD 41 undef, b.getD 42 undef, b.getD 43 undef, b.getD 44 undef, b.getD 45 undef, b.getD 46 undef, b.getD 47 undef, b.getD 48 undef, b.getD 49 undef, b.getD 50 undef, b.getD 51 undef, b.getD 52 undef, b.getD 53 undef, b.getD 54 undef, b.getD 55 undef, b.getD 56 undef, b.getD 57 undef, b.getD 58 undef, b.getD 59 undef, b.getD 60 undef, b.getD 61 undef, b.getD 62 undef, b.getD 63 undef, b.getD 64 undef], []⟩
theorem Radd_any (A : Option Addr) (n c : Nat) (L : List Att) (x : Att) (w : World) (hA_ : SlA w A n L) (hs : Mur.Sorted L) (hlen : L.length ≤ 200) (hnc : n ≤ c ∧ c ≤ 9223372036854775807) : Calls Tryd.prog 26 #[.slice A n c, .agg (attC x.k x.r x.n x.t).toArray] w fun e w' => ∃ A2 n2 c2, e = .returned (.tuple #[.slice A2 n2 c2, .int .i64 (Mur.addS x L).2]) ∧ SlA w' A2 n2 (Mur.addS x L).1 ∧ (A2 = A ∨ ∀ g off, A2 = some ⟨g, off, none⟩ → w.heap.size ≤ g ∧ g < w'.heap.size) ∧ (n2 ≤ c2 ∧ c2 ≤ 9223372036854775807) ∧ Wk.Chg [] w w' := by
 have hLl0 := hA_.len
 refine calls_of_wp Tryd.func26 rfl ?_
 refine wp_seq (Wk.reg ?_)
 refine Wk.rEx 0 (some 3) _ rfl rfl (by kernel_rfl) (Wk.new_ex (.pointer (some ⟨w.heap.size, 0, none⟩)) ((Mur.attC x.k x.r x.n x.t).toArray) 32 (by kernel_rfl)) ?_
 rintro _ W1 ⟨rfl, hb1, ch1, sz1⟩
 have zz1 := ch1.size
 refine Wk.rP 1 4 (.slice none 0 0) rfl rfl ?_
 refine Wk.rP 2 5 (.int .i64 0) rfl rfl ?_
 refine Wk.rEnd 3 rfl (Wk.nxt (wp_seq (wp_seq (Wk.reg ?_))))
 refine Wk.rQ 0 9 (.agg ((Mur.attC x.k x.r x.n x.t).toArray)) rfl rfl (Mur.loadArr 32 (.tmp 3) rfl _ Tryd.underlying32 rfl w.heap.size (by kernel_rfl) (Mur.attC x.k x.r x.n x.t).toArray 97 (Mur.attC_size x.hk x.hr x.ht) (by kernel_rfl) 32 (0, 0) hb1) ?_
 refine Wk.rC 1 10 50 [.tmp 9] #[32] [.agg ((Mur.attC x.k x.r x.n x.t).toArray)] rfl rfl rfl ?_
 by_cases hmay1 : Mur.may x.n
 ·have hmay1u : 1 ≤ x.n ∧ x.n ≤ 5000 := hmay1
  refine (Rmay_any x.k x.r x.t x.n x.hk x.hr x.ht W1).mono ?_
  rw [decide_eq_true (hmay1 : Mur.may x.n)]
  rintro _ W2 ⟨rfl, ch2⟩
  have zz2 := ch2.size
  refine ⟨_, rfl, ?_⟩
  refine Wk.rP 2 11 (.bool false) rfl rfl ?_
  refine Wk.rEnd 3 rfl (Wk.nxt (wp_cond_false (by kernel_rfl) (wp_skip (Wk.nxt (wp_seq (Wk.reg ?_))))))
  refine Wk.rP 0 6 (.slice none 0 0) rfl rfl ?_
  refine Wk.rEnd 1 rfl (Wk.nxt (wp_seq (Wk.reg ?_)))
  refine Wk.rP 0 7 (.bool false) rfl rfl ?_
  refine Wk.rEnd 1 rfl (Wk.nxt (wp_seq (wp_seq (Wk.reg ?_))))
  refine Wk.rP 0 8 (.int .i64 0) rfl rfl ?_
  refine Wk.rEnd 1 rfl (Wk.nxt (wp_block ?_))
  refine Wk.loop (fun m_ a wr => ∃ (i : Nat) (b : Bool) (A1 : Option Addr) (N : Nat) (c1 : Nat), m_ = n - i ∧ a = Radd_F1 a.tmps (.slice A n c) (.pointer (some ⟨w.heap.size, 0, none⟩)) (.slice A1 N c1) (.bool b) (.int .i64 ((i : Nat) : Int)) ∧ i ≤ n ∧ OwnA wr (w.heap.size + 1) 32 A1 N c1 ((Mur.ins x L).take (i + b.toNat)) ∧ (b = true → Mur.pos x L < i) ∧ (b = false → i ≤ Mur.pos x L) ∧ (∀ j, j < i → L[j]? ≠ some x) ∧ wr.heap[w.heap.size]? = some (.cells (Mur.attC x.k x.r x.n x.t).toArray 32 (0, 0)) ∧ Wk.Chg [] w wr) (n - 0) ?_ ?_
  ·have kk1 : Wk.Chg [] w W1 := Wk.Chg.step ((Wk.Chg.refl _).more (by simp)) ch1 trivial
   have kk2 := Wk.Chg.step kk1 ch2 trivial
   refine ⟨0, false, none, 0, 0, rfl, by kernel_rfl, (by omega), (by exact Mur.ownA_nil _ _ _), (fun e_ => by cases e_), (fun _ => Nat.zero_le _), (fun j hj => by omega), (Wk.Chg.hp ch2 hb1 trivial), kk2⟩
  rintro mm1 aa1 W3 ⟨i, b, A1, N, c1, hmm1, hF1, hi, hO, hb1, hb0, hnew, hX, HB⟩
  generalize aa1.tmps = bb1 at hF1
  subst hF1
  have hzB := HB.size
  have hxl_ := (Array.getElem?_eq_some_iff.1 hX).1
  have hLl := hA_.len
  have hOl := hO.sl.len
  have hOn := hO.nc
  have hil_ := Mur.ins_length x L
  rw [List.length_take] at hOl
  by_cases hlt : i < n
  ·obtain ⟨g_y, o_y, rfl, _⟩ := hA_.ex (by omega)
   obtain ⟨y, hy⟩ : ∃ x, L[i]? = some x := ⟨_, List.getElem?_eq_getElem (by have := hA_.len; omega)⟩
   cases b
   ·simp only [Bool.toNat_false, Nat.add_zero] at hO hOl
    refine wp_seq (wp_seq (Wk.reg ?_))
    refine Wk.rP 0 13 (.int .i64 ((i : Nat) : Int)) rfl rfl ?_
    refine Wk.rP 1 14 (.slice (some ⟨g_y, o_y, none⟩) n c) rfl rfl ?_
    refine Wk.rP 2 15 (.int .i64 ((n : Nat) : Int)) rfl rfl ?_
    refine Wk.rQ 3 16 (.bool true) rfl rfl (Wk.boolT (b := decide (((i : Nat) : Int) < ((n : Nat) : Int))) (decide_eq_true (by omega)) (by kernel_rfl)) ?_
    refine Wk.rEnd 4 rfl (Wk.nxt (wp_cond_true (by kernel_rfl) (wp_skip (Wk.nxt (wp_seq (wp_block (wp_seq (wp_seq ?_))))))))
    refine Wk.dReg ([]) (by kernel_rfl) ?_
    intro W4 ch3 sz2
    have zz3 := ch3.size
    have sS1 : Wk.Chg ([]) W4 W4 := (Wk.Chg.refl _).more (by simp)
    refine Wk.dV 0 19 (.slice (some ⟨g_y, o_y, none⟩) n c) rfl rfl (fun _ _ => by kernel_rfl) sS1 ?_
    refine Wk.dV 1 20 (.int .i64 ((i : Nat) : Int)) rfl rfl (fun _ _ => by kernel_rfl) sS1 ?_
    refine Wk.dV 2 21 (.pointer (some ⟨g_y, o_y + i * 97, none⟩)) rfl rfl (fun w' hw' => (Wk.index_sl 50 32 (.tmp 19) (.tmp 20) rfl Tryd.underlying50 97 (by kernel_rfl) g_y o_y n c i .i64 (by kernel_rfl) (by kernel_rfl) (by omega))) sS1 ?_
    have kk3 := Wk.Chg.step HB ch3 trivial
    refine Wk.dV 3 22 (.agg ((Mur.attC y.k y.r y.n y.t).toArray)) rfl rfl (fun w' hw' => (Wk.loadR 32 (.tmp 21) rfl _ Tryd.underlying32 rfl g_y (o_y + i * 97) (by kernel_rfl) (Mur.attC y.k y.r y.n y.t) (by rw [Mur.attC_length y.hk y.hr y.ht]; kernel_rfl) ((Mur.SlA.chg (Mur.SlA.chg hA_ kk3 (fun g off e hl => trivial)) hw' (fun g off e hl => trivial)).elem hy))) sS1 ?_
    refine Wk.dV 4 23 (.agg ((Mur.attC x.k x.r x.n x.t).toArray)) rfl rfl (fun w' hw' => (Mur.loadArr 32 (.tmp 3) rfl _ Tryd.underlying32 rfl w.heap.size (by kernel_rfl) (Mur.attC x.k x.r x.n x.t).toArray 97 (Mur.attC_size x.hk x.hr x.ht) (by kernel_rfl) 32 (0, 0) (Wk.Chg.hp hw' (Wk.Chg.hp ch3 hX trivial) trivial))) sS1 ?_
    by_cases hatt1 : y.k = x.k ∧ y.r = x.r ∧ y.n = x.n ∧ y.t = x.t
    ·refine Wk.dV 5 24 (.bool true) rfl rfl (fun w' hw' => (Wk.boolT (b := decide (y.k = x.k ∧ y.r = x.r ∧ y.n = x.n ∧ y.t = x.t)) (decide_eq_true (hatt1)) (run_eql_att (.tmp 22) (.tmp 23) 32 rfl y.hk y.hr y.ht x.hk x.hr x.ht y.hn x.hn (by kernel_rfl) (by kernel_rfl)))) sS1 ?_
     refine Wk.dEnd (by kernel_rfl) (Wk.nxt (wp_cond_true (by kernel_rfl) (wp_seq (Wk.reg ?_))))
     refine Wk.rP 0 25 (.slice (some ⟨g_y, o_y, none⟩) n c) rfl rfl ?_
     refine Wk.rP 1 4 (.slice (some ⟨g_y, o_y, none⟩) n c) rfl rfl ?_
     refine Wk.rP 2 5 (.int .i64 7) rfl rfl ?_
     refine Wk.rEnd 3 rfl (Wk.nxt (wp_ret (Wk.thR (Wk.inR (Wk.thR (Wk.thR (Wk.inR (Wk.thR ?_))))))))
     rw [Mur.addS_twice hmay1 (by have q_ := (Mur.Att.eq_iff y x).2 hatt1; rw [← q_]; exact List.mem_of_getElem? hy)]
     refine Wk.ret (.tuple #[.slice (some ⟨g_y, o_y, none⟩) n c, .int .i64 7]) rfl (by kernel_rfl) ?_
     exact ⟨_, _, _, rfl, (Mur.SlA.chg hA_ kk3 (fun g off e hl => trivial)), .inl rfl, by omega, kk3⟩
    refine Wk.dV 5 24 (.bool false) rfl rfl (fun w' hw' => (Wk.boolF (b := decide (y.k = x.k ∧ y.r = x.r ∧ y.n = x.n ∧ y.t = x.t)) (decide_eq_false (hatt1)) (run_eql_att (.tmp 22) (.tmp 23) 32 rfl y.hk y.hr y.ht x.hk x.hr x.ht y.hn x.hn (by kernel_rfl) (by kernel_rfl)))) sS1 ?_
    refine Wk.dEnd (by kernel_rfl) (Wk.nxt (wp_cond_false (by kernel_rfl) (wp_skip (Wk.nxt (wp_seq (wp_seq ?_))))))
    refine Wk.dReg ([]) (by kernel_rfl) ?_
    intro W5 ch4 sz3
    have zz4 := ch4.size
    have sS2 : Wk.Chg ([]) W5 W5 := (Wk.Chg.refl _).more (by simp)
    refine Wk.dV 0 26 (.bool false) rfl rfl (fun _ _ => by kernel_rfl) sS2 ?_
    refine Wk.dV 1 27 (.bool true) rfl rfl (fun _ _ => by kernel_rfl) sS2 ?_
    refine Wk.dV 2 28 (.bool true) rfl rfl (fun _ _ => by kernel_rfl) sS2 ?_
    refine Wk.dV 3 29 (.agg ((Mur.attC x.k x.r x.n x.t).toArray)) rfl rfl (fun w' hw' => (Mur.loadArr 32 (.tmp 3) rfl _ Tryd.underlying32 rfl w.heap.size (by kernel_rfl) (Mur.attC x.k x.r x.n x.t).toArray 97 (Mur.attC_size x.hk x.hr x.ht) (by kernel_rfl) 32 (0, 0) (Wk.Chg.hp hw' (Wk.Chg.hp ch4 (Wk.Chg.hp ch3 hX trivial) trivial) trivial))) sS2 ?_
    refine Wk.dV 4 30 (.slice (some ⟨g_y, o_y, none⟩) n c) rfl rfl (fun _ _ => by kernel_rfl) sS2 ?_
    refine Wk.dV 5 31 (.int .i64 ((i : Nat) : Int)) rfl rfl (fun _ _ => by kernel_rfl) sS2 ?_
    refine Wk.dV 6 32 (.pointer (some ⟨g_y, o_y + i * 97, none⟩)) rfl rfl (fun w' hw' => (Wk.index_sl 50 32 (.tmp 30) (.tmp 31) rfl Tryd.underlying50 97 (by kernel_rfl) g_y o_y n c i .i64 (by kernel_rfl) (by kernel_rfl) (by omega))) sS2 ?_
    have kk4 := Wk.Chg.step kk3 ch4 trivial
    refine Wk.dV 7 33 (.agg ((Mur.attC y.k y.r y.n y.t).toArray)) rfl rfl (fun w' hw' => (Wk.loadR 32 (.tmp 32) rfl _ Tryd.underlying32 rfl g_y (o_y + i * 97) (by kernel_rfl) (Mur.attC y.k y.r y.n y.t) (by rw [Mur.attC_length y.hk y.hr y.ht]; kernel_rfl) ((Mur.SlA.chg (Mur.SlA.chg hA_ kk4 (fun g off e hl => trivial)) hw' (fun g off e hl => trivial)).elem hy))) sS2 ?_
    refine Wk.dOp 8 (by kernel_rfl) ?_
    refine Wk.oCall (some 34) 25 [.tmp 29, .tmp 33] #[32, 32] [.agg ((Mur.attC x.k x.r x.n x.t).toArray), .agg ((Mur.attC y.k y.r y.n y.t).toArray)] rfl rfl (by kernel_rfl) rfl (by kernel_rfl) (by kernel_rfl) ?_
    refine (Less20_any x y W5).mono ?_
    by_cases hls1 : x.lt y
    ·rw [decide_eq_true (hls1 : x.lt y)]
     rintro _ W6 ⟨rfl, ch5⟩
     have zz5 := ch5.size
     have sS3 := Wk.Chg.step sS2 ch5 trivial
     refine ⟨_, rfl, sS3, ?_⟩
     refine Wk.dV 9 35 (.bool true) rfl rfl (fun _ _ => by kernel_rfl) sS3 ?_
     refine Wk.dEnd (by kernel_rfl) (Wk.nxt (wp_cond_true (by kernel_rfl) (wp_seq (Wk.reg ?_))))
     refine Wk.rP 0 36 (.slice A1 N c1) rfl rfl ?_
     refine Wk.rQ 1 37 (.agg ((Mur.attC x.k x.r x.n x.t).toArray)) rfl rfl (Mur.loadArr 32 (.tmp 3) rfl _ Tryd.underlying32 rfl w.heap.size (by kernel_rfl) (Mur.attC x.k x.r x.n x.t).toArray 97 (Mur.attC_size x.hk x.hr x.ht) (by kernel_rfl) 32 (0, 0) (Wk.Chg.hp ch5 (Wk.Chg.hp ch4 (Wk.Chg.hp ch3 hX trivial) trivial) trivial)) ?_
     refine Wk.rEx 2 (some 38) _ rfl rfl (by kernel_rfl) (Mur.build1 50 32 (.tmp 37) rfl Tryd.underlying50 attI x.k x.r x.t x.n x.hk x.hr x.ht (by kernel_rfl)) ?_
     rintro _ W7 ⟨rfl, hb2, ch6, sz4⟩
     have zz6 := ch6.size
     have ow1 := Mur.OwnA.chg hO ch3 (fun q e _ _ => trivial)
     have ow2 := Mur.OwnA.chg ow1 ch4 (fun q e _ _ => trivial)
     have ow3 := Mur.OwnA.chg ow2 ch5 (fun q e _ _ => trivial)
     have ow4 := Mur.OwnA.chg ow3 ch6 (fun q e _ _ => trivial)
     refine Wk.rEx 3 (some 39) _ rfl rfl (by kernel_rfl) (Mur.appendA (.tmp 36) (.tmp 38) 50 32 rfl Tryd.underlying50 attI (w.heap.size + 1) A1 N c1 ((Mur.ins x L).take i) (some ⟨W6.heap.size, 0, none⟩) 1 1 ([x]) (by kernel_rfl) (by kernel_rfl) ow4 (Mur.slA_box x hb2) (fun h => by cases h) (by omega) (by omega) (N + 1) (by omega) (((Mur.ins x L).take i) ++ ([x])) rfl) ?_
     rintro _ W8 ⟨AA1, nn1, rfl, ow5, ch7, ha1⟩
     have zz7 := ch7.size
     have hq1 := ow5.nc
     have hq2 := ow5.cm
     refine Wk.rP 4 6 (.slice AA1 (N + 1) nn1) rfl rfl ?_
     refine Wk.rEnd 5 rfl (Wk.nxt (Wk.reg ?_))
     refine Wk.rP 0 7 (.bool true) rfl rfl ?_
     refine Wk.rEnd 1 rfl (Wk.nxt (Wk.reg ?_))
     refine Wk.rP 0 40 (.slice AA1 (N + 1) nn1) rfl rfl ?_
     refine Wk.rP 1 41 (.slice (some ⟨g_y, o_y, none⟩) n c) rfl rfl ?_
     refine Wk.rP 2 42 (.int .i64 ((i : Nat) : Int)) rfl rfl ?_
     refine Wk.rQ 3 43 (.pointer (some ⟨g_y, o_y + i * 97, none⟩)) rfl rfl (Wk.index_sl 50 32 (.tmp 41) (.tmp 42) rfl Tryd.underlying50 97 (by kernel_rfl) g_y o_y n c i .i64 (by kernel_rfl) (by kernel_rfl) (by omega)) ?_
     have kk5 := Wk.Chg.step kk4 ch5 trivial
     have kk6 := Wk.Chg.step kk5 ch6 trivial
     have kk7 := Wk.Chg.step kk6 ch7 (Wk.newOr_blk (fun g hg => by have := hO.lt g hg; omega))
     refine Wk.rQ 4 44 (.agg ((Mur.attC y.k y.r y.n y.t).toArray)) rfl rfl (Wk.loadR 32 (.tmp 43) rfl _ Tryd.underlying32 rfl g_y (o_y + i * 97) (by kernel_rfl) (Mur.attC y.k y.r y.n y.t) (by rw [Mur.attC_length y.hk y.hr y.ht]; kernel_rfl) ((Mur.SlA.chg hA_ kk7 (fun g off e hl => trivial)).elem hy)) ?_
     refine Wk.rEx 5 (some 45) _ rfl rfl (by kernel_rfl) (Mur.build1 50 32 (.tmp 44) rfl Tryd.underlying50 attI y.k y.r y.t y.n y.hk y.hr y.ht (by kernel_rfl)) ?_
     rintro _ W10 ⟨rfl, hb3, ch8, sz5⟩
     have zz8 := ch8.size
     have ow6 := Mur.OwnA.chg ow5 ch8 (fun q e _ _ => trivial)
     refine Wk.rEx 6 (some 46) _ rfl rfl (by kernel_rfl) (Mur.appendA (.tmp 40) (.tmp 45) 50 32 rfl Tryd.underlying50 attI (w.heap.size + 1) AA1 (N + 1) nn1 (((Mur.ins x L).take i) ++ ([x])) (some ⟨W8.heap.size, 0, none⟩) 1 1 ([y]) (by kernel_rfl) (by kernel_rfl) ow6 (Mur.slA_box y hb3) (fun h => by cases h) (by omega) (by omega) (N + 1 + 1) (by omega) ((((Mur.ins x L).take i) ++ ([x])) ++ ([y])) rfl) ?_
     rintro _ W11 ⟨AA2, nn2, rfl, ow7, ch9, ha2⟩
     have zz9 := ch9.size
     have hq3 := ow7.nc
     have hq4 := ow7.cm
     refine Wk.rP 7 6 (.slice AA2 (N + 1 + 1) nn2) rfl rfl ?_
     refine Wk.rEnd 8 rfl (Wk.inN (Wk.nxt (Wk.reg ?_)))
     refine Wk.rP 0 17 (.int .i64 ((i : Nat) : Int)) rfl rfl ?_
     refine Wk.rQ 1 18 (.int .i64 ((i + 1 : Nat) : Int)) rfl rfl (Wk.int64 (n := ((i : Nat) : Int) + 1) (z := ((i + 1 : Nat) : Int)) (by omega) (by omega) (by omega) (by kernel_rfl)) ?_
     refine Wk.rP 2 8 (.int .i64 ((i + 1 : Nat) : Int)) rfl rfl ?_
     refine Wk.rEnd 3 rfl (Wk.nxt ?_)
     have kk8 := Wk.Chg.step kk7 ch8 trivial
     have kk9 := Wk.Chg.step kk8 ch9 (Wk.newOr_blk (fun g hg => by have := ow5.lt g hg; omega))
     refine ⟨_, ?_, i + 1, true, AA2, N + 1 + 1, nn2, rfl, by kernel_rfl, (by omega), (by rw [show i + 1 + true.toNat = i + 2 from rfl, (Mur.radd_at hs hy (hb0 rfl) hls1).2]; exact ow7), (fun _ => by have := (Mur.radd_at hs hy (hb0 rfl) hls1).1; omega), (fun e_ => by cases e_), (fun j hj => by rcases Nat.lt_or_ge j i with h1_ | h1_ <;> first | exact hnew j h1_ | (obtain rfl : j = i := (by omega); rw [hy]; exact fun q_ => (fun q_ => hatt1 ((Mur.Att.eq_iff y x).1 q_)) (Option.some.inj q_))), (Wk.Chg.hp ch9 (Wk.Chg.hp ch8 (Wk.Chg.hp ch7 (Wk.Chg.hp ch6 (Wk.Chg.hp ch5 (Wk.Chg.hp ch4 (Wk.Chg.hp ch3 hX trivial) trivial) trivial) trivial) (Wk.off_blk (fun gz hgz => by have := hO.lt gz hgz; omega))) trivial) (Wk.off_blk (fun gz hgz => by have := ow5.lt gz hgz; omega))), kk9⟩
     omega
    rw [decide_eq_false (hls1 : ¬ x.lt y)]
    rintro _ W6 ⟨rfl, ch5⟩
    have zz10 := ch5.size
    have sS4 := Wk.Chg.step sS2 ch5 trivial
    refine ⟨_, rfl, sS4, ?_⟩
    refine Wk.dV 9 35 (.bool false) rfl rfl (fun _ _ => by kernel_rfl) sS4 ?_
    refine Wk.dEnd (by kernel_rfl) (Wk.nxt (wp_cond_false (by kernel_rfl) (wp_skip (Wk.nxt (Wk.reg ?_)))))
    refine Wk.rP 0 40 (.slice A1 N c1) rfl rfl ?_
    refine Wk.rP 1 41 (.slice (some ⟨g_y, o_y, none⟩) n c) rfl rfl ?_
    refine Wk.rP 2 42 (.int .i64 ((i : Nat) : Int)) rfl rfl ?_
    refine Wk.rQ 3 43 (.pointer (some ⟨g_y, o_y + i * 97, none⟩)) rfl rfl (Wk.index_sl 50 32 (.tmp 41) (.tmp 42) rfl Tryd.underlying50 97 (by kernel_rfl) g_y o_y n c i .i64 (by kernel_rfl) (by kernel_rfl) (by omega)) ?_
    have kk10 := Wk.Chg.step kk4 ch5 trivial
    refine Wk.rQ 4 44 (.agg ((Mur.attC y.k y.r y.n y.t).toArray)) rfl rfl (Wk.loadR 32 (.tmp 43) rfl _ Tryd.underlying32 rfl g_y (o_y + i * 97) (by kernel_rfl) (Mur.attC y.k y.r y.n y.t) (by rw [Mur.attC_length y.hk y.hr y.ht]; kernel_rfl) ((Mur.SlA.chg hA_ kk10 (fun g off e hl => trivial)).elem hy)) ?_
    refine Wk.rEx 5 (some 45) _ rfl rfl (by kernel_rfl) (Mur.build1 50 32 (.tmp 44) rfl Tryd.underlying50 attI y.k y.r y.t y.n y.hk y.hr y.ht (by kernel_rfl)) ?_
    rintro _ W12 ⟨rfl, hb4, ch10, sz6⟩
    have zz11 := ch10.size
    have ow8 := Mur.OwnA.chg hO ch3 (fun q e _ _ => trivial)
    have ow9 := Mur.OwnA.chg ow8 ch4 (fun q e _ _ => trivial)
    have ow10 := Mur.OwnA.chg ow9 ch5 (fun q e _ _ => trivial)
    have ow11 := Mur.OwnA.chg ow10 ch10 (fun q e _ _ => trivial)
    refine Wk.rEx 6 (some 46) _ rfl rfl (by kernel_rfl) (Mur.appendA (.tmp 40) (.tmp 45) 50 32 rfl Tryd.underlying50 attI (w.heap.size + 1) A1 N c1 ((Mur.ins x L).take i) (some ⟨W6.heap.size, 0, none⟩) 1 1 ([y]) (by kernel_rfl) (by kernel_rfl) ow11 (Mur.slA_box y hb4) (fun h => by cases h) (by omega) (by omega) (N + 1) (by omega) (((Mur.ins x L).take i) ++ ([y])) rfl) ?_
    rintro _ W13 ⟨AA3, nn3, rfl, ow12, ch11, ha3⟩
    have zz12 := ch11.size
    have hq5 := ow12.nc
    have hq6 := ow12.cm
    refine Wk.rP 7 6 (.slice AA3 (N + 1) nn3) rfl rfl ?_
    refine Wk.rEnd 8 rfl (Wk.inN (Wk.nxt (Wk.reg ?_)))
    refine Wk.rP 0 17 (.int .i64 ((i : Nat) : Int)) rfl rfl ?_
    refine Wk.rQ 1 18 (.int .i64 ((i + 1 : Nat) : Int)) rfl rfl (Wk.int64 (n := ((i : Nat) : Int) + 1) (z := ((i + 1 : Nat) : Int)) (by omega) (by omega) (by omega) (by kernel_rfl)) ?_
    refine Wk.rP 2 8 (.int .i64 ((i + 1 : Nat) : Int)) rfl rfl ?_
    refine Wk.rEnd 3 rfl (Wk.nxt ?_)
    have kk11 := Wk.Chg.step kk10 ch10 trivial
    have kk12 := Wk.Chg.step kk11 ch11 (Wk.newOr_blk (fun g hg => by have := hO.lt g hg; omega))
    refine ⟨_, ?_, i + 1, false, AA3, N + 1, nn3, rfl, by kernel_rfl, (by omega), (by rw [show i + 1 + false.toNat = i + 1 from rfl, (Mur.radd_lt hs hy (fun q_ => hatt1 ((Mur.Att.eq_iff y x).1 q_)) hls1).2]; exact ow12), (fun e_ => by cases e_), (fun _ => by have := (Mur.radd_lt hs hy (fun q_ => hatt1 ((Mur.Att.eq_iff y x).1 q_)) hls1).1; omega), (fun j hj => by rcases Nat.lt_or_ge j i with h1_ | h1_ <;> first | exact hnew j h1_ | (obtain rfl : j = i := (by omega); rw [hy]; exact fun q_ => (fun q_ => hatt1 ((Mur.Att.eq_iff y x).1 q_)) (Option.some.inj q_))), (Wk.Chg.hp ch11 (Wk.Chg.hp ch10 (Wk.Chg.hp ch5 (Wk.Chg.hp ch4 (Wk.Chg.hp ch3 hX trivial) trivial) trivial) trivial) (Wk.off_blk (fun gz hgz => by have := hO.lt gz hgz; omega))), kk12⟩
    omega
   simp only [Bool.toNat_true] at hO hOl
   refine wp_seq (wp_seq (Wk.reg ?_))
   refine Wk.rP 0 13 (.int .i64 ((i : Nat) : Int)) rfl rfl ?_
   refine Wk.rP 1 14 (.slice (some ⟨g_y, o_y, none⟩) n c) rfl rfl ?_
   refine Wk.rP 2 15 (.int .i64 ((n : Nat) : Int)) rfl rfl ?_
   refine Wk.rQ 3 16 (.bool true) rfl rfl (Wk.boolT (b := decide (((i : Nat) : Int) < ((n : Nat) : Int))) (decide_eq_true (by omega)) (by kernel_rfl)) ?_
   refine Wk.rEnd 4 rfl (Wk.nxt (wp_cond_true (by kernel_rfl) (wp_skip (Wk.nxt (wp_seq (wp_block (wp_seq (wp_seq ?_))))))))
   refine Wk.dReg ([]) (by kernel_rfl) ?_
   intro W14 ch12 sz7
   have zz13 := ch12.size
   have sS5 : Wk.Chg ([]) W14 W14 := (Wk.Chg.refl _).more (by simp)
   refine Wk.dV 0 19 (.slice (some ⟨g_y, o_y, none⟩) n c) rfl rfl (fun _ _ => by kernel_rfl) sS5 ?_
   refine Wk.dV 1 20 (.int .i64 ((i : Nat) : Int)) rfl rfl (fun _ _ => by kernel_rfl) sS5 ?_
   refine Wk.dV 2 21 (.pointer (some ⟨g_y, o_y + i * 97, none⟩)) rfl rfl (fun w' hw' => (Wk.index_sl 50 32 (.tmp 19) (.tmp 20) rfl Tryd.underlying50 97 (by kernel_rfl) g_y o_y n c i .i64 (by kernel_rfl) (by kernel_rfl) (by omega))) sS5 ?_
   have kk13 := Wk.Chg.step HB ch12 trivial
   refine Wk.dV 3 22 (.agg ((Mur.attC y.k y.r y.n y.t).toArray)) rfl rfl (fun w' hw' => (Wk.loadR 32 (.tmp 21) rfl _ Tryd.underlying32 rfl g_y (o_y + i * 97) (by kernel_rfl) (Mur.attC y.k y.r y.n y.t) (by rw [Mur.attC_length y.hk y.hr y.ht]; kernel_rfl) ((Mur.SlA.chg (Mur.SlA.chg hA_ kk13 (fun g off e hl => trivial)) hw' (fun g off e hl => trivial)).elem hy))) sS5 ?_
   refine Wk.dV 4 23 (.agg ((Mur.attC x.k x.r x.n x.t).toArray)) rfl rfl (fun w' hw' => (Mur.loadArr 32 (.tmp 3) rfl _ Tryd.underlying32 rfl w.heap.size (by kernel_rfl) (Mur.attC x.k x.r x.n x.t).toArray 97 (Mur.attC_size x.hk x.hr x.ht) (by kernel_rfl) 32 (0, 0) (Wk.Chg.hp hw' (Wk.Chg.hp ch12 hX trivial) trivial))) sS5 ?_
   by_cases hatt2 : y.k = x.k ∧ y.r = x.r ∧ y.n = x.n ∧ y.t = x.t
   ·refine Wk.dV 5 24 (.bool true) rfl rfl (fun w' hw' => (Wk.boolT (b := decide (y.k = x.k ∧ y.r = x.r ∧ y.n = x.n ∧ y.t = x.t)) (decide_eq_true (hatt2)) (run_eql_att (.tmp 22) (.tmp 23) 32 rfl y.hk y.hr y.ht x.hk x.hr x.ht y.hn x.hn (by kernel_rfl) (by kernel_rfl)))) sS5 ?_
    refine Wk.dEnd (by kernel_rfl) (Wk.nxt (wp_cond_true (by kernel_rfl) (wp_seq (Wk.reg ?_))))
    refine Wk.rP 0 25 (.slice (some ⟨g_y, o_y, none⟩) n c) rfl rfl ?_
    refine Wk.rP 1 4 (.slice (some ⟨g_y, o_y, none⟩) n c) rfl rfl ?_
    refine Wk.rP 2 5 (.int .i64 7) rfl rfl ?_
    refine Wk.rEnd 3 rfl (Wk.nxt (wp_ret (Wk.thR (Wk.inR (Wk.thR (Wk.thR (Wk.inR (Wk.thR ?_))))))))
    rw [Mur.addS_twice hmay1 (by have q_ := (Mur.Att.eq_iff y x).2 hatt2; rw [← q_]; exact List.mem_of_getElem? hy)]
    refine Wk.ret (.tuple #[.slice (some ⟨g_y, o_y, none⟩) n c, .int .i64 7]) rfl (by kernel_rfl) ?_
    exact ⟨_, _, _, rfl, (Mur.SlA.chg hA_ kk13 (fun g off e hl => trivial)), .inl rfl, by omega, kk13⟩
   refine Wk.dV 5 24 (.bool false) rfl rfl (fun w' hw' => (Wk.boolF (b := decide (y.k = x.k ∧ y.r = x.r ∧ y.n = x.n ∧ y.t = x.t)) (decide_eq_false (hatt2)) (run_eql_att (.tmp 22) (.tmp 23) 32 rfl y.hk y.hr y.ht x.hk x.hr x.ht y.hn x.hn (by kernel_rfl) (by kernel_rfl)))) sS5 ?_
   refine Wk.dEnd (by kernel_rfl) (Wk.nxt (wp_cond_false (by kernel_rfl) (wp_skip (Wk.nxt (wp_seq (wp_seq ?_))))))
   refine Wk.dReg ([]) (by kernel_rfl) ?_
   intro W15 ch13 sz8
   have zz14 := ch13.size
   have sS6 : Wk.Chg ([]) W15 W15 := (Wk.Chg.refl _).more (by simp)
   refine Wk.dV 0 26 (.bool true) rfl rfl (fun _ _ => by kernel_rfl) sS6 ?_
   refine Wk.dV 1 27 (.bool false) rfl rfl (fun _ _ => by kernel_rfl) sS6 ?_
   refine Wk.dV 2 28 (.bool false) rfl rfl (fun _ _ => by kernel_rfl) sS6 ?_
   refine Wk.dPass 3 (some 29) rfl rfl (by kernel_rfl) (by kernel_rfl) (by kernel_rfl) (fun _ _ _ h => h) (by kernel_rfl) sS6 ?_
   refine Wk.dPass 4 (some 30) rfl rfl (by kernel_rfl) (by kernel_rfl) (by kernel_rfl) (fun _ _ _ h => h) (by kernel_rfl) sS6 ?_
   refine Wk.dPass 5 (some 31) rfl rfl (by kernel_rfl) (by kernel_rfl) (by kernel_rfl) (fun _ _ _ h => h) (by kernel_rfl) sS6 ?_
   refine Wk.dPass 6 (some 32) rfl rfl (by kernel_rfl) (by kernel_rfl) (by kernel_rfl) (fun _ _ _ h => h) (by kernel_rfl) sS6 ?_
   refine Wk.dPass 7 (some 33) rfl rfl (by kernel_rfl) (by kernel_rfl) (by kernel_rfl) (fun _ _ _ h => h) (by kernel_rfl) sS6 ?_
   refine Wk.dPass 8 (some 34) rfl rfl (by kernel_rfl) (by kernel_rfl) (by kernel_rfl) (fun _ _ _ h => h) (by kernel_rfl) sS6 ?_
   refine Wk.dV 9 35 (.bool false) rfl rfl (fun _ _ => by kernel_rfl) sS6 ?_
   refine Wk.dEnd (by kernel_rfl) (Wk.nxt (wp_cond_false (by kernel_rfl) (wp_skip (Wk.nxt (Wk.reg ?_)))))
   refine Wk.rP 0 40 (.slice A1 N c1) rfl rfl ?_
   refine Wk.rP 1 41 (.slice (some ⟨g_y, o_y, none⟩) n c) rfl rfl ?_
   refine Wk.rP 2 42 (.int .i64 ((i : Nat) : Int)) rfl rfl ?_
   refine Wk.rQ 3 43 (.pointer (some ⟨g_y, o_y + i * 97, none⟩)) rfl rfl (Wk.index_sl 50 32 (.tmp 41) (.tmp 42) rfl Tryd.underlying50 97 (by kernel_rfl) g_y o_y n c i .i64 (by kernel_rfl) (by kernel_rfl) (by omega)) ?_
   have kk14 := Wk.Chg.step kk13 ch13 trivial
   refine Wk.rQ 4 44 (.agg ((Mur.attC y.k y.r y.n y.t).toArray)) rfl rfl (Wk.loadR 32 (.tmp 43) rfl _ Tryd.underlying32 rfl g_y (o_y + i * 97) (by kernel_rfl) (Mur.attC y.k y.r y.n y.t) (by rw [Mur.attC_length y.hk y.hr y.ht]; kernel_rfl) ((Mur.SlA.chg hA_ kk14 (fun g off e hl => trivial)).elem hy)) ?_
   refine Wk.rEx 5 (some 45) _ rfl rfl (by kernel_rfl) (Mur.build1 50 32 (.tmp 44) rfl Tryd.underlying50 attI y.k y.r y.t y.n y.hk y.hr y.ht (by kernel_rfl)) ?_
   rintro _ W16 ⟨rfl, hb5, ch14, sz9⟩
   have zz15 := ch14.size
   have ow13 := Mur.OwnA.chg hO ch12 (fun q e _ _ => trivial)
   have ow14 := Mur.OwnA.chg ow13 ch13 (fun q e _ _ => trivial)
   have ow15 := Mur.OwnA.chg ow14 ch14 (fun q e _ _ => trivial)
   refine Wk.rEx 6 (some 46) _ rfl rfl (by kernel_rfl) (Mur.appendA (.tmp 40) (.tmp 45) 50 32 rfl Tryd.underlying50 attI (w.heap.size + 1) A1 N c1 ((Mur.ins x L).take (i + 1)) (some ⟨W15.heap.size, 0, none⟩) 1 1 ([y]) (by kernel_rfl) (by kernel_rfl) ow15 (Mur.slA_box y hb5) (fun h => by cases h) (by omega) (by omega) (N + 1) (by omega) (((Mur.ins x L).take (i + 1)) ++ ([y])) rfl) ?_
   rintro _ W17 ⟨AA4, nn4, rfl, ow16, ch15, ha4⟩
   have zz16 := ch15.size
   have hq7 := ow16.nc
   have hq8 := ow16.cm
   refine Wk.rP 7 6 (.slice AA4 (N + 1) nn4) rfl rfl ?_
   refine Wk.rEnd 8 rfl (Wk.inN (Wk.nxt (Wk.reg ?_)))
   refine Wk.rP 0 17 (.int .i64 ((i : Nat) : Int)) rfl rfl ?_
   refine Wk.rQ 1 18 (.int .i64 ((i + 1 : Nat) : Int)) rfl rfl (Wk.int64 (n := ((i : Nat) : Int) + 1) (z := ((i + 1 : Nat) : Int)) (by omega) (by omega) (by omega) (by kernel_rfl)) ?_
   refine Wk.rP 2 8 (.int .i64 ((i + 1 : Nat) : Int)) rfl rfl ?_
   refine Wk.rEnd 3 rfl (Wk.nxt ?_)
   have kk15 := Wk.Chg.step kk14 ch14 trivial
   have kk16 := Wk.Chg.step kk15 ch15 (Wk.newOr_blk (fun g hg => by have := hO.lt g hg; omega))
   refine ⟨_, ?_, i + 1, true, AA4, N + 1, nn4, rfl, by kernel_rfl, (by omega), (by rw [show i + 1 + true.toNat = i + 2 from rfl, Mur.radd_gt hy (hb1 rfl)]; exact ow16), (fun _ => by have := hb1 rfl; omega), (fun e_ => by cases e_), (fun j hj => by rcases Nat.lt_or_ge j i with h1_ | h1_ <;> first | exact hnew j h1_ | (obtain rfl : j = i := (by omega); rw [hy]; exact fun q_ => (fun q_ => hatt2 ((Mur.Att.eq_iff y x).1 q_)) (Option.some.inj q_))), (Wk.Chg.hp ch15 (Wk.Chg.hp ch14 (Wk.Chg.hp ch13 (Wk.Chg.hp ch12 hX trivial) trivial) trivial) (Wk.off_blk (fun gz hgz => by have := hO.lt gz hgz; omega))), kk16⟩
   omega
  have hnotin := Mur.radd_new hLl (fun j hj => hnew j (by omega))
  cases b
  ·simp only [Bool.toNat_false, Nat.add_zero] at hO hOl
   obtain ⟨hpn, hall_⟩ := Mur.radd_end (x := x) hLl (show n ≤ Mur.pos x L from by have := hb0 rfl; omega)
   refine wp_seq (wp_seq (Wk.reg ?_))
   refine Wk.rP 0 13 (.int .i64 ((i : Nat) : Int)) rfl rfl ?_
   refine Wk.rP 1 14 (.slice A n c) rfl rfl ?_
   refine Wk.rP 2 15 (.int .i64 ((n : Nat) : Int)) rfl rfl ?_
   refine Wk.rQ 3 16 (.bool false) rfl rfl (Wk.boolF (b := decide (((i : Nat) : Int) < ((n : Nat) : Int))) (decide_eq_false (by omega)) (by kernel_rfl)) ?_
   refine Wk.rEnd 4 rfl (Wk.nxt (wp_cond_false (by kernel_rfl) (wp_exit (Wk.thX (Wk.thX (Wk.inX (Wk.nxt (wp_seq (wp_seq (Wk.reg ?_))))))))))
   refine Wk.rP 0 47 (.bool false) rfl rfl ?_
   refine Wk.rP 1 48 (.bool true) rfl rfl ?_
   refine Wk.rEnd 2 rfl (Wk.nxt (wp_cond_true (by kernel_rfl) (Wk.reg ?_)))
   refine Wk.rP 0 49 (.slice A1 N c1) rfl rfl ?_
   refine Wk.rQ 1 50 (.agg ((Mur.attC x.k x.r x.n x.t).toArray)) rfl rfl (Mur.loadArr 32 (.tmp 3) rfl _ Tryd.underlying32 rfl w.heap.size (by kernel_rfl) (Mur.attC x.k x.r x.n x.t).toArray 97 (Mur.attC_size x.hk x.hr x.ht) (by kernel_rfl) 32 (0, 0) hX) ?_
   refine Wk.rEx 2 (some 51) _ rfl rfl (by kernel_rfl) (Mur.build1 50 32 (.tmp 50) rfl Tryd.underlying50 attI x.k x.r x.t x.n x.hk x.hr x.ht (by kernel_rfl)) ?_
   rintro _ W18 ⟨rfl, hb6, ch16, sz10⟩
   have zz17 := ch16.size
   have ow17 := Mur.OwnA.chg hO ch16 (fun q e _ _ => trivial)
   refine Wk.rEx 3 (some 52) _ rfl rfl (by kernel_rfl) (Mur.appendA (.tmp 49) (.tmp 51) 50 32 rfl Tryd.underlying50 attI (w.heap.size + 1) A1 N c1 ((Mur.ins x L).take i) (some ⟨W3.heap.size, 0, none⟩) 1 1 ([x]) (by kernel_rfl) (by kernel_rfl) ow17 (Mur.slA_box x hb6) (fun h => by cases h) (by omega) (by omega) (N + 1) (by omega) (((Mur.ins x L).take i) ++ ([x])) rfl) ?_
   rintro _ W19 ⟨AA5, nn5, rfl, ow18, ch17, ha5⟩
   have zz18 := ch17.size
   have hq9 := ow18.nc
   have hq10 := ow18.cm
   rw [show i = n by omega, hall_] at ow18
   have hN1 := ow18.sl.len
   rw [hil_] at hN1
   refine Wk.rP 4 6 (.slice AA5 (N + 1) nn5) rfl rfl ?_
   refine Wk.rEnd 5 rfl (Wk.nxt (wp_seq (wp_seq (Wk.reg ?_))))
   refine Wk.rP 0 53 (.slice AA5 (N + 1) nn5) rfl rfl ?_
   refine Wk.rP 1 54 (.int .i64 ((N + 1 : Nat) : Int)) rfl rfl ?_
   by_cases hx1 : ((N + 1 : Nat) : Int) > (200 : Int)
   ·refine Wk.rQ 2 55 (.bool true) rfl rfl (Wk.boolT (b := decide (((N + 1 : Nat) : Int) > (200 : Int))) (decide_eq_true (by first | exact hx1 | omega)) (by kernel_rfl)) ?_
    refine Wk.rEnd 3 rfl (Wk.nxt (wp_cond_true (by kernel_rfl) (wp_seq (wp_seq ?_))))
    refine Wk.dReg ([]) (by kernel_rfl) ?_
    intro W20 ch18 sz11
    have zz19 := ch18.size
    have sS7 : Wk.Chg ([]) W20 W20 := (Wk.Chg.refl _).more (by simp)
    have ow19 := Mur.OwnA.chg ow18 ch18 (fun q e _ _ => trivial)
    obtain ⟨g_z, rfl, _, _⟩ := ow19.ex (by omega)
    obtain ⟨z, hz⟩ : ∃ z, (Mur.ins x L)[200]? = some z := ⟨_, List.getElem?_eq_getElem (by omega)⟩
    refine Wk.dV 0 56 (.slice (some ⟨g_z, 0, none⟩) (N + 1) nn5) rfl rfl (fun _ _ => by kernel_rfl) sS7 ?_
    refine Wk.dV 1 57 (.pointer (some ⟨g_z, 19400, none⟩)) rfl rfl (fun w' hw' => (Wk.index_sl 50 32 (.tmp 56) (.const (.int .i64 200)) rfl Tryd.underlying50 97 (by kernel_rfl) g_z 0 (N + 1) nn5 200 .i64 (by kernel_rfl) (by kernel_rfl) (by omega))) sS7 ?_
    refine Wk.dV 2 58 (.agg ((Mur.attC z.k z.r z.n z.t).toArray)) rfl rfl (fun w' hw' => (Wk.loadR 32 (.tmp 57) rfl _ Tryd.underlying32 rfl g_z 19400 (by kernel_rfl) (Mur.attC z.k z.r z.n z.t) (by rw [Mur.attC_length z.hk z.hr z.ht]; kernel_rfl) ((Mur.SlA.chg ow19.sl hw' (fun g off e hl => trivial)).elem hz))) sS7 ?_
    refine Wk.dV 3 59 (.agg ((Mur.attC x.k x.r x.n x.t).toArray)) rfl rfl (fun w' hw' => (Mur.loadArr 32 (.tmp 3) rfl _ Tryd.underlying32 rfl w.heap.size (by kernel_rfl) (Mur.attC x.k x.r x.n x.t).toArray 97 (Mur.attC_size x.hk x.hr x.ht) (by kernel_rfl) 32 (0, 0) (Wk.Chg.hp hw' (Wk.Chg.hp ch18 (Wk.Chg.hp ch17 (Wk.Chg.hp ch16 hX trivial) (Wk.off_blk (fun gz hgz => by have := hO.lt gz hgz; omega))) trivial) trivial))) sS7 ?_
    by_cases hatt3 : z.k = x.k ∧ z.r = x.r ∧ z.n = x.n ∧ z.t = x.t
    ·refine Wk.dV 4 60 (.bool true) rfl rfl (fun w' hw' => (Wk.boolT (b := decide (z.k = x.k ∧ z.r = x.r ∧ z.n = x.n ∧ z.t = x.t)) (decide_eq_true (hatt3)) (run_eql_att (.tmp 58) (.tmp 59) 32 rfl z.hk z.hr z.ht x.hk x.hr x.ht z.hn x.hn (by kernel_rfl) (by kernel_rfl)))) sS7 ?_
     refine Wk.dEnd (by kernel_rfl) (Wk.nxt (wp_cond_true (by kernel_rfl) (wp_seq (Wk.reg ?_))))
     refine Wk.rP 0 61 (.slice A n c) rfl rfl ?_
     refine Wk.rP 1 4 (.slice A n c) rfl rfl ?_
     refine Wk.rP 2 5 (.int .i64 8) rfl rfl ?_
     refine Wk.rEnd 3 rfl (Wk.nxt (wp_ret (Wk.thR (Wk.thR ?_))))
     have kk17 := Wk.Chg.step HB ch16 trivial
     have kk18 := Wk.Chg.step kk17 ch17 (Wk.newOr_blk (fun g hg => by have := hO.lt g hg; omega))
     have kk19 := Wk.Chg.step kk18 ch18 trivial
     rw [Mur.addS_full hmay1 hnotin ((Mur.radd_full (by omega) hnotin hz).1 ((Mur.Att.eq_iff z x).2 hatt3))]
     refine Wk.ret (.tuple #[.slice A n c, .int .i64 8]) rfl (by kernel_rfl) ?_
     exact ⟨_, _, _, rfl, (Mur.SlA.chg hA_ kk19 (fun g off e hl => trivial)), .inl rfl, by omega, kk19⟩
    refine Wk.dV 4 60 (.bool false) rfl rfl (fun w' hw' => (Wk.boolF (b := decide (z.k = x.k ∧ z.r = x.r ∧ z.n = x.n ∧ z.t = x.t)) (decide_eq_false (hatt3)) (run_eql_att (.tmp 58) (.tmp 59) 32 rfl z.hk z.hr z.ht x.hk x.hr x.ht z.hn x.hn (by kernel_rfl) (by kernel_rfl)))) sS7 ?_
    refine Wk.dEnd (by kernel_rfl) (Wk.nxt (wp_cond_false (by kernel_rfl) (wp_skip (Wk.nxt (Wk.reg ?_)))))
    refine Wk.rP 0 62 (.slice (some ⟨g_z, 0, none⟩) (N + 1) nn5) rfl rfl ?_
    refine Wk.rQ 1 63 (.slice (some ⟨g_z, 0, none⟩) 200 nn5) rfl rfl (Mur.run_toK 50 (.tmp 62) (.const (.int .i64 200)) rfl 32 Tryd.underlying50 97 (by kernel_rfl) (some ⟨g_z, 0, none⟩) (N + 1) nn5 200 (.inr (by obtain ⟨q_, e_, _⟩ := ow19.ex (by omega); exact ⟨q_, 0, e_⟩)) (by kernel_rfl) (by kernel_rfl) (by omega)) ?_
    refine Wk.rP 2 6 (.slice (some ⟨g_z, 0, none⟩) 200 nn5) rfl rfl ?_
    refine Wk.rEnd 3 rfl (Wk.nxt (wp_seq (Wk.reg ?_)))
    refine Wk.rP 0 64 (.slice (some ⟨g_z, 0, none⟩) 200 nn5) rfl rfl ?_
    refine Wk.rP 1 4 (.slice (some ⟨g_z, 0, none⟩) 200 nn5) rfl rfl ?_
    refine Wk.rP 2 5 (.int .i64 0) rfl rfl ?_
    refine Wk.rEnd 3 rfl (Wk.nxt (wp_ret ?_))
    have kk20 := Wk.Chg.step HB ch16 trivial
    have kk21 := Wk.Chg.step kk20 ch17 (Wk.newOr_blk (fun g hg => by have := hO.lt g hg; omega))
    have kk22 := Wk.Chg.step kk21 ch18 trivial
    rw [Mur.addS_ok hmay1 hnotin (fun q_ => hatt3 ((Mur.Att.eq_iff z x).1 ((Mur.radd_full (by omega) hnotin hz).2 q_)))]
    have hcut := ow19.cut (k := 200) (by omega)
    refine Wk.ret (.tuple #[.slice (some ⟨g_z, 0, none⟩) 200 nn5, .int .i64 0]) rfl (by kernel_rfl) ?_
    exact ⟨_, _, _, rfl, hcut.sl, .inr (fun g off e_ => by have := hcut.lt g (by rw [e_]; rfl); omega), by have := hcut.nc; have h_ := hcut.cm; unfold Go.maxLen at h_; omega, kk22⟩
   refine Wk.rQ 2 55 (.bool false) rfl rfl (Wk.boolF (b := decide (((N + 1 : Nat) : Int) > (200 : Int))) (decide_eq_false (by first | exact hx1 | omega)) (by kernel_rfl)) ?_
   refine Wk.rEnd 3 rfl (Wk.nxt (wp_cond_false (by kernel_rfl) (wp_skip (Wk.nxt (wp_seq (Wk.reg ?_))))))
   refine Wk.rP 0 64 (.slice AA5 (N + 1) nn5) rfl rfl ?_
   refine Wk.rP 1 4 (.slice AA5 (N + 1) nn5) rfl rfl ?_
   refine Wk.rP 2 5 (.int .i64 0) rfl rfl ?_
   refine Wk.rEnd 3 rfl (Wk.nxt (wp_ret ?_))
   have kk23 := Wk.Chg.step HB ch16 trivial
   have kk24 := Wk.Chg.step kk23 ch17 (Wk.newOr_blk (fun g hg => by have := hO.lt g hg; omega))
   rw [Mur.addS_ok hmay1 hnotin (by have := Mur.pos_le x L; omega)]
   have hcut := ow18
   rw [← Mur.radd_all (x := x) (k := 200) hLl (by omega)] at hcut
   refine Wk.ret (.tuple #[.slice AA5 (N + 1) nn5, .int .i64 0]) rfl (by kernel_rfl) ?_
   exact ⟨_, _, _, rfl, hcut.sl, .inr (fun g off e_ => by have := hcut.lt g (by rw [e_]; rfl); omega), by have := hcut.nc; have h_ := hcut.cm; unfold Go.maxLen at h_; omega, kk24⟩
  simp only [Bool.toNat_true] at hO hOl
  rw [Mur.radd_all (n := n) hLl (by omega)] at hO
  have hN1 := hO.sl.len
  rw [hil_] at hN1
  refine wp_seq (wp_seq (Wk.reg ?_))
  refine Wk.rP 0 13 (.int .i64 ((i : Nat) : Int)) rfl rfl ?_
  refine Wk.rP 1 14 (.slice A n c) rfl rfl ?_
  refine Wk.rP 2 15 (.int .i64 ((n : Nat) : Int)) rfl rfl ?_
  refine Wk.rQ 3 16 (.bool false) rfl rfl (Wk.boolF (b := decide (((i : Nat) : Int) < ((n : Nat) : Int))) (decide_eq_false (by omega)) (by kernel_rfl)) ?_
  refine Wk.rEnd 4 rfl (Wk.nxt (wp_cond_false (by kernel_rfl) (wp_exit (Wk.thX (Wk.thX (Wk.inX (Wk.nxt (wp_seq (wp_seq (Wk.reg ?_))))))))))
  refine Wk.rP 0 47 (.bool true) rfl rfl ?_
  refine Wk.rP 1 48 (.bool false) rfl rfl ?_
  refine Wk.rEnd 2 rfl (Wk.nxt (wp_cond_false (by kernel_rfl) (wp_skip (Wk.nxt (wp_seq (wp_seq (Wk.reg ?_)))))))
  refine Wk.rP 0 53 (.slice A1 N c1) rfl rfl ?_
  refine Wk.rP 1 54 (.int .i64 ((N : Nat) : Int)) rfl rfl ?_
  by_cases hx2 : ((N : Nat) : Int) > (200 : Int)
  ·refine Wk.rQ 2 55 (.bool true) rfl rfl (Wk.boolT (b := decide (((N : Nat) : Int) > (200 : Int))) (decide_eq_true (by first | exact hx2 | omega)) (by kernel_rfl)) ?_
   refine Wk.rEnd 3 rfl (Wk.nxt (wp_cond_true (by kernel_rfl) (wp_seq (wp_seq ?_))))
   refine Wk.dReg ([]) (by kernel_rfl) ?_
   intro W21 ch19 sz12
   have zz20 := ch19.size
   have sS8 : Wk.Chg ([]) W21 W21 := (Wk.Chg.refl _).more (by simp)
   have ow20 := Mur.OwnA.chg hO ch19 (fun q e _ _ => trivial)
   obtain ⟨g_z, rfl, _, _⟩ := ow20.ex (by omega)
   obtain ⟨z, hz⟩ : ∃ z, (Mur.ins x L)[200]? = some z := ⟨_, List.getElem?_eq_getElem (by omega)⟩
   refine Wk.dV 0 56 (.slice (some ⟨g_z, 0, none⟩) N c1) rfl rfl (fun _ _ => by kernel_rfl) sS8 ?_
   refine Wk.dV 1 57 (.pointer (some ⟨g_z, 19400, none⟩)) rfl rfl (fun w' hw' => (Wk.index_sl 50 32 (.tmp 56) (.const (.int .i64 200)) rfl Tryd.underlying50 97 (by kernel_rfl) g_z 0 N c1 200 .i64 (by kernel_rfl) (by kernel_rfl) (by omega))) sS8 ?_
   refine Wk.dV 2 58 (.agg ((Mur.attC z.k z.r z.n z.t).toArray)) rfl rfl (fun w' hw' => (Wk.loadR 32 (.tmp 57) rfl _ Tryd.underlying32 rfl g_z 19400 (by kernel_rfl) (Mur.attC z.k z.r z.n z.t) (by rw [Mur.attC_length z.hk z.hr z.ht]; kernel_rfl) ((Mur.SlA.chg ow20.sl hw' (fun g off e hl => trivial)).elem hz))) sS8 ?_
   refine Wk.dV 3 59 (.agg ((Mur.attC x.k x.r x.n x.t).toArray)) rfl rfl (fun w' hw' => (Mur.loadArr 32 (.tmp 3) rfl _ Tryd.underlying32 rfl w.heap.size (by kernel_rfl) (Mur.attC x.k x.r x.n x.t).toArray 97 (Mur.attC_size x.hk x.hr x.ht) (by kernel_rfl) 32 (0, 0) (Wk.Chg.hp hw' (Wk.Chg.hp ch19 hX trivial) trivial))) sS8 ?_
   by_cases hatt4 : z.k = x.k ∧ z.r = x.r ∧ z.n = x.n ∧ z.t = x.t
   ·refine Wk.dV 4 60 (.bool true) rfl rfl (fun w' hw' => (Wk.boolT (b := decide (z.k = x.k ∧ z.r = x.r ∧ z.n = x.n ∧ z.t = x.t)) (decide_eq_true (hatt4)) (run_eql_att (.tmp 58) (.tmp 59) 32 rfl z.hk z.hr z.ht x.hk x.hr x.ht z.hn x.hn (by kernel_rfl) (by kernel_rfl)))) sS8 ?_
    refine Wk.dEnd (by kernel_rfl) (Wk.nxt (wp_cond_true (by kernel_rfl) (wp_seq (Wk.reg ?_))))
    refine Wk.rP 0 61 (.slice A n c) rfl rfl ?_
    refine Wk.rP 1 4 (.slice A n c) rfl rfl ?_
    refine Wk.rP 2 5 (.int .i64 8) rfl rfl ?_
    refine Wk.rEnd 3 rfl (Wk.nxt (wp_ret (Wk.thR (Wk.thR ?_))))
    have kk25 := Wk.Chg.step HB ch19 trivial
    rw [Mur.addS_full hmay1 hnotin ((Mur.radd_full (by omega) hnotin hz).1 ((Mur.Att.eq_iff z x).2 hatt4))]
    refine Wk.ret (.tuple #[.slice A n c, .int .i64 8]) rfl (by kernel_rfl) ?_
    exact ⟨_, _, _, rfl, (Mur.SlA.chg hA_ kk25 (fun g off e hl => trivial)), .inl rfl, by omega, kk25⟩
   refine Wk.dV 4 60 (.bool false) rfl rfl (fun w' hw' => (Wk.boolF (b := decide (z.k = x.k ∧ z.r = x.r ∧ z.n = x.n ∧ z.t = x.t)) (decide_eq_false (hatt4)) (run_eql_att (.tmp 58) (.tmp 59) 32 rfl z.hk z.hr z.ht x.hk x.hr x.ht z.hn x.hn (by kernel_rfl) (by kernel_rfl)))) sS8 ?_
   refine Wk.dEnd (by kernel_rfl) (Wk.nxt (wp_cond_false (by kernel_rfl) (wp_skip (Wk.nxt (Wk.reg ?_)))))
   refine Wk.rP 0 62 (.slice (some ⟨g_z, 0, none⟩) N c1) rfl rfl ?_
   refine Wk.rQ 1 63 (.slice (some ⟨g_z, 0, none⟩) 200 c1) rfl rfl (Mur.run_toK 50 (.tmp 62) (.const (.int .i64 200)) rfl 32 Tryd.underlying50 97 (by kernel_rfl) (some ⟨g_z, 0, none⟩) N c1 200 (.inr (by obtain ⟨q_, e_, _⟩ := ow20.ex (by omega); exact ⟨q_, 0, e_⟩)) (by kernel_rfl) (by kernel_rfl) (by omega)) ?_
   refine Wk.rP 2 6 (.slice (some ⟨g_z, 0, none⟩) 200 c1) rfl rfl ?_
   refine Wk.rEnd 3 rfl (Wk.nxt (wp_seq (Wk.reg ?_)))
   refine Wk.rP 0 64 (.slice (some ⟨g_z, 0, none⟩) 200 c1) rfl rfl ?_
   refine Wk.rP 1 4 (.slice (some ⟨g_z, 0, none⟩) 200 c1) rfl rfl ?_
   refine Wk.rP 2 5 (.int .i64 0) rfl rfl ?_
   refine Wk.rEnd 3 rfl (Wk.nxt (wp_ret ?_))
   have kk26 := Wk.Chg.step HB ch19 trivial
   rw [Mur.addS_ok hmay1 hnotin (fun q_ => hatt4 ((Mur.Att.eq_iff z x).1 ((Mur.radd_full (by omega) hnotin hz).2 q_)))]
   have hcut := ow20.cut (k := 200) (by omega)
   refine Wk.ret (.tuple #[.slice (some ⟨g_z, 0, none⟩) 200 c1, .int .i64 0]) rfl (by kernel_rfl) ?_
   exact ⟨_, _, _, rfl, hcut.sl, .inr (fun g off e_ => by have := hcut.lt g (by rw [e_]; rfl); omega), by have := hcut.nc; have h_ := hcut.cm; unfold Go.maxLen at h_; omega, kk26⟩
  refine Wk.rQ 2 55 (.bool false) rfl rfl (Wk.boolF (b := decide (((N : Nat) : Int) > (200 : Int))) (decide_eq_false (by first | exact hx2 | omega)) (by kernel_rfl)) ?_
  refine Wk.rEnd 3 rfl (Wk.nxt (wp_cond_false (by kernel_rfl) (wp_skip (Wk.nxt (wp_seq (Wk.reg ?_))))))
  refine Wk.rP 0 64 (.slice A1 N c1) rfl rfl ?_
  refine Wk.rP 1 4 (.slice A1 N c1) rfl rfl ?_
  refine Wk.rP 2 5 (.int .i64 0) rfl rfl ?_
  refine Wk.rEnd 3 rfl (Wk.nxt (wp_ret ?_))
  rw [Mur.addS_ok hmay1 hnotin (by have := Mur.pos_le x L; omega)]
  have hcut := hO
  rw [← Mur.radd_all (x := x) (k := 200) hLl (by omega)] at hcut
  refine Wk.ret (.tuple #[.slice A1 N c1, .int .i64 0]) rfl (by kernel_rfl) ?_
  exact ⟨_, _, _, rfl, hcut.sl, .inr (fun g off e_ => by have := hcut.lt g (by rw [e_]; rfl); omega), by have := hcut.nc; have h_ := hcut.cm; unfold Go.maxLen at h_; omega, HB⟩
 have hmay1u : ¬ (1 ≤ x.n ∧ x.n ≤ 5000) := hmay1
 refine (Rmay_any x.k x.r x.t x.n x.hk x.hr x.ht W1).mono ?_
 rw [decide_eq_false (hmay1 : ¬ Mur.may x.n)]
 rintro _ W2 ⟨rfl, ch2⟩
 have zz21 := ch2.size
 refine ⟨_, rfl, ?_⟩
 refine Wk.rP 2 11 (.bool true) rfl rfl ?_
 refine Wk.rEnd 3 rfl (Wk.nxt (wp_cond_true (by kernel_rfl) (wp_seq (Wk.reg ?_))))
 refine Wk.rP 0 12 (.slice A n c) rfl rfl ?_
 refine Wk.rP 1 4 (.slice A n c) rfl rfl ?_
 refine Wk.rP 2 5 (.int .i64 2) rfl rfl ?_
 refine Wk.rEnd 3 rfl (Wk.nxt (wp_ret (Wk.thR ?_)))
 have kk27 : Wk.Chg [] w W1 := Wk.Chg.step ((Wk.Chg.refl _).more (by simp)) ch1 trivial
 have kk28 := Wk.Chg.step kk27 ch2 trivial
 rw [Mur.addS_may hmay1]
 refine Wk.ret (.tuple #[.slice A n c, .int .i64 2]) rfl (by kernel_rfl) ?_
 exact ⟨_, _, _, rfl, (Mur.SlA.chg hA_ kk28 (fun g off e hl => trivial)), .inl rfl, by omega, kk28⟩
end Go.Proofs.YtfhneademopciaaDoor
namespace Go.Proofs.YtfhneademopciaaDoor
open Go.RowKit
open Mur (b8s Byt Own8 Seg Segs flat cutA attC Att SlA OwnA rowA msgC)
set_option maxRecDepth 100000
set_option maxHeartbeats 4000000
def Sumd_F1 (b : Array Value) (u0 : Value) (u3 : Value) (u4 : Value) (u52 : Value) : Act := ⟨#[u0, b.getD 1 undef, b.getD 2 undef, u3, u4, b.getD 5 undef, b.getD 6 undef, b.getD 7 undef, b.getD 8 undef, b.getD 9 undef, b.getD 10 undef, b.getD 11 undef, b.getD 12 undef, b.getD 13 undef, b.getD 14 undef, b.getD 15 undef, b.getD 16 undef, b.getD 17 undef, b.getD 18 undef, b.getD 19 undef, b.getD 20 undef, b.getD 21 undef, b.getD 22 undef, b.getD 23 undef, b.getD 24 undef, b.getD 25 undef, b.getD 26 undef, b.getD 27 undef, b.getD 28 undef, b.getD 29 undef, b.getD 30 undef, b.getD 31 undef, b.getD 32 undef, b.getD 33 undef, b.getD 34 undef, b.getD 35 undef, b.getD 36 undef, b.getD 37 undef, b.getD 38 undef, b.getD 39 undef, b.getD 40 undef, b.getD 41 undef, b.getD 42 undef, b.getD 43 undef, b.getD 44 undef, b.getD 45 undef, b.getD 46 undef, b.getD 47 undef, b.getD 48 undef, b.getD 49 undef, b.getD 50 undef, b.getD 51 undef, u52, b.getD 53 undef, b.getD 54 undef, b.getD 55 undef, b.getD 56 undef, b.getD 57 undef, b.getD 58 undef, b.getD 59 undef, b.getD 60 undef, b.getD 61 undef, b.getD 62 undef, b.getD 63 undef, b.getD 64 undef, b.getD 65 undef, b.getD 66 undef, b.getD 67 undef], []⟩
def Sumd_F2 (b : Array Value) (u0 : Value) (u3 : Value) (u4 : Value) (u52 : Value) : Act := ⟨#[u0, b.getD 1 undef, b.getD 2 undef, u3, u4, b.getD 5 undef, b.getD 6 undef, b.getD 7 undef, b.getD 8 undef, b.getD 9 undef, b.getD 10 undef, b.getD 11 undef, b.getD 12 undef, b.getD 13 undef, b.getD 14 undef, b.getD 15 undef, b.getD 16 undef, b.getD 17 undef, b.getD 18 undef, b.getD 19 undef, b.getD 20 undef, b.getD 21 undef, b.getD 22 undef, b.getD 23 undef, b.getD 24 undef, b.getD 25 undef, b.getD 26 undef, b.getD 27 undef, b.getD 28 undef, b.getD 29 undef, b.getD 30 undef, b.getD 31 undef, b.getD 32 undef, b.getD 33 undef, b.getD 34 undef, b.getD 35 undef, b.getD 36 undef, b.getD 37 undef, b.getD 38 undef, b.getD 39 undef, b.getD 40 undef, b.getD 41 undef, b.getD 42 undef, b.getD 43 undef, b.getD 44 undef, b.getD 45 undef, b.getD 46 undef, b.getD 47 undef, b.getD 48 undef, b.getD 49 undef, b.getD 50 undef, b.getD 51 undef, u52, b.getD 53 undef, b.getD 54 undef, b.getD 55 undef, b.getD 56 undef, b.getD 57 undef, b.getD 58 undef, b.getD 59 undef, b.getD 60 undef, b.getD 61 undef, b.getD 62 undef, b.getD 63 undef, b.getD 64 undef, b.getD 65 undef, b.getD 66 undef, b.getD 67 undef], []⟩
theorem summed_any (lo : Nat) (L : List Att) (g : Nat) (F : List Nat) (kd : UInt8) (p : List UInt8) (PA : Option Addr) (pn pc : Nat) (s : List UInt8) (m : Int) (I : List Att) (A : Option Addr) (n c : Nat) (b : Bool) (w : World) (hv : ShaVars w) (h : Mur.SetF 32 57 lo w g L F) (hs : s.length = 32) (hb : Byt w PA pn p) (hnil : PA = none → pc = 0) (hpn : pn ≤ 1000) (hm : 0 ≤ m ∧ m ≤ 200) : Calls Tryd.prog 53 #[.pointer (some ⟨g, 0, none⟩), .agg (msgC kd PA pn pc s m A n c b).toArray] w fun e w' => ∃ A1 n1 c1, e = .returned (.slice A1 n1 c1) ∧ Mur.MsgA w' w.heap.size 66 A1 n1 c1 (Mur.summedM L ⟨kd, p, s, m, I, b⟩) ∧ Wk.Chg [] w w' := by
 have HV := Go.Lib.hid hv
 clear hv
 have hpl_ := hb.1
 have hM_ := Mur.SetF.mem h
 have hLl_ := Mur.SetF.len h
 have hbl_ := Mur.belowL_len p L
 refine calls_of_wp Tryd.func53 rfl ?_
 refine wp_seq (Wk.reg ?_)
 refine Wk.rEx 0 (some 3) _ rfl rfl (by kernel_rfl) (Wk.new_ex (.pointer (some ⟨w.heap.size, 0, none⟩)) ((Mur.msgC kd PA pn pc s m A n c b).toArray) 66 (by kernel_rfl)) ?_
 rintro _ W1 ⟨rfl, hb1, ch1, sz1⟩
 have zz1 := ch1.size
 refine Wk.rP 1 4 (.slice none 0 0) rfl rfl ?_
 refine Wk.rEnd 2 rfl (Wk.nxt (wp_seq (Wk.reg ?_)))
 refine Wk.rP 0 9 (.pointer (some ⟨g, 0, none⟩)) rfl rfl ?_
 refine Wk.rP 1 10 (.pointer (some ⟨w.heap.size, 1, none⟩)) rfl rfl ?_
 refine Wk.rQ 2 11 (.slice PA pn pc) rfl rfl (Wk.load1 38 (.tmp 10) rfl (by kernel_rfl) ⟨w.heap.size, 1, none⟩ (by kernel_rfl) (.slice PA pn pc) (show World.cell? _ ⟨_, 0 + 1, _⟩ = _ from Mur.msg_pre (Wk.range_row hb1))) ?_
 refine Wk.rC 3 12 16 [.tmp 9, .tmp 11] #[24, 38] [.pointer (some ⟨g, 0, none⟩), .slice PA pn pc] rfl rfl rfl ?_
 have kk1 : Wk.Chg [] w W1 := Wk.Chg.step ((Wk.Chg.refl _).more (by simp)) ch1 trivial
 have hD1 := Mur.SetF.chg h ch1 (fun s hs => trivial)
 refine (Sum_any lo L g F p PA pn pc W1 (HV.out.below (Wk.Chg.below0 kk1)) hD1 (Mur.byt_chg hb kk1 (fun g off e hl => trivial)) (by omega)).mono ?_
 rintro _ W2 ⟨dd1, hd1, hdl1, rfl, ch2⟩
 have zz2 := ch2.size
 refine ⟨_, rfl, ?_⟩
 refine Wk.rP 4 8 (.tuple #[.agg ((b8s dd1).toArray), .int .i64 (((Mur.belowL p L).length : Nat) : Int)]) rfl rfl ?_
 refine Wk.rP 5 13 (.agg ((b8s dd1).toArray)) rfl rfl ?_
 refine Wk.rP 6 14 (.int .i64 (((Mur.belowL p L).length : Nat) : Int)) rfl rfl ?_
 refine Wk.rEx 7 (some 5) _ rfl rfl (by kernel_rfl) (Wk.new_ex (.pointer (some ⟨W2.heap.size, 0, none⟩)) #[.int .u8 0, .int .u8 0, .int .u8 0, .int .u8 0, .int .u8 0, .int .u8 0, .int .u8 0, .int .u8 0, .int .u8 0, .int .u8 0, .int .u8 0, .int .u8 0, .int .u8 0, .int .u8 0, .int .u8 0, .int .u8 0, .int .u8 0, .int .u8 0, .int .u8 0, .int .u8 0, .int .u8 0, .int .u8 0, .int .u8 0, .int .u8 0, .int .u8 0, .int .u8 0, .int .u8 0, .int .u8 0, .int .u8 0, .int .u8 0, .int .u8 0, .int .u8 0] 30 (by kernel_rfl)) ?_
 rintro _ W3 ⟨rfl, hb2, ch3, sz2⟩
 have zz3 := ch3.size
 refine Wk.rExS 8 none _ rfl rfl (by kernel_rfl) (Mur.storeAll 30 (.tmp 5) (.tmp 13) rfl W2.heap.size (by kernel_rfl) dd1 32 hdl1 (by kernel_rfl) (by kernel_rfl) 30 #[.int .u8 0, .int .u8 0, .int .u8 0, .int .u8 0, .int .u8 0, .int .u8 0, .int .u8 0, .int .u8 0, .int .u8 0, .int .u8 0, .int .u8 0, .int .u8 0, .int .u8 0, .int .u8 0, .int .u8 0, .int .u8 0, .int .u8 0, .int .u8 0, .int .u8 0, .int .u8 0, .int .u8 0, .int .u8 0, .int .u8 0, .int .u8 0, .int .u8 0, .int .u8 0, .int .u8 0, .int .u8 0, .int .u8 0, .int .u8 0, .int .u8 0, .int .u8 0] hb2 rfl) ?_
 rintro W4 ⟨hb3, ch4⟩
 have zz4 := ch4.size
 refine Wk.rP 9 6 (.int .i64 (((Mur.belowL p L).length : Nat) : Int)) rfl rfl ?_
 refine Wk.rEnd 10 rfl (Wk.nxt (wp_seq (wp_block (wp_seq (Wk.reg ?_)))))
 refine Wk.rQ 0 16 (.agg ((b8s dd1).toArray)) rfl rfl (Mur.loadAll 30 (.tmp 5) rfl _ Tryd.underlying30 rfl W2.heap.size (by kernel_rfl) dd1 32 hdl1 (by kernel_rfl) 30 (0, 0) hb3) ?_
 refine Wk.rP 1 17 (.pointer (some ⟨w.heap.size, 2, none⟩)) rfl rfl ?_
 refine Wk.rQ 2 18 (.agg ((b8s s).toArray)) rfl rfl (Wk.loadR 30 (.tmp 17) rfl _ Tryd.underlying30 rfl w.heap.size 2 (by kernel_rfl) (b8s s) (by rw [Mur.b8s_length, hs]; kernel_rfl) (show World.rangeAt _ _ (0 + 2) _ from Mur.msg_sum (Wk.range_row (Wk.Chg.hp ch4 (Wk.Chg.hp ch3 (Wk.Chg.hp ch2 hb1 trivial) trivial) ⟨by omega, trivial⟩)))) ?_
 by_cases hds : dd1 = s
 ·refine Wk.rQ 3 19 (.bool true) rfl rfl (Mur.run_eql_yes digT dd1 s hdl1 hs hds _ (.tmp 16) (.tmp 18) 30 rfl (by kernel_rfl) (by kernel_rfl)) ?_
  refine Wk.rP 4 20 (.bool true) rfl rfl ?_
  refine Wk.rP 5 21 (.int .i64 (((Mur.belowL p L).length : Nat) : Int)) rfl rfl ?_
  refine Wk.rP 6 22 (.pointer (some ⟨w.heap.size, 34, none⟩)) rfl rfl ?_
  refine Wk.rQ 7 23 (.int .i64 m) rfl rfl (Wk.load1 3 (.tmp 22) rfl (by kernel_rfl) ⟨w.heap.size, 34, none⟩ (by kernel_rfl) (.int .i64 m) (show World.cell? _ ⟨_, 0 + 34, _⟩ = _ from Mur.msg_cnt hs (Wk.range_row (Wk.Chg.hp ch4 (Wk.Chg.hp ch3 (Wk.Chg.hp ch2 hb1 trivial) trivial) ⟨by omega, trivial⟩)))) ?_
  by_cases hx1 : (((Mur.belowL p L).length : Nat) : Int) = m
  ·refine Wk.rQ 8 24 (.bool true) rfl rfl (Wk.boolT (b := ((((Mur.belowL p L).length : Nat) : Int) == m)) (beq_iff_eq.2 (by first | exact hx1 | omega)) (by kernel_rfl)) ?_
   refine Wk.rP 9 25 (.bool true) rfl rfl ?_
   refine Wk.rP 10 15 (.bool true) rfl rfl ?_
   refine Wk.rEnd 11 rfl (Wk.nxt (wp_cond_true (by kernel_rfl) (wp_seq (Wk.reg ?_))))
   refine Wk.rP 0 4 (.slice none 0 0) rfl rfl ?_
   refine Wk.rEnd 1 rfl (Wk.nxt (wp_ret (Wk.inR (Wk.thR ?_))))
   have hde_ := hd1.out
   have hcn_ : Mur.cntL p L = (Mur.belowL p L).length := rfl
   have hpl_ := hb.1
   have kk2 := Wk.Chg.step kk1 ch2 trivial
   have kk3 := Wk.Chg.step kk2 ch3 trivial
   have kk4 := Wk.Chg.step kk3 ch4 ⟨.inr (by omega), trivial⟩
   refine Wk.ret (.slice none 0 0) rfl (by kernel_rfl) ?_
   exact ⟨_, _, _, rfl, by rw [Mur.summed_same (p := p) (s := s) (L := L) (m := m) (by rw [← hde_]; exact hds) (by omega)]; exact Mur.msgA_nil _ _ _, kk4⟩
  refine Wk.rQ 8 24 (.bool false) rfl rfl (Wk.boolF (b := ((((Mur.belowL p L).length : Nat) : Int) == m)) (beq_eq_false_iff_ne.2 (by first | exact hx1 | omega)) (by kernel_rfl)) ?_
  refine Wk.rP 9 25 (.bool false) rfl rfl ?_
  refine Wk.rP 10 15 (.bool false) rfl rfl ?_
  refine Wk.rEnd 11 rfl (Wk.nxt (wp_cond_false (by kernel_rfl) (wp_seq (Wk.reg ?_))))
  refine Wk.rP 0 27 (.pointer (some ⟨w.heap.size, 1, none⟩)) rfl rfl ?_
  refine Wk.rQ 1 28 (.slice PA pn pc) rfl rfl (Wk.load1 38 (.tmp 27) rfl (by kernel_rfl) ⟨w.heap.size, 1, none⟩ (by kernel_rfl) (.slice PA pn pc) (show World.cell? _ ⟨_, 0 + 1, _⟩ = _ from Mur.msg_pre (Wk.range_row (Wk.Chg.hp ch4 (Wk.Chg.hp ch3 (Wk.Chg.hp ch2 hb1 trivial) trivial) ⟨by omega, trivial⟩)))) ?_
  refine Wk.rP 2 29 (.int .i64 ((pn : Nat) : Int)) rfl rfl ?_
  by_cases hx2 : ((pn : Nat) : Int) = (8 : Int)
  ·refine Wk.rQ 3 30 (.bool true) rfl rfl (Wk.boolT (b := (((pn : Nat) : Int) == (8 : Int))) (beq_iff_eq.2 (by first | exact hx2 | omega)) (by kernel_rfl)) ?_
   refine Wk.rP 4 31 (.bool true) rfl rfl ?_
   refine Wk.rPass 5 (some 32) rfl rfl (by kernel_rfl) ?_
   refine Wk.rPass 6 (some 33) rfl rfl (by kernel_rfl) ?_
   refine Wk.rPass 7 (some 34) rfl rfl (by kernel_rfl) ?_
   refine Wk.rPass 8 (some 35) rfl rfl (by kernel_rfl) ?_
   refine Wk.rPass 9 (some 36) rfl rfl (by kernel_rfl) ?_
   refine Wk.rP 10 37 (.bool true) rfl rfl ?_
   refine Wk.rP 11 26 (.bool true) rfl rfl ?_
   refine Wk.rEnd 12 rfl (Wk.nxt (wp_cond_true (by kernel_rfl) (wp_seq (wp_seq (Wk.reg ?_)))))
   refine Wk.rP 0 38 (.int .i64 (((Mur.belowL p L).length : Nat) : Int)) rfl rfl ?_
   by_cases hx3 : (((Mur.belowL p L).length : Nat) : Int) = (0 : Int)
   ·refine Wk.rQ 1 39 (.bool true) rfl rfl (Wk.boolT (b := ((((Mur.belowL p L).length : Nat) : Int) == (0 : Int))) (beq_iff_eq.2 (by first | exact hx3 | omega)) (by kernel_rfl)) ?_
    refine Wk.rEnd 2 rfl (Wk.nxt (wp_cond_true (by kernel_rfl) (wp_seq (Wk.reg ?_))))
    refine Wk.rP 0 40 (.pointer (some ⟨w.heap.size, 1, none⟩)) rfl rfl ?_
    refine Wk.rQ 1 41 (.slice PA pn pc) rfl rfl (Wk.load1 38 (.tmp 40) rfl (by kernel_rfl) ⟨w.heap.size, 1, none⟩ (by kernel_rfl) (.slice PA pn pc) (show World.cell? _ ⟨_, 0 + 1, _⟩ = _ from Mur.msg_pre (Wk.range_row (Wk.Chg.hp ch4 (Wk.Chg.hp ch3 (Wk.Chg.hp ch2 hb1 trivial) trivial) ⟨by omega, trivial⟩)))) ?_
    refine Wk.rC 2 42 75 [.tmp 41] #[38] [.slice PA pn pc] rfl rfl rfl ?_
    have kk5 := Wk.Chg.step kk1 ch2 trivial
    have kk6 := Wk.Chg.step kk5 ch3 trivial
    have kk7 := Wk.Chg.step kk6 ch4 ⟨.inr (by omega), trivial⟩
    refine (CloneB_any p PA pn pc W4 (Mur.byt_chg hb kk7 (fun g off e hl => trivial)) hnil (by omega)).mono ?_
    rintro _ W5 ⟨AA1, nn1, nn2, rfl, ow1, ch5⟩
    have zz5 := ch5.size
    have hq1 := ow1.byt.1
    have hq2 := ow1.nc
    have hq3 := ow1.cm
    refine ⟨_, rfl, ?_⟩
    refine Wk.rQ 3 43 (.agg ((Mur.msgC 2 AA1 nn1 nn2 Mur.z32 0 none 0 0 false).toArray)) rfl rfl (Mur.run_built 66 _ rfl [(0, .int .u8 2), (1, .slice AA1 nn1 nn2)] (by kernel_rfl) _ (built_empty AA1 nn1 nn2)) ?_
    refine Wk.rEx 4 (some 44) _ rfl rfl (by kernel_rfl) (Mur.buildR1 67 66 (.tmp 43) rfl Tryd.underlying67 Mur.msgZ 37 104 msgI (Mur.msgC_length rfl) (by decide) (by decide) (Mur.msgC 2 AA1 nn1 nn2 Mur.z32 0 none 0 0 false) (Mur.msgC_length rfl) (by kernel_rfl)) ?_
    rintro _ W6 ⟨rfl, hb4, ch6, sz3⟩
    have zz6 := ch6.size
    refine Wk.rP 5 4 (.slice (some ⟨W5.heap.size, 0, none⟩) 1 1) rfl rfl ?_
    refine Wk.rEnd 6 rfl (Wk.nxt (wp_ret (Wk.thR (Wk.inR (Wk.thR ?_)))))
    have hde_ := hd1.out
    have hcn_ : Mur.cntL p L = (Mur.belowL p L).length := rfl
    have hpl_ := hb.1
    have ow2 := Mur.own8 (Wk.own_chg ow1.own ch6 (fun q e _ _ => trivial))
    have hsub1 := Mur.subs_own1 (kd := 2) (s := Mur.z32) (k := 0) (b := false) ow1 rfl
    have kk8 := Wk.Chg.step kk7 ch5 trivial
    have kk9 := Wk.Chg.step kk8 ch6 trivial
    refine Wk.ret (.slice (some ⟨W5.heap.size, 0, none⟩) 1 1) rfl (by kernel_rfl) ?_
    exact ⟨_, _, _, rfl, by rw [Mur.summed_empty (p := p) (s := s) (L := L) (m := m) (by rw [← hde_]; first | exact fun h_ => hds h_.1 | (rintro ⟨_, h_⟩; omega)) (by omega) (by omega)]; exact Mur.msgA_one (r := ⟨2, AA1, nn1, nn2, Mur.z32, 0, none, 0, 0, false, rfl⟩) hb4 (Mur.rawok_empty ow2) (by omega) (fun q_ hq_ => by have := hsub1 q_ hq_; omega), kk9⟩
   refine Wk.rQ 1 39 (.bool false) rfl rfl (Wk.boolF (b := ((((Mur.belowL p L).length : Nat) : Int) == (0 : Int))) (beq_eq_false_iff_ne.2 (by first | exact hx3 | omega)) (by kernel_rfl)) ?_
   refine Wk.rEnd 2 rfl (Wk.nxt (wp_cond_false (by kernel_rfl) (wp_skip (Wk.nxt (wp_seq ?_)))))
   refine Wk.dReg ([]) (by kernel_rfl) ?_
   intro W7 ch7 sz4
   have zz7 := ch7.size
   have sS1 : Wk.Chg ([]) W7 W7 := (Wk.Chg.refl _).more (by simp)
   refine Wk.dV 0 45 (.pointer (some ⟨w.heap.size, 1, none⟩)) rfl rfl (fun _ _ => by kernel_rfl) sS1 ?_
   refine Wk.dV 1 46 (.slice PA pn pc) rfl rfl (fun w' hw' => (Wk.load1 38 (.tmp 45) rfl (by kernel_rfl) ⟨w.heap.size, 1, none⟩ (by kernel_rfl) (.slice PA pn pc) (show World.cell? _ ⟨_, 0 + 1, _⟩ = _ from Mur.msg_pre (Wk.range_row (Wk.Chg.hp hw' (Wk.Chg.hp ch7 (Wk.Chg.hp ch4 (Wk.Chg.hp ch3 (Wk.Chg.hp ch2 hb1 trivial) trivial) ⟨by omega, trivial⟩) trivial) trivial))))) sS1 ?_
   refine Wk.dV 2 47 (.pointer (some ⟨g, 0, none⟩)) rfl rfl (fun _ _ => by kernel_rfl) sS1 ?_
   refine Wk.dV 3 48 (.pointer (some ⟨w.heap.size, 1, none⟩)) rfl rfl (fun _ _ => by kernel_rfl) sS1 ?_
   refine Wk.dV 4 49 (.slice PA pn pc) rfl rfl (fun w' hw' => (Wk.load1 38 (.tmp 48) rfl (by kernel_rfl) ⟨w.heap.size, 1, none⟩ (by kernel_rfl) (.slice PA pn pc) (show World.cell? _ ⟨_, 0 + 1, _⟩ = _ from Mur.msg_pre (Wk.range_row (Wk.Chg.hp hw' (Wk.Chg.hp ch7 (Wk.Chg.hp ch4 (Wk.Chg.hp ch3 (Wk.Chg.hp ch2 hb1 trivial) trivial) ⟨by omega, trivial⟩) trivial) trivial))))) sS1 ?_
   refine Wk.dOp 5 (by kernel_rfl) ?_
   refine Wk.oCall (some 50) 18 [.tmp 47, .tmp 49] #[24, 38] [.pointer (some ⟨g, 0, none⟩), .slice PA pn pc] rfl rfl (by kernel_rfl) rfl (by kernel_rfl) (by kernel_rfl) ?_
   have kk10 := Wk.Chg.step kk1 ch2 trivial
   have kk11 := Wk.Chg.step kk10 ch3 trivial
   have kk12 := Wk.Chg.step kk11 ch4 ⟨.inr (by omega), trivial⟩
   have kk13 := Wk.Chg.step kk12 ch7 trivial
   have hD2 := Mur.SetF.chg hD1 ch2 (fun s hs => trivial)
   have hD3 := Mur.SetF.chg hD2 ch3 (fun s hs => trivial)
   have hD4 := Mur.SetF.chg hD3 ch4 (fun s hs => ⟨by have := hM_ s hs; omega, trivial⟩)
   have hD5 := Mur.SetF.chg hD4 ch7 (fun s hs => trivial)
   refine (Below_any lo L g F p PA pn pc W7 hD5 (Mur.byt_chg hb kk13 (fun g off e hl => trivial)) (by omega)).mono ?_
   rintro _ W8 ⟨AA2, nn3, nn4, rfl, ow3, ch8⟩
   have zz8 := ch8.size
   have hq4 := ow3.nc
   have hq5 := ow3.cm
   have hq6 := ow3.sl.len
   have hq7 : (Mur.belowL p L).length ≤ 200 := Nat.le_trans (Mur.belowL_len _ _) (Mur.SetF.len hD5)
   have sS2 := Wk.Chg.step sS1 ch8 trivial
   refine ⟨_, rfl, sS2, ?_⟩
   refine Wk.dOp 6 (by kernel_rfl) ?_
   refine Wk.oCall (some 51) 57 [.tmp 46, .tmp 50, .const (.bool false)] #[38, 22, 4] [.slice PA pn pc, .slice AA2 nn3 nn4, .bool false] rfl rfl (by kernel_rfl) rfl (by kernel_rfl) (by kernel_rfl) ?_
   have kk14 := Wk.Chg.step kk13 ch8 trivial
   have hol1 := ow3.sl.len
   have hoc1 : nn4 ≤ 9223372036854775807 := Nat.le_trans ow3.cm (by unfold Go.maxLen; omega)
   have hon1 := ow3.nc
   refine (items_any p PA pn pc AA2 nn3 nn4 (Mur.belowL p L) false W8 (Mur.byt_chg hb kk14 (fun g off e hl => trivial)) hnil (by omega) ow3.sl (by omega)).mono ?_
   rintro _ W10 ⟨AA3, nn5, nn6, rfl, ow4, ch9⟩
   have zz9 := ch9.size
   have hq8 := ow4.nc
   have hq9 := ow4.cm
   have sS3 := Wk.Chg.step sS2 ch9 trivial
   refine ⟨_, rfl, sS3, ?_⟩
   refine Wk.dV 7 4 (.slice AA3 nn5 nn6) rfl rfl (fun _ _ => by kernel_rfl) sS3 ?_
   refine Wk.dEnd (by kernel_rfl) (Wk.nxt (wp_ret (Wk.inR (Wk.thR ?_))))
   have hde_ := hd1.out
   have hcn_ : Mur.cntL p L = (Mur.belowL p L).length := rfl
   have hpl_ := hb.1
   have kk15 := Wk.Chg.step kk14 ch9 trivial
   refine Wk.ret (.slice AA3 nn5 nn6) rfl (by kernel_rfl) ?_
   exact ⟨_, _, _, rfl, by rw [Mur.summed_items (p := p) (s := s) (L := L) (m := m) (by rw [← hde_]; first | exact fun h_ => hds h_.1 | (rintro ⟨_, h_⟩; omega)) (by omega) (by omega)]; exact Mur.MsgA.low ow4 (by omega), kk15⟩
  refine Wk.rQ 3 30 (.bool false) rfl rfl (Wk.boolF (b := (((pn : Nat) : Int) == (8 : Int))) (beq_eq_false_iff_ne.2 (by first | exact hx2 | omega)) (by kernel_rfl)) ?_
  refine Wk.rP 4 31 (.bool false) rfl rfl ?_
  refine Wk.rP 5 32 (.int .i64 (((Mur.belowL p L).length : Nat) : Int)) rfl rfl ?_
  refine Wk.rP 6 33 (.pointer (some ⟨w.heap.size, 34, none⟩)) rfl rfl ?_
  refine Wk.rQ 7 34 (.int .i64 m) rfl rfl (Wk.load1 3 (.tmp 33) rfl (by kernel_rfl) ⟨w.heap.size, 34, none⟩ (by kernel_rfl) (.int .i64 m) (show World.cell? _ ⟨_, 0 + 34, _⟩ = _ from Mur.msg_cnt hs (Wk.range_row (Wk.Chg.hp ch4 (Wk.Chg.hp ch3 (Wk.Chg.hp ch2 hb1 trivial) trivial) ⟨by omega, trivial⟩)))) ?_
  refine Wk.rQ 8 35 (.int .i64 ((((Mur.belowL p L).length : Nat) : Int) + m)) rfl rfl (Wk.int64 (n := (((Mur.belowL p L).length : Nat) : Int) + m) (z := (((Mur.belowL p L).length : Nat) : Int) + m) (by omega) (by omega) (by omega) (by kernel_rfl)) ?_
  by_cases hx4 : ((((Mur.belowL p L).length : Nat) : Int) + m) ≤ (8 : Int)
  ·refine Wk.rQ 9 36 (.bool true) rfl rfl (Wk.boolT (b := decide (((((Mur.belowL p L).length : Nat) : Int) + m) ≤ (8 : Int))) (decide_eq_true (by first | exact hx4 | omega)) (by kernel_rfl)) ?_
   refine Wk.rP 10 37 (.bool true) rfl rfl ?_
   refine Wk.rP 11 26 (.bool true) rfl rfl ?_
   refine Wk.rEnd 12 rfl (Wk.nxt (wp_cond_true (by kernel_rfl) (wp_seq (wp_seq (Wk.reg ?_)))))
   refine Wk.rP 0 38 (.int .i64 (((Mur.belowL p L).length : Nat) : Int)) rfl rfl ?_
   by_cases hx5 : (((Mur.belowL p L).length : Nat) : Int) = (0 : Int)
   ·refine Wk.rQ 1 39 (.bool true) rfl rfl (Wk.boolT (b := ((((Mur.belowL p L).length : Nat) : Int) == (0 : Int))) (beq_iff_eq.2 (by first | exact hx5 | omega)) (by kernel_rfl)) ?_
    refine Wk.rEnd 2 rfl (Wk.nxt (wp_cond_true (by kernel_rfl) (wp_seq (Wk.reg ?_))))
    refine Wk.rP 0 40 (.pointer (some ⟨w.heap.size, 1, none⟩)) rfl rfl ?_
    refine Wk.rQ 1 41 (.slice PA pn pc) rfl rfl (Wk.load1 38 (.tmp 40) rfl (by kernel_rfl) ⟨w.heap.size, 1, none⟩ (by kernel_rfl) (.slice PA pn pc) (show World.cell? _ ⟨_, 0 + 1, _⟩ = _ from Mur.msg_pre (Wk.range_row (Wk.Chg.hp ch4 (Wk.Chg.hp ch3 (Wk.Chg.hp ch2 hb1 trivial) trivial) ⟨by omega, trivial⟩)))) ?_
    refine Wk.rC 2 42 75 [.tmp 41] #[38] [.slice PA pn pc] rfl rfl rfl ?_
    have kk16 := Wk.Chg.step kk1 ch2 trivial
    have kk17 := Wk.Chg.step kk16 ch3 trivial
    have kk18 := Wk.Chg.step kk17 ch4 ⟨.inr (by omega), trivial⟩
    refine (CloneB_any p PA pn pc W4 (Mur.byt_chg hb kk18 (fun g off e hl => trivial)) hnil (by omega)).mono ?_
    rintro _ W11 ⟨AA4, nn7, nn8, rfl, ow5, ch10⟩
    have zz10 := ch10.size
    have hq10 := ow5.byt.1
    have hq11 := ow5.nc
    have hq12 := ow5.cm
    refine ⟨_, rfl, ?_⟩
    refine Wk.rQ 3 43 (.agg ((Mur.msgC 2 AA4 nn7 nn8 Mur.z32 0 none 0 0 false).toArray)) rfl rfl (Mur.run_built 66 _ rfl [(0, .int .u8 2), (1, .slice AA4 nn7 nn8)] (by kernel_rfl) _ (built_empty AA4 nn7 nn8)) ?_
    refine Wk.rEx 4 (some 44) _ rfl rfl (by kernel_rfl) (Mur.buildR1 67 66 (.tmp 43) rfl Tryd.underlying67 Mur.msgZ 37 104 msgI (Mur.msgC_length rfl) (by decide) (by decide) (Mur.msgC 2 AA4 nn7 nn8 Mur.z32 0 none 0 0 false) (Mur.msgC_length rfl) (by kernel_rfl)) ?_
    rintro _ W12 ⟨rfl, hb5, ch11, sz5⟩
    have zz11 := ch11.size
    refine Wk.rP 5 4 (.slice (some ⟨W11.heap.size, 0, none⟩) 1 1) rfl rfl ?_
    refine Wk.rEnd 6 rfl (Wk.nxt (wp_ret (Wk.thR (Wk.inR (Wk.thR ?_)))))
    have hde_ := hd1.out
    have hcn_ : Mur.cntL p L = (Mur.belowL p L).length := rfl
    have hpl_ := hb.1
    have ow6 := Mur.own8 (Wk.own_chg ow5.own ch11 (fun q e _ _ => trivial))
    have hsub2 := Mur.subs_own1 (kd := 2) (s := Mur.z32) (k := 0) (b := false) ow5 rfl
    have kk19 := Wk.Chg.step kk18 ch10 trivial
    have kk20 := Wk.Chg.step kk19 ch11 trivial
    refine Wk.ret (.slice (some ⟨W11.heap.size, 0, none⟩) 1 1) rfl (by kernel_rfl) ?_
    exact ⟨_, _, _, rfl, by rw [Mur.summed_empty (p := p) (s := s) (L := L) (m := m) (by rw [← hde_]; first | exact fun h_ => hds h_.1 | (rintro ⟨_, h_⟩; omega)) (by omega) (by omega)]; exact Mur.msgA_one (r := ⟨2, AA4, nn7, nn8, Mur.z32, 0, none, 0, 0, false, rfl⟩) hb5 (Mur.rawok_empty ow6) (by omega) (fun q_ hq_ => by have := hsub2 q_ hq_; omega), kk20⟩
   refine Wk.rQ 1 39 (.bool false) rfl rfl (Wk.boolF (b := ((((Mur.belowL p L).length : Nat) : Int) == (0 : Int))) (beq_eq_false_iff_ne.2 (by first | exact hx5 | omega)) (by kernel_rfl)) ?_
   refine Wk.rEnd 2 rfl (Wk.nxt (wp_cond_false (by kernel_rfl) (wp_skip (Wk.nxt (wp_seq ?_)))))
   refine Wk.dReg ([]) (by kernel_rfl) ?_
   intro W13 ch12 sz6
   have zz12 := ch12.size
   have sS4 : Wk.Chg ([]) W13 W13 := (Wk.Chg.refl _).more (by simp)
   refine Wk.dV 0 45 (.pointer (some ⟨w.heap.size, 1, none⟩)) rfl rfl (fun _ _ => by kernel_rfl) sS4 ?_
   refine Wk.dV 1 46 (.slice PA pn pc) rfl rfl (fun w' hw' => (Wk.load1 38 (.tmp 45) rfl (by kernel_rfl) ⟨w.heap.size, 1, none⟩ (by kernel_rfl) (.slice PA pn pc) (show World.cell? _ ⟨_, 0 + 1, _⟩ = _ from Mur.msg_pre (Wk.range_row (Wk.Chg.hp hw' (Wk.Chg.hp ch12 (Wk.Chg.hp ch4 (Wk.Chg.hp ch3 (Wk.Chg.hp ch2 hb1 trivial) trivial) ⟨by omega, trivial⟩) trivial) trivial))))) sS4 ?_
   refine Wk.dV 2 47 (.pointer (some ⟨g, 0, none⟩)) rfl rfl (fun _ _ => by kernel_rfl) sS4 ?_
   refine Wk.dV 3 48 (.pointer (some ⟨w.heap.size, 1, none⟩)) rfl rfl (fun _ _ => by kernel_rfl) sS4 ?_
   refine Wk.dV 4 49 (.slice PA pn pc) rfl rfl (fun w' hw' => (Wk.load1 38 (.tmp 48) rfl (by kernel_rfl) ⟨w.heap.size, 1, none⟩ (by kernel_rfl) (.slice PA pn pc) (show World.cell? _ ⟨_, 0 + 1, _⟩ = _ from Mur.msg_pre (Wk.range_row (Wk.Chg.hp hw' (Wk.Chg.hp ch12 (Wk.Chg.hp ch4 (Wk.Chg.hp ch3 (Wk.Chg.hp ch2 hb1 trivial) trivial) ⟨by omega, trivial⟩) trivial) trivial))))) sS4 ?_
   refine Wk.dOp 5 (by kernel_rfl) ?_
   refine Wk.oCall (some 50) 18 [.tmp 47, .tmp 49] #[24, 38] [.pointer (some ⟨g, 0, none⟩), .slice PA pn pc] rfl rfl (by kernel_rfl) rfl (by kernel_rfl) (by kernel_rfl) ?_
   have kk21 := Wk.Chg.step kk1 ch2 trivial
   have kk22 := Wk.Chg.step kk21 ch3 trivial
   have kk23 := Wk.Chg.step kk22 ch4 ⟨.inr (by omega), trivial⟩
   have kk24 := Wk.Chg.step kk23 ch12 trivial
   have hD6 := Mur.SetF.chg hD1 ch2 (fun s hs => trivial)
   have hD7 := Mur.SetF.chg hD6 ch3 (fun s hs => trivial)
   have hD8 := Mur.SetF.chg hD7 ch4 (fun s hs => ⟨by have := hM_ s hs; omega, trivial⟩)
   have hD9 := Mur.SetF.chg hD8 ch12 (fun s hs => trivial)
   refine (Below_any lo L g F p PA pn pc W13 hD9 (Mur.byt_chg hb kk24 (fun g off e hl => trivial)) (by omega)).mono ?_
   rintro _ W14 ⟨AA5, nn9, nn10, rfl, ow7, ch13⟩
   have zz13 := ch13.size
   have hq13 := ow7.nc
   have hq14 := ow7.cm
   have hq15 := ow7.sl.len
   have hq16 : (Mur.belowL p L).length ≤ 200 := Nat.le_trans (Mur.belowL_len _ _) (Mur.SetF.len hD9)
   have sS5 := Wk.Chg.step sS4 ch13 trivial
   refine ⟨_, rfl, sS5, ?_⟩
   refine Wk.dOp 6 (by kernel_rfl) ?_
   refine Wk.oCall (some 51) 57 [.tmp 46, .tmp 50, .const (.bool false)] #[38, 22, 4] [.slice PA pn pc, .slice AA5 nn9 nn10, .bool false] rfl rfl (by kernel_rfl) rfl (by kernel_rfl) (by kernel_rfl) ?_
   have kk25 := Wk.Chg.step kk24 ch13 trivial
   have hol2 := ow7.sl.len
   have hoc2 : nn10 ≤ 9223372036854775807 := Nat.le_trans ow7.cm (by unfold Go.maxLen; omega)
   have hon2 := ow7.nc
   refine (items_any p PA pn pc AA5 nn9 nn10 (Mur.belowL p L) false W14 (Mur.byt_chg hb kk25 (fun g off e hl => trivial)) hnil (by omega) ow7.sl (by omega)).mono ?_
   rintro _ W15 ⟨AA6, nn11, nn12, rfl, ow8, ch14⟩
   have zz14 := ch14.size
   have hq17 := ow8.nc
   have hq18 := ow8.cm
   have sS6 := Wk.Chg.step sS5 ch14 trivial
   refine ⟨_, rfl, sS6, ?_⟩
   refine Wk.dV 7 4 (.slice AA6 nn11 nn12) rfl rfl (fun _ _ => by kernel_rfl) sS6 ?_
   refine Wk.dEnd (by kernel_rfl) (Wk.nxt (wp_ret (Wk.inR (Wk.thR ?_))))
   have hde_ := hd1.out
   have hcn_ : Mur.cntL p L = (Mur.belowL p L).length := rfl
   have hpl_ := hb.1
   have kk26 := Wk.Chg.step kk25 ch14 trivial
   refine Wk.ret (.slice AA6 nn11 nn12) rfl (by kernel_rfl) ?_
   exact ⟨_, _, _, rfl, by rw [Mur.summed_items (p := p) (s := s) (L := L) (m := m) (by rw [← hde_]; first | exact fun h_ => hds h_.1 | (rintro ⟨_, h_⟩; omega)) (by omega) (by omega)]; exact Mur.MsgA.low ow8 (by omega), kk26⟩
  refine Wk.rQ 9 36 (.bool false) rfl rfl (Wk.boolF (b := decide (((((Mur.belowL p L).length : Nat) : Int) + m) ≤ (8 : Int))) (decide_eq_false (by first | exact hx4 | omega)) (by kernel_rfl)) ?_
  refine Wk.rP 10 37 (.bool false) rfl rfl ?_
  refine Wk.rP 11 26 (.bool false) rfl rfl ?_
  refine Wk.rEnd 12 rfl (Wk.nxt (wp_cond_false (by kernel_rfl) (wp_skip (Wk.inN (Wk.nxt (wp_seq (wp_seq (Wk.reg ?_))))))))
  refine Wk.rP 0 52 (.int .u8 0) rfl rfl ?_
  refine Wk.rEnd 1 rfl (Wk.nxt (wp_block ?_))
  refine Wk.loop (fun m_ a wr => ∃ (t : Nat) (A1 : Option Addr) (c1 : Nat), m_ = 16 - t ∧ a = Sumd_F1 a.tmps (.pointer (some ⟨g, 0, none⟩)) (.pointer (some ⟨w.heap.size, 0, none⟩)) (.slice A1 t c1) (.int .u8 ((t : Nat) : Int)) ∧ t ≤ 16 ∧ Mur.MsgA wr (w.heap.size + 1) 66 A1 t c1 (Mur.splitM p L t) ∧ wr.heap[w.heap.size]? = some (.cells (Mur.msgC kd PA pn pc s m A n c b).toArray 66 (0, 0)) ∧ Wk.Chg [] w wr) (16 - 0) ?_ ?_
  ·have kk27 := Wk.Chg.step kk1 ch2 trivial
   have kk28 := Wk.Chg.step kk27 ch3 trivial
   have kk29 := Wk.Chg.step kk28 ch4 ⟨.inr (by omega), trivial⟩
   refine ⟨0, none, 0, rfl, by kernel_rfl, Nat.zero_le _, (Mur.msgA_nil _ _ _), (Wk.Chg.hp ch4 (Wk.Chg.hp ch3 (Wk.Chg.hp ch2 hb1 trivial) trivial) ⟨by omega, trivial⟩), kk29⟩
  rintro mm1 aa1 W16 ⟨t, A1, c1, hmm1, hF1, hi, hM, hX, HB⟩
  generalize aa1.tmps = bb1 at hF1
  subst hF1
  have hzB := HB.size
  have hxl_ := (Array.getElem?_eq_some_iff.1 hX).1
  have hMl_ := hM.len
  have hMc_ := hM.nc
  have hDx_ := Mur.SetF.chg h HB (fun _ _ => trivial)
  by_cases hlt : t < 16
  ·obtain ⟨u, rfl⟩ : ∃ u : UInt8, u.toNat = t := ⟨UInt8.ofNat t, by simp; omega⟩
   have hul := u.toNat_lt
   refine wp_seq (Wk.reg ?_)
   refine Wk.rQ 0 53 (.bool true) rfl rfl (Wk.boolT (b := decide (((u.toNat : Nat) : Int) < (16 : Int))) (decide_eq_true (by omega)) (by kernel_rfl)) ?_
   refine Wk.rEnd 1 rfl (Wk.nxt (wp_seq (wp_cond_true (by kernel_rfl) (wp_skip (Wk.nxt (wp_seq (wp_block (wp_seq (Wk.reg ?_)))))))))
   refine Wk.rP 0 54 (.int .u8 ((u.toNat : Nat) : Int)) rfl rfl ?_
   refine Wk.rP 1 7 (.int .u8 ((u.toNat : Nat) : Int)) rfl rfl ?_
   refine Wk.rEnd 2 rfl (Wk.nxt (Wk.reg ?_))
   refine Wk.rP 0 55 (.slice A1 u.toNat c1) rfl rfl ?_
   refine Wk.rP 1 56 (.pointer (some ⟨g, 0, none⟩)) rfl rfl ?_
   refine Wk.rP 2 57 (.pointer (some ⟨w.heap.size, 1, none⟩)) rfl rfl ?_
   refine Wk.rQ 3 58 (.slice PA pn pc) rfl rfl (Wk.load1 38 (.tmp 57) rfl (by kernel_rfl) ⟨w.heap.size, 1, none⟩ (by kernel_rfl) (.slice PA pn pc) (show World.cell? _ ⟨_, 0 + 1, _⟩ = _ from Mur.msg_pre (Wk.range_row hX))) ?_
   refine Wk.rC 4 59 75 [.tmp 58] #[38] [.slice PA pn pc] rfl rfl rfl ?_
   refine (CloneB_any p PA pn pc W16 (Mur.byt_chg hb HB (fun g off e hl => trivial)) hnil (by omega)).mono ?_
   rintro _ W17 ⟨AA7, nn13, nn14, rfl, ow9, ch15⟩
   have zz15 := ch15.size
   have hq19 := ow9.byt.1
   have hq20 := ow9.nc
   have hq21 := ow9.cm
   refine ⟨_, rfl, ?_⟩
   refine Wk.rP 5 60 (.int .u8 ((u.toNat : Nat) : Int)) rfl rfl ?_
   refine Wk.rEx 6 (some 61) _ rfl rfl (by kernel_rfl) (Wk.new_ex (.slice (some ⟨W17.heap.size, 0, none⟩) 1 1) #[.int .u8 ((u.toNat : Nat) : Int)] 5 (by kernel_rfl)) ?_
   rintro _ W18 ⟨rfl, hb6, ch16, sz7⟩
   have zz16 := ch16.size
   have ow10 := Mur.own8 (Wk.own_chg ow9.own ch16 (fun q e _ _ => trivial))
   refine Wk.rEx 7 (some 62) _ rfl rfl (by kernel_rfl) (Mur.append8 (.tmp 59) (.tmp 61) 38 5 rfl Tryd.underlying38 (by kernel_rfl) W16.heap.size AA7 nn13 nn14 p (some ⟨W17.heap.size, 0, none⟩) 1 1 ([u]) (by kernel_rfl) (by kernel_rfl) ow10.own (Mur.byt_row [u] hb6) (fun h => by cases h) (by omega) (by omega) (nn13 + 1) (by omega) (p ++ ([u])) rfl) ?_
   rintro _ W19 ⟨AA8, nn15, rfl, ow11, ch17, ha1⟩
   have zz17 := ch17.size
   have hq22 := ow11.nc
   have hq23 := ow11.cm
   refine Wk.rC 8 63 74 [.tmp 56, .tmp 62] #[24, 38] [.pointer (some ⟨g, 0, none⟩), .slice AA8 (nn13 + 1) nn15] rfl rfl rfl ?_
   have hD10 := Mur.SetF.chg hDx_ ch15 (fun s hs => trivial)
   have hD11 := Mur.SetF.chg hD10 ch16 (fun s hs => trivial)
   have hD12 := Mur.SetF.chg hD11 ch17 (fun s hs => (Wk.off_blk (fun gz hgz => by have := ow9.lt gz hgz; have := hM_ s hs; omega)))
   have kk30 := Wk.Chg.step HB ch15 trivial
   have kk31 := Wk.Chg.step kk30 ch16 trivial
   have kk32 := Wk.Chg.step kk31 ch17 (Wk.newOr_blk (fun g hg => by have := ow9.lt g hg; omega))
   refine (summary_any lo L g F (p ++ ([u])) AA8 (nn13 + 1) nn15 W19 (HV.out.below (Wk.Chg.below0 kk32)) hD12 ow11.byt ow11.nil (by omega)).mono ?_
   rintro _ W20 ⟨dd2, AA9, nn16, nn17, hd2, hdl2, rfl, ow12, ch18⟩
   have zz18 := ch18.size
   have hq24 := ow12.nc
   have hq25 := ow12.cm
   refine ⟨_, rfl, ?_⟩
   refine Wk.rEx 9 (some 64) _ rfl rfl (by kernel_rfl) (Mur.buildR1 67 66 (.tmp 63) rfl Tryd.underlying67 Mur.msgZ 37 104 msgI (Mur.msgC_length rfl) (by decide) (by decide) (Mur.msgC 1 AA9 nn16 nn17 dd2 (((Mur.belowL (p ++ ([u])) L).length : Nat) : Int) none 0 0 false) (Mur.msgC_length hdl2) (by kernel_rfl)) ?_
   rintro _ W21 ⟨rfl, hb7, ch19, sz8⟩
   have zz19 := ch19.size
   have kk33 : Wk.Chg [] W16 W17 := Wk.Chg.step ((Wk.Chg.refl _).more (by simp)) ch15 trivial
   have kk34 := Wk.Chg.step kk33 ch16 trivial
   have kk35 := Wk.Chg.step kk34 ch17 (Wk.newOr_blk (fun g hg => by have := ow9.lt g hg; omega))
   have kk36 := Wk.Chg.step kk35 ch18 trivial
   have kk37 := Wk.Chg.step kk36 ch19 trivial
   have ow13 := (Mur.MsgA.chg hM kk37 (fun _ _ _ _ => trivial))
   have ow14 := Mur.own8 (Wk.own_chg ow12.own ch19 (fun q e _ _ => trivial))
   have hsub3 := Mur.subs_own1 (kd := 1) (s := dd2) (k := (((Mur.belowL (p ++ ([u])) L).length : Nat) : Int)) (b := false) ow14 hdl2
   have hlt1 := hM.lt
   refine Wk.rEx 10 (some 65) _ rfl rfl (by kernel_rfl) (Mur.appendM (.tmp 55) (.tmp 64) 67 66 rfl Tryd.underlying67 msgI (w.heap.size + 1) A1 u.toNat c1 (Mur.splitM p L u.toNat) W20.heap.size ⟨1, AA9, nn16, nn17, dd2, (((Mur.belowL (p ++ ([u])) L).length : Nat) : Int), none, 0, 0, false, hdl2⟩ (Mur.summaryM (p ++ ([u])) L) (by kernel_rfl) (by kernel_rfl) ow13 hb7 (Mur.rawok_sum ow14 hd2.out hdl2) (fun q_ hq_ => ⟨by have := hsub3 q_ hq_; omega, fun e_ => by have := hlt1 q_ e_; have := hsub3 q_ hq_; omega⟩) (by omega) (by omega)) ?_
   rintro _ W22 ⟨AA10, nn18, rfl, ow15, ch20⟩
   have zz20 := ch20.size
   have hq26 := ow15.nc
   have hq27 := ow15.cm
   refine Wk.rP 11 4 (.slice AA10 (u.toNat + 1) nn18) rfl rfl ?_
   refine Wk.rEnd 12 rfl (Wk.inN (Wk.nxt (Wk.reg ?_)))
   refine Wk.rQ 0 66 (.int .u8 ((u.toNat + 1 : Nat) : Int)) rfl rfl (Mur.inc8 5 5 (.tmp 52) (.const (.int .u8 1)) rfl u (by omega) (by kernel_rfl) (by kernel_rfl)) ?_
   refine Wk.rP 1 52 (.int .u8 ((u.toNat + 1 : Nat) : Int)) rfl rfl ?_
   refine Wk.rEnd 2 rfl (Wk.nxt ?_)
   have kk38 := Wk.Chg.step kk32 ch18 trivial
   have kk39 := Wk.Chg.step kk38 ch19 trivial
   have kk40 := Wk.Chg.step kk39 ch20 (Wk.newOr_blk (fun g hg => by have := hlt1 g hg; omega))
   refine ⟨_, ?_, u.toNat + 1, AA10, nn18, rfl, by kernel_rfl, (by omega), (by rw [Mur.splitM_succ]; exact ow15), (Wk.Chg.hp ch20 (Wk.Chg.hp ch19 (Wk.Chg.hp ch18 (Wk.Chg.hp ch17 (Wk.Chg.hp ch16 (Wk.Chg.hp ch15 hX trivial) trivial) (Wk.off_blk (fun gz hgz => by have := ow9.lt gz hgz; omega))) trivial) trivial) (Wk.off_blk (fun gz hgz => by have := hlt1 gz hgz; omega))), kk40⟩
   omega
  have ht16_ : Mur.splitM p L t = Mur.splitM p L 16 := by rw [show t = 16 by omega]
  refine wp_seq (Wk.reg ?_)
  refine Wk.rQ 0 53 (.bool false) rfl rfl (Wk.boolF (b := decide (((t : Nat) : Int) < (16 : Int))) (decide_eq_false (by omega)) (by kernel_rfl)) ?_
  refine Wk.rEnd 1 rfl (Wk.nxt (wp_seq (wp_cond_false (by kernel_rfl) (wp_exit (Wk.thX (Wk.thX (Wk.inX (Wk.nxt (wp_seq (Wk.reg ?_))))))))))
  refine Wk.rP 0 67 (.slice A1 t c1) rfl rfl ?_
  refine Wk.rP 1 4 (.slice A1 t c1) rfl rfl ?_
  refine Wk.rEnd 2 rfl (Wk.nxt (wp_ret ?_))
  have hde_ := hd1.out
  have hcn_ : Mur.cntL p L = (Mur.belowL p L).length := rfl
  have hpl_ := hb.1
  refine Wk.ret (.slice A1 t c1) rfl (by kernel_rfl) ?_
  exact ⟨_, _, _, rfl, by rw [Mur.summed_split (p := p) (s := s) (L := L) (m := m) (by rw [← hde_]; first | exact fun h_ => hds h_.1 | (rintro ⟨_, h_⟩; omega)) (by omega), ← ht16_]; exact Mur.MsgA.low hM (by omega), HB⟩
 refine Wk.rQ 3 19 (.bool false) rfl rfl (Mur.run_eql_no digT dd1 s hdl1 hs hds _ (.tmp 16) (.tmp 18) 30 rfl (by kernel_rfl) (by kernel_rfl)) ?_
 refine Wk.rP 4 20 (.bool false) rfl rfl ?_
 refine Wk.rPass 5 (some 21) rfl rfl (by kernel_rfl) ?_
 refine Wk.rPass 6 (some 22) rfl rfl (by kernel_rfl) ?_
 refine Wk.rPass 7 (some 23) rfl rfl (by kernel_rfl) ?_
 refine Wk.rPass 8 (some 24) rfl rfl (by kernel_rfl) ?_
 refine Wk.rP 9 25 (.bool false) rfl rfl ?_
 refine Wk.rP 10 15 (.bool false) rfl rfl ?_
 refine Wk.rEnd 11 rfl (Wk.nxt (wp_cond_false (by kernel_rfl) (wp_seq (Wk.reg ?_))))
 refine Wk.rP 0 27 (.pointer (some ⟨w.heap.size, 1, none⟩)) rfl rfl ?_
 refine Wk.rQ 1 28 (.slice PA pn pc) rfl rfl (Wk.load1 38 (.tmp 27) rfl (by kernel_rfl) ⟨w.heap.size, 1, none⟩ (by kernel_rfl) (.slice PA pn pc) (show World.cell? _ ⟨_, 0 + 1, _⟩ = _ from Mur.msg_pre (Wk.range_row (Wk.Chg.hp ch4 (Wk.Chg.hp ch3 (Wk.Chg.hp ch2 hb1 trivial) trivial) ⟨by omega, trivial⟩)))) ?_
 refine Wk.rP 2 29 (.int .i64 ((pn : Nat) : Int)) rfl rfl ?_
 by_cases hx6 : ((pn : Nat) : Int) = (8 : Int)
 ·refine Wk.rQ 3 30 (.bool true) rfl rfl (Wk.boolT (b := (((pn : Nat) : Int) == (8 : Int))) (beq_iff_eq.2 (by first | exact hx6 | omega)) (by kernel_rfl)) ?_
  refine Wk.rP 4 31 (.bool true) rfl rfl ?_
  refine Wk.rPass 5 (some 32) rfl rfl (by kernel_rfl) ?_
  refine Wk.rPass 6 (some 33) rfl rfl (by kernel_rfl) ?_
  refine Wk.rPass 7 (some 34) rfl rfl (by kernel_rfl) ?_
  refine Wk.rPass 8 (some 35) rfl rfl (by kernel_rfl) ?_
  refine Wk.rPass 9 (some 36) rfl rfl (by kernel_rfl) ?_
  refine Wk.rP 10 37 (.bool true) rfl rfl ?_
  refine Wk.rP 11 26 (.bool true) rfl rfl ?_
  refine Wk.rEnd 12 rfl (Wk.nxt (wp_cond_true (by kernel_rfl) (wp_seq (wp_seq (Wk.reg ?_)))))
  refine Wk.rP 0 38 (.int .i64 (((Mur.belowL p L).length : Nat) : Int)) rfl rfl ?_
  by_cases hx7 : (((Mur.belowL p L).length : Nat) : Int) = (0 : Int)
  ·refine Wk.rQ 1 39 (.bool true) rfl rfl (Wk.boolT (b := ((((Mur.belowL p L).length : Nat) : Int) == (0 : Int))) (beq_iff_eq.2 (by first | exact hx7 | omega)) (by kernel_rfl)) ?_
   refine Wk.rEnd 2 rfl (Wk.nxt (wp_cond_true (by kernel_rfl) (wp_seq (Wk.reg ?_))))
   refine Wk.rP 0 40 (.pointer (some ⟨w.heap.size, 1, none⟩)) rfl rfl ?_
   refine Wk.rQ 1 41 (.slice PA pn pc) rfl rfl (Wk.load1 38 (.tmp 40) rfl (by kernel_rfl) ⟨w.heap.size, 1, none⟩ (by kernel_rfl) (.slice PA pn pc) (show World.cell? _ ⟨_, 0 + 1, _⟩ = _ from Mur.msg_pre (Wk.range_row (Wk.Chg.hp ch4 (Wk.Chg.hp ch3 (Wk.Chg.hp ch2 hb1 trivial) trivial) ⟨by omega, trivial⟩)))) ?_
   refine Wk.rC 2 42 75 [.tmp 41] #[38] [.slice PA pn pc] rfl rfl rfl ?_
   have kk41 := Wk.Chg.step kk1 ch2 trivial
   have kk42 := Wk.Chg.step kk41 ch3 trivial
   have kk43 := Wk.Chg.step kk42 ch4 ⟨.inr (by omega), trivial⟩
   refine (CloneB_any p PA pn pc W4 (Mur.byt_chg hb kk43 (fun g off e hl => trivial)) hnil (by omega)).mono ?_
   rintro _ W23 ⟨AA11, nn19, nn20, rfl, ow16, ch21⟩
   have zz21 := ch21.size
   have hq28 := ow16.byt.1
   have hq29 := ow16.nc
   have hq30 := ow16.cm
   refine ⟨_, rfl, ?_⟩
   refine Wk.rQ 3 43 (.agg ((Mur.msgC 2 AA11 nn19 nn20 Mur.z32 0 none 0 0 false).toArray)) rfl rfl (Mur.run_built 66 _ rfl [(0, .int .u8 2), (1, .slice AA11 nn19 nn20)] (by kernel_rfl) _ (built_empty AA11 nn19 nn20)) ?_
   refine Wk.rEx 4 (some 44) _ rfl rfl (by kernel_rfl) (Mur.buildR1 67 66 (.tmp 43) rfl Tryd.underlying67 Mur.msgZ 37 104 msgI (Mur.msgC_length rfl) (by decide) (by decide) (Mur.msgC 2 AA11 nn19 nn20 Mur.z32 0 none 0 0 false) (Mur.msgC_length rfl) (by kernel_rfl)) ?_
   rintro _ W24 ⟨rfl, hb8, ch22, sz9⟩
   have zz22 := ch22.size
   refine Wk.rP 5 4 (.slice (some ⟨W23.heap.size, 0, none⟩) 1 1) rfl rfl ?_
   refine Wk.rEnd 6 rfl (Wk.nxt (wp_ret (Wk.thR (Wk.inR (Wk.thR ?_)))))
   have hde_ := hd1.out
   have hcn_ : Mur.cntL p L = (Mur.belowL p L).length := rfl
   have hpl_ := hb.1
   have ow17 := Mur.own8 (Wk.own_chg ow16.own ch22 (fun q e _ _ => trivial))
   have hsub4 := Mur.subs_own1 (kd := 2) (s := Mur.z32) (k := 0) (b := false) ow16 rfl
   have kk44 := Wk.Chg.step kk43 ch21 trivial
   have kk45 := Wk.Chg.step kk44 ch22 trivial
   refine Wk.ret (.slice (some ⟨W23.heap.size, 0, none⟩) 1 1) rfl (by kernel_rfl) ?_
   exact ⟨_, _, _, rfl, by rw [Mur.summed_empty (p := p) (s := s) (L := L) (m := m) (by rw [← hde_]; first | exact fun h_ => hds h_.1 | (rintro ⟨_, h_⟩; omega)) (by omega) (by omega)]; exact Mur.msgA_one (r := ⟨2, AA11, nn19, nn20, Mur.z32, 0, none, 0, 0, false, rfl⟩) hb8 (Mur.rawok_empty ow17) (by omega) (fun q_ hq_ => by have := hsub4 q_ hq_; omega), kk45⟩
  refine Wk.rQ 1 39 (.bool false) rfl rfl (Wk.boolF (b := ((((Mur.belowL p L).length : Nat) : Int) == (0 : Int))) (beq_eq_false_iff_ne.2 (by first | exact hx7 | omega)) (by kernel_rfl)) ?_
  refine Wk.rEnd 2 rfl (Wk.nxt (wp_cond_false (by kernel_rfl) (wp_skip (Wk.nxt (wp_seq ?_)))))
  refine Wk.dReg ([]) (by kernel_rfl) ?_
  intro W25 ch23 sz10
  have zz23 := ch23.size
  have sS7 : Wk.Chg ([]) W25 W25 := (Wk.Chg.refl _).more (by simp)
  refine Wk.dV 0 45 (.pointer (some ⟨w.heap.size, 1, none⟩)) rfl rfl (fun _ _ => by kernel_rfl) sS7 ?_
  refine Wk.dV 1 46 (.slice PA pn pc) rfl rfl (fun w' hw' => (Wk.load1 38 (.tmp 45) rfl (by kernel_rfl) ⟨w.heap.size, 1, none⟩ (by kernel_rfl) (.slice PA pn pc) (show World.cell? _ ⟨_, 0 + 1, _⟩ = _ from Mur.msg_pre (Wk.range_row (Wk.Chg.hp hw' (Wk.Chg.hp ch23 (Wk.Chg.hp ch4 (Wk.Chg.hp ch3 (Wk.Chg.hp ch2 hb1 trivial) trivial) ⟨by omega, trivial⟩) trivial) trivial))))) sS7 ?_
  refine Wk.dV 2 47 (.pointer (some ⟨g, 0, none⟩)) rfl rfl (fun _ _ => by kernel_rfl) sS7 ?_
  refine Wk.dV 3 48 (.pointer (some ⟨w.heap.size, 1, none⟩)) rfl rfl (fun _ _ => by kernel_rfl) sS7 ?_
  refine Wk.dV 4 49 (.slice PA pn pc) rfl rfl (fun w' hw' => (Wk.load1 38 (.tmp 48) rfl (by kernel_rfl) ⟨w.heap.size, 1, none⟩ (by kernel_rfl) (.slice PA pn pc) (show World.cell? _ ⟨_, 0 + 1, _⟩ = _ from Mur.msg_pre (Wk.range_row (Wk.Chg.hp hw' (Wk.Chg.hp ch23 (Wk.Chg.hp ch4 (Wk.Chg.hp ch3 (Wk.Chg.hp ch2 hb1 trivial) trivial) ⟨by omega, trivial⟩) trivial) trivial))))) sS7 ?_
  refine Wk.dOp 5 (by kernel_rfl) ?_
  refine Wk.oCall (some 50) 18 [.tmp 47, .tmp 49] #[24, 38] [.pointer (some ⟨g, 0, none⟩), .slice PA pn pc] rfl rfl (by kernel_rfl) rfl (by kernel_rfl) (by kernel_rfl) ?_
  have kk46 := Wk.Chg.step kk1 ch2 trivial
  have kk47 := Wk.Chg.step kk46 ch3 trivial
  have kk48 := Wk.Chg.step kk47 ch4 ⟨.inr (by omega), trivial⟩
  have kk49 := Wk.Chg.step kk48 ch23 trivial
  have hD13 := Mur.SetF.chg hD1 ch2 (fun s hs => trivial)
  have hD14 := Mur.SetF.chg hD13 ch3 (fun s hs => trivial)
  have hD15 := Mur.SetF.chg hD14 ch4 (fun s hs => ⟨by have := hM_ s hs; omega, trivial⟩)
  have hD16 := Mur.SetF.chg hD15 ch23 (fun s hs => trivial)
  refine (Below_any lo L g F p PA pn pc W25 hD16 (Mur.byt_chg hb kk49 (fun g off e hl => trivial)) (by omega)).mono ?_
  rintro _ W26 ⟨AA12, nn21, nn22, rfl, ow18, ch24⟩
  have zz24 := ch24.size
  have hq31 := ow18.nc
  have hq32 := ow18.cm
  have hq33 := ow18.sl.len
  have hq34 : (Mur.belowL p L).length ≤ 200 := Nat.le_trans (Mur.belowL_len _ _) (Mur.SetF.len hD16)
  have sS8 := Wk.Chg.step sS7 ch24 trivial
  refine ⟨_, rfl, sS8, ?_⟩
  refine Wk.dOp 6 (by kernel_rfl) ?_
  refine Wk.oCall (some 51) 57 [.tmp 46, .tmp 50, .const (.bool false)] #[38, 22, 4] [.slice PA pn pc, .slice AA12 nn21 nn22, .bool false] rfl rfl (by kernel_rfl) rfl (by kernel_rfl) (by kernel_rfl) ?_
  have kk50 := Wk.Chg.step kk49 ch24 trivial
  have hol3 := ow18.sl.len
  have hoc3 : nn22 ≤ 9223372036854775807 := Nat.le_trans ow18.cm (by unfold Go.maxLen; omega)
  have hon3 := ow18.nc
  refine (items_any p PA pn pc AA12 nn21 nn22 (Mur.belowL p L) false W26 (Mur.byt_chg hb kk50 (fun g off e hl => trivial)) hnil (by omega) ow18.sl (by omega)).mono ?_
  rintro _ W27 ⟨AA13, nn23, nn24, rfl, ow19, ch25⟩
  have zz25 := ch25.size
  have hq35 := ow19.nc
  have hq36 := ow19.cm
  have sS9 := Wk.Chg.step sS8 ch25 trivial
  refine ⟨_, rfl, sS9, ?_⟩
  refine Wk.dV 7 4 (.slice AA13 nn23 nn24) rfl rfl (fun _ _ => by kernel_rfl) sS9 ?_
  refine Wk.dEnd (by kernel_rfl) (Wk.nxt (wp_ret (Wk.inR (Wk.thR ?_))))
  have hde_ := hd1.out
  have hcn_ : Mur.cntL p L = (Mur.belowL p L).length := rfl
  have hpl_ := hb.1
  have kk51 := Wk.Chg.step kk50 ch25 trivial
  refine Wk.ret (.slice AA13 nn23 nn24) rfl (by kernel_rfl) ?_
  exact ⟨_, _, _, rfl, by rw [Mur.summed_items (p := p) (s := s) (L := L) (m := m) (by rw [← hde_]; first | exact fun h_ => hds h_.1 | (rintro ⟨_, h_⟩; omega)) (by omega) (by omega)]; exact Mur.MsgA.low ow19 (by omega), kk51⟩
 refine Wk.rQ 3 30 (.bool false) rfl rfl (Wk.boolF (b := (((pn : Nat) : Int) == (8 : Int))) (beq_eq_false_iff_ne.2 (by first | exact hx6 | omega)) (by kernel_rfl)) ?_
 refine Wk.rP 4 31 (.bool false) rfl rfl ?_
 refine Wk.rP 5 32 (.int .i64 (((Mur.belowL p L).length : Nat) : Int)) rfl rfl ?_
 refine Wk.rP 6 33 (.pointer (some ⟨w.heap.size, 34, none⟩)) rfl rfl ?_
 refine Wk.rQ 7 34 (.int .i64 m) rfl rfl (Wk.load1 3 (.tmp 33) rfl (by kernel_rfl) ⟨w.heap.size, 34, none⟩ (by kernel_rfl) (.int .i64 m) (show World.cell? _ ⟨_, 0 + 34, _⟩ = _ from Mur.msg_cnt hs (Wk.range_row (Wk.Chg.hp ch4 (Wk.Chg.hp ch3 (Wk.Chg.hp ch2 hb1 trivial) trivial) ⟨by omega, trivial⟩)))) ?_
 refine Wk.rQ 8 35 (.int .i64 ((((Mur.belowL p L).length : Nat) : Int) + m)) rfl rfl (Wk.int64 (n := (((Mur.belowL p L).length : Nat) : Int) + m) (z := (((Mur.belowL p L).length : Nat) : Int) + m) (by omega) (by omega) (by omega) (by kernel_rfl)) ?_
 by_cases hx8 : ((((Mur.belowL p L).length : Nat) : Int) + m) ≤ (8 : Int)
 ·refine Wk.rQ 9 36 (.bool true) rfl rfl (Wk.boolT (b := decide (((((Mur.belowL p L).length : Nat) : Int) + m) ≤ (8 : Int))) (decide_eq_true (by first | exact hx8 | omega)) (by kernel_rfl)) ?_
  refine Wk.rP 10 37 (.bool true) rfl rfl ?_
  refine Wk.rP 11 26 (.bool true) rfl rfl ?_
  refine Wk.rEnd 12 rfl (Wk.nxt (wp_cond_true (by kernel_rfl) (wp_seq (wp_seq (Wk.reg ?_)))))
  refine Wk.rP 0 38 (.int .i64 (((Mur.belowL p L).length : Nat) : Int)) rfl rfl ?_
  by_cases hx9 : (((Mur.belowL p L).length : Nat) : Int) = (0 : Int)
  ·refine Wk.rQ 1 39 (.bool true) rfl rfl (Wk.boolT (b := ((((Mur.belowL p L).length : Nat) : Int) == (0 : Int))) (beq_iff_eq.2 (by first | exact hx9 | omega)) (by kernel_rfl)) ?_
   refine Wk.rEnd 2 rfl (Wk.nxt (wp_cond_true (by kernel_rfl) (wp_seq (Wk.reg ?_))))
   refine Wk.rP 0 40 (.pointer (some ⟨w.heap.size, 1, none⟩)) rfl rfl ?_
   refine Wk.rQ 1 41 (.slice PA pn pc) rfl rfl (Wk.load1 38 (.tmp 40) rfl (by kernel_rfl) ⟨w.heap.size, 1, none⟩ (by kernel_rfl) (.slice PA pn pc) (show World.cell? _ ⟨_, 0 + 1, _⟩ = _ from Mur.msg_pre (Wk.range_row (Wk.Chg.hp ch4 (Wk.Chg.hp ch3 (Wk.Chg.hp ch2 hb1 trivial) trivial) ⟨by omega, trivial⟩)))) ?_
   refine Wk.rC 2 42 75 [.tmp 41] #[38] [.slice PA pn pc] rfl rfl rfl ?_
   have kk52 := Wk.Chg.step kk1 ch2 trivial
   have kk53 := Wk.Chg.step kk52 ch3 trivial
   have kk54 := Wk.Chg.step kk53 ch4 ⟨.inr (by omega), trivial⟩
   refine (CloneB_any p PA pn pc W4 (Mur.byt_chg hb kk54 (fun g off e hl => trivial)) hnil (by omega)).mono ?_
   rintro _ W28 ⟨AA14, nn25, nn26, rfl, ow20, ch26⟩
   have zz26 := ch26.size
   have hq37 := ow20.byt.1
   have hq38 := ow20.nc
   have hq39 := ow20.cm
   refine ⟨_, rfl, ?_⟩
   refine Wk.rQ 3 43 (.agg ((Mur.msgC 2 AA14 nn25 nn26 Mur.z32 0 none 0 0 false).toArray)) rfl rfl (Mur.run_built 66 _ rfl [(0, .int .u8 2), (1, .slice AA14 nn25 nn26)] (by kernel_rfl) _ (built_empty AA14 nn25 nn26)) ?_
   refine Wk.rEx 4 (some 44) _ rfl rfl (by kernel_rfl) (Mur.buildR1 67 66 (.tmp 43) rfl Tryd.underlying67 Mur.msgZ 37 104 msgI (Mur.msgC_length rfl) (by decide) (by decide) (Mur.msgC 2 AA14 nn25 nn26 Mur.z32 0 none 0 0 false) (Mur.msgC_length rfl) (by kernel_rfl)) ?_
   rintro _ W29 ⟨rfl, hb9, ch27, sz11⟩
   have zz27 := ch27.size
   refine Wk.rP 5 4 (.slice (some ⟨W28.heap.size, 0, none⟩) 1 1) rfl rfl ?_
   refine Wk.rEnd 6 rfl (Wk.nxt (wp_ret (Wk.thR (Wk.inR (Wk.thR ?_)))))
   have hde_ := hd1.out
   have hcn_ : Mur.cntL p L = (Mur.belowL p L).length := rfl
   have hpl_ := hb.1
   have ow21 := Mur.own8 (Wk.own_chg ow20.own ch27 (fun q e _ _ => trivial))
   have hsub5 := Mur.subs_own1 (kd := 2) (s := Mur.z32) (k := 0) (b := false) ow20 rfl
   have kk55 := Wk.Chg.step kk54 ch26 trivial
   have kk56 := Wk.Chg.step kk55 ch27 trivial
   refine Wk.ret (.slice (some ⟨W28.heap.size, 0, none⟩) 1 1) rfl (by kernel_rfl) ?_
   exact ⟨_, _, _, rfl, by rw [Mur.summed_empty (p := p) (s := s) (L := L) (m := m) (by rw [← hde_]; first | exact fun h_ => hds h_.1 | (rintro ⟨_, h_⟩; omega)) (by omega) (by omega)]; exact Mur.msgA_one (r := ⟨2, AA14, nn25, nn26, Mur.z32, 0, none, 0, 0, false, rfl⟩) hb9 (Mur.rawok_empty ow21) (by omega) (fun q_ hq_ => by have := hsub5 q_ hq_; omega), kk56⟩
  refine Wk.rQ 1 39 (.bool false) rfl rfl (Wk.boolF (b := ((((Mur.belowL p L).length : Nat) : Int) == (0 : Int))) (beq_eq_false_iff_ne.2 (by first | exact hx9 | omega)) (by kernel_rfl)) ?_
  refine Wk.rEnd 2 rfl (Wk.nxt (wp_cond_false (by kernel_rfl) (wp_skip (Wk.nxt (wp_seq ?_)))))
  refine Wk.dReg ([]) (by kernel_rfl) ?_
  intro W30 ch28 sz12
  have zz28 := ch28.size
  have sS10 : Wk.Chg ([]) W30 W30 := (Wk.Chg.refl _).more (by simp)
  refine Wk.dV 0 45 (.pointer (some ⟨w.heap.size, 1, none⟩)) rfl rfl (fun _ _ => by kernel_rfl) sS10 ?_
  refine Wk.dV 1 46 (.slice PA pn pc) rfl rfl (fun w' hw' => (Wk.load1 38 (.tmp 45) rfl (by kernel_rfl) ⟨w.heap.size, 1, none⟩ (by kernel_rfl) (.slice PA pn pc) (show World.cell? _ ⟨_, 0 + 1, _⟩ = _ from Mur.msg_pre (Wk.range_row (Wk.Chg.hp hw' (Wk.Chg.hp ch28 (Wk.Chg.hp ch4 (Wk.Chg.hp ch3 (Wk.Chg.hp ch2 hb1 trivial) trivial) ⟨by omega, trivial⟩) trivial) trivial))))) sS10 ?_
  refine Wk.dV 2 47 (.pointer (some ⟨g, 0, none⟩)) rfl rfl (fun _ _ => by kernel_rfl) sS10 ?_
  refine Wk.dV 3 48 (.pointer (some ⟨w.heap.size, 1, none⟩)) rfl rfl (fun _ _ => by kernel_rfl) sS10 ?_
  refine Wk.dV 4 49 (.slice PA pn pc) rfl rfl (fun w' hw' => (Wk.load1 38 (.tmp 48) rfl (by kernel_rfl) ⟨w.heap.size, 1, none⟩ (by kernel_rfl) (.slice PA pn pc) (show World.cell? _ ⟨_, 0 + 1, _⟩ = _ from Mur.msg_pre (Wk.range_row (Wk.Chg.hp hw' (Wk.Chg.hp ch28 (Wk.Chg.hp ch4 (Wk.Chg.hp ch3 (Wk.Chg.hp ch2 hb1 trivial) trivial) ⟨by omega, trivial⟩) trivial) trivial))))) sS10 ?_
  refine Wk.dOp 5 (by kernel_rfl) ?_
  refine Wk.oCall (some 50) 18 [.tmp 47, .tmp 49] #[24, 38] [.pointer (some ⟨g, 0, none⟩), .slice PA pn pc] rfl rfl (by kernel_rfl) rfl (by kernel_rfl) (by kernel_rfl) ?_
  have kk57 := Wk.Chg.step kk1 ch2 trivial
  have kk58 := Wk.Chg.step kk57 ch3 trivial
  have kk59 := Wk.Chg.step kk58 ch4 ⟨.inr (by omega), trivial⟩
  have kk60 := Wk.Chg.step kk59 ch28 trivial
  have hD17 := Mur.SetF.chg hD1 ch2 (fun s hs => trivial)
  have hD18 := Mur.SetF.chg hD17 ch3 (fun s hs => trivial)
  have hD19 := Mur.SetF.chg hD18 ch4 (fun s hs => ⟨by have := hM_ s hs; omega, trivial⟩)
  have hD20 := Mur.SetF.chg hD19 ch28 (fun s hs => trivial)
  refine (Below_any lo L g F p PA pn pc W30 hD20 (Mur.byt_chg hb kk60 (fun g off e hl => trivial)) (by omega)).mono ?_
  rintro _ W31 ⟨AA15, nn27, nn28, rfl, ow22, ch29⟩
  have zz29 := ch29.size
  have hq40 := ow22.nc
  have hq41 := ow22.cm
  have hq42 := ow22.sl.len
  have hq43 : (Mur.belowL p L).length ≤ 200 := Nat.le_trans (Mur.belowL_len _ _) (Mur.SetF.len hD20)
  have sS11 := Wk.Chg.step sS10 ch29 trivial
  refine ⟨_, rfl, sS11, ?_⟩
  refine Wk.dOp 6 (by kernel_rfl) ?_
  refine Wk.oCall (some 51) 57 [.tmp 46, .tmp 50, .const (.bool false)] #[38, 22, 4] [.slice PA pn pc, .slice AA15 nn27 nn28, .bool false] rfl rfl (by kernel_rfl) rfl (by kernel_rfl) (by kernel_rfl) ?_
  have kk61 := Wk.Chg.step kk60 ch29 trivial
  have hol4 := ow22.sl.len
  have hoc4 : nn28 ≤ 9223372036854775807 := Nat.le_trans ow22.cm (by unfold Go.maxLen; omega)
  have hon4 := ow22.nc
  refine (items_any p PA pn pc AA15 nn27 nn28 (Mur.belowL p L) false W31 (Mur.byt_chg hb kk61 (fun g off e hl => trivial)) hnil (by omega) ow22.sl (by omega)).mono ?_
  rintro _ W32 ⟨AA16, nn29, nn30, rfl, ow23, ch30⟩
  have zz30 := ch30.size
  have hq44 := ow23.nc
  have hq45 := ow23.cm
  have sS12 := Wk.Chg.step sS11 ch30 trivial
  refine ⟨_, rfl, sS12, ?_⟩
  refine Wk.dV 7 4 (.slice AA16 nn29 nn30) rfl rfl (fun _ _ => by kernel_rfl) sS12 ?_
  refine Wk.dEnd (by kernel_rfl) (Wk.nxt (wp_ret (Wk.inR (Wk.thR ?_))))
  have hde_ := hd1.out
  have hcn_ : Mur.cntL p L = (Mur.belowL p L).length := rfl
  have hpl_ := hb.1
  have kk62 := Wk.Chg.step kk61 ch30 trivial
  refine Wk.ret (.slice AA16 nn29 nn30) rfl (by kernel_rfl) ?_
  exact ⟨_, _, _, rfl, by rw [Mur.summed_items (p := p) (s := s) (L := L) (m := m) (by rw [← hde_]; first | exact fun h_ => hds h_.1 | (rintro ⟨_, h_⟩; omega)) (by omega) (by omega)]; exact Mur.MsgA.low ow23 (by omega), kk62⟩
 refine Wk.rQ 9 36 (.bool false) rfl rfl (Wk.boolF (b := decide (((((Mur.belowL p L).length : Nat) : Int) + m) ≤ (8 : Int))) (decide_eq_false (by first | exact hx8 | omega)) (by kernel_rfl)) ?_
 refine Wk.rP 10 37 (.bool false) rfl rfl ?_
 refine Wk.rP 11 26 (.bool false) rfl rfl ?_
 refine Wk.rEnd 12 rfl (Wk.nxt (wp_cond_false (by kernel_rfl) (wp_skip (Wk.inN (Wk.nxt (wp_seq (wp_seq (Wk.reg ?_))))))))
 refine Wk.rP 0 52 (.int .u8 0) rfl rfl ?_
 refine Wk.rEnd 1 rfl (Wk.nxt (wp_block ?_))
 refine Wk.loop (fun m_ a wr => ∃ (t : Nat) (A1 : Option Addr) (c1 : Nat), m_ = 16 - t ∧ a = Sumd_F2 a.tmps (.pointer (some ⟨g, 0, none⟩)) (.pointer (some ⟨w.heap.size, 0, none⟩)) (.slice A1 t c1) (.int .u8 ((t : Nat) : Int)) ∧ t ≤ 16 ∧ Mur.MsgA wr (w.heap.size + 1) 66 A1 t c1 (Mur.splitM p L t) ∧ wr.heap[w.heap.size]? = some (.cells (Mur.msgC kd PA pn pc s m A n c b).toArray 66 (0, 0)) ∧ Wk.Chg [] w wr) (16 - 0) ?_ ?_
 ·have kk63 := Wk.Chg.step kk1 ch2 trivial
  have kk64 := Wk.Chg.step kk63 ch3 trivial
  have kk65 := Wk.Chg.step kk64 ch4 ⟨.inr (by omega), trivial⟩
  refine ⟨0, none, 0, rfl, by kernel_rfl, Nat.zero_le _, (Mur.msgA_nil _ _ _), (Wk.Chg.hp ch4 (Wk.Chg.hp ch3 (Wk.Chg.hp ch2 hb1 trivial) trivial) ⟨by omega, trivial⟩), kk65⟩
 rintro mm2 aa2 W33 ⟨t, A1, c1, hmm2, hF2, hi, hM, hX, HB⟩
 generalize aa2.tmps = bb2 at hF2
 subst hF2
 have hzB := HB.size
 have hxl_ := (Array.getElem?_eq_some_iff.1 hX).1
 have hMl_ := hM.len
 have hMc_ := hM.nc
 have hDx_ := Mur.SetF.chg h HB (fun _ _ => trivial)
 by_cases hlt : t < 16
 ·obtain ⟨u, rfl⟩ : ∃ u : UInt8, u.toNat = t := ⟨UInt8.ofNat t, by simp; omega⟩
  have hul := u.toNat_lt
  refine wp_seq (Wk.reg ?_)
  refine Wk.rQ 0 53 (.bool true) rfl rfl (Wk.boolT (b := decide (((u.toNat : Nat) : Int) < (16 : Int))) (decide_eq_true (by omega)) (by kernel_rfl)) ?_
  refine Wk.rEnd 1 rfl (Wk.nxt (wp_seq (wp_cond_true (by kernel_rfl) (wp_skip (Wk.nxt (wp_seq (wp_block (wp_seq (Wk.reg ?_)))))))))
  refine Wk.rP 0 54 (.int .u8 ((u.toNat : Nat) : Int)) rfl rfl ?_
  refine Wk.rP 1 7 (.int .u8 ((u.toNat : Nat) : Int)) rfl rfl ?_
  refine Wk.rEnd 2 rfl (Wk.nxt (Wk.reg ?_))
  refine Wk.rP 0 55 (.slice A1 u.toNat c1) rfl rfl ?_
  refine Wk.rP 1 56 (.pointer (some ⟨g, 0, none⟩)) rfl rfl ?_
  refine Wk.rP 2 57 (.pointer (some ⟨w.heap.size, 1, none⟩)) rfl rfl ?_
  refine Wk.rQ 3 58 (.slice PA pn pc) rfl rfl (Wk.load1 38 (.tmp 57) rfl (by kernel_rfl) ⟨w.heap.size, 1, none⟩ (by kernel_rfl) (.slice PA pn pc) (show World.cell? _ ⟨_, 0 + 1, _⟩ = _ from Mur.msg_pre (Wk.range_row hX))) ?_
  refine Wk.rC 4 59 75 [.tmp 58] #[38] [.slice PA pn pc] rfl rfl rfl ?_
  refine (CloneB_any p PA pn pc W33 (Mur.byt_chg hb HB (fun g off e hl => trivial)) hnil (by omega)).mono ?_
  rintro _ W34 ⟨AA17, nn31, nn32, rfl, ow24, ch31⟩
  have zz31 := ch31.size
  have hq46 := ow24.byt.1
  have hq47 := ow24.nc
  have hq48 := ow24.cm
  refine ⟨_, rfl, ?_⟩
  refine Wk.rP 5 60 (.int .u8 ((u.toNat : Nat) : Int)) rfl rfl ?_
  refine Wk.rEx 6 (some 61) _ rfl rfl (by kernel_rfl) (Wk.new_ex (.slice (some ⟨W34.heap.size, 0, none⟩) 1 1) #[.int .u8 ((u.toNat : Nat) : Int)] 5 (by kernel_rfl)) ?_
  rintro _ W35 ⟨rfl, hb10, ch32, sz13⟩
  have zz32 := ch32.size
  have ow25 := Mur.own8 (Wk.own_chg ow24.own ch32 (fun q e _ _ => trivial))
  refine Wk.rEx 7 (some 62) _ rfl rfl (by kernel_rfl) (Mur.append8 (.tmp 59) (.tmp 61) 38 5 rfl Tryd.underlying38 (by kernel_rfl) W33.heap.size AA17 nn31 nn32 p (some ⟨W34.heap.size, 0, none⟩) 1 1 ([u]) (by kernel_rfl) (by kernel_rfl) ow25.own (Mur.byt_row [u] hb10) (fun h => by cases h) (by omega) (by omega) (nn31 + 1) (by omega) (p ++ ([u])) rfl) ?_
  rintro _ W36 ⟨AA18, nn33, rfl, ow26, ch33, ha2⟩
  have zz33 := ch33.size
  have hq49 := ow26.nc
  have hq50 := ow26.cm
  refine Wk.rC 8 63 74 [.tmp 56, .tmp 62] #[24, 38] [.pointer (some ⟨g, 0, none⟩), .slice AA18 (nn31 + 1) nn33] rfl rfl rfl ?_
  have hD21 := Mur.SetF.chg hDx_ ch31 (fun s hs => trivial)
  have hD22 := Mur.SetF.chg hD21 ch32 (fun s hs => trivial)
  have hD23 := Mur.SetF.chg hD22 ch33 (fun s hs => (Wk.off_blk (fun gz hgz => by have := ow24.lt gz hgz; have := hM_ s hs; omega)))
  have kk66 := Wk.Chg.step HB ch31 trivial
  have kk67 := Wk.Chg.step kk66 ch32 trivial
  have kk68 := Wk.Chg.step kk67 ch33 (Wk.newOr_blk (fun g hg => by have := ow24.lt g hg; omega))
  refine (summary_any lo L g F (p ++ ([u])) AA18 (nn31 + 1) nn33 W36 (HV.out.below (Wk.Chg.below0 kk68)) hD23 ow26.byt ow26.nil (by omega)).mono ?_
  rintro _ W37 ⟨dd3, AA19, nn34, nn35, hd3, hdl3, rfl, ow27, ch34⟩
  have zz34 := ch34.size
  have hq51 := ow27.nc
  have hq52 := ow27.cm
  refine ⟨_, rfl, ?_⟩
  refine Wk.rEx 9 (some 64) _ rfl rfl (by kernel_rfl) (Mur.buildR1 67 66 (.tmp 63) rfl Tryd.underlying67 Mur.msgZ 37 104 msgI (Mur.msgC_length rfl) (by decide) (by decide) (Mur.msgC 1 AA19 nn34 nn35 dd3 (((Mur.belowL (p ++ ([u])) L).length : Nat) : Int) none 0 0 false) (Mur.msgC_length hdl3) (by kernel_rfl)) ?_
  rintro _ W38 ⟨rfl, hb11, ch35, sz14⟩
  have zz35 := ch35.size
  have kk69 : Wk.Chg [] W33 W34 := Wk.Chg.step ((Wk.Chg.refl _).more (by simp)) ch31 trivial
  have kk70 := Wk.Chg.step kk69 ch32 trivial
  have kk71 := Wk.Chg.step kk70 ch33 (Wk.newOr_blk (fun g hg => by have := ow24.lt g hg; omega))
  have kk72 := Wk.Chg.step kk71 ch34 trivial
  have kk73 := Wk.Chg.step kk72 ch35 trivial
  have ow28 := (Mur.MsgA.chg hM kk73 (fun _ _ _ _ => trivial))
  have ow29 := Mur.own8 (Wk.own_chg ow27.own ch35 (fun q e _ _ => trivial))
  have hsub6 := Mur.subs_own1 (kd := 1) (s := dd3) (k := (((Mur.belowL (p ++ ([u])) L).length : Nat) : Int)) (b := false) ow29 hdl3
  have hlt2 := hM.lt
  refine Wk.rEx 10 (some 65) _ rfl rfl (by kernel_rfl) (Mur.appendM (.tmp 55) (.tmp 64) 67 66 rfl Tryd.underlying67 msgI (w.heap.size + 1) A1 u.toNat c1 (Mur.splitM p L u.toNat) W37.heap.size ⟨1, AA19, nn34, nn35, dd3, (((Mur.belowL (p ++ ([u])) L).length : Nat) : Int), none, 0, 0, false, hdl3⟩ (Mur.summaryM (p ++ ([u])) L) (by kernel_rfl) (by kernel_rfl) ow28 hb11 (Mur.rawok_sum ow29 hd3.out hdl3) (fun q_ hq_ => ⟨by have := hsub6 q_ hq_; omega, fun e_ => by have := hlt2 q_ e_; have := hsub6 q_ hq_; omega⟩) (by omega) (by omega)) ?_
  rintro _ W39 ⟨AA20, nn36, rfl, ow30, ch36⟩
  have zz36 := ch36.size
  have hq53 := ow30.nc
  have hq54 := ow30.cm
  refine Wk.rP 11 4 (.slice AA20 (u.toNat + 1) nn36) rfl rfl ?_
  refine Wk.rEnd 12 rfl (Wk.inN (Wk.nxt (Wk.reg ?_)))
  refine Wk.rQ 0 66 (.int .u8 ((u.toNat + 1 : Nat) : Int)) rfl rfl (Mur.inc8 5 5 (.tmp 52) (.const (.int .u8 1)) rfl u (by omega) (by kernel_rfl) (by kernel_rfl)) ?_
  refine Wk.rP 1 52 (.int .u8 ((u.toNat + 1 : Nat) : Int)) rfl rfl ?_
  refine Wk.rEnd 2 rfl (Wk.nxt ?_)
  have kk74 := Wk.Chg.step kk68 ch34 trivial
  have kk75 := Wk.Chg.step kk74 ch35 trivial
  have kk76 := Wk.Chg.step kk75 ch36 (Wk.newOr_blk (fun g hg => by have := hlt2 g hg; omega))
  refine ⟨_, ?_, u.toNat + 1, AA20, nn36, rfl, by kernel_rfl, (by omega), (by rw [Mur.splitM_succ]; exact ow30), (Wk.Chg.hp ch36 (Wk.Chg.hp ch35 (Wk.Chg.hp ch34 (Wk.Chg.hp ch33 (Wk.Chg.hp ch32 (Wk.Chg.hp ch31 hX trivial) trivial) (Wk.off_blk (fun gz hgz => by have := ow24.lt gz hgz; omega))) trivial) trivial) (Wk.off_blk (fun gz hgz => by have := hlt2 gz hgz; omega))), kk76⟩
  omega
 have ht16_ : Mur.splitM p L t = Mur.splitM p L 16 := by rw [show t = 16 by omega]
 refine wp_seq (Wk.reg ?_)
 refine Wk.rQ 0 53 (.bool false) rfl rfl (Wk.boolF (b := decide (((t : Nat) : Int) < (16 : Int))) (decide_eq_false (by omega)) (by kernel_rfl)) ?_
 refine Wk.rEnd 1 rfl (Wk.nxt (wp_seq (wp_cond_false (by kernel_rfl) (wp_exit (Wk.thX (Wk.thX (Wk.inX (Wk.nxt (wp_seq (Wk.reg ?_))))))))))
 refine Wk.rP 0 67 (.slice A1 t c1) rfl rfl ?_
 refine Wk.rP 1 4 (.slice A1 t c1) rfl rfl ?_
 refine Wk.rEnd 2 rfl (Wk.nxt (wp_ret ?_))
 have hde_ := hd1.out
 have hcn_ : Mur.cntL p L = (Mur.belowL p L).length := rfl
 have hpl_ := hb.1
 refine Wk.ret (.slice A1 t c1) rfl (by kernel_rfl) ?_
 exact ⟨_, _, _, rfl, by rw [Mur.summed_split (p := p) (s := s) (L := L) (m := m) (by rw [← hde_]; first | exact fun h_ => hds h_.1 | (rintro ⟨_, h_⟩; omega)) (by omega), ← ht16_]; exact Mur.MsgA.low hM (by omega), HB⟩
end Go.Proofs.YtfhneademopciaaDoor
