/- adverts' document: Add. -/
import Derived.Test.YtfhneademopciaaDoorPQ8
import Derived.Test.YtfhneademopciaaDoorPQ4
namespace Go.Proofs.YtfhneademopciaaDoor
open Go.RowKit
open Mur (b8s Byt Own8 Seg Segs flat cutA attC Att SlA OwnA rowA)
set_option maxRecDepth 100000
set_option maxHeartbeats 4000000
def Radd_F1 (b : Array Value) (u0 : Value) (u3 : Value) (u6 : Value) (u7 : Value) (u8 : Value) : Act := ⟨#[u0, b.getD 1 undef, b.getD 2 undef, u3, b.getD 4 undef, b.getD 5 undef, u6, u7, u8, b.getD 9 undef, b.getD 10 undef, b.getD 11 undef, b.getD 12 undef, b.getD 13 undef, b.getD 14 undef, b.getD 15 undef, b.getD 16 undef, b.getD 17 undef, b.getD 18 undef, b.getD 19 undef, b.getD 20 undef, b.getD 21 undef, b.getD 22 undef, b.getD 23 undef, b.getD 24 undef, b.getD 25 undef, b.getD 26 undef, b.getD 27 undef, b.getD 28 undef, b.getD 29 undef, b.getD 30 undef, b.getD 31 undef, b.getD 32 undef, b.getD 33 undef, b.getD 34 undef, b.getD 35 undef, b.getD 36 undef, b.getD 37 undef, b.getD 38 undef, b.getD 39 undef, b.getD 40 undef, b.getD 41 undef, b.getD 42 undef, b.getD 43 undef, b.getD 44 undef, b.getD 45 undef, b.getD 46 undef, b.getD 47 undef, b.getD 48 undef, b.getD 49 undef, b.getD 50 undef, b.getD 51 undef, b.getD 52 undef, b.getD 53 undef, b.getD 54 undef, b.getD 55 undef, b.getD 56 undef, b.getD 57 undef, b.getD 58 undef, b.getD 59 undef, b.getD 60 undef, b.getD 61 undef, b.getD 62 undef, b.getD 63 undef, b.getD 64 undef], []⟩
theorem Radd_any (A : Option Addr) (n c : Nat) (L : List Att) (x : Att) (w : World) (hA_ : SlA w A n L) (hs : Mur.Sorted L) (hlen : L.length ≤ 200) (hnc : n ≤ c ∧ c ≤ 9223372036854775807) : Calls Tryd.prog 26 #[.slice A n c, .agg (attC x.k x.r x.n x.t).toArray] w fun e w' => ∃ A2 n2 c2, e = .returned (.tuple #[.slice A2 n2 c2, .int .i64 (Mur.addS x L).2]) ∧ SlA w' A2 n2 (Mur.addS x L).1 ∧ (A2 = A ∨ ∀ g off, A2 = some ⟨g, off, none⟩ → w.heap.size ≤ g ∧ g < w'.heap.size) ∧ (n2 ≤ c2 ∧ c2 ≤ 9223372036854775807) ∧ Wk.Chg [] w w' := by
  have hLl0 := hA_.len
  refine calls_of_wp Tryd.func26 rfl ?_
  refine wp_seq ?_
  refine Wk.reg ?_
  refine Wk.rEx 0 (some 3) _ rfl rfl (by kernel_rfl) (Wk.new_ex (.pointer (some ⟨w.heap.size, 0, none⟩)) ((Mur.attC x.k x.r x.n x.t).toArray) 32 (by kernel_rfl)) ?_
  rintro _ W1 ⟨rfl, hb1, ch1, sz1⟩
  have zz1 := ch1.size
  refine Wk.rPure 1 (some 4) (.slice none 0 0) rfl rfl (by kernel_rfl) (by kernel_rfl) ?_
  refine Wk.rPure 2 (some 5) (.int .i64 0) rfl rfl (by kernel_rfl) (by kernel_rfl) ?_
  refine Wk.rEnd 3 rfl ?_
  refine Wk.nxt ?_
  refine wp_seq ?_
  refine wp_seq ?_
  refine Wk.reg ?_
  refine Wk.rPure 0 (some 9) (.agg ((Mur.attC x.k x.r x.n x.t).toArray)) rfl rfl (by kernel_rfl) (Mur.loadArr 32 (.tmp 3) rfl _ Tryd.underlying32 rfl w.heap.size (by kernel_rfl) (Mur.attC x.k x.r x.n x.t).toArray 97 (Mur.attC_size x.hk x.hr x.ht) (by kernel_rfl) 32 (0, 0) hb1) ?_
  refine Wk.rCall 1 (some 10) 50 [.tmp 9] #[32] [.agg ((Mur.attC x.k x.r x.n x.t).toArray)] rfl rfl (by kernel_rfl) rfl (by kernel_rfl) (by kernel_rfl) ?_
  by_cases hmay1 : Mur.may x.n
  · have hmay1u : 1 ≤ x.n ∧ x.n ≤ 5000 := hmay1
    refine (Rmay_any x.k x.r x.t x.n x.hk x.hr x.ht W1).mono ?_
    rw [decide_eq_true (hmay1 : Mur.may x.n)]
    rintro _ W2 ⟨rfl, ch2⟩
    have zz2 := ch2.size
    refine ⟨_, rfl, ?_⟩
    refine Wk.rPure 2 (some 11) (.bool false) rfl rfl (by kernel_rfl) (by kernel_rfl) ?_
    refine Wk.rEnd 3 rfl ?_
    refine Wk.nxt ?_
    refine wp_cond_false (by kernel_rfl) ?_
    refine wp_skip ?_
    refine Wk.nxt ?_
    refine wp_seq ?_
    refine Wk.reg ?_
    refine Wk.rPure 0 (some 6) (.slice none 0 0) rfl rfl (by kernel_rfl) (by kernel_rfl) ?_
    refine Wk.rEnd 1 rfl ?_
    refine Wk.nxt ?_
    refine wp_seq ?_
    refine Wk.reg ?_
    refine Wk.rPure 0 (some 7) (.bool false) rfl rfl (by kernel_rfl) (by kernel_rfl) ?_
    refine Wk.rEnd 1 rfl ?_
    refine Wk.nxt ?_
    refine wp_seq ?_
    refine wp_seq ?_
    refine Wk.reg ?_
    refine Wk.rPure 0 (some 8) (.int .i64 0) rfl rfl (by kernel_rfl) (by kernel_rfl) ?_
    refine Wk.rEnd 1 rfl ?_
    refine Wk.nxt ?_
    refine wp_block ?_
    refine Wk.loop (fun m_ a wr => ∃ (i : Nat) (b : Bool) (A1 : Option Addr) (N : Nat) (c1 : Nat), m_ = n - i ∧ a = Radd_F1 a.tmps (.slice A n c) (.pointer (some ⟨w.heap.size, 0, none⟩)) (.slice A1 N c1) (.bool b) (.int .i64 ((i : Nat) : Int)) ∧ i ≤ n ∧ OwnA wr (w.heap.size + 1) 32 A1 N c1 ((Mur.ins x L).take (i + b.toNat)) ∧ (b = true → Mur.pos x L < i) ∧ (b = false → i ≤ Mur.pos x L) ∧ (∀ j, j < i → L[j]? ≠ some x) ∧ wr.heap[w.heap.size]? = some (.cells (Mur.attC x.k x.r x.n x.t).toArray 32 (0, 0)) ∧ Wk.Chg [] w wr) (n - 0) ?_ ?_
    · have kk1 : Wk.Chg [] w W1 := Wk.Chg.step ((Wk.Chg.refl _).more (by simp)) ch1 trivial
      have kk2 := Wk.Chg.step kk1 ch2 trivial
      refine ⟨0, false, none, 0, 0, rfl, by kernel_rfl, (by omega), (by exact Mur.ownA_nil _ _ _), (fun e_ => by cases e_), (fun _ => Nat.zero_le _), (fun j hj => by omega), (Wk.Chg.hp ch2 hb1 trivial), kk2⟩
    · rintro mm1 aa1 W3 ⟨i, b, A1, N, c1, hmm1, hF1, hi, hO, hb1, hb0, hnew, hX, HB⟩
      generalize aa1.tmps = bb1 at hF1
      subst hF1
      have hzB := HB.size
      have hxl_ := (Array.getElem?_eq_some_iff.1 hX).1
      have hLl := hA_.len
      have hOl := hO.sl.len
      have hOn := hO.nc
      have hil_ := Mur.ins_length x L
      rw [List.length_take] at hOl
      by_cases hlt : i < n
      · obtain ⟨g_y, o_y, rfl, _⟩ := hA_.ex (by omega)
        obtain ⟨y, hy⟩ : ∃ x, L[i]? = some x := ⟨_, List.getElem?_eq_getElem (by have := hA_.len; omega)⟩
        cases b
        · simp only [Bool.toNat_false, Nat.add_zero] at hO hOl
          refine wp_seq ?_
          refine wp_seq ?_
          refine Wk.reg ?_
          refine Wk.rPure 0 (some 13) (.int .i64 ((i : Nat) : Int)) rfl rfl (by kernel_rfl) (by kernel_rfl) ?_
          refine Wk.rPure 1 (some 14) (.slice (some ⟨g_y, o_y, none⟩) n c) rfl rfl (by kernel_rfl) (by kernel_rfl) ?_
          refine Wk.rPure 2 (some 15) (.int .i64 ((n : Nat) : Int)) rfl rfl (by kernel_rfl) (by kernel_rfl) ?_
          refine Wk.rPure 3 (some 16) (.bool true) rfl rfl (by kernel_rfl) (Wk.boolT (b := decide (((i : Nat) : Int) < ((n : Nat) : Int))) (decide_eq_true (by omega)) (by kernel_rfl)) ?_
          refine Wk.rEnd 4 rfl ?_
          refine Wk.nxt ?_
          refine wp_cond_true (by kernel_rfl) ?_
          refine wp_skip ?_
          refine Wk.nxt ?_
          refine wp_seq ?_
          refine wp_block ?_
          refine wp_seq ?_
          refine wp_seq ?_
          refine Wk.dReg ([]) (by kernel_rfl) ?_
          intro W4 ch3 sz2
          have zz3 := ch3.size
          have sS1 : Wk.Chg ([]) W4 W4 := (Wk.Chg.refl _).more (by simp)
          refine Wk.dVal 0 (some 19) (.slice (some ⟨g_y, o_y, none⟩) n c) rfl rfl (by kernel_rfl) (by kernel_rfl) (by kernel_rfl) (fun _ _ _ h => h) (by kernel_rfl) (fun w' hw' => by kernel_rfl) sS1 ?_
          refine Wk.dVal 1 (some 20) (.int .i64 ((i : Nat) : Int)) rfl rfl (by kernel_rfl) (by kernel_rfl) (by kernel_rfl) (fun _ _ _ h => h) (by kernel_rfl) (fun w' hw' => by kernel_rfl) sS1 ?_
          refine Wk.dVal 2 (some 21) (.pointer (some ⟨g_y, o_y + i * 97, none⟩)) rfl rfl (by kernel_rfl) (by kernel_rfl) (by kernel_rfl) (fun _ _ _ h => h) (by kernel_rfl) (fun w' hw' => (Wk.index_sl 50 32 (.tmp 19) (.tmp 20) rfl Tryd.underlying50 97 (by kernel_rfl) g_y o_y n c i .i64 (by kernel_rfl) (by kernel_rfl) (by omega))) sS1 ?_
          have kk3 := Wk.Chg.step HB ch3 trivial
          refine Wk.dVal 3 (some 22) (.agg ((Mur.attC y.k y.r y.n y.t).toArray)) rfl rfl (by kernel_rfl) (by kernel_rfl) (by kernel_rfl) (fun _ _ _ h => h) (by kernel_rfl) (fun w' hw' => (Wk.loadR 32 (.tmp 21) rfl _ Tryd.underlying32 rfl g_y (o_y + i * 97) (by kernel_rfl) (Mur.attC y.k y.r y.n y.t) (by rw [Mur.attC_length y.hk y.hr y.ht]; kernel_rfl) ((Mur.SlA.chg (Mur.SlA.chg hA_ kk3 (fun g off e hl => trivial)) hw' (fun g off e hl => trivial)).elem hy))) sS1 ?_
          refine Wk.dVal 4 (some 23) (.agg ((Mur.attC x.k x.r x.n x.t).toArray)) rfl rfl (by kernel_rfl) (by kernel_rfl) (by kernel_rfl) (fun _ _ _ h => h) (by kernel_rfl) (fun w' hw' => (Mur.loadArr 32 (.tmp 3) rfl _ Tryd.underlying32 rfl w.heap.size (by kernel_rfl) (Mur.attC x.k x.r x.n x.t).toArray 97 (Mur.attC_size x.hk x.hr x.ht) (by kernel_rfl) 32 (0, 0) (Wk.Chg.hp hw' (Wk.Chg.hp ch3 hX trivial) trivial))) sS1 ?_
          by_cases hatt1 : y.k = x.k ∧ y.r = x.r ∧ y.n = x.n ∧ y.t = x.t
          · refine Wk.dVal 5 (some 24) (.bool true) rfl rfl (by kernel_rfl) (by kernel_rfl) (by kernel_rfl) (fun _ _ _ h => h) (by kernel_rfl) (fun w' hw' => (Wk.boolT (b := decide (y.k = x.k ∧ y.r = x.r ∧ y.n = x.n ∧ y.t = x.t)) (decide_eq_true (hatt1)) (run_eql_att (.tmp 22) (.tmp 23) 32 rfl y.hk y.hr y.ht x.hk x.hr x.ht y.hn x.hn (by kernel_rfl) (by kernel_rfl)))) sS1 ?_
            refine Wk.dEnd (by kernel_rfl) ?_
            refine Wk.nxt ?_
            refine wp_cond_true (by kernel_rfl) ?_
            refine wp_seq ?_
            refine Wk.reg ?_
            refine Wk.rPure 0 (some 25) (.slice (some ⟨g_y, o_y, none⟩) n c) rfl rfl (by kernel_rfl) (by kernel_rfl) ?_
            refine Wk.rPure 1 (some 4) (.slice (some ⟨g_y, o_y, none⟩) n c) rfl rfl (by kernel_rfl) (by kernel_rfl) ?_
            refine Wk.rPure 2 (some 5) (.int .i64 7) rfl rfl (by kernel_rfl) (by kernel_rfl) ?_
            refine Wk.rEnd 3 rfl ?_
            refine Wk.nxt ?_
            refine wp_ret ?_
            refine Wk.thR ?_
            refine Wk.inR ?_
            refine Wk.thR ?_
            refine Wk.thR ?_
            refine Wk.inR ?_
            refine Wk.thR ?_
            rw [Mur.addS_twice hmay1 (by have q_ := (Mur.Att.eq_iff y x).2 hatt1; rw [← q_]; exact List.mem_of_getElem? hy)]
            refine Wk.ret (.tuple #[.slice (some ⟨g_y, o_y, none⟩) n c, .int .i64 7]) rfl (by kernel_rfl) ?_
            exact ⟨_, _, _, rfl, (Mur.SlA.chg hA_ kk3 (fun g off e hl => trivial)), .inl rfl, by omega, kk3⟩
          · refine Wk.dVal 5 (some 24) (.bool false) rfl rfl (by kernel_rfl) (by kernel_rfl) (by kernel_rfl) (fun _ _ _ h => h) (by kernel_rfl) (fun w' hw' => (Wk.boolF (b := decide (y.k = x.k ∧ y.r = x.r ∧ y.n = x.n ∧ y.t = x.t)) (decide_eq_false (hatt1)) (run_eql_att (.tmp 22) (.tmp 23) 32 rfl y.hk y.hr y.ht x.hk x.hr x.ht y.hn x.hn (by kernel_rfl) (by kernel_rfl)))) sS1 ?_
            refine Wk.dEnd (by kernel_rfl) ?_
            refine Wk.nxt ?_
            refine wp_cond_false (by kernel_rfl) ?_
            refine wp_skip ?_
            refine Wk.nxt ?_
            refine wp_seq ?_
            refine wp_seq ?_
            refine Wk.dReg ([]) (by kernel_rfl) ?_
            intro W5 ch4 sz3
            have zz4 := ch4.size
            have sS2 : Wk.Chg ([]) W5 W5 := (Wk.Chg.refl _).more (by simp)
            refine Wk.dVal 0 (some 26) (.bool false) rfl rfl (by kernel_rfl) (by kernel_rfl) (by kernel_rfl) (fun _ _ _ h => h) (by kernel_rfl) (fun w' hw' => by kernel_rfl) sS2 ?_
            refine Wk.dVal 1 (some 27) (.bool true) rfl rfl (by kernel_rfl) (by kernel_rfl) (by kernel_rfl) (fun _ _ _ h => h) (by kernel_rfl) (fun w' hw' => by kernel_rfl) sS2 ?_
            refine Wk.dVal 2 (some 28) (.bool true) rfl rfl (by kernel_rfl) (by kernel_rfl) (by kernel_rfl) (fun _ _ _ h => h) (by kernel_rfl) (fun w' hw' => by kernel_rfl) sS2 ?_
            refine Wk.dVal 3 (some 29) (.agg ((Mur.attC x.k x.r x.n x.t).toArray)) rfl rfl (by kernel_rfl) (by kernel_rfl) (by kernel_rfl) (fun _ _ _ h => h) (by kernel_rfl) (fun w' hw' => (Mur.loadArr 32 (.tmp 3) rfl _ Tryd.underlying32 rfl w.heap.size (by kernel_rfl) (Mur.attC x.k x.r x.n x.t).toArray 97 (Mur.attC_size x.hk x.hr x.ht) (by kernel_rfl) 32 (0, 0) (Wk.Chg.hp hw' (Wk.Chg.hp ch4 (Wk.Chg.hp ch3 hX trivial) trivial) trivial))) sS2 ?_
            refine Wk.dVal 4 (some 30) (.slice (some ⟨g_y, o_y, none⟩) n c) rfl rfl (by kernel_rfl) (by kernel_rfl) (by kernel_rfl) (fun _ _ _ h => h) (by kernel_rfl) (fun w' hw' => by kernel_rfl) sS2 ?_
            refine Wk.dVal 5 (some 31) (.int .i64 ((i : Nat) : Int)) rfl rfl (by kernel_rfl) (by kernel_rfl) (by kernel_rfl) (fun _ _ _ h => h) (by kernel_rfl) (fun w' hw' => by kernel_rfl) sS2 ?_
            refine Wk.dVal 6 (some 32) (.pointer (some ⟨g_y, o_y + i * 97, none⟩)) rfl rfl (by kernel_rfl) (by kernel_rfl) (by kernel_rfl) (fun _ _ _ h => h) (by kernel_rfl) (fun w' hw' => (Wk.index_sl 50 32 (.tmp 30) (.tmp 31) rfl Tryd.underlying50 97 (by kernel_rfl) g_y o_y n c i .i64 (by kernel_rfl) (by kernel_rfl) (by omega))) sS2 ?_
            have kk4 := Wk.Chg.step kk3 ch4 trivial
            refine Wk.dVal 7 (some 33) (.agg ((Mur.attC y.k y.r y.n y.t).toArray)) rfl rfl (by kernel_rfl) (by kernel_rfl) (by kernel_rfl) (fun _ _ _ h => h) (by kernel_rfl) (fun w' hw' => (Wk.loadR 32 (.tmp 32) rfl _ Tryd.underlying32 rfl g_y (o_y + i * 97) (by kernel_rfl) (Mur.attC y.k y.r y.n y.t) (by rw [Mur.attC_length y.hk y.hr y.ht]; kernel_rfl) ((Mur.SlA.chg (Mur.SlA.chg hA_ kk4 (fun g off e hl => trivial)) hw' (fun g off e hl => trivial)).elem hy))) sS2 ?_
            refine Wk.dOp 8 (by kernel_rfl) ?_
            refine Wk.oCall (some 34) 25 [.tmp 29, .tmp 33] #[32, 32] [.agg ((Mur.attC x.k x.r x.n x.t).toArray), .agg ((Mur.attC y.k y.r y.n y.t).toArray)] rfl rfl (by kernel_rfl) rfl (by kernel_rfl) (by kernel_rfl) ?_
            refine (Less20_any x y W5).mono ?_
            by_cases hls1 : x.lt y
            · rw [decide_eq_true (hls1 : x.lt y)]
              rintro _ W6 ⟨rfl, ch5⟩
              have zz5 := ch5.size
              have sS3 := Wk.Chg.step sS2 ch5 trivial
              refine ⟨_, rfl, sS3, ?_⟩
              refine Wk.dVal 9 (some 35) (.bool true) rfl rfl (by kernel_rfl) (by kernel_rfl) (by kernel_rfl) (fun _ _ _ h => h) (by kernel_rfl) (fun w' hw' => by kernel_rfl) sS3 ?_
              refine Wk.dEnd (by kernel_rfl) ?_
              refine Wk.nxt ?_
              refine wp_cond_true (by kernel_rfl) ?_
              refine wp_seq ?_
              refine Wk.reg ?_
              refine Wk.rPure 0 (some 36) (.slice A1 N c1) rfl rfl (by kernel_rfl) (by kernel_rfl) ?_
              refine Wk.rPure 1 (some 37) (.agg ((Mur.attC x.k x.r x.n x.t).toArray)) rfl rfl (by kernel_rfl) (Mur.loadArr 32 (.tmp 3) rfl _ Tryd.underlying32 rfl w.heap.size (by kernel_rfl) (Mur.attC x.k x.r x.n x.t).toArray 97 (Mur.attC_size x.hk x.hr x.ht) (by kernel_rfl) 32 (0, 0) (Wk.Chg.hp ch5 (Wk.Chg.hp ch4 (Wk.Chg.hp ch3 hX trivial) trivial) trivial)) ?_
              refine Wk.rEx 2 (some 38) _ rfl rfl (by kernel_rfl) (Mur.build1 50 32 (.tmp 37) rfl Tryd.underlying50 attI x.k x.r x.t x.n x.hk x.hr x.ht (by kernel_rfl)) ?_
              rintro _ W7 ⟨rfl, hb2, ch6, sz4⟩
              have zz6 := ch6.size
              have ow1 := Mur.OwnA.chg hO ch3 (fun q e _ _ => trivial)
              have ow2 := Mur.OwnA.chg ow1 ch4 (fun q e _ _ => trivial)
              have ow3 := Mur.OwnA.chg ow2 ch5 (fun q e _ _ => trivial)
              have ow4 := Mur.OwnA.chg ow3 ch6 (fun q e _ _ => trivial)
              refine Wk.rEx 3 (some 39) _ rfl rfl (by kernel_rfl) (Mur.appendA (.tmp 36) (.tmp 38) 50 32 rfl Tryd.underlying50 attI (w.heap.size + 1) A1 N c1 ((Mur.ins x L).take i) (some ⟨W6.heap.size, 0, none⟩) 1 1 ([x]) (by kernel_rfl) (by kernel_rfl) ow4 (Mur.slA_box x hb2) (fun h => by cases h) (by omega) (by omega) (N + 1) (by omega) (((Mur.ins x L).take i) ++ ([x])) rfl) ?_
              rintro _ W8 ⟨AA1, nn1, rfl, ow5, ch7, ha1⟩
              have zz7 := ch7.size
              have hq1 := ow5.nc
              have hq2 := ow5.cm
              refine Wk.rPure 4 (some 6) (.slice AA1 (N + 1) nn1) rfl rfl (by kernel_rfl) (by kernel_rfl) ?_
              refine Wk.rEnd 5 rfl ?_
              refine Wk.nxt ?_
              refine Wk.reg ?_
              refine Wk.rPure 0 (some 7) (.bool true) rfl rfl (by kernel_rfl) (by kernel_rfl) ?_
              refine Wk.rEnd 1 rfl ?_
              refine Wk.nxt ?_
              refine Wk.reg ?_
              refine Wk.rPure 0 (some 40) (.slice AA1 (N + 1) nn1) rfl rfl (by kernel_rfl) (by kernel_rfl) ?_
              refine Wk.rPure 1 (some 41) (.slice (some ⟨g_y, o_y, none⟩) n c) rfl rfl (by kernel_rfl) (by kernel_rfl) ?_
              refine Wk.rPure 2 (some 42) (.int .i64 ((i : Nat) : Int)) rfl rfl (by kernel_rfl) (by kernel_rfl) ?_
              refine Wk.rPure 3 (some 43) (.pointer (some ⟨g_y, o_y + i * 97, none⟩)) rfl rfl (by kernel_rfl) (Wk.index_sl 50 32 (.tmp 41) (.tmp 42) rfl Tryd.underlying50 97 (by kernel_rfl) g_y o_y n c i .i64 (by kernel_rfl) (by kernel_rfl) (by omega)) ?_
              have kk5 := Wk.Chg.step kk4 ch5 trivial
              have kk6 := Wk.Chg.step kk5 ch6 trivial
              have kk7 := Wk.Chg.step kk6 ch7 (Wk.newOr_blk (fun g hg => by have := hO.lt g hg; omega))
              refine Wk.rPure 4 (some 44) (.agg ((Mur.attC y.k y.r y.n y.t).toArray)) rfl rfl (by kernel_rfl) (Wk.loadR 32 (.tmp 43) rfl _ Tryd.underlying32 rfl g_y (o_y + i * 97) (by kernel_rfl) (Mur.attC y.k y.r y.n y.t) (by rw [Mur.attC_length y.hk y.hr y.ht]; kernel_rfl) ((Mur.SlA.chg hA_ kk7 (fun g off e hl => trivial)).elem hy)) ?_
              refine Wk.rEx 5 (some 45) _ rfl rfl (by kernel_rfl) (Mur.build1 50 32 (.tmp 44) rfl Tryd.underlying50 attI y.k y.r y.t y.n y.hk y.hr y.ht (by kernel_rfl)) ?_
              rintro _ W10 ⟨rfl, hb3, ch8, sz5⟩
              have zz8 := ch8.size
              have ow6 := Mur.OwnA.chg ow5 ch8 (fun q e _ _ => trivial)
              refine Wk.rEx 6 (some 46) _ rfl rfl (by kernel_rfl) (Mur.appendA (.tmp 40) (.tmp 45) 50 32 rfl Tryd.underlying50 attI (w.heap.size + 1) AA1 (N + 1) nn1 (((Mur.ins x L).take i) ++ ([x])) (some ⟨W8.heap.size, 0, none⟩) 1 1 ([y]) (by kernel_rfl) (by kernel_rfl) ow6 (Mur.slA_box y hb3) (fun h => by cases h) (by omega) (by omega) (N + 1 + 1) (by omega) ((((Mur.ins x L).take i) ++ ([x])) ++ ([y])) rfl) ?_
              rintro _ W11 ⟨AA2, nn2, rfl, ow7, ch9, ha2⟩
              have zz9 := ch9.size
              have hq3 := ow7.nc
              have hq4 := ow7.cm
              refine Wk.rPure 7 (some 6) (.slice AA2 (N + 1 + 1) nn2) rfl rfl (by kernel_rfl) (by kernel_rfl) ?_
              refine Wk.rEnd 8 rfl ?_
              refine Wk.inN ?_
              refine Wk.nxt ?_
              refine Wk.reg ?_
              refine Wk.rPure 0 (some 17) (.int .i64 ((i : Nat) : Int)) rfl rfl (by kernel_rfl) (by kernel_rfl) ?_
              refine Wk.rPure 1 (some 18) (.int .i64 ((i + 1 : Nat) : Int)) rfl rfl (by kernel_rfl) (Wk.int64 (n := ((i : Nat) : Int) + 1) (z := ((i + 1 : Nat) : Int)) (by omega) (by omega) (by omega) (by kernel_rfl)) ?_
              refine Wk.rPure 2 (some 8) (.int .i64 ((i + 1 : Nat) : Int)) rfl rfl (by kernel_rfl) (by kernel_rfl) ?_
              refine Wk.rEnd 3 rfl ?_
              refine Wk.nxt ?_
              have kk8 := Wk.Chg.step kk7 ch8 trivial
              have kk9 := Wk.Chg.step kk8 ch9 (Wk.newOr_blk (fun g hg => by have := ow5.lt g hg; omega))
              refine ⟨_, ?_, i + 1, true, AA2, N + 1 + 1, nn2, rfl, by kernel_rfl, (by omega), (by rw [show i + 1 + true.toNat = i + 2 from rfl, (Mur.radd_at hs hy (hb0 rfl) hls1).2]; exact ow7), (fun _ => by have := (Mur.radd_at hs hy (hb0 rfl) hls1).1; omega), (fun e_ => by cases e_), (fun j hj => by rcases Nat.lt_or_ge j i with h1_ | h1_ <;> first | exact hnew j h1_ | (obtain rfl : j = i := (by omega); rw [hy]; exact fun q_ => (fun q_ => hatt1 ((Mur.Att.eq_iff y x).1 q_)) (Option.some.inj q_))), (Wk.Chg.hp ch9 (Wk.Chg.hp ch8 (Wk.Chg.hp ch7 (Wk.Chg.hp ch6 (Wk.Chg.hp ch5 (Wk.Chg.hp ch4 (Wk.Chg.hp ch3 hX trivial) trivial) trivial) trivial) (Wk.off_blk (fun gz hgz => by have := hO.lt gz hgz; omega))) trivial) (Wk.off_blk (fun gz hgz => by have := ow5.lt gz hgz; omega))), kk9⟩
              · omega
            · rw [decide_eq_false (hls1 : ¬ x.lt y)]
              rintro _ W6 ⟨rfl, ch5⟩
              have zz10 := ch5.size
              have sS4 := Wk.Chg.step sS2 ch5 trivial
              refine ⟨_, rfl, sS4, ?_⟩
              refine Wk.dVal 9 (some 35) (.bool false) rfl rfl (by kernel_rfl) (by kernel_rfl) (by kernel_rfl) (fun _ _ _ h => h) (by kernel_rfl) (fun w' hw' => by kernel_rfl) sS4 ?_
              refine Wk.dEnd (by kernel_rfl) ?_
              refine Wk.nxt ?_
              refine wp_cond_false (by kernel_rfl) ?_
              refine wp_skip ?_
              refine Wk.nxt ?_
              refine Wk.reg ?_
              refine Wk.rPure 0 (some 40) (.slice A1 N c1) rfl rfl (by kernel_rfl) (by kernel_rfl) ?_
              refine Wk.rPure 1 (some 41) (.slice (some ⟨g_y, o_y, none⟩) n c) rfl rfl (by kernel_rfl) (by kernel_rfl) ?_
              refine Wk.rPure 2 (some 42) (.int .i64 ((i : Nat) : Int)) rfl rfl (by kernel_rfl) (by kernel_rfl) ?_
              refine Wk.rPure 3 (some 43) (.pointer (some ⟨g_y, o_y + i * 97, none⟩)) rfl rfl (by kernel_rfl) (Wk.index_sl 50 32 (.tmp 41) (.tmp 42) rfl Tryd.underlying50 97 (by kernel_rfl) g_y o_y n c i .i64 (by kernel_rfl) (by kernel_rfl) (by omega)) ?_
              have kk10 := Wk.Chg.step kk4 ch5 trivial
              refine Wk.rPure 4 (some 44) (.agg ((Mur.attC y.k y.r y.n y.t).toArray)) rfl rfl (by kernel_rfl) (Wk.loadR 32 (.tmp 43) rfl _ Tryd.underlying32 rfl g_y (o_y + i * 97) (by kernel_rfl) (Mur.attC y.k y.r y.n y.t) (by rw [Mur.attC_length y.hk y.hr y.ht]; kernel_rfl) ((Mur.SlA.chg hA_ kk10 (fun g off e hl => trivial)).elem hy)) ?_
              refine Wk.rEx 5 (some 45) _ rfl rfl (by kernel_rfl) (Mur.build1 50 32 (.tmp 44) rfl Tryd.underlying50 attI y.k y.r y.t y.n y.hk y.hr y.ht (by kernel_rfl)) ?_
              rintro _ W12 ⟨rfl, hb4, ch10, sz6⟩
              have zz11 := ch10.size
              have ow8 := Mur.OwnA.chg hO ch3 (fun q e _ _ => trivial)
              have ow9 := Mur.OwnA.chg ow8 ch4 (fun q e _ _ => trivial)
              have ow10 := Mur.OwnA.chg ow9 ch5 (fun q e _ _ => trivial)
              have ow11 := Mur.OwnA.chg ow10 ch10 (fun q e _ _ => trivial)
              refine Wk.rEx 6 (some 46) _ rfl rfl (by kernel_rfl) (Mur.appendA (.tmp 40) (.tmp 45) 50 32 rfl Tryd.underlying50 attI (w.heap.size + 1) A1 N c1 ((Mur.ins x L).take i) (some ⟨W6.heap.size, 0, none⟩) 1 1 ([y]) (by kernel_rfl) (by kernel_rfl) ow11 (Mur.slA_box y hb4) (fun h => by cases h) (by omega) (by omega) (N + 1) (by omega) (((Mur.ins x L).take i) ++ ([y])) rfl) ?_
              rintro _ W13 ⟨AA3, nn3, rfl, ow12, ch11, ha3⟩
              have zz12 := ch11.size
              have hq5 := ow12.nc
              have hq6 := ow12.cm
              refine Wk.rPure 7 (some 6) (.slice AA3 (N + 1) nn3) rfl rfl (by kernel_rfl) (by kernel_rfl) ?_
              refine Wk.rEnd 8 rfl ?_
              refine Wk.inN ?_
              refine Wk.nxt ?_
              refine Wk.reg ?_
              refine Wk.rPure 0 (some 17) (.int .i64 ((i : Nat) : Int)) rfl rfl (by kernel_rfl) (by kernel_rfl) ?_
              refine Wk.rPure 1 (some 18) (.int .i64 ((i + 1 : Nat) : Int)) rfl rfl (by kernel_rfl) (Wk.int64 (n := ((i : Nat) : Int) + 1) (z := ((i + 1 : Nat) : Int)) (by omega) (by omega) (by omega) (by kernel_rfl)) ?_
              refine Wk.rPure 2 (some 8) (.int .i64 ((i + 1 : Nat) : Int)) rfl rfl (by kernel_rfl) (by kernel_rfl) ?_
              refine Wk.rEnd 3 rfl ?_
              refine Wk.nxt ?_
              have kk11 := Wk.Chg.step kk10 ch10 trivial
              have kk12 := Wk.Chg.step kk11 ch11 (Wk.newOr_blk (fun g hg => by have := hO.lt g hg; omega))
              refine ⟨_, ?_, i + 1, false, AA3, N + 1, nn3, rfl, by kernel_rfl, (by omega), (by rw [show i + 1 + false.toNat = i + 1 from rfl, (Mur.radd_lt hs hy (fun q_ => hatt1 ((Mur.Att.eq_iff y x).1 q_)) hls1).2]; exact ow12), (fun e_ => by cases e_), (fun _ => by have := (Mur.radd_lt hs hy (fun q_ => hatt1 ((Mur.Att.eq_iff y x).1 q_)) hls1).1; omega), (fun j hj => by rcases Nat.lt_or_ge j i with h1_ | h1_ <;> first | exact hnew j h1_ | (obtain rfl : j = i := (by omega); rw [hy]; exact fun q_ => (fun q_ => hatt1 ((Mur.Att.eq_iff y x).1 q_)) (Option.some.inj q_))), (Wk.Chg.hp ch11 (Wk.Chg.hp ch10 (Wk.Chg.hp ch5 (Wk.Chg.hp ch4 (Wk.Chg.hp ch3 hX trivial) trivial) trivial) trivial) (Wk.off_blk (fun gz hgz => by have := hO.lt gz hgz; omega))), kk12⟩
              · omega
        · simp only [Bool.toNat_true] at hO hOl
          refine wp_seq ?_
          refine wp_seq ?_
          refine Wk.reg ?_
          refine Wk.rPure 0 (some 13) (.int .i64 ((i : Nat) : Int)) rfl rfl (by kernel_rfl) (by kernel_rfl) ?_
          refine Wk.rPure 1 (some 14) (.slice (some ⟨g_y, o_y, none⟩) n c) rfl rfl (by kernel_rfl) (by kernel_rfl) ?_
          refine Wk.rPure 2 (some 15) (.int .i64 ((n : Nat) : Int)) rfl rfl (by kernel_rfl) (by kernel_rfl) ?_
          refine Wk.rPure 3 (some 16) (.bool true) rfl rfl (by kernel_rfl) (Wk.boolT (b := decide (((i : Nat) : Int) < ((n : Nat) : Int))) (decide_eq_true (by omega)) (by kernel_rfl)) ?_
          refine Wk.rEnd 4 rfl ?_
          refine Wk.nxt ?_
          refine wp_cond_true (by kernel_rfl) ?_
          refine wp_skip ?_
          refine Wk.nxt ?_
          refine wp_seq ?_
          refine wp_block ?_
          refine wp_seq ?_
          refine wp_seq ?_
          refine Wk.dReg ([]) (by kernel_rfl) ?_
          intro W14 ch12 sz7
          have zz13 := ch12.size
          have sS5 : Wk.Chg ([]) W14 W14 := (Wk.Chg.refl _).more (by simp)
          refine Wk.dVal 0 (some 19) (.slice (some ⟨g_y, o_y, none⟩) n c) rfl rfl (by kernel_rfl) (by kernel_rfl) (by kernel_rfl) (fun _ _ _ h => h) (by kernel_rfl) (fun w' hw' => by kernel_rfl) sS5 ?_
          refine Wk.dVal 1 (some 20) (.int .i64 ((i : Nat) : Int)) rfl rfl (by kernel_rfl) (by kernel_rfl) (by kernel_rfl) (fun _ _ _ h => h) (by kernel_rfl) (fun w' hw' => by kernel_rfl) sS5 ?_
          refine Wk.dVal 2 (some 21) (.pointer (some ⟨g_y, o_y + i * 97, none⟩)) rfl rfl (by kernel_rfl) (by kernel_rfl) (by kernel_rfl) (fun _ _ _ h => h) (by kernel_rfl) (fun w' hw' => (Wk.index_sl 50 32 (.tmp 19) (.tmp 20) rfl Tryd.underlying50 97 (by kernel_rfl) g_y o_y n c i .i64 (by kernel_rfl) (by kernel_rfl) (by omega))) sS5 ?_
          have kk13 := Wk.Chg.step HB ch12 trivial
          refine Wk.dVal 3 (some 22) (.agg ((Mur.attC y.k y.r y.n y.t).toArray)) rfl rfl (by kernel_rfl) (by kernel_rfl) (by kernel_rfl) (fun _ _ _ h => h) (by kernel_rfl) (fun w' hw' => (Wk.loadR 32 (.tmp 21) rfl _ Tryd.underlying32 rfl g_y (o_y + i * 97) (by kernel_rfl) (Mur.attC y.k y.r y.n y.t) (by rw [Mur.attC_length y.hk y.hr y.ht]; kernel_rfl) ((Mur.SlA.chg (Mur.SlA.chg hA_ kk13 (fun g off e hl => trivial)) hw' (fun g off e hl => trivial)).elem hy))) sS5 ?_
          refine Wk.dVal 4 (some 23) (.agg ((Mur.attC x.k x.r x.n x.t).toArray)) rfl rfl (by kernel_rfl) (by kernel_rfl) (by kernel_rfl) (fun _ _ _ h => h) (by kernel_rfl) (fun w' hw' => (Mur.loadArr 32 (.tmp 3) rfl _ Tryd.underlying32 rfl w.heap.size (by kernel_rfl) (Mur.attC x.k x.r x.n x.t).toArray 97 (Mur.attC_size x.hk x.hr x.ht) (by kernel_rfl) 32 (0, 0) (Wk.Chg.hp hw' (Wk.Chg.hp ch12 hX trivial) trivial))) sS5 ?_
          by_cases hatt2 : y.k = x.k ∧ y.r = x.r ∧ y.n = x.n ∧ y.t = x.t
          · refine Wk.dVal 5 (some 24) (.bool true) rfl rfl (by kernel_rfl) (by kernel_rfl) (by kernel_rfl) (fun _ _ _ h => h) (by kernel_rfl) (fun w' hw' => (Wk.boolT (b := decide (y.k = x.k ∧ y.r = x.r ∧ y.n = x.n ∧ y.t = x.t)) (decide_eq_true (hatt2)) (run_eql_att (.tmp 22) (.tmp 23) 32 rfl y.hk y.hr y.ht x.hk x.hr x.ht y.hn x.hn (by kernel_rfl) (by kernel_rfl)))) sS5 ?_
            refine Wk.dEnd (by kernel_rfl) ?_
            refine Wk.nxt ?_
            refine wp_cond_true (by kernel_rfl) ?_
            refine wp_seq ?_
            refine Wk.reg ?_
            refine Wk.rPure 0 (some 25) (.slice (some ⟨g_y, o_y, none⟩) n c) rfl rfl (by kernel_rfl) (by kernel_rfl) ?_
            refine Wk.rPure 1 (some 4) (.slice (some ⟨g_y, o_y, none⟩) n c) rfl rfl (by kernel_rfl) (by kernel_rfl) ?_
            refine Wk.rPure 2 (some 5) (.int .i64 7) rfl rfl (by kernel_rfl) (by kernel_rfl) ?_
            refine Wk.rEnd 3 rfl ?_
            refine Wk.nxt ?_
            refine wp_ret ?_
            refine Wk.thR ?_
            refine Wk.inR ?_
            refine Wk.thR ?_
            refine Wk.thR ?_
            refine Wk.inR ?_
            refine Wk.thR ?_
            rw [Mur.addS_twice hmay1 (by have q_ := (Mur.Att.eq_iff y x).2 hatt2; rw [← q_]; exact List.mem_of_getElem? hy)]
            refine Wk.ret (.tuple #[.slice (some ⟨g_y, o_y, none⟩) n c, .int .i64 7]) rfl (by kernel_rfl) ?_
            exact ⟨_, _, _, rfl, (Mur.SlA.chg hA_ kk13 (fun g off e hl => trivial)), .inl rfl, by omega, kk13⟩
          · refine Wk.dVal 5 (some 24) (.bool false) rfl rfl (by kernel_rfl) (by kernel_rfl) (by kernel_rfl) (fun _ _ _ h => h) (by kernel_rfl) (fun w' hw' => (Wk.boolF (b := decide (y.k = x.k ∧ y.r = x.r ∧ y.n = x.n ∧ y.t = x.t)) (decide_eq_false (hatt2)) (run_eql_att (.tmp 22) (.tmp 23) 32 rfl y.hk y.hr y.ht x.hk x.hr x.ht y.hn x.hn (by kernel_rfl) (by kernel_rfl)))) sS5 ?_
            refine Wk.dEnd (by kernel_rfl) ?_
            refine Wk.nxt ?_
            refine wp_cond_false (by kernel_rfl) ?_
            refine wp_skip ?_
            refine Wk.nxt ?_
            refine wp_seq ?_
            refine wp_seq ?_
            refine Wk.dReg ([]) (by kernel_rfl) ?_
            intro W15 ch13 sz8
            have zz14 := ch13.size
            have sS6 : Wk.Chg ([]) W15 W15 := (Wk.Chg.refl _).more (by simp)
            refine Wk.dVal 0 (some 26) (.bool true) rfl rfl (by kernel_rfl) (by kernel_rfl) (by kernel_rfl) (fun _ _ _ h => h) (by kernel_rfl) (fun w' hw' => by kernel_rfl) sS6 ?_
            refine Wk.dVal 1 (some 27) (.bool false) rfl rfl (by kernel_rfl) (by kernel_rfl) (by kernel_rfl) (fun _ _ _ h => h) (by kernel_rfl) (fun w' hw' => by kernel_rfl) sS6 ?_
            refine Wk.dVal 2 (some 28) (.bool false) rfl rfl (by kernel_rfl) (by kernel_rfl) (by kernel_rfl) (fun _ _ _ h => h) (by kernel_rfl) (fun w' hw' => by kernel_rfl) sS6 ?_
            refine Wk.dPass 3 (some 29) rfl rfl (by kernel_rfl) (by kernel_rfl) (by kernel_rfl) (fun _ _ _ h => h) (by kernel_rfl) sS6 ?_
            refine Wk.dPass 4 (some 30) rfl rfl (by kernel_rfl) (by kernel_rfl) (by kernel_rfl) (fun _ _ _ h => h) (by kernel_rfl) sS6 ?_
            refine Wk.dPass 5 (some 31) rfl rfl (by kernel_rfl) (by kernel_rfl) (by kernel_rfl) (fun _ _ _ h => h) (by kernel_rfl) sS6 ?_
            refine Wk.dPass 6 (some 32) rfl rfl (by kernel_rfl) (by kernel_rfl) (by kernel_rfl) (fun _ _ _ h => h) (by kernel_rfl) sS6 ?_
            refine Wk.dPass 7 (some 33) rfl rfl (by kernel_rfl) (by kernel_rfl) (by kernel_rfl) (fun _ _ _ h => h) (by kernel_rfl) sS6 ?_
            refine Wk.dPass 8 (some 34) rfl rfl (by kernel_rfl) (by kernel_rfl) (by kernel_rfl) (fun _ _ _ h => h) (by kernel_rfl) sS6 ?_
            refine Wk.dVal 9 (some 35) (.bool false) rfl rfl (by kernel_rfl) (by kernel_rfl) (by kernel_rfl) (fun _ _ _ h => h) (by kernel_rfl) (fun w' hw' => by kernel_rfl) sS6 ?_
            refine Wk.dEnd (by kernel_rfl) ?_
            refine Wk.nxt ?_
            refine wp_cond_false (by kernel_rfl) ?_
            refine wp_skip ?_
            refine Wk.nxt ?_
            refine Wk.reg ?_
            refine Wk.rPure 0 (some 40) (.slice A1 N c1) rfl rfl (by kernel_rfl) (by kernel_rfl) ?_
            refine Wk.rPure 1 (some 41) (.slice (some ⟨g_y, o_y, none⟩) n c) rfl rfl (by kernel_rfl) (by kernel_rfl) ?_
            refine Wk.rPure 2 (some 42) (.int .i64 ((i : Nat) : Int)) rfl rfl (by kernel_rfl) (by kernel_rfl) ?_
            refine Wk.rPure 3 (some 43) (.pointer (some ⟨g_y, o_y + i * 97, none⟩)) rfl rfl (by kernel_rfl) (Wk.index_sl 50 32 (.tmp 41) (.tmp 42) rfl Tryd.underlying50 97 (by kernel_rfl) g_y o_y n c i .i64 (by kernel_rfl) (by kernel_rfl) (by omega)) ?_
            have kk14 := Wk.Chg.step kk13 ch13 trivial
            refine Wk.rPure 4 (some 44) (.agg ((Mur.attC y.k y.r y.n y.t).toArray)) rfl rfl (by kernel_rfl) (Wk.loadR 32 (.tmp 43) rfl _ Tryd.underlying32 rfl g_y (o_y + i * 97) (by kernel_rfl) (Mur.attC y.k y.r y.n y.t) (by rw [Mur.attC_length y.hk y.hr y.ht]; kernel_rfl) ((Mur.SlA.chg hA_ kk14 (fun g off e hl => trivial)).elem hy)) ?_
            refine Wk.rEx 5 (some 45) _ rfl rfl (by kernel_rfl) (Mur.build1 50 32 (.tmp 44) rfl Tryd.underlying50 attI y.k y.r y.t y.n y.hk y.hr y.ht (by kernel_rfl)) ?_
            rintro _ W16 ⟨rfl, hb5, ch14, sz9⟩
            have zz15 := ch14.size
            have ow13 := Mur.OwnA.chg hO ch12 (fun q e _ _ => trivial)
            have ow14 := Mur.OwnA.chg ow13 ch13 (fun q e _ _ => trivial)
            have ow15 := Mur.OwnA.chg ow14 ch14 (fun q e _ _ => trivial)
            refine Wk.rEx 6 (some 46) _ rfl rfl (by kernel_rfl) (Mur.appendA (.tmp 40) (.tmp 45) 50 32 rfl Tryd.underlying50 attI (w.heap.size + 1) A1 N c1 ((Mur.ins x L).take (i + 1)) (some ⟨W15.heap.size, 0, none⟩) 1 1 ([y]) (by kernel_rfl) (by kernel_rfl) ow15 (Mur.slA_box y hb5) (fun h => by cases h) (by omega) (by omega) (N + 1) (by omega) (((Mur.ins x L).take (i + 1)) ++ ([y])) rfl) ?_
            rintro _ W17 ⟨AA4, nn4, rfl, ow16, ch15, ha4⟩
            have zz16 := ch15.size
            have hq7 := ow16.nc
            have hq8 := ow16.cm
            refine Wk.rPure 7 (some 6) (.slice AA4 (N + 1) nn4) rfl rfl (by kernel_rfl) (by kernel_rfl) ?_
            refine Wk.rEnd 8 rfl ?_
            refine Wk.inN ?_
            refine Wk.nxt ?_
            refine Wk.reg ?_
            refine Wk.rPure 0 (some 17) (.int .i64 ((i : Nat) : Int)) rfl rfl (by kernel_rfl) (by kernel_rfl) ?_
            refine Wk.rPure 1 (some 18) (.int .i64 ((i + 1 : Nat) : Int)) rfl rfl (by kernel_rfl) (Wk.int64 (n := ((i : Nat) : Int) + 1) (z := ((i + 1 : Nat) : Int)) (by omega) (by omega) (by omega) (by kernel_rfl)) ?_
            refine Wk.rPure 2 (some 8) (.int .i64 ((i + 1 : Nat) : Int)) rfl rfl (by kernel_rfl) (by kernel_rfl) ?_
            refine Wk.rEnd 3 rfl ?_
            refine Wk.nxt ?_
            have kk15 := Wk.Chg.step kk14 ch14 trivial
            have kk16 := Wk.Chg.step kk15 ch15 (Wk.newOr_blk (fun g hg => by have := hO.lt g hg; omega))
            refine ⟨_, ?_, i + 1, true, AA4, N + 1, nn4, rfl, by kernel_rfl, (by omega), (by rw [show i + 1 + true.toNat = i + 2 from rfl, Mur.radd_gt hy (hb1 rfl)]; exact ow16), (fun _ => by have := hb1 rfl; omega), (fun e_ => by cases e_), (fun j hj => by rcases Nat.lt_or_ge j i with h1_ | h1_ <;> first | exact hnew j h1_ | (obtain rfl : j = i := (by omega); rw [hy]; exact fun q_ => (fun q_ => hatt2 ((Mur.Att.eq_iff y x).1 q_)) (Option.some.inj q_))), (Wk.Chg.hp ch15 (Wk.Chg.hp ch14 (Wk.Chg.hp ch13 (Wk.Chg.hp ch12 hX trivial) trivial) trivial) (Wk.off_blk (fun gz hgz => by have := hO.lt gz hgz; omega))), kk16⟩
            · omega
      · have hnotin := Mur.radd_new hLl (fun j hj => hnew j (by omega))
        cases b
        · simp only [Bool.toNat_false, Nat.add_zero] at hO hOl
          obtain ⟨hpn, hall_⟩ := Mur.radd_end (x := x) hLl (show n ≤ Mur.pos x L from by have := hb0 rfl; omega)
          refine wp_seq ?_
          refine wp_seq ?_
          refine Wk.reg ?_
          refine Wk.rPure 0 (some 13) (.int .i64 ((i : Nat) : Int)) rfl rfl (by kernel_rfl) (by kernel_rfl) ?_
          refine Wk.rPure 1 (some 14) (.slice A n c) rfl rfl (by kernel_rfl) (by kernel_rfl) ?_
          refine Wk.rPure 2 (some 15) (.int .i64 ((n : Nat) : Int)) rfl rfl (by kernel_rfl) (by kernel_rfl) ?_
          refine Wk.rPure 3 (some 16) (.bool false) rfl rfl (by kernel_rfl) (Wk.boolF (b := decide (((i : Nat) : Int) < ((n : Nat) : Int))) (decide_eq_false (by omega)) (by kernel_rfl)) ?_
          refine Wk.rEnd 4 rfl ?_
          refine Wk.nxt ?_
          refine wp_cond_false (by kernel_rfl) ?_
          refine wp_exit ?_
          refine Wk.thX ?_
          refine Wk.thX ?_
          refine Wk.inX ?_
          refine Wk.nxt ?_
          refine wp_seq ?_
          refine wp_seq ?_
          refine Wk.reg ?_
          refine Wk.rPure 0 (some 47) (.bool false) rfl rfl (by kernel_rfl) (by kernel_rfl) ?_
          refine Wk.rPure 1 (some 48) (.bool true) rfl rfl (by kernel_rfl) (by kernel_rfl) ?_
          refine Wk.rEnd 2 rfl ?_
          refine Wk.nxt ?_
          refine wp_cond_true (by kernel_rfl) ?_
          refine Wk.reg ?_
          refine Wk.rPure 0 (some 49) (.slice A1 N c1) rfl rfl (by kernel_rfl) (by kernel_rfl) ?_
          refine Wk.rPure 1 (some 50) (.agg ((Mur.attC x.k x.r x.n x.t).toArray)) rfl rfl (by kernel_rfl) (Mur.loadArr 32 (.tmp 3) rfl _ Tryd.underlying32 rfl w.heap.size (by kernel_rfl) (Mur.attC x.k x.r x.n x.t).toArray 97 (Mur.attC_size x.hk x.hr x.ht) (by kernel_rfl) 32 (0, 0) hX) ?_
          refine Wk.rEx 2 (some 51) _ rfl rfl (by kernel_rfl) (Mur.build1 50 32 (.tmp 50) rfl Tryd.underlying50 attI x.k x.r x.t x.n x.hk x.hr x.ht (by kernel_rfl)) ?_
          rintro _ W18 ⟨rfl, hb6, ch16, sz10⟩
          have zz17 := ch16.size
          have ow17 := Mur.OwnA.chg hO ch16 (fun q e _ _ => trivial)
          refine Wk.rEx 3 (some 52) _ rfl rfl (by kernel_rfl) (Mur.appendA (.tmp 49) (.tmp 51) 50 32 rfl Tryd.underlying50 attI (w.heap.size + 1) A1 N c1 ((Mur.ins x L).take i) (some ⟨W3.heap.size, 0, none⟩) 1 1 ([x]) (by kernel_rfl) (by kernel_rfl) ow17 (Mur.slA_box x hb6) (fun h => by cases h) (by omega) (by omega) (N + 1) (by omega) (((Mur.ins x L).take i) ++ ([x])) rfl) ?_
          rintro _ W19 ⟨AA5, nn5, rfl, ow18, ch17, ha5⟩
          have zz18 := ch17.size
          have hq9 := ow18.nc
          have hq10 := ow18.cm
          rw [show i = n by omega, hall_] at ow18
          have hN1 := ow18.sl.len
          rw [hil_] at hN1
          refine Wk.rPure 4 (some 6) (.slice AA5 (N + 1) nn5) rfl rfl (by kernel_rfl) (by kernel_rfl) ?_
          refine Wk.rEnd 5 rfl ?_
          refine Wk.nxt ?_
          refine wp_seq ?_
          refine wp_seq ?_
          refine Wk.reg ?_
          refine Wk.rPure 0 (some 53) (.slice AA5 (N + 1) nn5) rfl rfl (by kernel_rfl) (by kernel_rfl) ?_
          refine Wk.rPure 1 (some 54) (.int .i64 ((N + 1 : Nat) : Int)) rfl rfl (by kernel_rfl) (by kernel_rfl) ?_
          by_cases hx1 : ((N + 1 : Nat) : Int) > (200 : Int)
          · refine Wk.rPure 2 (some 55) (.bool true) rfl rfl (by kernel_rfl) (Wk.boolT (b := decide (((N + 1 : Nat) : Int) > (200 : Int))) (decide_eq_true (by first | exact hx1 | omega)) (by kernel_rfl)) ?_
            refine Wk.rEnd 3 rfl ?_
            refine Wk.nxt ?_
            refine wp_cond_true (by kernel_rfl) ?_
            refine wp_seq ?_
            refine wp_seq ?_
            refine Wk.dReg ([]) (by kernel_rfl) ?_
            intro W20 ch18 sz11
            have zz19 := ch18.size
            have sS7 : Wk.Chg ([]) W20 W20 := (Wk.Chg.refl _).more (by simp)
            have ow19 := Mur.OwnA.chg ow18 ch18 (fun q e _ _ => trivial)
            obtain ⟨g_z, rfl, _, _⟩ := ow19.ex (by omega)
            obtain ⟨z, hz⟩ : ∃ z, (Mur.ins x L)[200]? = some z := ⟨_, List.getElem?_eq_getElem (by omega)⟩
            refine Wk.dVal 0 (some 56) (.slice (some ⟨g_z, 0, none⟩) (N + 1) nn5) rfl rfl (by kernel_rfl) (by kernel_rfl) (by kernel_rfl) (fun _ _ _ h => h) (by kernel_rfl) (fun w' hw' => by kernel_rfl) sS7 ?_
            refine Wk.dVal 1 (some 57) (.pointer (some ⟨g_z, 19400, none⟩)) rfl rfl (by kernel_rfl) (by kernel_rfl) (by kernel_rfl) (fun _ _ _ h => h) (by kernel_rfl) (fun w' hw' => (Wk.index_sl 50 32 (.tmp 56) (.const (.int .i64 200)) rfl Tryd.underlying50 97 (by kernel_rfl) g_z 0 (N + 1) nn5 200 .i64 (by kernel_rfl) (by kernel_rfl) (by omega))) sS7 ?_
            refine Wk.dVal 2 (some 58) (.agg ((Mur.attC z.k z.r z.n z.t).toArray)) rfl rfl (by kernel_rfl) (by kernel_rfl) (by kernel_rfl) (fun _ _ _ h => h) (by kernel_rfl) (fun w' hw' => (Wk.loadR 32 (.tmp 57) rfl _ Tryd.underlying32 rfl g_z 19400 (by kernel_rfl) (Mur.attC z.k z.r z.n z.t) (by rw [Mur.attC_length z.hk z.hr z.ht]; kernel_rfl) ((Mur.SlA.chg ow19.sl hw' (fun g off e hl => trivial)).elem hz))) sS7 ?_
            refine Wk.dVal 3 (some 59) (.agg ((Mur.attC x.k x.r x.n x.t).toArray)) rfl rfl (by kernel_rfl) (by kernel_rfl) (by kernel_rfl) (fun _ _ _ h => h) (by kernel_rfl) (fun w' hw' => (Mur.loadArr 32 (.tmp 3) rfl _ Tryd.underlying32 rfl w.heap.size (by kernel_rfl) (Mur.attC x.k x.r x.n x.t).toArray 97 (Mur.attC_size x.hk x.hr x.ht) (by kernel_rfl) 32 (0, 0) (Wk.Chg.hp hw' (Wk.Chg.hp ch18 (Wk.Chg.hp ch17 (Wk.Chg.hp ch16 hX trivial) (Wk.off_blk (fun gz hgz => by have := hO.lt gz hgz; omega))) trivial) trivial))) sS7 ?_
            by_cases hatt3 : z.k = x.k ∧ z.r = x.r ∧ z.n = x.n ∧ z.t = x.t
            · refine Wk.dVal 4 (some 60) (.bool true) rfl rfl (by kernel_rfl) (by kernel_rfl) (by kernel_rfl) (fun _ _ _ h => h) (by kernel_rfl) (fun w' hw' => (Wk.boolT (b := decide (z.k = x.k ∧ z.r = x.r ∧ z.n = x.n ∧ z.t = x.t)) (decide_eq_true (hatt3)) (run_eql_att (.tmp 58) (.tmp 59) 32 rfl z.hk z.hr z.ht x.hk x.hr x.ht z.hn x.hn (by kernel_rfl) (by kernel_rfl)))) sS7 ?_
              refine Wk.dEnd (by kernel_rfl) ?_
              refine Wk.nxt ?_
              refine wp_cond_true (by kernel_rfl) ?_
              refine wp_seq ?_
              refine Wk.reg ?_
              refine Wk.rPure 0 (some 61) (.slice A n c) rfl rfl (by kernel_rfl) (by kernel_rfl) ?_
              refine Wk.rPure 1 (some 4) (.slice A n c) rfl rfl (by kernel_rfl) (by kernel_rfl) ?_
              refine Wk.rPure 2 (some 5) (.int .i64 8) rfl rfl (by kernel_rfl) (by kernel_rfl) ?_
              refine Wk.rEnd 3 rfl ?_
              refine Wk.nxt ?_
              refine wp_ret ?_
              refine Wk.thR ?_
              refine Wk.thR ?_
              have kk17 := Wk.Chg.step HB ch16 trivial
              have kk18 := Wk.Chg.step kk17 ch17 (Wk.newOr_blk (fun g hg => by have := hO.lt g hg; omega))
              have kk19 := Wk.Chg.step kk18 ch18 trivial
              rw [Mur.addS_full hmay1 hnotin ((Mur.radd_full (by omega) hnotin hz).1 ((Mur.Att.eq_iff z x).2 hatt3))]
              refine Wk.ret (.tuple #[.slice A n c, .int .i64 8]) rfl (by kernel_rfl) ?_
              exact ⟨_, _, _, rfl, (Mur.SlA.chg hA_ kk19 (fun g off e hl => trivial)), .inl rfl, by omega, kk19⟩
            · refine Wk.dVal 4 (some 60) (.bool false) rfl rfl (by kernel_rfl) (by kernel_rfl) (by kernel_rfl) (fun _ _ _ h => h) (by kernel_rfl) (fun w' hw' => (Wk.boolF (b := decide (z.k = x.k ∧ z.r = x.r ∧ z.n = x.n ∧ z.t = x.t)) (decide_eq_false (hatt3)) (run_eql_att (.tmp 58) (.tmp 59) 32 rfl z.hk z.hr z.ht x.hk x.hr x.ht z.hn x.hn (by kernel_rfl) (by kernel_rfl)))) sS7 ?_
              refine Wk.dEnd (by kernel_rfl) ?_
              refine Wk.nxt ?_
              refine wp_cond_false (by kernel_rfl) ?_
              refine wp_skip ?_
              refine Wk.nxt ?_
              refine Wk.reg ?_
              refine Wk.rPure 0 (some 62) (.slice (some ⟨g_z, 0, none⟩) (N + 1) nn5) rfl rfl (by kernel_rfl) (by kernel_rfl) ?_
              refine Wk.rPure 1 (some 63) (.slice (some ⟨g_z, 0, none⟩) 200 nn5) rfl rfl (by kernel_rfl) (Mur.run_toK 50 (.tmp 62) (.const (.int .i64 200)) rfl 32 Tryd.underlying50 97 (by kernel_rfl) (some ⟨g_z, 0, none⟩) (N + 1) nn5 200 (.inr (by obtain ⟨q_, e_, _⟩ := ow19.ex (by omega); exact ⟨q_, 0, e_⟩)) (by kernel_rfl) (by kernel_rfl) (by omega)) ?_
              refine Wk.rPure 2 (some 6) (.slice (some ⟨g_z, 0, none⟩) 200 nn5) rfl rfl (by kernel_rfl) (by kernel_rfl) ?_
              refine Wk.rEnd 3 rfl ?_
              refine Wk.nxt ?_
              refine wp_seq ?_
              refine Wk.reg ?_
              refine Wk.rPure 0 (some 64) (.slice (some ⟨g_z, 0, none⟩) 200 nn5) rfl rfl (by kernel_rfl) (by kernel_rfl) ?_
              refine Wk.rPure 1 (some 4) (.slice (some ⟨g_z, 0, none⟩) 200 nn5) rfl rfl (by kernel_rfl) (by kernel_rfl) ?_
              refine Wk.rPure 2 (some 5) (.int .i64 0) rfl rfl (by kernel_rfl) (by kernel_rfl) ?_
              refine Wk.rEnd 3 rfl ?_
              refine Wk.nxt ?_
              refine wp_ret ?_
              have kk20 := Wk.Chg.step HB ch16 trivial
              have kk21 := Wk.Chg.step kk20 ch17 (Wk.newOr_blk (fun g hg => by have := hO.lt g hg; omega))
              have kk22 := Wk.Chg.step kk21 ch18 trivial
              rw [Mur.addS_ok hmay1 hnotin (fun q_ => hatt3 ((Mur.Att.eq_iff z x).1 ((Mur.radd_full (by omega) hnotin hz).2 q_)))]
              have hcut := ow19.cut (k := 200) (by omega)
              refine Wk.ret (.tuple #[.slice (some ⟨g_z, 0, none⟩) 200 nn5, .int .i64 0]) rfl (by kernel_rfl) ?_
              exact ⟨_, _, _, rfl, hcut.sl, .inr (fun g off e_ => by have := hcut.lt g (by rw [e_]; rfl); omega), by have := hcut.nc; have h_ := hcut.cm; unfold Go.maxLen at h_; omega, kk22⟩
          · refine Wk.rPure 2 (some 55) (.bool false) rfl rfl (by kernel_rfl) (Wk.boolF (b := decide (((N + 1 : Nat) : Int) > (200 : Int))) (decide_eq_false (by first | exact hx1 | omega)) (by kernel_rfl)) ?_
            refine Wk.rEnd 3 rfl ?_
            refine Wk.nxt ?_
            refine wp_cond_false (by kernel_rfl) ?_
            refine wp_skip ?_
            refine Wk.nxt ?_
            refine wp_seq ?_
            refine Wk.reg ?_
            refine Wk.rPure 0 (some 64) (.slice AA5 (N + 1) nn5) rfl rfl (by kernel_rfl) (by kernel_rfl) ?_
            refine Wk.rPure 1 (some 4) (.slice AA5 (N + 1) nn5) rfl rfl (by kernel_rfl) (by kernel_rfl) ?_
            refine Wk.rPure 2 (some 5) (.int .i64 0) rfl rfl (by kernel_rfl) (by kernel_rfl) ?_
            refine Wk.rEnd 3 rfl ?_
            refine Wk.nxt ?_
            refine wp_ret ?_
            have kk23 := Wk.Chg.step HB ch16 trivial
            have kk24 := Wk.Chg.step kk23 ch17 (Wk.newOr_blk (fun g hg => by have := hO.lt g hg; omega))
            rw [Mur.addS_ok hmay1 hnotin (by have := Mur.pos_le x L; omega)]
            have hcut := ow18
            rw [← Mur.radd_all (x := x) (k := 200) hLl (by omega)] at hcut
            refine Wk.ret (.tuple #[.slice AA5 (N + 1) nn5, .int .i64 0]) rfl (by kernel_rfl) ?_
            exact ⟨_, _, _, rfl, hcut.sl, .inr (fun g off e_ => by have := hcut.lt g (by rw [e_]; rfl); omega), by have := hcut.nc; have h_ := hcut.cm; unfold Go.maxLen at h_; omega, kk24⟩
        · simp only [Bool.toNat_true] at hO hOl
          rw [Mur.radd_all (n := n) hLl (by omega)] at hO
          have hN1 := hO.sl.len
          rw [hil_] at hN1
          refine wp_seq ?_
          refine wp_seq ?_
          refine Wk.reg ?_
          refine Wk.rPure 0 (some 13) (.int .i64 ((i : Nat) : Int)) rfl rfl (by kernel_rfl) (by kernel_rfl) ?_
          refine Wk.rPure 1 (some 14) (.slice A n c) rfl rfl (by kernel_rfl) (by kernel_rfl) ?_
          refine Wk.rPure 2 (some 15) (.int .i64 ((n : Nat) : Int)) rfl rfl (by kernel_rfl) (by kernel_rfl) ?_
          refine Wk.rPure 3 (some 16) (.bool false) rfl rfl (by kernel_rfl) (Wk.boolF (b := decide (((i : Nat) : Int) < ((n : Nat) : Int))) (decide_eq_false (by omega)) (by kernel_rfl)) ?_
          refine Wk.rEnd 4 rfl ?_
          refine Wk.nxt ?_
          refine wp_cond_false (by kernel_rfl) ?_
          refine wp_exit ?_
          refine Wk.thX ?_
          refine Wk.thX ?_
          refine Wk.inX ?_
          refine Wk.nxt ?_
          refine wp_seq ?_
          refine wp_seq ?_
          refine Wk.reg ?_
          refine Wk.rPure 0 (some 47) (.bool true) rfl rfl (by kernel_rfl) (by kernel_rfl) ?_
          refine Wk.rPure 1 (some 48) (.bool false) rfl rfl (by kernel_rfl) (by kernel_rfl) ?_
          refine Wk.rEnd 2 rfl ?_
          refine Wk.nxt ?_
          refine wp_cond_false (by kernel_rfl) ?_
          refine wp_skip ?_
          refine Wk.nxt ?_
          refine wp_seq ?_
          refine wp_seq ?_
          refine Wk.reg ?_
          refine Wk.rPure 0 (some 53) (.slice A1 N c1) rfl rfl (by kernel_rfl) (by kernel_rfl) ?_
          refine Wk.rPure 1 (some 54) (.int .i64 ((N : Nat) : Int)) rfl rfl (by kernel_rfl) (by kernel_rfl) ?_
          by_cases hx2 : ((N : Nat) : Int) > (200 : Int)
          · refine Wk.rPure 2 (some 55) (.bool true) rfl rfl (by kernel_rfl) (Wk.boolT (b := decide (((N : Nat) : Int) > (200 : Int))) (decide_eq_true (by first | exact hx2 | omega)) (by kernel_rfl)) ?_
            refine Wk.rEnd 3 rfl ?_
            refine Wk.nxt ?_
            refine wp_cond_true (by kernel_rfl) ?_
            refine wp_seq ?_
            refine wp_seq ?_
            refine Wk.dReg ([]) (by kernel_rfl) ?_
            intro W21 ch19 sz12
            have zz20 := ch19.size
            have sS8 : Wk.Chg ([]) W21 W21 := (Wk.Chg.refl _).more (by simp)
            have ow20 := Mur.OwnA.chg hO ch19 (fun q e _ _ => trivial)
            obtain ⟨g_z, rfl, _, _⟩ := ow20.ex (by omega)
            obtain ⟨z, hz⟩ : ∃ z, (Mur.ins x L)[200]? = some z := ⟨_, List.getElem?_eq_getElem (by omega)⟩
            refine Wk.dVal 0 (some 56) (.slice (some ⟨g_z, 0, none⟩) N c1) rfl rfl (by kernel_rfl) (by kernel_rfl) (by kernel_rfl) (fun _ _ _ h => h) (by kernel_rfl) (fun w' hw' => by kernel_rfl) sS8 ?_
            refine Wk.dVal 1 (some 57) (.pointer (some ⟨g_z, 19400, none⟩)) rfl rfl (by kernel_rfl) (by kernel_rfl) (by kernel_rfl) (fun _ _ _ h => h) (by kernel_rfl) (fun w' hw' => (Wk.index_sl 50 32 (.tmp 56) (.const (.int .i64 200)) rfl Tryd.underlying50 97 (by kernel_rfl) g_z 0 N c1 200 .i64 (by kernel_rfl) (by kernel_rfl) (by omega))) sS8 ?_
            refine Wk.dVal 2 (some 58) (.agg ((Mur.attC z.k z.r z.n z.t).toArray)) rfl rfl (by kernel_rfl) (by kernel_rfl) (by kernel_rfl) (fun _ _ _ h => h) (by kernel_rfl) (fun w' hw' => (Wk.loadR 32 (.tmp 57) rfl _ Tryd.underlying32 rfl g_z 19400 (by kernel_rfl) (Mur.attC z.k z.r z.n z.t) (by rw [Mur.attC_length z.hk z.hr z.ht]; kernel_rfl) ((Mur.SlA.chg ow20.sl hw' (fun g off e hl => trivial)).elem hz))) sS8 ?_
            refine Wk.dVal 3 (some 59) (.agg ((Mur.attC x.k x.r x.n x.t).toArray)) rfl rfl (by kernel_rfl) (by kernel_rfl) (by kernel_rfl) (fun _ _ _ h => h) (by kernel_rfl) (fun w' hw' => (Mur.loadArr 32 (.tmp 3) rfl _ Tryd.underlying32 rfl w.heap.size (by kernel_rfl) (Mur.attC x.k x.r x.n x.t).toArray 97 (Mur.attC_size x.hk x.hr x.ht) (by kernel_rfl) 32 (0, 0) (Wk.Chg.hp hw' (Wk.Chg.hp ch19 hX trivial) trivial))) sS8 ?_
            by_cases hatt4 : z.k = x.k ∧ z.r = x.r ∧ z.n = x.n ∧ z.t = x.t
            · refine Wk.dVal 4 (some 60) (.bool true) rfl rfl (by kernel_rfl) (by kernel_rfl) (by kernel_rfl) (fun _ _ _ h => h) (by kernel_rfl) (fun w' hw' => (Wk.boolT (b := decide (z.k = x.k ∧ z.r = x.r ∧ z.n = x.n ∧ z.t = x.t)) (decide_eq_true (hatt4)) (run_eql_att (.tmp 58) (.tmp 59) 32 rfl z.hk z.hr z.ht x.hk x.hr x.ht z.hn x.hn (by kernel_rfl) (by kernel_rfl)))) sS8 ?_
              refine Wk.dEnd (by kernel_rfl) ?_
              refine Wk.nxt ?_
              refine wp_cond_true (by kernel_rfl) ?_
              refine wp_seq ?_
              refine Wk.reg ?_
              refine Wk.rPure 0 (some 61) (.slice A n c) rfl rfl (by kernel_rfl) (by kernel_rfl) ?_
              refine Wk.rPure 1 (some 4) (.slice A n c) rfl rfl (by kernel_rfl) (by kernel_rfl) ?_
              refine Wk.rPure 2 (some 5) (.int .i64 8) rfl rfl (by kernel_rfl) (by kernel_rfl) ?_
              refine Wk.rEnd 3 rfl ?_
              refine Wk.nxt ?_
              refine wp_ret ?_
              refine Wk.thR ?_
              refine Wk.thR ?_
              have kk25 := Wk.Chg.step HB ch19 trivial
              rw [Mur.addS_full hmay1 hnotin ((Mur.radd_full (by omega) hnotin hz).1 ((Mur.Att.eq_iff z x).2 hatt4))]
              refine Wk.ret (.tuple #[.slice A n c, .int .i64 8]) rfl (by kernel_rfl) ?_
              exact ⟨_, _, _, rfl, (Mur.SlA.chg hA_ kk25 (fun g off e hl => trivial)), .inl rfl, by omega, kk25⟩
            · refine Wk.dVal 4 (some 60) (.bool false) rfl rfl (by kernel_rfl) (by kernel_rfl) (by kernel_rfl) (fun _ _ _ h => h) (by kernel_rfl) (fun w' hw' => (Wk.boolF (b := decide (z.k = x.k ∧ z.r = x.r ∧ z.n = x.n ∧ z.t = x.t)) (decide_eq_false (hatt4)) (run_eql_att (.tmp 58) (.tmp 59) 32 rfl z.hk z.hr z.ht x.hk x.hr x.ht z.hn x.hn (by kernel_rfl) (by kernel_rfl)))) sS8 ?_
              refine Wk.dEnd (by kernel_rfl) ?_
              refine Wk.nxt ?_
              refine wp_cond_false (by kernel_rfl) ?_
              refine wp_skip ?_
              refine Wk.nxt ?_
              refine Wk.reg ?_
              refine Wk.rPure 0 (some 62) (.slice (some ⟨g_z, 0, none⟩) N c1) rfl rfl (by kernel_rfl) (by kernel_rfl) ?_
              refine Wk.rPure 1 (some 63) (.slice (some ⟨g_z, 0, none⟩) 200 c1) rfl rfl (by kernel_rfl) (Mur.run_toK 50 (.tmp 62) (.const (.int .i64 200)) rfl 32 Tryd.underlying50 97 (by kernel_rfl) (some ⟨g_z, 0, none⟩) N c1 200 (.inr (by obtain ⟨q_, e_, _⟩ := ow20.ex (by omega); exact ⟨q_, 0, e_⟩)) (by kernel_rfl) (by kernel_rfl) (by omega)) ?_
              refine Wk.rPure 2 (some 6) (.slice (some ⟨g_z, 0, none⟩) 200 c1) rfl rfl (by kernel_rfl) (by kernel_rfl) ?_
              refine Wk.rEnd 3 rfl ?_
              refine Wk.nxt ?_
              refine wp_seq ?_
              refine Wk.reg ?_
              refine Wk.rPure 0 (some 64) (.slice (some ⟨g_z, 0, none⟩) 200 c1) rfl rfl (by kernel_rfl) (by kernel_rfl) ?_
              refine Wk.rPure 1 (some 4) (.slice (some ⟨g_z, 0, none⟩) 200 c1) rfl rfl (by kernel_rfl) (by kernel_rfl) ?_
              refine Wk.rPure 2 (some 5) (.int .i64 0) rfl rfl (by kernel_rfl) (by kernel_rfl) ?_
              refine Wk.rEnd 3 rfl ?_
              refine Wk.nxt ?_
              refine wp_ret ?_
              have kk26 := Wk.Chg.step HB ch19 trivial
              rw [Mur.addS_ok hmay1 hnotin (fun q_ => hatt4 ((Mur.Att.eq_iff z x).1 ((Mur.radd_full (by omega) hnotin hz).2 q_)))]
              have hcut := ow20.cut (k := 200) (by omega)
              refine Wk.ret (.tuple #[.slice (some ⟨g_z, 0, none⟩) 200 c1, .int .i64 0]) rfl (by kernel_rfl) ?_
              exact ⟨_, _, _, rfl, hcut.sl, .inr (fun g off e_ => by have := hcut.lt g (by rw [e_]; rfl); omega), by have := hcut.nc; have h_ := hcut.cm; unfold Go.maxLen at h_; omega, kk26⟩
          · refine Wk.rPure 2 (some 55) (.bool false) rfl rfl (by kernel_rfl) (Wk.boolF (b := decide (((N : Nat) : Int) > (200 : Int))) (decide_eq_false (by first | exact hx2 | omega)) (by kernel_rfl)) ?_
            refine Wk.rEnd 3 rfl ?_
            refine Wk.nxt ?_
            refine wp_cond_false (by kernel_rfl) ?_
            refine wp_skip ?_
            refine Wk.nxt ?_
            refine wp_seq ?_
            refine Wk.reg ?_
            refine Wk.rPure 0 (some 64) (.slice A1 N c1) rfl rfl (by kernel_rfl) (by kernel_rfl) ?_
            refine Wk.rPure 1 (some 4) (.slice A1 N c1) rfl rfl (by kernel_rfl) (by kernel_rfl) ?_
            refine Wk.rPure 2 (some 5) (.int .i64 0) rfl rfl (by kernel_rfl) (by kernel_rfl) ?_
            refine Wk.rEnd 3 rfl ?_
            refine Wk.nxt ?_
            refine wp_ret ?_
            rw [Mur.addS_ok hmay1 hnotin (by have := Mur.pos_le x L; omega)]
            have hcut := hO
            rw [← Mur.radd_all (x := x) (k := 200) hLl (by omega)] at hcut
            refine Wk.ret (.tuple #[.slice A1 N c1, .int .i64 0]) rfl (by kernel_rfl) ?_
            exact ⟨_, _, _, rfl, hcut.sl, .inr (fun g off e_ => by have := hcut.lt g (by rw [e_]; rfl); omega), by have := hcut.nc; have h_ := hcut.cm; unfold Go.maxLen at h_; omega, HB⟩
  · have hmay1u : ¬ (1 ≤ x.n ∧ x.n ≤ 5000) := hmay1
    refine (Rmay_any x.k x.r x.t x.n x.hk x.hr x.ht W1).mono ?_
    rw [decide_eq_false (hmay1 : ¬ Mur.may x.n)]
    rintro _ W2 ⟨rfl, ch2⟩
    have zz21 := ch2.size
    refine ⟨_, rfl, ?_⟩
    refine Wk.rPure 2 (some 11) (.bool true) rfl rfl (by kernel_rfl) (by kernel_rfl) ?_
    refine Wk.rEnd 3 rfl ?_
    refine Wk.nxt ?_
    refine wp_cond_true (by kernel_rfl) ?_
    refine wp_seq ?_
    refine Wk.reg ?_
    refine Wk.rPure 0 (some 12) (.slice A n c) rfl rfl (by kernel_rfl) (by kernel_rfl) ?_
    refine Wk.rPure 1 (some 4) (.slice A n c) rfl rfl (by kernel_rfl) (by kernel_rfl) ?_
    refine Wk.rPure 2 (some 5) (.int .i64 2) rfl rfl (by kernel_rfl) (by kernel_rfl) ?_
    refine Wk.rEnd 3 rfl ?_
    refine Wk.nxt ?_
    refine wp_ret ?_
    refine Wk.thR ?_
    have kk27 : Wk.Chg [] w W1 := Wk.Chg.step ((Wk.Chg.refl _).more (by simp)) ch1 trivial
    have kk28 := Wk.Chg.step kk27 ch2 trivial
    rw [Mur.addS_may hmay1]
    refine Wk.ret (.tuple #[.slice A n c, .int .i64 2]) rfl (by kernel_rfl) ?_
    exact ⟨_, _, _, rfl, (Mur.SlA.chg hA_ kk28 (fun g off e hl => trivial)), .inl rfl, by omega, kk28⟩
end Go.Proofs.YtfhneademopciaaDoor
