/- slices.DeleteFunc of results, by Hear's closure. gossip: Hear. gossip: Start. Gossip's laws: what is known of one result; what is answered, in plain words; a message in a slice. No program in sight. gossip's laws: known. Gossip: sets that are one; one of many taken out. No program in sight. Letters in a slice of one's own. No program in sight. -/
import Derived.Test.YtfhneademopciaaDoorPQ12
import Derived.Test.YtfhneademopciaaDoorPQ11
import Derived.Test.YtfhneademopciaaDoorPQ8
import Derived.Test.YtfhneademopciaaDoorPQ9
import Derived.Test.YtfhneademopciaaDoorPQ10
import Derived.Test.YtfhneademopciaaDoorPQ4
namespace Go.Proofs.YtfhneademopciaaDoor
open Go.RowKit
open Mur (b8s Byt Own8 Seg Segs flat cutA attC Att SlA OwnA rowA msgC)
set_option maxRecDepth 100000
set_option maxHeartbeats 4000000
def DelF_F1 (b : Array Value) (u0 : Value) (u1 : Value) (u5 : Value) (u6 : Value) : Act := ⟨#[u0, u1, b.getD 2 undef, b.getD 3 undef, b.getD 4 undef, u5, u6, b.getD 7 undef, b.getD 8 undef, b.getD 9 undef, b.getD 10 undef, b.getD 11 undef, b.getD 12 undef, b.getD 13 undef, b.getD 14 undef, b.getD 15 undef, b.getD 16 undef, b.getD 17 undef, b.getD 18 undef, b.getD 19 undef, b.getD 20 undef, b.getD 21 undef, b.getD 22 undef, b.getD 23 undef, b.getD 24 undef, b.getD 25 undef, b.getD 26 undef, b.getD 27 undef, b.getD 28 undef, b.getD 29 undef, b.getD 30 undef, b.getD 31 undef, b.getD 32 undef, b.getD 33 undef, b.getD 34 undef, b.getD 35 undef, b.getD 36 undef, b.getD 37 undef, b.getD 38 undef, b.getD 39 undef, b.getD 40 undef, b.getD 41 undef], []⟩
theorem DeleteF_any (base : Nat) (A : Option Addr) (n c : Nat) (L : List Att) (g : Nat) (kd : UInt8) (PA : Option Addr) (pn pc : Nat) (s : List UInt8) (m : Int) (B : Option Addr) (bn bc : Nat) (b : Bool) (I : List Att) (w : World) (H : OwnA w base 32 A n c L) (hn : n ≤ 1000) (hs : s.length = 32) (hp : w.heap[g]? = some (.cells (msgC kd PA pn pc s m B bn bc b).toArray 66 (0, 0))) (hI : SlA w B bn I) (hbn : bn ≤ 9223372036854775807) (hgb : g < base) (hIlt : ∀ g_ off_, B = some ⟨g_, off_, none⟩ → 0 < bn → g_ < base) : Calls Tryd.prog 54 #[.slice A n c, .func (.func 55) #[] #[.pointer (some ⟨g, 0, none⟩)]] w fun e w' => ∃ k, e = .returned (.slice A k c) ∧ OwnA w' base 32 A k c (L.filter (fun y_ => decide (y_ ∉ I))) ∧ Wk.Chg (Wk.blk (.slice A n c)) w w' := by
  have hHl := H.sl.len
  have hHn := H.nc
  have hgl_ := (Array.getElem?_eq_some_iff.1 hp).1
  refine calls_of_wp Tryd.func54 rfl ?_
  refine wp_seq ?_
  refine Wk.reg ?_
  refine Wk.rPure 0 (some 4) (.slice none 0 0) rfl rfl (by kernel_rfl) (by kernel_rfl) ?_
  refine Wk.rEnd 1 rfl ?_
  refine Wk.nxt ?_
  refine wp_seq ?_
  refine Wk.reg ?_
  refine Wk.rPure 0 (some 8) (.slice A n c) rfl rfl (by kernel_rfl) (by kernel_rfl) ?_
  refine Wk.rPure 1 (some 9) (.func (.func 55) #[] #[.pointer (some ⟨g, 0, none⟩)]) rfl rfl (by kernel_rfl) (by kernel_rfl) ?_
  refine Wk.rCall 2 (some 10) 76 [.tmp 8, .tmp 9] #[22, 47] [.slice A n c, .func (.func 55) #[] #[.pointer (some ⟨g, 0, none⟩)]] rfl rfl (by kernel_rfl) rfl (by kernel_rfl) (by kernel_rfl) ?_
  refine (IndexF_any A n c L g kd PA pn pc s m B bn bc b I w H.sl (by omega) hs hp hI hbn).mono ?_
  rintro _ W1 ⟨_, rfl, (⟨rfl, hnone⟩ | ⟨k0, rfl, hk0, hpre, x0, hx0, hx0m⟩), ch1⟩
  · have zz1 := ch1.size
    refine ⟨_, rfl, ?_⟩
    refine Wk.rPure 3 (some 5) (.int .i64 (-1)) rfl rfl (by kernel_rfl) (by kernel_rfl) ?_
    refine Wk.rEnd 4 rfl ?_
    refine Wk.nxt ?_
    refine wp_seq ?_
    refine wp_seq ?_
    refine Wk.reg ?_
    refine Wk.rPure 0 (some 11) (.int .i64 (-1)) rfl rfl (by kernel_rfl) (by kernel_rfl) ?_
    refine Wk.rPure 1 (some 12) (.bool true) rfl rfl (by kernel_rfl) (Wk.boolT (b := ((-1 : Int) == (-1 : Int))) (beq_iff_eq.2 (by decide)) (by kernel_rfl)) ?_
    refine Wk.rEnd 2 rfl ?_
    refine Wk.nxt ?_
    refine wp_cond_true (by kernel_rfl) ?_
    refine wp_seq ?_
    refine Wk.reg ?_
    refine Wk.rPure 0 (some 13) (.slice A n c) rfl rfl (by kernel_rfl) (by kernel_rfl) ?_
    refine Wk.rPure 1 (some 4) (.slice A n c) rfl rfl (by kernel_rfl) (by kernel_rfl) ?_
    refine Wk.rEnd 2 rfl ?_
    refine Wk.nxt ?_
    refine wp_ret ?_
    refine Wk.thR ?_
    have ow1 := Mur.OwnA.chg H ch1 (fun q e _ _ => trivial)
    have kk1 : Wk.Chg [] w W1 := Wk.Chg.step ((Wk.Chg.refl _).more (by simp)) ch1 trivial
    refine Wk.ret (.slice A n c) rfl (by kernel_rfl) ?_
    exact ⟨_, rfl, by rw [List.filter_eq_self.2 fun y_ hy_ => by simpa using hnone y_ hy_]; exact ow1, kk1.more (by simp)⟩
  · have zz2 := ch1.size
    obtain ⟨q, rfl, hq1, hq2⟩ := H.ex (by omega)
    refine ⟨_, rfl, ?_⟩
    refine Wk.rPure 3 (some 5) (.int .i64 ((k0 : Nat) : Int)) rfl rfl (by kernel_rfl) (by kernel_rfl) ?_
    refine Wk.rEnd 4 rfl ?_
    refine Wk.nxt ?_
    refine wp_seq ?_
    refine wp_seq ?_
    refine Wk.reg ?_
    refine Wk.rPure 0 (some 11) (.int .i64 ((k0 : Nat) : Int)) rfl rfl (by kernel_rfl) (by kernel_rfl) ?_
    by_cases hx1 : ((k0 : Nat) : Int) = (-1 : Int)
    · refine Wk.rPure 1 (some 12) (.bool true) rfl rfl (by kernel_rfl) (Wk.boolT (b := (((k0 : Nat) : Int) == (-1 : Int))) (beq_iff_eq.2 (by first | exact hx1 | omega)) (by kernel_rfl)) ?_
      refine Wk.rEnd 2 rfl ?_
      refine Wk.nxt ?_
      refine wp_cond_true (by kernel_rfl) ?_
      refine wp_seq ?_
      refine Wk.reg ?_
      refine Wk.rPure 0 (some 13) (.slice (some ⟨q, 0, none⟩) n c) rfl rfl (by kernel_rfl) (by kernel_rfl) ?_
      refine Wk.rPure 1 (some 4) (.slice (some ⟨q, 0, none⟩) n c) rfl rfl (by kernel_rfl) (by kernel_rfl) ?_
      refine Wk.rEnd 2 rfl ?_
      refine Wk.nxt ?_
      refine wp_ret ?_
      refine Wk.thR ?_
      exfalso; omega
    · refine Wk.rPure 1 (some 12) (.bool false) rfl rfl (by kernel_rfl) (Wk.boolF (b := (((k0 : Nat) : Int) == (-1 : Int))) (beq_eq_false_iff_ne.2 (by first | exact hx1 | omega)) (by kernel_rfl)) ?_
      refine Wk.rEnd 2 rfl ?_
      refine Wk.nxt ?_
      refine wp_cond_false (by kernel_rfl) ?_
      refine wp_skip ?_
      refine Wk.nxt ?_
      refine wp_seq ?_
      refine wp_seq ?_
      refine Wk.reg ?_
      refine Wk.rPure 0 (some 14) (.int .i64 ((k0 : Nat) : Int)) rfl rfl (by kernel_rfl) (by kernel_rfl) ?_
      refine Wk.rPure 1 (some 15) (.int .i64 ((k0 + 1 : Nat) : Int)) rfl rfl (by kernel_rfl) (Wk.int64 (n := ((k0 : Nat) : Int) + 1) (z := ((k0 + 1 : Nat) : Int)) (by omega) (by omega) (by omega) (by kernel_rfl)) ?_
      refine Wk.rPure 2 (some 6) (.int .i64 ((k0 + 1 : Nat) : Int)) rfl rfl (by kernel_rfl) (by kernel_rfl) ?_
      refine Wk.rEnd 3 rfl ?_
      refine Wk.nxt ?_
      refine wp_block ?_
      have ow2 := Mur.OwnA.chg H ch1 (fun q e _ _ => trivial)
      have kk2 : Wk.Chg [] w W1 := Wk.Chg.step ((Wk.Chg.refl _).more (by simp)) ch1 trivial
      refine Wk.loop (fun m_ a wr => ∃ (i : Nat) (k : Nat) (L1 : List Att), m_ = n - i ∧ a = DelF_F1 a.tmps (.slice (some ⟨q, 0, none⟩) n c) (.func (.func 55) #[] #[.pointer (some ⟨g, 0, none⟩)]) (.int .i64 ((k : Nat) : Int)) (.int .i64 ((i : Nat) : Int)) ∧ (k < i ∧ i ≤ n) ∧ OwnA wr base 32 (some ⟨q, 0, none⟩) n c L1 ∧ L1.take k = (L.take i).filter (fun y_ => decide (y_ ∉ I)) ∧ L1.drop i = L.drop i ∧ Wk.Chg [q] w wr) (n - (k0 + 1)) ?_ ?_
      · refine ⟨k0 + 1, k0, L, rfl, by kernel_rfl, (by omega), ow2, (by rw [Mur.take_snoc hx0, List.filter_append, List.filter_eq_self.2 fun y_ hy_ => by simpa using hpre y_ hy_]; simp [hx0m]), rfl, (kk2.more (by simp))⟩
      · rintro mm1 aa1 W2 ⟨i, k, L1, hmm1, hF1, hki, hO, hT, hDr, HB⟩
        generalize aa1.tmps = bb1 at hF1
        subst hF1
        have hzB := HB.size
        have hL1 := hO.sl.len
        have hOn := hO.nc
        by_cases hlt : i < n
        · obtain ⟨x, hx⟩ : ∃ x, L1[i]? = some x := ⟨_, List.getElem?_eq_getElem (by omega)⟩
          have hxL : L[i]? = some x := by have h1_ := congrArg (fun z : List Att => z[0]?) hDr; simp only [List.getElem?_drop, Nat.add_zero] at h1_; rw [← h1_]; exact hx
          refine wp_seq ?_
          refine wp_seq ?_
          refine Wk.reg ?_
          refine Wk.rPure 0 (some 16) (.int .i64 ((i : Nat) : Int)) rfl rfl (by kernel_rfl) (by kernel_rfl) ?_
          refine Wk.rPure 1 (some 17) (.slice (some ⟨q, 0, none⟩) n c) rfl rfl (by kernel_rfl) (by kernel_rfl) ?_
          refine Wk.rPure 2 (some 18) (.int .i64 ((n : Nat) : Int)) rfl rfl (by kernel_rfl) (by kernel_rfl) ?_
          refine Wk.rPure 3 (some 19) (.bool true) rfl rfl (by kernel_rfl) (Wk.boolT (b := decide (((i : Nat) : Int) < ((n : Nat) : Int))) (decide_eq_true (by omega)) (by kernel_rfl)) ?_
          refine Wk.rEnd 4 rfl ?_
          refine Wk.nxt ?_
          refine wp_cond_true (by kernel_rfl) ?_
          refine wp_skip ?_
          refine Wk.nxt ?_
          refine wp_seq ?_
          refine wp_block ?_
          refine wp_seq ?_
          refine Wk.reg ?_
          refine Wk.rPure 0 (some 22) (.slice (some ⟨q, 0, none⟩) n c) rfl rfl (by kernel_rfl) (by kernel_rfl) ?_
          refine Wk.rPure 1 (some 23) (.int .i64 ((i : Nat) : Int)) rfl rfl (by kernel_rfl) (by kernel_rfl) ?_
          refine Wk.rPure 2 (some 24) (.pointer (some ⟨q, 0 + i * 97, none⟩)) rfl rfl (by kernel_rfl) (Wk.index_sl 22 32 (.tmp 22) (.tmp 23) rfl Tryd.underlying22 97 (by kernel_rfl) q 0 n c i .i64 (by kernel_rfl) (by kernel_rfl) (by omega)) ?_
          refine Wk.rPure 3 (some 25) (.agg ((Mur.attC x.k x.r x.n x.t).toArray)) rfl rfl (by kernel_rfl) (Wk.loadR 32 (.tmp 24) rfl _ Tryd.underlying32 rfl q (0 + i * 97) (by kernel_rfl) (Mur.attC x.k x.r x.n x.t) (by rw [Mur.attC_length x.hk x.hr x.ht]; kernel_rfl) (hO.sl.elem hx)) ?_
          refine Wk.rEx 4 (some 7) _ rfl rfl (by kernel_rfl) (Wk.new_ex (.pointer (some ⟨W2.heap.size, 0, none⟩)) #[.int .u8 0, .int .u8 0, .int .u8 0, .int .u8 0, .int .u8 0, .int .u8 0, .int .u8 0, .int .u8 0, .int .u8 0, .int .u8 0, .int .u8 0, .int .u8 0, .int .u8 0, .int .u8 0, .int .u8 0, .int .u8 0, .int .u8 0, .int .u8 0, .int .u8 0, .int .u8 0, .int .u8 0, .int .u8 0, .int .u8 0, .int .u8 0, .int .u8 0, .int .u8 0, .int .u8 0, .int .u8 0, .int .u8 0, .int .u8 0, .int .u8 0, .int .u8 0, .int .u8 0, .int .u8 0, .int .u8 0, .int .u8 0, .int .u8 0, .int .u8 0, .int .u8 0, .int .u8 0, .int .u8 0, .int .u8 0, .int .u8 0, .int .u8 0, .int .u8 0, .int .u8 0, .int .u8 0, .int .u8 0, .int .u8 0, .int .u8 0, .int .u8 0, .int .u8 0, .int .u8 0, .int .u8 0, .int .u8 0, .int .u8 0, .int .u8 0, .int .u8 0, .int .u8 0, .int .u8 0, .int .u8 0, .int .u8 0, .int .u8 0, .int .u8 0, .int .i64 0, .int .u8 0, .int .u8 0, .int .u8 0, .int .u8 0, .int .u8 0, .int .u8 0, .int .u8 0, .int .u8 0, .int .u8 0, .int .u8 0, .int .u8 0, .int .u8 0, .int .u8 0, .int .u8 0, .int .u8 0, .int .u8 0, .int .u8 0, .int .u8 0, .int .u8 0, .int .u8 0, .int .u8 0, .int .u8 0, .int .u8 0, .int .u8 0, .int .u8 0, .int .u8 0, .int .u8 0, .int .u8 0, .int .u8 0, .int .u8 0, .int .u8 0, .int .u8 0] 32 (by kernel_rfl)) ?_
          rintro _ W3 ⟨rfl, hb1, ch2, sz1⟩
          have zz3 := ch2.size
          rw [← Mur.attC_zero] at hb1
          refine Wk.rExS 5 none _ rfl rfl (by kernel_rfl) (Mur.storeArr 32 (.tmp 7) (.tmp 25) rfl W2.heap.size (by kernel_rfl) (Mur.attC x.k x.r x.n x.t).toArray 97 (Mur.attC_size x.hk x.hr x.ht) Mur.attC_all (by kernel_rfl) (by kernel_rfl) 32 ((Mur.attC Mur.z32 Mur.z32 0 Mur.z32).toArray) hb1 (Mur.attC_size rfl rfl rfl)) ?_
          rintro W4 ⟨hb2, ch3⟩
          have zz4 := ch3.size
          refine Wk.rEnd 6 rfl ?_
          refine Wk.nxt ?_
          refine wp_seq ?_
          refine Wk.reg ?_
          refine Wk.rPure 0 (some 26) (.func (.func 55) #[] #[.pointer (some ⟨g, 0, none⟩)]) rfl rfl (by kernel_rfl) (by kernel_rfl) ?_
          refine Wk.rPure 1 (some 27) (.agg ((Mur.attC x.k x.r x.n x.t).toArray)) rfl rfl (by kernel_rfl) (Mur.loadArr 32 (.tmp 7) rfl _ Tryd.underlying32 rfl W2.heap.size (by kernel_rfl) (Mur.attC x.k x.r x.n x.t).toArray 97 (Mur.attC_size x.hk x.hr x.ht) (by kernel_rfl) 32 (0, 0) hb2) ?_
          refine Wk.rCallV 2 (some 28) (.tmp 26) 55 #[.pointer (some ⟨g, 0, none⟩)] [.tmp 27] #[32] [.agg ((Mur.attC x.k x.r x.n x.t).toArray)] rfl rfl (by kernel_rfl) rfl (by kernel_rfl) (by kernel_rfl) (by kernel_rfl) ?_
          have kk3 := Wk.Chg.step HB ch2 trivial
          have kk4 := Wk.Chg.step kk3 ch3 ⟨.inr (by omega), trivial⟩
          refine (HearF_any x g kd PA pn pc s m B bn bc b I W4 hs (Wk.Chg.hp kk4 hp ⟨by omega, trivial⟩) (Mur.SlA.chgp hI kk4 (fun g off e hn hl => ⟨by have := hIlt g off e hn; omega, trivial⟩)) (by omega)).mono ?_
          by_cases hmem1 : x ∈ I
          · rw [decide_eq_true hmem1]
            rintro _ W5 ⟨rfl, ch4⟩
            have zz5 := ch4.size
            refine ⟨_, rfl, ?_⟩
            refine Wk.rPure 3 (some 29) (.bool false) rfl rfl (by kernel_rfl) (by kernel_rfl) ?_
            refine Wk.rEnd 4 rfl ?_
            refine Wk.nxt ?_
            refine wp_cond_false (by kernel_rfl) ?_
            refine wp_skip ?_
            refine Wk.inN ?_
            refine Wk.nxt ?_
            refine Wk.reg ?_
            refine Wk.rPure 0 (some 20) (.int .i64 ((i : Nat) : Int)) rfl rfl (by kernel_rfl) (by kernel_rfl) ?_
            refine Wk.rPure 1 (some 21) (.int .i64 ((i + 1 : Nat) : Int)) rfl rfl (by kernel_rfl) (Wk.int64 (n := ((i : Nat) : Int) + 1) (z := ((i + 1 : Nat) : Int)) (by omega) (by omega) (by omega) (by kernel_rfl)) ?_
            refine Wk.rPure 2 (some 6) (.int .i64 ((i + 1 : Nat) : Int)) rfl rfl (by kernel_rfl) (by kernel_rfl) ?_
            refine Wk.rEnd 3 rfl ?_
            refine Wk.nxt ?_
            have ow3 := Mur.OwnA.chg hO ch2 (fun q e _ _ => trivial)
            have ow4 := Mur.OwnA.chg ow3 ch3 (fun q e _ _ => ⟨by have := hO.lt q e; omega, trivial⟩)
            have ow5 := Mur.OwnA.chg ow4 ch4 (fun q e _ _ => trivial)
            have kk5 := Wk.Chg.step kk4 ch4 trivial
            refine ⟨_, ?_, i + 1, k, L1, rfl, by kernel_rfl, (by omega), ow5, (by rw [Mur.take_snoc hxL, List.filter_append, hT]; simp [hmem1]), (by have h1_ := congrArg (List.drop 1) hDr; rwa [List.drop_drop, List.drop_drop] at h1_), kk5⟩
            · omega
          · rw [decide_eq_false hmem1]
            rintro _ W5 ⟨rfl, ch4⟩
            have zz6 := ch4.size
            refine ⟨_, rfl, ?_⟩
            refine Wk.rPure 3 (some 29) (.bool true) rfl rfl (by kernel_rfl) (by kernel_rfl) ?_
            refine Wk.rEnd 4 rfl ?_
            refine Wk.nxt ?_
            refine wp_cond_true (by kernel_rfl) ?_
            refine wp_seq ?_
            refine Wk.reg ?_
            refine Wk.rPure 0 (some 30) (.slice (some ⟨q, 0, none⟩) n c) rfl rfl (by kernel_rfl) (by kernel_rfl) ?_
            refine Wk.rPure 1 (some 31) (.int .i64 ((k : Nat) : Int)) rfl rfl (by kernel_rfl) (by kernel_rfl) ?_
            refine Wk.rPure 2 (some 32) (.agg ((Mur.attC x.k x.r x.n x.t).toArray)) rfl rfl (by kernel_rfl) (Mur.loadArr 32 (.tmp 7) rfl _ Tryd.underlying32 rfl W2.heap.size (by kernel_rfl) (Mur.attC x.k x.r x.n x.t).toArray 97 (Mur.attC_size x.hk x.hr x.ht) (by kernel_rfl) 32 (0, 0) (Wk.Chg.hp ch4 hb2 trivial)) ?_
            refine Wk.rPure 3 (some 33) (.pointer (some ⟨q, 0 + k * 97, none⟩)) rfl rfl (by kernel_rfl) (Wk.index_sl 22 32 (.tmp 30) (.tmp 31) rfl Tryd.underlying22 97 (by kernel_rfl) q 0 n c k .i64 (by kernel_rfl) (by kernel_rfl) (by omega)) ?_
            have ow6 := Mur.OwnA.chg hO ch2 (fun q e _ _ => trivial)
            have ow7 := Mur.OwnA.chg ow6 ch3 (fun q e _ _ => ⟨by have := hO.lt q e; omega, trivial⟩)
            have ow8 := Mur.OwnA.chg ow7 ch4 (fun q e _ _ => trivial)
            refine Wk.rExS 4 none _ rfl rfl (by kernel_rfl) (Mur.storeA 32 (.tmp 33) (.tmp 32) rfl (by kernel_rfl) ow8 k (by omega) (by kernel_rfl) x (by kernel_rfl)) ?_
            rintro W6 ⟨hst1, ch5⟩
            have zz7 := ch5.size
            refine Wk.rEnd 5 rfl ?_
            refine Wk.nxt ?_
            refine Wk.reg ?_
            refine Wk.rPure 0 (some 34) (.int .i64 ((k : Nat) : Int)) rfl rfl (by kernel_rfl) (by kernel_rfl) ?_
            refine Wk.rPure 1 (some 35) (.int .i64 ((k + 1 : Nat) : Int)) rfl rfl (by kernel_rfl) (Wk.int64 (n := ((k : Nat) : Int) + 1) (z := ((k + 1 : Nat) : Int)) (by omega) (by omega) (by omega) (by kernel_rfl)) ?_
            refine Wk.rPure 2 (some 5) (.int .i64 ((k + 1 : Nat) : Int)) rfl rfl (by kernel_rfl) (by kernel_rfl) ?_
            refine Wk.rEnd 3 rfl ?_
            refine Wk.inN ?_
            refine Wk.nxt ?_
            refine Wk.reg ?_
            refine Wk.rPure 0 (some 20) (.int .i64 ((i : Nat) : Int)) rfl rfl (by kernel_rfl) (by kernel_rfl) ?_
            refine Wk.rPure 1 (some 21) (.int .i64 ((i + 1 : Nat) : Int)) rfl rfl (by kernel_rfl) (Wk.int64 (n := ((i : Nat) : Int) + 1) (z := ((i + 1 : Nat) : Int)) (by omega) (by omega) (by omega) (by kernel_rfl)) ?_
            refine Wk.rPure 2 (some 6) (.int .i64 ((i + 1 : Nat) : Int)) rfl rfl (by kernel_rfl) (by kernel_rfl) ?_
            refine Wk.rEnd 3 rfl ?_
            refine Wk.nxt ?_
            have kk6 := Wk.Chg.step kk4 ch4 trivial
            have kk7 := Wk.Chg.step kk6 ch5 ⟨.inl (by simp), trivial⟩
            refine ⟨_, ?_, i + 1, k + 1, L1.set k x, rfl, by kernel_rfl, (by omega), hst1, (by rw [Mur.take_snoc hxL, List.filter_append, ← hT, Mur.take_snoc (y := x) (by rw [List.getElem?_set_self (by omega)]), List.take_set_of_le (Nat.le_refl k)]; simp [hmem1]), (by rw [List.drop_set_of_lt (by omega)]; have h1_ := congrArg (List.drop 1) hDr; rwa [List.drop_drop, List.drop_drop] at h1_), kk7⟩
            · omega
        · rw [List.take_of_length_le (show L.length ≤ i by omega)] at hT
          refine wp_seq ?_
          refine wp_seq ?_
          refine Wk.reg ?_
          refine Wk.rPure 0 (some 16) (.int .i64 ((i : Nat) : Int)) rfl rfl (by kernel_rfl) (by kernel_rfl) ?_
          refine Wk.rPure 1 (some 17) (.slice (some ⟨q, 0, none⟩) n c) rfl rfl (by kernel_rfl) (by kernel_rfl) ?_
          refine Wk.rPure 2 (some 18) (.int .i64 ((n : Nat) : Int)) rfl rfl (by kernel_rfl) (by kernel_rfl) ?_
          refine Wk.rPure 3 (some 19) (.bool false) rfl rfl (by kernel_rfl) (Wk.boolF (b := decide (((i : Nat) : Int) < ((n : Nat) : Int))) (decide_eq_false (by omega)) (by kernel_rfl)) ?_
          refine Wk.rEnd 4 rfl ?_
          refine Wk.nxt ?_
          refine wp_cond_false (by kernel_rfl) ?_
          refine wp_exit ?_
          refine Wk.thX ?_
          refine Wk.thX ?_
          refine Wk.inX ?_
          refine Wk.nxt ?_
          refine wp_seq ?_
          refine Wk.reg ?_
          refine Wk.rPure 0 (some 36) (.slice (some ⟨q, 0, none⟩) n c) rfl rfl (by kernel_rfl) (by kernel_rfl) ?_
          refine Wk.rPure 1 (some 37) (.int .i64 ((k : Nat) : Int)) rfl rfl (by kernel_rfl) (by kernel_rfl) ?_
          refine Wk.rPure 2 (some 38) (.slice (some ⟨q, 0 + k * 97, none⟩) (n - k) (c - k)) rfl rfl (by kernel_rfl) (Mur.run_fromS 22 (.tmp 36) (.tmp 37) rfl 32 Tryd.underlying22 97 (by kernel_rfl) q 0 n c k (by kernel_rfl) (by kernel_rfl) (by omega) (by omega) (n - k) rfl) ?_
          refine Wk.rEx 3 none _ rfl rfl (by kernel_rfl) (Mur.clearA (.tmp 38) 22 32 rfl Tryd.underlying22 attI hO k (n - k) (c - k) (by kernel_rfl) (by omega) (by omega)) ?_
          rintro _ W7 ⟨hcl1, ch6⟩
          have zz8 := ch6.size
          refine Wk.rEnd 4 rfl ?_
          refine Wk.nxt ?_
          refine wp_seq ?_
          refine Wk.reg ?_
          refine Wk.rPure 0 (some 39) (.slice (some ⟨q, 0, none⟩) n c) rfl rfl (by kernel_rfl) (by kernel_rfl) ?_
          refine Wk.rPure 1 (some 40) (.int .i64 ((k : Nat) : Int)) rfl rfl (by kernel_rfl) (by kernel_rfl) ?_
          refine Wk.rPure 2 (some 41) (.slice (some ⟨q, 0, none⟩) k c) rfl rfl (by kernel_rfl) (Mur.run_toK 22 (.tmp 39) (.tmp 40) rfl 32 Tryd.underlying22 97 (by kernel_rfl) (some ⟨q, 0, none⟩) n c k (.inr ⟨q, 0, rfl⟩) (by kernel_rfl) (by kernel_rfl) (by omega)) ?_
          refine Wk.rPure 3 (some 4) (.slice (some ⟨q, 0, none⟩) k c) rfl rfl (by kernel_rfl) (by kernel_rfl) ?_
          refine Wk.rEnd 4 rfl ?_
          refine Wk.nxt ?_
          refine wp_ret ?_
          have kk8 := Wk.Chg.step HB ch6 ⟨.inl (by simp), trivial⟩
          refine Wk.ret (.slice (some ⟨q, 0, none⟩) k c) rfl (by kernel_rfl) ?_
          exact ⟨_, rfl, by rw [← hT]; exact hcl1, kk8⟩
end Go.Proofs.YtfhneademopciaaDoor
namespace Go.Proofs.YtfhneademopciaaDoor
open Go.RowKit
open Mur (b8s Byt Own8 Seg Segs flat cutA attC Att SlA OwnA rowA msgC)
set_option maxRecDepth 100000
set_option maxHeartbeats 4000000
def HearG_F1 (b : Array Value) (u0 : Value) (u3 : Value) (u5 : Value) (u25 : Value) (u26 : Value) (u27 : Value) : Act := ⟨#[u0, b.getD 1 undef, b.getD 2 undef, u3, b.getD 4 undef, u5, b.getD 6 undef, b.getD 7 undef, b.getD 8 undef, b.getD 9 undef, b.getD 10 undef, b.getD 11 undef, b.getD 12 undef, b.getD 13 undef, b.getD 14 undef, b.getD 15 undef, b.getD 16 undef, b.getD 17 undef, b.getD 18 undef, b.getD 19 undef, b.getD 20 undef, b.getD 21 undef, b.getD 22 undef, b.getD 23 undef, b.getD 24 undef, u25, u26, u27, b.getD 28 undef, b.getD 29 undef, b.getD 30 undef, b.getD 31 undef, b.getD 32 undef, b.getD 33 undef, b.getD 34 undef, b.getD 35 undef, b.getD 36 undef, b.getD 37 undef, b.getD 38 undef, b.getD 39 undef, b.getD 40 undef, b.getD 41 undef, b.getD 42 undef, b.getD 43 undef, b.getD 44 undef, b.getD 45 undef, b.getD 46 undef, b.getD 47 undef, b.getD 48 undef, b.getD 49 undef, b.getD 50 undef, b.getD 51 undef, b.getD 52 undef, b.getD 53 undef], []⟩
theorem Hear_any (lo : Nat) (L : List Att) (g : Nat) (F : List Nat) (kd : UInt8) (p : List UInt8) (PA : Option Addr) (pn pc : Nat) (s : List UInt8) (m : Int) (I : List Att) (A : Option Addr) (n c : Nat) (b : Bool) (w : World) (hv : ShaVars w) (h : Mur.SetF 32 57 lo w g L F) (hs : s.length = 32) (hb : Byt w PA pn p) (hnil : PA = none → pc = 0) (hl : SlA w A n I) (hpn : pn ≤ 1000) (hn : n ≤ 1000) : Calls Tryd.prog 36 #[.pointer (some ⟨g, 0, none⟩), .agg (msgC kd PA pn pc s m A n c b).toArray] w fun e w' => ∃ A1 n1 c1 A2 n2 c2, e = .returned (.tuple #[.slice A1 n1 c1, .slice A2 n2 c2]) ∧ Mur.MsgA w' w.heap.size 66 A1 n1 c1 (Mur.repliesM L ⟨kd, p, s, m, I, b⟩) ∧ OwnA w' w.heap.size 32 A2 n2 c2 (Mur.learnsM L ⟨kd, p, s, m, I, b⟩) ∧ Wk.Chg [] w w' := by
  have HV := Go.Lib.hid hv
  clear hv
  have hpl_ := hb.1
  have hM_ := Mur.SetF.mem h
  have hLl_ := Mur.SetF.len h
  have hIl_ := hl.len
  have hbl_ := Mur.belowL_len p L
  have hkd_ := kd.toNat_lt
  refine calls_of_wp Tryd.func36 rfl ?_
  refine wp_seq ?_
  refine Wk.reg ?_
  refine Wk.rEx 0 (some 3) _ rfl rfl (by kernel_rfl) (Wk.new_ex (.pointer (some ⟨w.heap.size, 0, none⟩)) ((Mur.msgC kd PA pn pc s m A n c b).toArray) 66 (by kernel_rfl)) ?_
  rintro _ W1 ⟨rfl, hb1, ch1, sz1⟩
  have zz1 := ch1.size
  refine Wk.rPure 1 (some 4) (.slice none 0 0) rfl rfl (by kernel_rfl) (by kernel_rfl) ?_
  refine Wk.rPure 2 (some 5) (.slice none 0 0) rfl rfl (by kernel_rfl) (by kernel_rfl) ?_
  refine Wk.rEnd 3 rfl ?_
  refine Wk.nxt ?_
  refine wp_seq ?_
  refine wp_block ?_
  refine wp_seq ?_
  refine Wk.reg ?_
  refine Wk.rPure 0 (some 10) (.pointer (some ⟨g, 0, none⟩)) rfl rfl (by kernel_rfl) (by kernel_rfl) ?_
  refine Wk.rPure 1 (some 11) (.bool false) rfl rfl (by kernel_rfl) (by kernel_rfl) ?_
  refine Wk.rPure 2 (some 12) (.bool false) rfl rfl (by kernel_rfl) (by kernel_rfl) ?_
  refine Wk.rPure 3 (some 13) (.agg ((Mur.msgC kd PA pn pc s m A n c b).toArray)) rfl rfl (by kernel_rfl) (Mur.loadArr 66 (.tmp 3) rfl _ Tryd.underlying66 rfl w.heap.size (by kernel_rfl) (Mur.msgC kd PA pn pc s m A n c b).toArray 37 (Mur.msgC_size hs) (by kernel_rfl) 66 (0, 0) hb1) ?_
  refine Wk.rCall 4 (some 14) 37 [.tmp 13] #[66] [.agg ((Mur.msgC kd PA pn pc s m A n c b).toArray)] rfl rfl (by kernel_rfl) rfl (by kernel_rfl) (by kernel_rfl) ?_
  have kk1 : Wk.Chg [] w W1 := Wk.Chg.step ((Wk.Chg.refl _).more (by simp)) ch1 trivial
  refine (May_any kd p PA pn pc s m I A n c b W1 hs (Mur.byt_chg hb kk1 (fun g off e hl => trivial)) (Mur.SlA.chg hl kk1 (fun g off e hl => trivial)) (by omega) (by omega)).mono ?_
  rintro _ W2 ⟨vv1, rfl, hvm1, ch2⟩
  have zz2 := ch2.size
  cases vv1
  · have hmay1 : ¬ Mur.mayM ⟨kd, p, s, m, I, b⟩ := fun h_ => absurd (hvm1.2 h_) (by decide)
    refine ⟨_, rfl, ?_⟩
    refine Wk.rPure 5 (some 15) (.bool true) rfl rfl (by kernel_rfl) (by kernel_rfl) ?_
    refine Wk.rPure 6 (some 16) (.bool true) rfl rfl (by kernel_rfl) (by kernel_rfl) ?_
    refine Wk.rPure 7 (some 9) (.bool true) rfl rfl (by kernel_rfl) (by kernel_rfl) ?_
    refine Wk.rEnd 8 rfl ?_
    refine Wk.nxt ?_
    refine wp_cond_true (by kernel_rfl) ?_
    refine wp_seq ?_
    refine Wk.reg ?_
    refine Wk.rPure 0 (some 4) (.slice none 0 0) rfl rfl (by kernel_rfl) (by kernel_rfl) ?_
    refine Wk.rPure 1 (some 5) (.slice none 0 0) rfl rfl (by kernel_rfl) (by kernel_rfl) ?_
    refine Wk.rEnd 2 rfl ?_
    refine Wk.nxt ?_
    refine wp_ret ?_
    refine Wk.inR ?_
    refine Wk.thR ?_
    have kk2 := Wk.Chg.step kk1 ch2 trivial
    refine Wk.ret (.tuple #[.slice none 0 0, .slice none 0 0]) rfl (by kernel_rfl) ?_
    exact ⟨_, _, _, _, _, _, rfl, by rw [(Mur.replies_no (L := L) hmay1).1]; exact Mur.msgA_nil _ _ _, by rw [(Mur.replies_no (L := L) hmay1).2]; exact Mur.ownA_nil _ _ _, kk2⟩
  · have hmay2 : Mur.mayM ⟨kd, p, s, m, I, b⟩ := hvm1.1 rfl
    refine ⟨_, rfl, ?_⟩
    refine Wk.rPure 5 (some 15) (.bool false) rfl rfl (by kernel_rfl) (by kernel_rfl) ?_
    refine Wk.rPure 6 (some 16) (.bool false) rfl rfl (by kernel_rfl) (by kernel_rfl) ?_
    refine Wk.rPure 7 (some 9) (.bool false) rfl rfl (by kernel_rfl) (by kernel_rfl) ?_
    refine Wk.rEnd 8 rfl ?_
    refine Wk.nxt ?_
    refine wp_cond_false (by kernel_rfl) ?_
    refine wp_seq ?_
    refine Wk.reg ?_
    obtain ⟨hpreT_, hm1_, hm2_, hn8_, _⟩ := Mur.mayM_iff.1 hmay2
    have hp8_ := Mur.pre_len hpreT_
    refine Wk.rPure 0 (some 18) (.pointer (some ⟨w.heap.size, 0, none⟩)) rfl rfl (by kernel_rfl) (by kernel_rfl) ?_
    refine Wk.rPure 1 (some 19) (.int .u8 ((kd.toNat : Nat) : Int)) rfl rfl (by kernel_rfl) (Wk.load1 5 (.tmp 18) rfl (by kernel_rfl) ⟨w.heap.size, 0, none⟩ (by kernel_rfl) (.int .u8 ((kd.toNat : Nat) : Int)) (show World.cell? _ ⟨_, 0 + 0, _⟩ = _ from Mur.msg_kind (Wk.range_row (Wk.Chg.hp ch2 hb1 trivial)))) ?_
    by_cases hx1 : ((kd.toNat : Nat) : Int) = (1 : Int)
    · refine Wk.rPure 2 (some 20) (.bool true) rfl rfl (by kernel_rfl) (Wk.boolT (b := (((kd.toNat : Nat) : Int) == (1 : Int))) (beq_iff_eq.2 (by first | exact hx1 | omega)) (by kernel_rfl)) ?_
      refine Wk.rPure 3 (some 17) (.bool true) rfl rfl (by kernel_rfl) (by kernel_rfl) ?_
      refine Wk.rEnd 4 rfl ?_
      refine Wk.nxt ?_
      refine wp_cond_true (by kernel_rfl) ?_
      refine wp_seq ?_
      refine Wk.reg ?_
      refine Wk.rPure 0 (some 21) (.pointer (some ⟨g, 0, none⟩)) rfl rfl (by kernel_rfl) (by kernel_rfl) ?_
      refine Wk.rPure 1 (some 22) (.agg ((Mur.msgC kd PA pn pc s m A n c b).toArray)) rfl rfl (by kernel_rfl) (Mur.loadArr 66 (.tmp 3) rfl _ Tryd.underlying66 rfl w.heap.size (by kernel_rfl) (Mur.msgC kd PA pn pc s m A n c b).toArray 37 (Mur.msgC_size hs) (by kernel_rfl) 66 (0, 0) (Wk.Chg.hp ch2 hb1 trivial)) ?_
      refine Wk.rCall 2 (some 23) 53 [.tmp 21, .tmp 22] #[24, 66] [.pointer (some ⟨g, 0, none⟩), .agg ((Mur.msgC kd PA pn pc s m A n c b).toArray)] rfl rfl (by kernel_rfl) rfl (by kernel_rfl) (by kernel_rfl) ?_
      have hD1 := Mur.SetF.chg h ch1 (fun s hs => trivial)
      have hD2 := Mur.SetF.chg hD1 ch2 (fun s hs => trivial)
      have kk3 := Wk.Chg.step kk1 ch2 trivial
      refine (summed_any lo L g F kd p PA pn pc s m I A n c b W2 (HV.out.below (Wk.Chg.below0 kk3)) hD2 hs (Mur.byt_chg hb kk3 (fun g off e hl => trivial)) hnil (by omega) (by omega)).mono ?_
      rintro _ W3 ⟨AA1, nn1, nn2, rfl, ow1, ch3⟩
      have zz3 := ch3.size
      have hq1 := ow1.nc
      have hq2 := ow1.cm
      refine ⟨_, rfl, ?_⟩
      refine Wk.rPure 3 (some 4) (.slice AA1 nn1 nn2) rfl rfl (by kernel_rfl) (by kernel_rfl) ?_
      refine Wk.rPure 4 (some 5) (.slice none 0 0) rfl rfl (by kernel_rfl) (by kernel_rfl) ?_
      refine Wk.rEnd 5 rfl ?_
      refine Wk.nxt ?_
      refine wp_ret ?_
      refine Wk.inR ?_
      refine Wk.thR ?_
      have kk4 := Wk.Chg.step kk3 ch3 trivial
      refine Wk.ret (.tuple #[.slice AA1 nn1 nn2, .slice none 0 0]) rfl (by kernel_rfl) ?_
      exact ⟨_, _, _, _, _, _, rfl, by rw [(Mur.replies_sum (L := L) hmay2 (Mur.u8_cast_inj (by have h_ : ((1 : UInt8).toNat : Int) = 1 := rfl; omega))).1]; exact Mur.MsgA.low ow1 (by omega), by rw [(Mur.replies_sum (L := L) hmay2 (Mur.u8_cast_inj (by have h_ : ((1 : UInt8).toNat : Int) = 1 := rfl; omega))).2]; exact Mur.ownA_nil _ _ _, kk4⟩
    · refine Wk.rPure 2 (some 20) (.bool false) rfl rfl (by kernel_rfl) (Wk.boolF (b := (((kd.toNat : Nat) : Int) == (1 : Int))) (beq_eq_false_iff_ne.2 (by first | exact hx1 | omega)) (by kernel_rfl)) ?_
      refine Wk.rPure 3 (some 17) (.bool false) rfl rfl (by kernel_rfl) (by kernel_rfl) ?_
      refine Wk.rEnd 4 rfl ?_
      refine Wk.nxt ?_
      refine wp_cond_false (by kernel_rfl) ?_
      refine wp_skip ?_
      refine Wk.inN ?_
      refine Wk.nxt ?_
      refine wp_seq ?_
      refine wp_seq ?_
      refine Wk.reg ?_
      refine Wk.rPure 0 (some 24) (.pointer (some ⟨w.heap.size, 35, none⟩)) rfl rfl (by kernel_rfl) (by kernel_rfl) ?_
      refine Wk.rPure 1 (some 25) (.slice A n c) rfl rfl (by kernel_rfl) (Wk.load1 22 (.tmp 24) rfl (by kernel_rfl) ⟨w.heap.size, 35, none⟩ (by kernel_rfl) (.slice A n c) (show World.cell? _ ⟨_, 0 + 35, _⟩ = _ from Mur.msg_items hs (Wk.range_row (Wk.Chg.hp ch2 hb1 trivial)))) ?_
      refine Wk.rPure 2 (some 26) (.int .i64 ((n : Nat) : Int)) rfl rfl (by kernel_rfl) (by kernel_rfl) ?_
      refine Wk.rPure 3 (some 27) (.int .i64 0) rfl rfl (by kernel_rfl) (by kernel_rfl) ?_
      refine Wk.rEnd 4 rfl ?_
      refine Wk.nxt ?_
      refine wp_block ?_
      refine Wk.loop (fun m_ a wr => ∃ (i : Nat) (A1 : Option Addr) (k : Nat) (c1 : Nat), m_ = n - i ∧ a = HearG_F1 a.tmps (.pointer (some ⟨g, 0, none⟩)) (.pointer (some ⟨w.heap.size, 0, none⟩)) (.slice A1 k c1) (.slice A n c) (.int .i64 ((n : Nat) : Int)) (.int .i64 ((i : Nat) : Int)) ∧ i ≤ n ∧ OwnA wr (w.heap.size + 1) 32 A1 k c1 ((I.take i).filter (fun y_ => decide (y_ ∉ L))) ∧ wr.heap[w.heap.size]? = some (.cells (Mur.msgC kd PA pn pc s m A n c b).toArray 66 (0, 0)) ∧ Wk.Chg [] w wr) (n - 0) ?_ ?_
      · have kk5 := Wk.Chg.step kk1 ch2 trivial
        refine ⟨0, none, 0, 0, rfl, by kernel_rfl, Nat.zero_le _, (Mur.ownA_nil _ _ _), (Wk.Chg.hp ch2 hb1 trivial), kk5⟩
      · rintro mm1 aa1 W4 ⟨i, A1, k, c1, hmm1, hF1, hi, hO, hX, HB⟩
        generalize aa1.tmps = bb1 at hF1
        subst hF1
        have hzB := HB.size
        have hxl_ := (Array.getElem?_eq_some_iff.1 hX).1
        have hDx_ := Mur.SetF.chg h HB (fun _ _ => trivial)
        have hOl := hO.sl.len
        have hOc := hO.nc
        have hfl_ := List.length_filter_le (fun y_ => decide (y_ ∉ L)) (I.take i)
        have htl_ := List.length_take_le i I
        by_cases hlt : i < n
        · obtain ⟨g_x, o_x, rfl, _⟩ := hl.ex (by omega)
          obtain ⟨x, hx⟩ : ∃ x, I[i]? = some x := ⟨_, List.getElem?_eq_getElem (by have := hl.len; omega)⟩
          refine wp_seq ?_
          refine Wk.reg ?_
          refine Wk.rPure 0 (some 28) (.bool true) rfl rfl (by kernel_rfl) (Wk.boolT (b := decide (((i : Nat) : Int) < ((n : Nat) : Int))) (decide_eq_true (by omega)) (by kernel_rfl)) ?_
          refine Wk.rEnd 1 rfl ?_
          refine Wk.nxt ?_
          refine wp_seq ?_
          refine wp_cond_true (by kernel_rfl) ?_
          refine wp_skip ?_
          refine Wk.nxt ?_
          refine wp_seq ?_
          refine wp_block ?_
          refine wp_seq ?_
          refine Wk.reg ?_
          refine Wk.rPure 0 (some 29) (.pointer (some ⟨g_x, o_x + i * 97, none⟩)) rfl rfl (by kernel_rfl) (Wk.index_sl 22 32 (.tmp 25) (.tmp 27) rfl Tryd.underlying22 97 (by kernel_rfl) g_x o_x n c i .i64 (by kernel_rfl) (by kernel_rfl) (by omega)) ?_
          refine Wk.rPure 1 (some 30) (.agg ((Mur.attC x.k x.r x.n x.t).toArray)) rfl rfl (by kernel_rfl) (Wk.loadR 32 (.tmp 29) rfl _ Tryd.underlying32 rfl g_x (o_x + i * 97) (by kernel_rfl) (Mur.attC x.k x.r x.n x.t) (by rw [Mur.attC_length x.hk x.hr x.ht]; kernel_rfl) ((Mur.SlA.chg hl HB (fun g off e hl => trivial)).elem hx)) ?_
          refine Wk.rEx 2 (some 7) _ rfl rfl (by kernel_rfl) (Wk.new_ex (.pointer (some ⟨W4.heap.size, 0, none⟩)) #[.int .u8 0, .int .u8 0, .int .u8 0, .int .u8 0, .int .u8 0, .int .u8 0, .int .u8 0, .int .u8 0, .int .u8 0, .int .u8 0, .int .u8 0, .int .u8 0, .int .u8 0, .int .u8 0, .int .u8 0, .int .u8 0, .int .u8 0, .int .u8 0, .int .u8 0, .int .u8 0, .int .u8 0, .int .u8 0, .int .u8 0, .int .u8 0, .int .u8 0, .int .u8 0, .int .u8 0, .int .u8 0, .int .u8 0, .int .u8 0, .int .u8 0, .int .u8 0, .int .u8 0, .int .u8 0, .int .u8 0, .int .u8 0, .int .u8 0, .int .u8 0, .int .u8 0, .int .u8 0, .int .u8 0, .int .u8 0, .int .u8 0, .int .u8 0, .int .u8 0, .int .u8 0, .int .u8 0, .int .u8 0, .int .u8 0, .int .u8 0, .int .u8 0, .int .u8 0, .int .u8 0, .int .u8 0, .int .u8 0, .int .u8 0, .int .u8 0, .int .u8 0, .int .u8 0, .int .u8 0, .int .u8 0, .int .u8 0, .int .u8 0, .int .u8 0, .int .i64 0, .int .u8 0, .int .u8 0, .int .u8 0, .int .u8 0, .int .u8 0, .int .u8 0, .int .u8 0, .int .u8 0, .int .u8 0, .int .u8 0, .int .u8 0, .int .u8 0, .int .u8 0, .int .u8 0, .int .u8 0, .int .u8 0, .int .u8 0, .int .u8 0, .int .u8 0, .int .u8 0, .int .u8 0, .int .u8 0, .int .u8 0, .int .u8 0, .int .u8 0, .int .u8 0, .int .u8 0, .int .u8 0, .int .u8 0, .int .u8 0, .int .u8 0, .int .u8 0] 32 (by kernel_rfl)) ?_
          rintro _ W5 ⟨rfl, hb2, ch4, sz2⟩
          have zz4 := ch4.size
          rw [← Mur.attC_zero] at hb2
          refine Wk.rExS 3 none _ rfl rfl (by kernel_rfl) (Mur.storeArr 32 (.tmp 7) (.tmp 30) rfl W4.heap.size (by kernel_rfl) (Mur.attC x.k x.r x.n x.t).toArray 97 (Mur.attC_size x.hk x.hr x.ht) Mur.attC_all (by kernel_rfl) (by kernel_rfl) 32 ((Mur.attC Mur.z32 Mur.z32 0 Mur.z32).toArray) hb2 (Mur.attC_size rfl rfl rfl)) ?_
          rintro W6 ⟨hb3, ch5⟩
          have zz5 := ch5.size
          refine Wk.rEnd 4 rfl ?_
          refine Wk.nxt ?_
          refine wp_seq ?_
          refine Wk.reg ?_
          refine Wk.rPure 0 (some 31) (.pointer (some ⟨g, 0, none⟩)) rfl rfl (by kernel_rfl) (by kernel_rfl) ?_
          refine Wk.rPure 1 (some 32) (.agg ((Mur.attC x.k x.r x.n x.t).toArray)) rfl rfl (by kernel_rfl) (Mur.loadArr 32 (.tmp 7) rfl _ Tryd.underlying32 rfl W4.heap.size (by kernel_rfl) (Mur.attC x.k x.r x.n x.t).toArray 97 (Mur.attC_size x.hk x.hr x.ht) (by kernel_rfl) 32 (0, 0) hb3) ?_
          refine Wk.rCall 2 (some 33) 24 [.tmp 31, .tmp 32] #[24, 32] [.pointer (some ⟨g, 0, none⟩), .agg ((Mur.attC x.k x.r x.n x.t).toArray)] rfl rfl (by kernel_rfl) rfl (by kernel_rfl) (by kernel_rfl) ?_
          have hD3 := Mur.SetF.chg hDx_ ch4 (fun s hs => trivial)
          have hD4 := Mur.SetF.chg hD3 ch5 (fun s hs => ⟨by have := hM_ s hs; omega, trivial⟩)
          refine (Has_any lo L g F x W6 hD4).mono ?_
          by_cases hmem1 : x ∈ L
          · rw [decide_eq_true hmem1]
            rintro _ W7 ⟨rfl, ch6⟩
            have zz6 := ch6.size
            refine ⟨_, rfl, ?_⟩
            refine Wk.rPure 3 (some 34) (.bool false) rfl rfl (by kernel_rfl) (by kernel_rfl) ?_
            refine Wk.rEnd 4 rfl ?_
            refine Wk.nxt ?_
            refine wp_cond_false (by kernel_rfl) ?_
            refine wp_skip ?_
            refine Wk.inN ?_
            refine Wk.nxt ?_
            refine Wk.reg ?_
            refine Wk.rPure 0 (some 39) (.int .i64 ((i + 1 : Nat) : Int)) rfl rfl (by kernel_rfl) (Wk.int64 (n := ((i : Nat) : Int) + 1) (z := ((i + 1 : Nat) : Int)) (by omega) (by omega) (by omega) (by kernel_rfl)) ?_
            refine Wk.rPure 1 (some 27) (.int .i64 ((i + 1 : Nat) : Int)) rfl rfl (by kernel_rfl) (by kernel_rfl) ?_
            refine Wk.rEnd 2 rfl ?_
            refine Wk.nxt ?_
            have ow2 := Mur.OwnA.chg hO ch4 (fun q e _ _ => trivial)
            have ow3 := Mur.OwnA.chg ow2 ch5 (fun q e _ _ => ⟨by have := hO.lt q e; omega, trivial⟩)
            have ow4 := Mur.OwnA.chg ow3 ch6 (fun q e _ _ => trivial)
            have kk6 := Wk.Chg.step HB ch4 trivial
            have kk7 := Wk.Chg.step kk6 ch5 ⟨.inr (by omega), trivial⟩
            have kk8 := Wk.Chg.step kk7 ch6 trivial
            refine ⟨_, ?_, i + 1, A1, k, c1, rfl, by kernel_rfl, (by omega), (by rw [Mur.filter_snoc hx, if_neg (by simpa using hmem1)]; first | exact ow4 | (rw [List.append_nil]; exact ow4)), (Wk.Chg.hp ch6 (Wk.Chg.hp ch5 (Wk.Chg.hp ch4 hX trivial) ⟨by omega, trivial⟩) trivial), kk8⟩
            · omega
          · rw [decide_eq_false hmem1]
            rintro _ W7 ⟨rfl, ch6⟩
            have zz7 := ch6.size
            refine ⟨_, rfl, ?_⟩
            refine Wk.rPure 3 (some 34) (.bool true) rfl rfl (by kernel_rfl) (by kernel_rfl) ?_
            refine Wk.rEnd 4 rfl ?_
            refine Wk.nxt ?_
            refine wp_cond_true (by kernel_rfl) ?_
            refine Wk.reg ?_
            refine Wk.rPure 0 (some 35) (.slice A1 k c1) rfl rfl (by kernel_rfl) (by kernel_rfl) ?_
            refine Wk.rPure 1 (some 36) (.agg ((Mur.attC x.k x.r x.n x.t).toArray)) rfl rfl (by kernel_rfl) (Mur.loadArr 32 (.tmp 7) rfl _ Tryd.underlying32 rfl W4.heap.size (by kernel_rfl) (Mur.attC x.k x.r x.n x.t).toArray 97 (Mur.attC_size x.hk x.hr x.ht) (by kernel_rfl) 32 (0, 0) (Wk.Chg.hp ch6 hb3 trivial)) ?_
            refine Wk.rEx 2 (some 37) _ rfl rfl (by kernel_rfl) (Mur.build1 22 32 (.tmp 36) rfl Tryd.underlying22 attI x.k x.r x.t x.n x.hk x.hr x.ht (by kernel_rfl)) ?_
            rintro _ W8 ⟨rfl, hb4, ch7, sz3⟩
            have zz8 := ch7.size
            have ow5 := Mur.OwnA.chg hO ch4 (fun q e _ _ => trivial)
            have ow6 := Mur.OwnA.chg ow5 ch5 (fun q e _ _ => ⟨by have := hO.lt q e; omega, trivial⟩)
            have ow7 := Mur.OwnA.chg ow6 ch6 (fun q e _ _ => trivial)
            have ow8 := Mur.OwnA.chg ow7 ch7 (fun q e _ _ => trivial)
            refine Wk.rEx 3 (some 38) _ rfl rfl (by kernel_rfl) (Mur.appendA (.tmp 35) (.tmp 37) 22 32 rfl Tryd.underlying22 attI (w.heap.size + 1) A1 k c1 ((I.take i).filter (fun y_ => decide (y_ ∉ L))) (some ⟨W7.heap.size, 0, none⟩) 1 1 ([x]) (by kernel_rfl) (by kernel_rfl) ow8 (Mur.slA_box x hb4) (fun h => by cases h) (by omega) (by omega) (k + 1) (by omega) (((I.take i).filter (fun y_ => decide (y_ ∉ L))) ++ ([x])) rfl) ?_
            rintro _ W10 ⟨AA2, nn3, rfl, ow9, ch8, ha1⟩
            have zz9 := ch8.size
            have hq3 := ow9.nc
            have hq4 := ow9.cm
            refine Wk.rPure 4 (some 5) (.slice AA2 (k + 1) nn3) rfl rfl (by kernel_rfl) (by kernel_rfl) ?_
            refine Wk.rEnd 5 rfl ?_
            refine Wk.inN ?_
            refine Wk.nxt ?_
            refine Wk.reg ?_
            refine Wk.rPure 0 (some 39) (.int .i64 ((i + 1 : Nat) : Int)) rfl rfl (by kernel_rfl) (Wk.int64 (n := ((i : Nat) : Int) + 1) (z := ((i + 1 : Nat) : Int)) (by omega) (by omega) (by omega) (by kernel_rfl)) ?_
            refine Wk.rPure 1 (some 27) (.int .i64 ((i + 1 : Nat) : Int)) rfl rfl (by kernel_rfl) (by kernel_rfl) ?_
            refine Wk.rEnd 2 rfl ?_
            refine Wk.nxt ?_
            have kk9 := Wk.Chg.step HB ch4 trivial
            have kk10 := Wk.Chg.step kk9 ch5 ⟨.inr (by omega), trivial⟩
            have kk11 := Wk.Chg.step kk10 ch6 trivial
            have kk12 := Wk.Chg.step kk11 ch7 trivial
            have kk13 := Wk.Chg.step kk12 ch8 (Wk.newOr_blk (fun g hg => by have := hO.lt g hg; omega))
            refine ⟨_, ?_, i + 1, AA2, k + 1, nn3, rfl, by kernel_rfl, (by omega), (by rw [Mur.filter_snoc hx, if_pos (by simpa using hmem1)]; first | exact ow9 | (rw [List.append_nil]; exact ow9)), (Wk.Chg.hp ch8 (Wk.Chg.hp ch7 (Wk.Chg.hp ch6 (Wk.Chg.hp ch5 (Wk.Chg.hp ch4 hX trivial) ⟨by omega, trivial⟩) trivial) trivial) (Wk.off_blk (fun gz hgz => by have := hO.lt gz hgz; omega))), kk13⟩
            · omega
        · rw [List.take_of_length_le (show I.length ≤ i by omega)] at hO
          refine wp_seq ?_
          refine Wk.reg ?_
          refine Wk.rPure 0 (some 28) (.bool false) rfl rfl (by kernel_rfl) (Wk.boolF (b := decide (((i : Nat) : Int) < ((n : Nat) : Int))) (decide_eq_false (by omega)) (by kernel_rfl)) ?_
          refine Wk.rEnd 1 rfl ?_
          refine Wk.nxt ?_
          refine wp_seq ?_
          refine wp_cond_false (by kernel_rfl) ?_
          refine wp_exit ?_
          refine Wk.thX ?_
          refine Wk.thX ?_
          refine Wk.inX ?_
          refine Wk.nxt ?_
          refine wp_seq ?_
          refine wp_seq ?_
          refine Wk.reg ?_
          cases b
          · refine Wk.rPure 0 (some 40) (.pointer (some ⟨w.heap.size, 36, none⟩)) rfl rfl (by kernel_rfl) (by kernel_rfl) ?_
            refine Wk.rPure 1 (some 41) (.bool false) rfl rfl (by kernel_rfl) (Wk.load1 4 (.tmp 40) rfl (by kernel_rfl) ⟨w.heap.size, 36, none⟩ (by kernel_rfl) (.bool false) (show World.cell? _ ⟨_, 0 + 36, _⟩ = _ from Mur.msg_ans hs (Wk.range_row hX))) ?_
            refine Wk.rEnd 2 rfl ?_
            refine Wk.nxt ?_
            refine wp_cond_false (by kernel_rfl) ?_
            refine wp_skip ?_
            refine Wk.nxt ?_
            refine wp_seq ?_
            refine Wk.reg ?_
            refine Wk.rPure 0 (some 43) (.pointer (some ⟨g, 0, none⟩)) rfl rfl (by kernel_rfl) (by kernel_rfl) ?_
            refine Wk.rPure 1 (some 44) (.pointer (some ⟨w.heap.size, 1, none⟩)) rfl rfl (by kernel_rfl) (by kernel_rfl) ?_
            refine Wk.rPure 2 (some 45) (.slice PA pn pc) rfl rfl (by kernel_rfl) (Wk.load1 38 (.tmp 44) rfl (by kernel_rfl) ⟨w.heap.size, 1, none⟩ (by kernel_rfl) (.slice PA pn pc) (show World.cell? _ ⟨_, 0 + 1, _⟩ = _ from Mur.msg_pre (Wk.range_row hX))) ?_
            refine Wk.rCall 3 (some 46) 18 [.tmp 43, .tmp 45] #[24, 38] [.pointer (some ⟨g, 0, none⟩), .slice PA pn pc] rfl rfl (by kernel_rfl) rfl (by kernel_rfl) (by kernel_rfl) ?_
            refine (Below_any lo L g F p PA pn pc W4 hDx_ (Mur.byt_chg hb HB (fun g off e hl => trivial)) (by omega)).mono ?_
            rintro _ W11 ⟨AA3, nn4, nn5, rfl, ow10, ch9⟩
            have zz10 := ch9.size
            have hq5 := ow10.nc
            have hq6 := ow10.cm
            have hq7 := ow10.sl.len
            have hq8 : (Mur.belowL p L).length ≤ 200 := Nat.le_trans (Mur.belowL_len _ _) (Mur.SetF.len hDx_)
            refine ⟨_, rfl, ?_⟩
            refine Wk.rPure 4 (some 47) (.func (.func 55) #[] #[.pointer (some ⟨w.heap.size, 0, none⟩)]) rfl rfl (by kernel_rfl) (by kernel_rfl) ?_
            refine Wk.rCall 5 (some 48) 54 [.tmp 46, .tmp 47] #[22, 47] [.slice AA3 nn4 nn5, .func (.func 55) #[] #[.pointer (some ⟨w.heap.size, 0, none⟩)]] rfl rfl (by kernel_rfl) rfl (by kernel_rfl) (by kernel_rfl) ?_
            have kk14 := Wk.Chg.step HB ch9 trivial
            have hol1 := ow10.sl.len
            have hIlt1 : ∀ g_ off_, A = some ⟨g_, off_, none⟩ → 0 < n → g_ < W4.heap.size := fun g_ off_ e_ hn_ => by have h_ := hl; rw [e_] at h_; have := h_.lt hn_; omega
            have hlt1 := ow10.lt
            refine (DeleteF_any W4.heap.size AA3 nn4 nn5 (Mur.belowL p L) w.heap.size kd PA pn pc s m A n c false I W11 ow10 (by omega) hs (Wk.Chg.hp ch9 hX trivial) (Mur.SlA.chg hl kk14 (fun g off e hl => trivial)) (by omega) (by omega) hIlt1).mono ?_
            rintro _ W12 ⟨nn6, rfl, ow11, ch10⟩
            have zz11 := ch10.size
            have hq9 := ow11.nc
            have hq10 := List.length_filter_le (fun y_ => decide (y_ ∉ I)) (Mur.belowL p L)
            have hq11 := ow11.sl.len
            refine ⟨_, rfl, ?_⟩
            refine Wk.rPure 6 (some 8) (.slice AA3 nn6 nn5) rfl rfl (by kernel_rfl) (by kernel_rfl) ?_
            refine Wk.rEnd 7 rfl ?_
            refine Wk.nxt ?_
            refine wp_seq ?_
            refine Wk.reg ?_
            refine Wk.rPure 0 (some 49) (.pointer (some ⟨w.heap.size, 1, none⟩)) rfl rfl (by kernel_rfl) (by kernel_rfl) ?_
            refine Wk.rPure 1 (some 50) (.slice PA pn pc) rfl rfl (by kernel_rfl) (Wk.load1 38 (.tmp 49) rfl (by kernel_rfl) ⟨w.heap.size, 1, none⟩ (by kernel_rfl) (.slice PA pn pc) (show World.cell? _ ⟨_, 0 + 1, _⟩ = _ from Mur.msg_pre (Wk.range_row (Wk.Chg.hp ch10 (Wk.Chg.hp ch9 hX trivial) (Wk.off_blk (fun gz hgz => by have := hlt1 gz hgz; omega)))))) ?_
            refine Wk.rPure 2 (some 51) (.slice AA3 nn6 nn5) rfl rfl (by kernel_rfl) (by kernel_rfl) ?_
            refine Wk.rCall 3 (some 52) 57 [.tmp 50, .tmp 51, .const (.bool true)] #[38, 22, 4] [.slice PA pn pc, .slice AA3 nn6 nn5, .bool true] rfl rfl (by kernel_rfl) rfl (by kernel_rfl) (by kernel_rfl) ?_
            have kk15 := Wk.Chg.step kk14 ch10 (Wk.newOr_blk (fun g hg => by have := hlt1 g hg; omega))
            have hol2 := ow11.sl.len
            have hoc1 : nn5 ≤ 9223372036854775807 := Nat.le_trans ow11.cm (by unfold Go.maxLen; omega)
            have hon1 := ow11.nc
            refine (items_any p PA pn pc AA3 nn6 nn5 ((Mur.belowL p L).filter (fun y_ => decide (y_ ∉ I))) true W12 (Mur.byt_chg hb kk15 (fun g off e hl => trivial)) hnil (by omega) ow11.sl (by omega)).mono ?_
            rintro _ W13 ⟨AA4, nn7, nn8, rfl, ow12, ch11⟩
            have zz12 := ch11.size
            have hq12 := ow12.nc
            have hq13 := ow12.cm
            refine ⟨_, rfl, ?_⟩
            refine Wk.rPure 4 (some 53) (.slice A1 k c1) rfl rfl (by kernel_rfl) (by kernel_rfl) ?_
            refine Wk.rPure 5 (some 4) (.slice AA4 nn7 nn8) rfl rfl (by kernel_rfl) (by kernel_rfl) ?_
            refine Wk.rPure 6 (some 5) (.slice A1 k c1) rfl rfl (by kernel_rfl) (by kernel_rfl) ?_
            refine Wk.rEnd 7 rfl ?_
            refine Wk.nxt ?_
            refine wp_ret ?_
            have ow13 := Mur.OwnA.chg hO ch9 (fun q e _ _ => trivial)
            have ow14 := Mur.OwnA.chg ow13 ch10 (fun q e _ _ => (Wk.off_blk (fun gz hgz => by have := hlt1 gz hgz; have := hO.lt q e; omega)))
            have ow15 := Mur.OwnA.chg ow14 ch11 (fun q e _ _ => trivial)
            have kk16 := Wk.Chg.step kk15 ch11 trivial
            refine Wk.ret (.tuple #[.slice AA4 nn7 nn8, .slice A1 k c1]) rfl (by kernel_rfl) ?_
            exact ⟨_, _, _, _, _, _, rfl, by rw [(Mur.replies_two (L := L) hmay2 (fun h_ => by have h1_ := congrArg (fun z : UInt8 => (z.toNat : Int)) h_; have h2_ : ((1 : UInt8).toNat : Int) = 1 := rfl; simp only [h2_] at h1_; omega)).1]; exact Mur.MsgA.low ow12 (by omega), by rw [(Mur.replies_two (L := L) hmay2 (fun h_ => by have h1_ := congrArg (fun z : UInt8 => (z.toNat : Int)) h_; have h2_ : ((1 : UInt8).toNat : Int) = 1 := rfl; simp only [h2_] at h1_; omega)).2]; exact Mur.OwnA.rebase ow15 (fun q_ h_ => by have := hO.lt q_ h_; omega), kk16⟩
          · refine Wk.rPure 0 (some 40) (.pointer (some ⟨w.heap.size, 36, none⟩)) rfl rfl (by kernel_rfl) (by kernel_rfl) ?_
            refine Wk.rPure 1 (some 41) (.bool true) rfl rfl (by kernel_rfl) (Wk.load1 4 (.tmp 40) rfl (by kernel_rfl) ⟨w.heap.size, 36, none⟩ (by kernel_rfl) (.bool true) (show World.cell? _ ⟨_, 0 + 36, _⟩ = _ from Mur.msg_ans hs (Wk.range_row hX))) ?_
            refine Wk.rEnd 2 rfl ?_
            refine Wk.nxt ?_
            refine wp_cond_true (by kernel_rfl) ?_
            refine wp_seq ?_
            refine Wk.reg ?_
            refine Wk.rPure 0 (some 42) (.slice A1 k c1) rfl rfl (by kernel_rfl) (by kernel_rfl) ?_
            refine Wk.rPure 1 (some 4) (.slice none 0 0) rfl rfl (by kernel_rfl) (by kernel_rfl) ?_
            refine Wk.rPure 2 (some 5) (.slice A1 k c1) rfl rfl (by kernel_rfl) (by kernel_rfl) ?_
            refine Wk.rEnd 3 rfl ?_
            refine Wk.nxt ?_
            refine wp_ret ?_
            refine Wk.thR ?_
            refine Wk.ret (.tuple #[.slice none 0 0, .slice A1 k c1]) rfl (by kernel_rfl) ?_
            exact ⟨_, _, _, _, _, _, rfl, by rw [(Mur.replies_ans (L := L) hmay2 (fun h_ => by have h1_ := congrArg (fun z : UInt8 => (z.toNat : Int)) h_; have h2_ : ((1 : UInt8).toNat : Int) = 1 := rfl; simp only [h2_] at h1_; omega)).1]; exact Mur.msgA_nil _ _ _, by rw [(Mur.replies_ans (L := L) hmay2 (fun h_ => by have h1_ := congrArg (fun z : UInt8 => (z.toNat : Int)) h_; have h2_ : ((1 : UInt8).toNat : Int) = 1 := rfl; simp only [h2_] at h1_; omega)).2]; exact Mur.OwnA.rebase hO (fun q_ h_ => by have := hO.lt q_ h_; omega), HB⟩
end Go.Proofs.YtfhneademopciaaDoor
namespace Go.Proofs.YtfhneademopciaaDoor
open Go.RowKit
open Mur (b8s Byt Own8 Seg Segs flat cutA attC Att SlA OwnA rowA msgC)
set_option maxRecDepth 100000
set_option maxHeartbeats 4000000
theorem Start_any (lo : Nat) (L : List Att) (g : Nat) (F : List Nat) (w : World) (hv : ShaVars w) (h : Mur.SetF 32 57 lo w g L F) : Calls Tryd.prog 52 #[.pointer (some ⟨g, 0, none⟩)] w fun e w' => ∃ q d P1 n1 c1, Hid (d = Mur.sumL [] L) ∧ d.length = 32 ∧ e = .returned (.slice (some ⟨q, 0, none⟩) 1 1) ∧ w'.heap[q]? = some (.cells (msgC 1 P1 n1 c1 d (((Mur.belowL [] L).length : Nat) : Int) none 0 0 false).toArray 66 (0, 0)) ∧ Own8 w' w.heap.size 5 P1 n1 c1 [] ∧ w.heap.size ≤ q ∧ Wk.Chg [] w w' := by
  have HV := Go.Lib.hid hv
  clear hv
  have hM_ := Mur.SetF.mem h
  refine calls_of_wp Tryd.func52 rfl ?_
  refine wp_seq ?_
  refine Wk.reg ?_
  refine Wk.rPure 0 (some 2) (.slice none 0 0) rfl rfl (by kernel_rfl) (by kernel_rfl) ?_
  refine Wk.rEnd 1 rfl ?_
  refine Wk.nxt ?_
  refine wp_seq ?_
  refine wp_seq ?_
  refine Wk.reg ?_
  refine Wk.rPure 0 (some 3) (.pointer (some ⟨g, 0, none⟩)) rfl rfl (by kernel_rfl) (by kernel_rfl) ?_
  refine Wk.rPure 1 (some 4) (.bool false) rfl rfl (by kernel_rfl) (by kernel_rfl) ?_
  refine Wk.rEnd 2 rfl ?_
  refine Wk.nxt ?_
  refine wp_cond_false (by kernel_rfl) ?_
  refine wp_skip ?_
  refine Wk.nxt ?_
  refine wp_seq ?_
  refine Wk.reg ?_
  refine Wk.rPure 0 (some 5) (.pointer (some ⟨g, 0, none⟩)) rfl rfl (by kernel_rfl) (by kernel_rfl) ?_
  refine Wk.rCall 1 (some 6) 74 [.tmp 5, .const (.slice none 0 0)] #[24, 38] [.pointer (some ⟨g, 0, none⟩), .slice none 0 0] rfl rfl (by kernel_rfl) rfl (by kernel_rfl) (by kernel_rfl) ?_
  refine (summary_any lo L g F ([]) none 0 0 w HV.out h (Byt.nil _ none) (fun _ => rfl) (by omega)).mono ?_
  rintro _ W1 ⟨dd1, AA1, nn1, nn2, hd1, hdl1, rfl, ow1, ch1⟩
  have zz1 := ch1.size
  have hq1 := ow1.nc
  have hq2 := ow1.cm
  refine ⟨_, rfl, ?_⟩
  refine Wk.rEx 2 (some 7) _ rfl rfl (by kernel_rfl) (Mur.buildR1 67 66 (.tmp 6) rfl Tryd.underlying67 Mur.msgZ 37 104 msgI (Mur.msgC_length rfl) (by decide) (by decide) (Mur.msgC 1 AA1 nn1 nn2 dd1 (((Mur.belowL ([]) L).length : Nat) : Int) none 0 0 false) (Mur.msgC_length hdl1) (by kernel_rfl)) ?_
  rintro _ W2 ⟨rfl, hb1, ch2, sz1⟩
  have zz2 := ch2.size
  refine Wk.rPure 3 (some 2) (.slice (some ⟨W1.heap.size, 0, none⟩) 1 1) rfl rfl (by kernel_rfl) (by kernel_rfl) ?_
  refine Wk.rEnd 4 rfl ?_
  refine Wk.nxt ?_
  refine wp_ret ?_
  have ow2 := Mur.own8 (Wk.own_chg ow1.own ch2 (fun q e _ _ => trivial))
  have kk1 : Wk.Chg [] w W1 := Wk.Chg.step ((Wk.Chg.refl _).more (by simp)) ch1 trivial
  have kk2 := Wk.Chg.step kk1 ch2 trivial
  refine Wk.ret (.slice (some ⟨W1.heap.size, 0, none⟩) 1 1) rfl (by kernel_rfl) ?_
  exact ⟨_, _, _, _, _, hd1, hdl1, rfl, hb1, Mur.own8_low ow2 (by omega), by omega, kk2⟩
end Go.Proofs.YtfhneademopciaaDoor
namespace Mur
open Go Go.RowKit Wk
theorem kA_may : may kA.n := by unfold may kA; decide
theorem hears1 {d : List UInt8} (hd : d = sumL [] []) : repliesM [kA] ⟨1, [], d, (((belowL [] []).length : Nat) : Int), [], false⟩ = [⟨2, [], z32, 0, [kA], false⟩] := by
  subst hd
  have h0 : belowL [] ([] : List Att) = [] := rfl
  have h1 : belowL [] [kA] = [kA] := by decide +kernel
  have hm : mayM ⟨1, [], sumL [] [], (((belowL [] []).length : Nat) : Int), [], false⟩ := mayM_summary (L := []) (p := []) rfl (by simp)
  rw [(replies_sum hm rfl).1, summed_items (by
    rintro ⟨_, h2⟩
    unfold cntL at h2
    rw [h1, h0] at h2
    simp at h2) (.inr (by
    unfold cntL
    rw [h1, h0]
    decide)) (by
    unfold cntL
    rw [h1]
    simp), h1]
  rfl
theorem hears2 {d : List UInt8} (hd : d = sumL [] []) : repliesM [] ⟨1, [], d, (((belowL [] []).length : Nat) : Int), [], false⟩ = [] := by
  subst hd
  have hm : mayM ⟨1, [], sumL [] [], (((belowL [] []).length : Nat) : Int), [], false⟩ := mayM_summary (L := []) (p := []) rfl (by simp)
  exact (replies_sum hm rfl).1.trans (summed_same rfl rfl)
theorem hears3 : repliesM [] ⟨2, [], z32, 0, [kA], false⟩ = [] ∧ learnsM [] ⟨2, [], z32, 0, [kA], false⟩ = [kA] := by
  have hm : mayM ⟨2, [], z32, 0, [kA], false⟩ := ⟨rfl, Int.le_refl _, (show (0 : Int) ≤ 200 by decide), (show 1 ≤ 8 by decide), .inr ⟨rfl, (fun x hx => by
    rw [List.mem_singleton.1 hx]
    exact ⟨kA_may, rfl⟩), List.pairwise_singleton _ _, rfl, rfl⟩⟩
  have h2 := replies_two (L := []) hm (by decide)
  have h0 : belowL [] ([] : List Att) = [] := rfl
  refine ⟨?_, ?_⟩
  · rw [h2.1, h0]
    rfl
  · rw [h2.2]
    simp
theorem byt_chgp {S : List Nat} {w w' : World} {A : Option Addr} {n : Nat} {l : List UInt8} (h : Byt w A n l) (c : Chg S w w') (ho : ∀ g off, A = some ⟨g, off, none⟩ → 0 < n → g < w.heap.size → Off g S) : Byt w' A n l := by
  rcases Nat.eq_zero_or_pos n with h0 | h0
  · subst h0
    exact ⟨h.1, fun h1 => absurd h1 (Nat.lt_irrefl 0)⟩
  · exact byt_chg h c fun g off e hl => ho g off e h0 hl
theorem MsgA.row0 {w : World} {base e n c : Nat} {A : Option Addr} {M : List Msg} (h : MsgA w base e A n c M) {i : Nat} {m : Msg} (hm : M[i]? = some m) : ∃ r g, A = some ⟨g, 0, none⟩ ∧ w.rangeAt g (0 + i * 37) r.C ∧ RawOk w r m ∧ (base ≤ g ∧ g < w.heap.size) ∧ ∀ q, q ∈ r.subs → base ≤ q ∧ q < w.heap.size := by
  obtain ⟨r, g, off, h1, h2, h3, h4, h5⟩ := h.row hm
  obtain ⟨R, k1, k2, _⟩ := h
  have hl := k2.length
  obtain ⟨hi, _⟩ := List.getElem?_eq_some_iff.1 hm
  have hn : 0 < n := by
    have := k1.len
    rw [List.length_map] at this
    omega
  obtain ⟨g', e1, _⟩ := own_some k1.own hn
  rw [h1] at e1
  cases e1
  exact ⟨r, g, h1, h2, h3, h4, h5⟩
end Mur
namespace Go.Proofs.YtfhneademopciaaDoor
open Go.RowKit
open Mur (b8s Byt Own8 Seg Segs flat cutA attC Att SlA OwnA rowA msgC)
set_option maxRecDepth 100000
set_option maxHeartbeats 4000000
theorem known21_any (w : World) (hv : ShaVars w) : Calls Tryd.prog 32 #[] w fun e w' => e = .returned (.bool true) ∧ Wk.Chg [] w w' := by
  have HV := Go.Lib.hid hv
  clear hv
  refine calls_of_wp Tryd.func32 rfl ?_
  refine wp_seq ?_
  refine Wk.reg ?_
  refine Wk.rPure 0 (some 0) (.bool false) rfl rfl (by kernel_rfl) (by kernel_rfl) ?_
  refine Wk.rEnd 1 rfl ?_
  refine Wk.nxt ?_
  refine wp_seq ?_
  refine Wk.reg ?_
  refine Wk.rCall 0 (some 11) 14 [] #[] [] rfl rfl (by kernel_rfl) rfl (by kernel_rfl) (by kernel_rfl) ?_
  refine (New_any w).mono ?_
  rintro _ W1 ⟨FF1, rfl, hD1, ch1⟩
  have hM1 := Mur.SetF.mem hD1
  have zz1 := (hM1 _ (Mur.SetF.self hD1)).2
  have zz2 := ch1.size
  refine ⟨_, rfl, ?_⟩
  refine Wk.rCall 1 (some 12) 14 [] #[] [] rfl rfl (by kernel_rfl) rfl (by kernel_rfl) (by kernel_rfl) ?_
  refine (New_any W1).mono ?_
  rintro _ W2 ⟨FF2, rfl, hD2, ch2⟩
  have hM2 := Mur.SetF.mem hD2
  have zz3 := (hM2 _ (Mur.SetF.self hD2)).2
  have zz4 := ch2.size
  have jj1 : Mur.Dj FF2 FF1 := fun s h1 h2 => by have := hM2 s h1; have := hM1 s h2; omega
  have jj2 : Mur.Dj FF1 FF2 := fun s h1 h2 => jj1 s h2 h1
  refine ⟨_, rfl, ?_⟩
  refine Wk.rPure 2 (some 1) (.pointer (some ⟨w.heap.size, 0, none⟩)) rfl rfl (by kernel_rfl) (by kernel_rfl) ?_
  refine Wk.rPure 3 (some 2) (.pointer (some ⟨W1.heap.size, 0, none⟩)) rfl rfl (by kernel_rfl) (by kernel_rfl) ?_
  refine Wk.rEnd 4 rfl ?_
  refine Wk.nxt ?_
  refine wp_seq ?_
  refine Wk.reg ?_
  refine Wk.rPure 0 (some 13) (.agg ((b8s [63, 0, 0, 0, 0, 0, 0, 0, 0, 0, 0, 0, 0, 0, 0, 0, 0, 0, 0, 0, 0, 0, 0, 0, 0, 0, 0, 0, 0, 0, 0, 0]).toArray)) rfl rfl (by kernel_rfl) (by kernel_rfl) ?_
  refine Wk.rPure 1 (some 14) (.agg ((Mur.attC ([63, 0, 0, 0, 0, 0, 0, 0, 0, 0, 0, 0, 0, 0, 0, 0, 0, 0, 0, 0, 0, 0, 0, 0, 0, 0, 0, 0, 0, 0, 0, 0]) Mur.z32 1 Mur.z32).toArray)) rfl rfl (by kernel_rfl) (Mur.run_built 32 _ rfl [(0, .agg ((b8s [63, 0, 0, 0, 0, 0, 0, 0, 0, 0, 0, 0, 0, 0, 0, 0, 0, 0, 0, 0, 0, 0, 0, 0, 0, 0, 0, 0, 0, 0, 0, 0]).toArray)), (2, .int .i64 1)] (by kernel_rfl) _ (built2 rfl)) ?_
  refine Wk.rEx 2 (some 3) _ rfl rfl (by kernel_rfl) (Wk.new_ex (.pointer (some ⟨W2.heap.size, 0, none⟩)) #[.int .u8 0, .int .u8 0, .int .u8 0, .int .u8 0, .int .u8 0, .int .u8 0, .int .u8 0, .int .u8 0, .int .u8 0, .int .u8 0, .int .u8 0, .int .u8 0, .int .u8 0, .int .u8 0, .int .u8 0, .int .u8 0, .int .u8 0, .int .u8 0, .int .u8 0, .int .u8 0, .int .u8 0, .int .u8 0, .int .u8 0, .int .u8 0, .int .u8 0, .int .u8 0, .int .u8 0, .int .u8 0, .int .u8 0, .int .u8 0, .int .u8 0, .int .u8 0, .int .u8 0, .int .u8 0, .int .u8 0, .int .u8 0, .int .u8 0, .int .u8 0, .int .u8 0, .int .u8 0, .int .u8 0, .int .u8 0, .int .u8 0, .int .u8 0, .int .u8 0, .int .u8 0, .int .u8 0, .int .u8 0, .int .u8 0, .int .u8 0, .int .u8 0, .int .u8 0, .int .u8 0, .int .u8 0, .int .u8 0, .int .u8 0, .int .u8 0, .int .u8 0, .int .u8 0, .int .u8 0, .int .u8 0, .int .u8 0, .int .u8 0, .int .u8 0, .int .i64 0, .int .u8 0, .int .u8 0, .int .u8 0, .int .u8 0, .int .u8 0, .int .u8 0, .int .u8 0, .int .u8 0, .int .u8 0, .int .u8 0, .int .u8 0, .int .u8 0, .int .u8 0, .int .u8 0, .int .u8 0, .int .u8 0, .int .u8 0, .int .u8 0, .int .u8 0, .int .u8 0, .int .u8 0, .int .u8 0, .int .u8 0, .int .u8 0, .int .u8 0, .int .u8 0, .int .u8 0, .int .u8 0, .int .u8 0, .int .u8 0, .int .u8 0, .int .u8 0] 32 (by kernel_rfl)) ?_
  rintro _ W3 ⟨rfl, hb1, ch3, sz1⟩
  have zz5 := ch3.size
  rw [← Mur.attC_zero] at hb1
  refine Wk.rExS 3 none _ rfl rfl (by kernel_rfl) (Mur.storeArr 32 (.tmp 3) (.tmp 14) rfl W2.heap.size (by kernel_rfl) (Mur.attC ([63, 0, 0, 0, 0, 0, 0, 0, 0, 0, 0, 0, 0, 0, 0, 0, 0, 0, 0, 0, 0, 0, 0, 0, 0, 0, 0, 0, 0, 0, 0, 0]) Mur.z32 1 Mur.z32).toArray 97 (Mur.attC_size rfl rfl rfl) Mur.attC_all (by kernel_rfl) (by kernel_rfl) 32 ((Mur.attC Mur.z32 Mur.z32 0 Mur.z32).toArray) hb1 (Mur.attC_size rfl rfl rfl)) ?_
  rintro W4 ⟨hb2, ch4⟩
  have zz6 := ch4.size
  refine Wk.rEnd 4 rfl ?_
  refine Wk.nxt ?_
  refine wp_seq ?_
  refine wp_seq ?_
  refine Wk.reg ?_
  refine Wk.rPure 0 (some 15) (.pointer (some ⟨w.heap.size, 0, none⟩)) rfl rfl (by kernel_rfl) (by kernel_rfl) ?_
  refine Wk.rPure 1 (some 16) (.bool false) rfl rfl (by kernel_rfl) (by kernel_rfl) ?_
  refine Wk.rPure 2 (some 17) (.bool false) rfl rfl (by kernel_rfl) (by kernel_rfl) ?_
  refine Wk.rPure 3 (some 18) (.pointer (some ⟨W1.heap.size, 0, none⟩)) rfl rfl (by kernel_rfl) (by kernel_rfl) ?_
  refine Wk.rPure 4 (some 19) (.bool false) rfl rfl (by kernel_rfl) (by kernel_rfl) ?_
  refine Wk.rPure 5 (some 20) (.bool false) rfl rfl (by kernel_rfl) (by kernel_rfl) ?_
  refine Wk.rPure 6 (some 21) (.bool false) rfl rfl (by kernel_rfl) (by kernel_rfl) ?_
  refine Wk.rPure 7 (some 22) (.pointer (some ⟨w.heap.size, 0, none⟩)) rfl rfl (by kernel_rfl) (by kernel_rfl) ?_
  refine Wk.rPure 8 (some 23) (.agg ((Mur.attC ([63, 0, 0, 0, 0, 0, 0, 0, 0, 0, 0, 0, 0, 0, 0, 0, 0, 0, 0, 0, 0, 0, 0, 0, 0, 0, 0, 0, 0, 0, 0, 0]) Mur.z32 1 Mur.z32).toArray)) rfl rfl (by kernel_rfl) (Mur.loadArr 32 (.tmp 3) rfl _ Tryd.underlying32 rfl W2.heap.size (by kernel_rfl) (Mur.attC ([63, 0, 0, 0, 0, 0, 0, 0, 0, 0, 0, 0, 0, 0, 0, 0, 0, 0, 0, 0, 0, 0, 0, 0, 0, 0, 0, 0, 0, 0, 0, 0]) Mur.z32 1 Mur.z32).toArray 97 (Mur.attC_size rfl rfl rfl) (by kernel_rfl) 32 (0, 0) hb2) ?_
  refine Wk.rCall 9 (some 24) 15 [.tmp 22, .tmp 23] #[24, 32] [.pointer (some ⟨w.heap.size, 0, none⟩), .agg ((Mur.attC ([63, 0, 0, 0, 0, 0, 0, 0, 0, 0, 0, 0, 0, 0, 0, 0, 0, 0, 0, 0, 0, 0, 0, 0, 0, 0, 0, 0, 0, 0, 0, 0]) Mur.z32 1 Mur.z32).toArray)] rfl rfl (by kernel_rfl) rfl (by kernel_rfl) (by kernel_rfl) ?_
  have hD3 := Mur.SetF.chg hD1 ch2 (fun s hs => trivial)
  have hD4 := Mur.SetF.chg hD3 ch3 (fun s hs => trivial)
  have hD5 := Mur.SetF.chg hD4 ch4 (fun s hs => ⟨by have := hM1 s hs; omega, trivial⟩)
  have hD6 := Mur.SetF.chg hD2 ch3 (fun s hs => trivial)
  have hD7 := Mur.SetF.chg hD6 ch4 (fun s hs => ⟨by have := hM2 s hs; omega, trivial⟩)
  refine (Add_any w.heap.size ([]) w.heap.size FF1 Mur.kA W4 hD5).mono ?_
  rw [Mur.kA_add]
  dsimp only
  rintro _ W5 ⟨FF3, rfl, hD8, ch5, no1⟩
  have hM3 := Mur.SetF.mem hD8
  have zz7 := ch5.size
  have hD9 := Mur.SetF.chg hD7 ch5 (fun s hs => Mur.Dj.off1 jj2 hs)
  have jj3 : Mur.Dj FF3 FF2 := fun s hs ht => by
    rcases Mur.newOr_iff.1 no1 s hs with h1 | h1
    · exact jj2 s h1 ht
    · have := hM2 s ht; omega
  have jj4 : Mur.Dj FF2 FF3 := fun s hs ht => jj3 s ht hs
  refine ⟨_, rfl, ?_⟩
  refine Wk.rPure 10 (some 25) (.bool false) rfl rfl (by kernel_rfl) (Wk.boolF (b := ((0 : Int) != (0 : Int))) (bne_eq_false_iff_eq.2 (by decide)) (by kernel_rfl)) ?_
  refine Wk.rPure 11 (some 26) (.bool false) rfl rfl (by kernel_rfl) (by kernel_rfl) ?_
  refine Wk.rEnd 12 rfl ?_
  refine Wk.nxt ?_
  refine wp_cond_false (by kernel_rfl) ?_
  refine wp_skip ?_
  refine Wk.nxt ?_
  refine wp_seq ?_
  refine Wk.reg ?_
  refine Wk.rPure 0 (some 27) (.pointer (some ⟨W1.heap.size, 0, none⟩)) rfl rfl (by kernel_rfl) (by kernel_rfl) ?_
  refine Wk.rCall 1 (some 28) 52 [.tmp 27] #[24] [.pointer (some ⟨W1.heap.size, 0, none⟩)] rfl rfl (by kernel_rfl) rfl (by kernel_rfl) (by kernel_rfl) ?_
  have kk1 : Wk.Chg [] w W1 := Wk.Chg.step ((Wk.Chg.refl _).more (by simp)) ch1 trivial
  have kk2 := Wk.Chg.step kk1 ch2 trivial
  have kk3 := Wk.Chg.step kk2 ch3 trivial
  have kk4 := Wk.Chg.step kk3 ch4 ⟨.inr (by omega), trivial⟩
  have kk5 := Wk.Chg.step kk4 ch5 (Mur.newOr_iff.2 (fun t ht => .inr (by have := hM1 t ht; omega)))
  refine (Start_any W1.heap.size ([]) W1.heap.size FF2 W5 (HV.out.below (Wk.Chg.below0 kk5)) hD9).mono ?_
  rintro _ W6 ⟨gq1, dd1, AA1, nn1, nn2, hd1, hdl1, rfl, hb3, ow1, hq1, ch6⟩
  have zz8 := ch6.size
  have hq2 := (Array.getElem?_eq_some_iff.1 hb3).1
  have hq3 : nn1 = 0 := ow1.byt.1.symm
  have hq4 := ow1.nc
  have hq5 := ow1.cm
  refine ⟨_, rfl, ?_⟩
  refine Wk.rPure 2 (some 4) (.slice (some ⟨gq1, 0, none⟩) 1 1) rfl rfl (by kernel_rfl) (by kernel_rfl) ?_
  refine Wk.rEnd 3 rfl ?_
  refine Wk.nxt ?_
  refine wp_seq ?_
  refine wp_seq ?_
  refine Wk.reg ?_
  refine Wk.rPure 0 (some 29) (.slice (some ⟨gq1, 0, none⟩) 1 1) rfl rfl (by kernel_rfl) (by kernel_rfl) ?_
  refine Wk.rPure 1 (some 30) (.int .i64 1) rfl rfl (by kernel_rfl) (by kernel_rfl) ?_
  refine Wk.rPure 2 (some 31) (.bool false) rfl rfl (by kernel_rfl) (Wk.boolF (b := ((1 : Int) != (1 : Int))) (bne_eq_false_iff_eq.2 (by decide)) (by kernel_rfl)) ?_
  refine Wk.rEnd 3 rfl ?_
  refine Wk.nxt ?_
  refine wp_cond_false (by kernel_rfl) ?_
  refine wp_skip ?_
  refine Wk.nxt ?_
  refine wp_seq ?_
  refine Wk.reg ?_
  refine Wk.rPure 0 (some 33) (.pointer (some ⟨w.heap.size, 0, none⟩)) rfl rfl (by kernel_rfl) (by kernel_rfl) ?_
  refine Wk.rPure 1 (some 34) (.slice (some ⟨gq1, 0, none⟩) 1 1) rfl rfl (by kernel_rfl) (by kernel_rfl) ?_
  refine Wk.rPure 2 (some 35) (.pointer (some ⟨gq1, 0, none⟩)) rfl rfl (by kernel_rfl) (Wk.index_sl 67 66 (.tmp 34) (.const (.int .i64 0)) rfl Tryd.underlying67 37 (by kernel_rfl) gq1 0 1 1 0 .i64 (by kernel_rfl) (by kernel_rfl) (by omega)) ?_
  refine Wk.rPure 3 (some 36) (.agg ((Mur.msgC 1 AA1 nn1 nn2 dd1 (((Mur.belowL [] ([])).length : Nat) : Int) none 0 0 false).toArray)) rfl rfl (by kernel_rfl) (Mur.loadArr 66 (.tmp 35) rfl _ Tryd.underlying66 rfl gq1 (by kernel_rfl) (Mur.msgC 1 AA1 nn1 nn2 dd1 (((Mur.belowL [] ([])).length : Nat) : Int) none 0 0 false).toArray 37 (Mur.msgC_size hdl1) (by kernel_rfl) 66 (0, 0) hb3) ?_
  refine Wk.rCall 4 (some 37) 36 [.tmp 33, .tmp 36] #[24, 66] [.pointer (some ⟨w.heap.size, 0, none⟩), .agg ((Mur.msgC 1 AA1 nn1 nn2 dd1 (((Mur.belowL [] ([])).length : Nat) : Int) none 0 0 false).toArray)] rfl rfl (by kernel_rfl) rfl (by kernel_rfl) (by kernel_rfl) ?_
  have hD10 := Mur.SetF.chg hD8 ch6 (fun s hs => trivial)
  have kk6 := Wk.Chg.step kk5 ch6 trivial
  refine (Hear_any w.heap.size ([Mur.kA]) w.heap.size FF3 1 ([]) AA1 nn1 nn2 dd1 (((Mur.belowL [] ([])).length : Nat) : Int) ([]) none 0 0 false W6 (HV.out.below (Wk.Chg.below0 kk6)) hD10 hdl1 ow1.byt ow1.nil (Mur.SlA.nil _ none) (by omega) (by omega)).mono ?_
  rintro _ W7 ⟨AA2, nn3, nn4, AA3, nn5, nn6, rfl, ow2, ow3, ch7⟩
  have zz9 := ch7.size
  have hq6 : nn3 ≤ 9223372036854775807 := Nat.le_trans ow2.nc (Nat.le_trans ow2.cm (by unfold Go.maxLen; omega))
  have hq7 : nn5 ≤ 9223372036854775807 := Nat.le_trans ow3.nc (Nat.le_trans ow3.cm (by unfold Go.maxLen; omega))
  rw [Mur.hears1 hd1.out] at ow2
  have hq8 := ow2.nc
  have hq9 := ow2.cm
  have hq10 := ow2.len
  have hq11 := ow3.nc
  have hq12 := ow3.cm
  have hq13 := ow3.sl.len
  have hnl1 : nn3 = 1 := ow2.len.symm
  subst hnl1
  refine ⟨_, rfl, ?_⟩
  refine Wk.rPure 5 (some 32) (.tuple #[.slice AA2 1 nn4, .slice AA3 nn5 nn6]) rfl rfl (by kernel_rfl) (by kernel_rfl) ?_
  refine Wk.rPure 6 (some 38) (.slice AA2 1 nn4) rfl rfl (by kernel_rfl) (by kernel_rfl) ?_
  refine Wk.rPure 7 (some 39) (.slice AA3 nn5 nn6) rfl rfl (by kernel_rfl) (by kernel_rfl) ?_
  refine Wk.rPure 8 (some 5) (.slice AA2 1 nn4) rfl rfl (by kernel_rfl) (by kernel_rfl) ?_
  refine Wk.rPure 9 (some 6) (.slice AA3 nn5 nn6) rfl rfl (by kernel_rfl) (by kernel_rfl) ?_
  refine Wk.rEnd 10 rfl ?_
  refine Wk.nxt ?_
  refine wp_seq ?_
  refine Wk.reg ?_
  refine Wk.rPure 0 (some 41) (.pointer (some ⟨W1.heap.size, 0, none⟩)) rfl rfl (by kernel_rfl) (by kernel_rfl) ?_
  refine Wk.rPure 1 (some 42) (.slice (some ⟨gq1, 0, none⟩) 1 1) rfl rfl (by kernel_rfl) (by kernel_rfl) ?_
  refine Wk.rPure 2 (some 43) (.pointer (some ⟨gq1, 0, none⟩)) rfl rfl (by kernel_rfl) (Wk.index_sl 67 66 (.tmp 42) (.const (.int .i64 0)) rfl Tryd.underlying67 37 (by kernel_rfl) gq1 0 1 1 0 .i64 (by kernel_rfl) (by kernel_rfl) (by omega)) ?_
  refine Wk.rPure 3 (some 44) (.agg ((Mur.msgC 1 AA1 nn1 nn2 dd1 (((Mur.belowL [] ([])).length : Nat) : Int) none 0 0 false).toArray)) rfl rfl (by kernel_rfl) (Mur.loadArr 66 (.tmp 43) rfl _ Tryd.underlying66 rfl gq1 (by kernel_rfl) (Mur.msgC 1 AA1 nn1 nn2 dd1 (((Mur.belowL [] ([])).length : Nat) : Int) none 0 0 false).toArray 37 (Mur.msgC_size hdl1) (by kernel_rfl) 66 (0, 0) (Wk.Chg.hp ch7 hb3 trivial)) ?_
  refine Wk.rCall 4 (some 45) 36 [.tmp 41, .tmp 44] #[24, 66] [.pointer (some ⟨W1.heap.size, 0, none⟩), .agg ((Mur.msgC 1 AA1 nn1 nn2 dd1 (((Mur.belowL [] ([])).length : Nat) : Int) none 0 0 false).toArray)] rfl rfl (by kernel_rfl) rfl (by kernel_rfl) (by kernel_rfl) ?_
  have hD11 := Mur.SetF.chg hD9 ch6 (fun s hs => trivial)
  have hD12 := Mur.SetF.chg hD11 ch7 (fun s hs => trivial)
  have ow4 := Mur.own8 (Wk.own_chg ow1.own ch7 (fun q e _ _ => trivial))
  have kk7 := Wk.Chg.step kk6 ch7 trivial
  refine (Hear_any W1.heap.size ([]) W1.heap.size FF2 1 ([]) AA1 nn1 nn2 dd1 (((Mur.belowL [] ([])).length : Nat) : Int) ([]) none 0 0 false W7 (HV.out.below (Wk.Chg.below0 kk7)) hD12 hdl1 ow4.byt ow4.nil (Mur.SlA.nil _ none) (by omega) (by omega)).mono ?_
  rintro _ W8 ⟨AA4, nn7, nn8, AA5, nn9, nn10, rfl, ow5, ow6, ch8⟩
  have zz10 := ch8.size
  have hq14 : nn7 ≤ 9223372036854775807 := Nat.le_trans ow5.nc (Nat.le_trans ow5.cm (by unfold Go.maxLen; omega))
  have hq15 : nn9 ≤ 9223372036854775807 := Nat.le_trans ow6.nc (Nat.le_trans ow6.cm (by unfold Go.maxLen; omega))
  rw [Mur.hears2 hd1.out] at ow5
  have hq16 := ow5.nc
  have hq17 := ow5.cm
  have hq18 := ow5.len
  have hq19 := ow6.nc
  have hq20 := ow6.cm
  have hq21 := ow6.sl.len
  have hnl2 : nn7 = 0 := ow5.len.symm
  subst hnl2
  refine ⟨_, rfl, ?_⟩
  refine Wk.rPure 5 (some 40) (.tuple #[.slice AA4 0 nn8, .slice AA5 nn9 nn10]) rfl rfl (by kernel_rfl) (by kernel_rfl) ?_
  refine Wk.rPure 6 (some 46) (.slice AA4 0 nn8) rfl rfl (by kernel_rfl) (by kernel_rfl) ?_
  refine Wk.rPure 7 (some 47) (.slice AA5 nn9 nn10) rfl rfl (by kernel_rfl) (by kernel_rfl) ?_
  refine Wk.rPure 8 (some 7) (.slice AA4 0 nn8) rfl rfl (by kernel_rfl) (by kernel_rfl) ?_
  refine Wk.rPure 9 (some 8) (.slice AA5 nn9 nn10) rfl rfl (by kernel_rfl) (by kernel_rfl) ?_
  refine Wk.rEnd 10 rfl ?_
  refine Wk.nxt ?_
  refine wp_seq ?_
  refine wp_seq ?_
  refine Wk.reg ?_
  have ow7 := (Mur.MsgA.chg ow2 ch8 (fun _ _ _ _ => trivial))
  obtain ⟨⟨kd1, PA1, np1, cp1, sm_, cn_, QA1, nq1, cq1, an_, hsm1⟩, gm1, hA1, hrg1, ⟨rfl, rfl, rfl, rfl, hby1, hsl1, hnp1, hnq1, hac1, hpc1⟩, hgb1, hsb1⟩ := Mur.MsgA.row0 ow7 (show [(⟨2, [], Mur.z32, 0, [Mur.kA], false⟩ : Mur.Msg)][0]? = some ⟨2, [], Mur.z32, 0, [Mur.kA], false⟩ from rfl)
  replace hsm1 : (Mur.z32).length = 32 := hsm1
  replace hrg1 : W8.rangeAt gm1 (0) (msgC 2 PA1 np1 cp1 Mur.z32 0 QA1 nq1 cq1 false) := hrg1
  replace hby1 : Byt W8 PA1 np1 ([]) := hby1
  replace hsl1 : SlA W8 QA1 nq1 ([Mur.kA]) := hsl1
  replace hnp1 : PA1 = none → cp1 = 0 := hnp1
  replace hac1 : nq1 ≤ cq1 ∧ cq1 ≤ 9223372036854775807 := hac1
  replace hpc1 : np1 ≤ cp1 ∧ cp1 ≤ 9223372036854775807 := hpc1
  have hlp1 : ∀ g_ off_, PA1 = some ⟨g_, off_, none⟩ → 0 < np1 → W6.heap.size ≤ g_ ∧ g_ < W8.heap.size := fun g_ off_ e_ hn_ => hsb1 g_ (List.mem_append_left _ (Mur.pblk_mem e_ hn_))
  have hlq1 : ∀ g_ off_, QA1 = some ⟨g_, off_, none⟩ → 0 < nq1 → W6.heap.size ≤ g_ ∧ g_ < W8.heap.size := fun g_ off_ e_ hn_ => hsb1 g_ (List.mem_append_right _ (Mur.pblk_mem e_ hn_))
  have hpl1 : np1 = 0 := hby1.1.symm
  have hil1 : nq1 = 1 := hsl1.len.symm
  subst hil1
  subst hA1
  refine Wk.rPure 0 (some 48) (.slice (some ⟨gm1, 0, none⟩) 1 nn4) rfl rfl (by kernel_rfl) (by kernel_rfl) ?_
  refine Wk.rPure 1 (some 49) (.int .i64 1) rfl rfl (by kernel_rfl) (by kernel_rfl) ?_
  refine Wk.rPure 2 (some 50) (.bool false) rfl rfl (by kernel_rfl) (Wk.boolF (b := ((1 : Int) != (1 : Int))) (bne_eq_false_iff_eq.2 (by decide)) (by kernel_rfl)) ?_
  refine Wk.rPure 3 (some 51) (.bool false) rfl rfl (by kernel_rfl) (by kernel_rfl) ?_
  refine Wk.rPure 4 (some 52) (.slice (some ⟨gm1, 0, none⟩) 1 nn4) rfl rfl (by kernel_rfl) (by kernel_rfl) ?_
  refine Wk.rPure 5 (some 53) (.pointer (some ⟨gm1, 0, none⟩)) rfl rfl (by kernel_rfl) (Wk.index_sl 67 66 (.tmp 52) (.const (.int .i64 0)) rfl Tryd.underlying67 37 (by kernel_rfl) gm1 0 1 nn4 0 .i64 (by kernel_rfl) (by kernel_rfl) (by omega)) ?_
  refine Wk.rPure 6 (some 54) (.pointer (some ⟨gm1, 0, none⟩)) rfl rfl (by kernel_rfl) (by kernel_rfl) ?_
  refine Wk.rPure 7 (some 55) (.int .u8 2) rfl rfl (by kernel_rfl) (Wk.load1 5 (.tmp 54) rfl (by kernel_rfl) ⟨gm1, 0, none⟩ (by kernel_rfl) (.int .u8 2) (Mur.msg_kind hrg1)) ?_
  refine Wk.rPure 8 (some 56) (.bool false) rfl rfl (by kernel_rfl) (Wk.boolF (b := ((2 : Int) != (2 : Int))) (bne_eq_false_iff_eq.2 (by decide)) (by kernel_rfl)) ?_
  refine Wk.rPure 9 (some 57) (.bool false) rfl rfl (by kernel_rfl) (by kernel_rfl) ?_
  refine Wk.rPure 10 (some 58) (.bool false) rfl rfl (by kernel_rfl) (by kernel_rfl) ?_
  refine Wk.rPure 11 (some 59) (.slice (some ⟨gm1, 0, none⟩) 1 nn4) rfl rfl (by kernel_rfl) (by kernel_rfl) ?_
  refine Wk.rPure 12 (some 60) (.pointer (some ⟨gm1, 0, none⟩)) rfl rfl (by kernel_rfl) (Wk.index_sl 67 66 (.tmp 59) (.const (.int .i64 0)) rfl Tryd.underlying67 37 (by kernel_rfl) gm1 0 1 nn4 0 .i64 (by kernel_rfl) (by kernel_rfl) (by omega)) ?_
  refine Wk.rPure 13 (some 61) (.pointer (some ⟨gm1, 35, none⟩)) rfl rfl (by kernel_rfl) (by kernel_rfl) ?_
  refine Wk.rPure 14 (some 62) (.slice QA1 1 cq1) rfl rfl (by kernel_rfl) (Wk.load1 22 (.tmp 61) rfl (by kernel_rfl) ⟨gm1, 35, none⟩ (by kernel_rfl) (.slice QA1 1 cq1) (Mur.msg_items rfl hrg1)) ?_
  refine Wk.rPure 15 (some 63) (.int .i64 1) rfl rfl (by kernel_rfl) (by kernel_rfl) ?_
  refine Wk.rPure 16 (some 64) (.bool false) rfl rfl (by kernel_rfl) (Wk.boolF (b := ((1 : Int) != (1 : Int))) (bne_eq_false_iff_eq.2 (by decide)) (by kernel_rfl)) ?_
  refine Wk.rPure 17 (some 65) (.bool false) rfl rfl (by kernel_rfl) (by kernel_rfl) ?_
  refine Wk.rPure 18 (some 66) (.bool false) rfl rfl (by kernel_rfl) (by kernel_rfl) ?_
  refine Wk.rPure 19 (some 67) (.slice AA4 0 nn8) rfl rfl (by kernel_rfl) (by kernel_rfl) ?_
  refine Wk.rPure 20 (some 68) (.int .i64 0) rfl rfl (by kernel_rfl) (by kernel_rfl) ?_
  refine Wk.rPure 21 (some 69) (.bool false) rfl rfl (by kernel_rfl) (Wk.boolF (b := ((0 : Int) != (0 : Int))) (bne_eq_false_iff_eq.2 (by decide)) (by kernel_rfl)) ?_
  refine Wk.rPure 22 (some 70) (.bool false) rfl rfl (by kernel_rfl) (by kernel_rfl) ?_
  refine Wk.rEnd 23 rfl ?_
  refine Wk.nxt ?_
  refine wp_cond_false (by kernel_rfl) ?_
  refine wp_skip ?_
  refine Wk.nxt ?_
  refine wp_seq ?_
  refine Wk.reg ?_
  refine Wk.rPure 0 (some 72) (.pointer (some ⟨W1.heap.size, 0, none⟩)) rfl rfl (by kernel_rfl) (by kernel_rfl) ?_
  refine Wk.rPure 1 (some 73) (.slice (some ⟨gm1, 0, none⟩) 1 nn4) rfl rfl (by kernel_rfl) (by kernel_rfl) ?_
  refine Wk.rPure 2 (some 74) (.pointer (some ⟨gm1, 0, none⟩)) rfl rfl (by kernel_rfl) (Wk.index_sl 67 66 (.tmp 73) (.const (.int .i64 0)) rfl Tryd.underlying67 37 (by kernel_rfl) gm1 0 1 nn4 0 .i64 (by kernel_rfl) (by kernel_rfl) (by omega)) ?_
  refine Wk.rPure 3 (some 75) (.agg ((Mur.msgC 2 PA1 np1 cp1 Mur.z32 0 QA1 1 cq1 false).toArray)) rfl rfl (by kernel_rfl) (Wk.loadR 66 (.tmp 74) rfl _ Tryd.underlying66 rfl gm1 0 (by kernel_rfl) (Mur.msgC 2 PA1 np1 cp1 Mur.z32 0 QA1 1 cq1 false) (by rw [Mur.msgC_length rfl]; kernel_rfl) hrg1) ?_
  refine Wk.rCall 4 (some 76) 36 [.tmp 72, .tmp 75] #[24, 66] [.pointer (some ⟨W1.heap.size, 0, none⟩), .agg ((Mur.msgC 2 PA1 np1 cp1 Mur.z32 0 QA1 1 cq1 false).toArray)] rfl rfl (by kernel_rfl) rfl (by kernel_rfl) (by kernel_rfl) ?_
  have hD13 := Mur.SetF.chg hD12 ch8 (fun s hs => trivial)
  have kk8 := Wk.Chg.step kk7 ch8 trivial
  refine (Hear_any W1.heap.size ([]) W1.heap.size FF2 2 ([]) PA1 np1 cp1 Mur.z32 0 ([Mur.kA]) QA1 1 cq1 false W8 (HV.out.below (Wk.Chg.below0 kk8)) hD13 rfl hby1 hnp1 hsl1 (by omega) (by omega)).mono ?_
  rintro _ W10 ⟨AA6, nn11, nn12, AA7, nn13, nn14, rfl, ow8, ow9, ch9⟩
  have zz11 := ch9.size
  have hq22 : nn11 ≤ 9223372036854775807 := Nat.le_trans ow8.nc (Nat.le_trans ow8.cm (by unfold Go.maxLen; omega))
  have hq23 : nn13 ≤ 9223372036854775807 := Nat.le_trans ow9.nc (Nat.le_trans ow9.cm (by unfold Go.maxLen; omega))
  rw [Mur.hears3.1] at ow8
  rw [Mur.hears3.2] at ow9
  have hq24 := ow8.nc
  have hq25 := ow8.cm
  have hq26 := ow8.len
  have hq27 := ow9.nc
  have hq28 := ow9.cm
  have hq29 := ow9.sl.len
  have hnl3 : nn11 = 0 := ow8.len.symm
  subst hnl3
  have hnl4 : nn13 = 1 := ow9.sl.len.symm
  subst hnl4
  refine ⟨_, rfl, ?_⟩
  refine Wk.rPure 5 (some 71) (.tuple #[.slice AA6 0 nn12, .slice AA7 1 nn14]) rfl rfl (by kernel_rfl) (by kernel_rfl) ?_
  obtain ⟨gm2, rfl, _, _⟩ := ow9.ex (by omega)
  refine Wk.rPure 6 (some 77) (.slice AA6 0 nn12) rfl rfl (by kernel_rfl) (by kernel_rfl) ?_
  refine Wk.rPure 7 (some 78) (.slice (some ⟨gm2, 0, none⟩) 1 nn14) rfl rfl (by kernel_rfl) (by kernel_rfl) ?_
  refine Wk.rPure 8 (some 9) (.slice AA6 0 nn12) rfl rfl (by kernel_rfl) (by kernel_rfl) ?_
  refine Wk.rPure 9 (some 10) (.slice (some ⟨gm2, 0, none⟩) 1 nn14) rfl rfl (by kernel_rfl) (by kernel_rfl) ?_
  refine Wk.rEnd 10 rfl ?_
  refine Wk.nxt ?_
  refine wp_seq ?_
  refine Wk.dReg ([]) (by kernel_rfl) ?_
  intro W11 ch10 sz2
  have zz12 := ch10.size
  have sS1 : Wk.Chg ([]) W11 W11 := (Wk.Chg.refl _).more (by simp)
  refine Wk.dVal 0 (some 79) (.slice AA6 0 nn12) rfl rfl (by kernel_rfl) (by kernel_rfl) (by kernel_rfl) (fun _ _ _ h => h) (by kernel_rfl) (fun w' hw' => by kernel_rfl) sS1 ?_
  refine Wk.dVal 1 (some 80) (.int .i64 0) rfl rfl (by kernel_rfl) (by kernel_rfl) (by kernel_rfl) (fun _ _ _ h => h) (by kernel_rfl) (fun w' hw' => by kernel_rfl) sS1 ?_
  refine Wk.dVal 2 (some 81) (.bool true) rfl rfl (by kernel_rfl) (by kernel_rfl) (by kernel_rfl) (fun _ _ _ h => h) (by kernel_rfl) (fun w' hw' => (Wk.boolT (b := ((0 : Int) == (0 : Int))) (beq_iff_eq.2 (by decide)) (by kernel_rfl))) sS1 ?_
  refine Wk.dVal 3 (some 82) (.bool true) rfl rfl (by kernel_rfl) (by kernel_rfl) (by kernel_rfl) (fun _ _ _ h => h) (by kernel_rfl) (fun w' hw' => by kernel_rfl) sS1 ?_
  refine Wk.dVal 4 (some 83) (.slice (some ⟨gm2, 0, none⟩) 1 nn14) rfl rfl (by kernel_rfl) (by kernel_rfl) (by kernel_rfl) (fun _ _ _ h => h) (by kernel_rfl) (fun w' hw' => by kernel_rfl) sS1 ?_
  refine Wk.dVal 5 (some 84) (.int .i64 1) rfl rfl (by kernel_rfl) (by kernel_rfl) (by kernel_rfl) (fun _ _ _ h => h) (by kernel_rfl) (fun w' hw' => by kernel_rfl) sS1 ?_
  refine Wk.dVal 6 (some 85) (.bool true) rfl rfl (by kernel_rfl) (by kernel_rfl) (by kernel_rfl) (fun _ _ _ h => h) (by kernel_rfl) (fun w' hw' => (Wk.boolT (b := ((1 : Int) == (1 : Int))) (beq_iff_eq.2 (by decide)) (by kernel_rfl))) sS1 ?_
  refine Wk.dVal 7 (some 86) (.bool true) rfl rfl (by kernel_rfl) (by kernel_rfl) (by kernel_rfl) (fun _ _ _ h => h) (by kernel_rfl) (fun w' hw' => by kernel_rfl) sS1 ?_
  refine Wk.dVal 8 (some 87) (.bool true) rfl rfl (by kernel_rfl) (by kernel_rfl) (by kernel_rfl) (fun _ _ _ h => h) (by kernel_rfl) (fun w' hw' => by kernel_rfl) sS1 ?_
  refine Wk.dVal 9 (some 88) (.slice (some ⟨gm2, 0, none⟩) 1 nn14) rfl rfl (by kernel_rfl) (by kernel_rfl) (by kernel_rfl) (fun _ _ _ h => h) (by kernel_rfl) (fun w' hw' => by kernel_rfl) sS1 ?_
  refine Wk.dVal 10 (some 89) (.pointer (some ⟨gm2, 0, none⟩)) rfl rfl (by kernel_rfl) (by kernel_rfl) (by kernel_rfl) (fun _ _ _ h => h) (by kernel_rfl) (fun w' hw' => (Wk.index_sl 22 32 (.tmp 88) (.const (.int .i64 0)) rfl Tryd.underlying22 97 (by kernel_rfl) gm2 0 1 nn14 0 .i64 (by kernel_rfl) (by kernel_rfl) (by omega))) sS1 ?_
  refine Wk.dVal 11 (some 90) (.agg ((Mur.attC Mur.kA.k Mur.kA.r Mur.kA.n Mur.kA.t).toArray)) rfl rfl (by kernel_rfl) (by kernel_rfl) (by kernel_rfl) (fun _ _ _ h => h) (by kernel_rfl) (fun w' hw' => (Wk.loadR 32 (.tmp 89) rfl _ Tryd.underlying32 rfl gm2 0 (by kernel_rfl) (Mur.attC Mur.kA.k Mur.kA.r Mur.kA.n Mur.kA.t) (by rw [Mur.attC_length Mur.kA.hk Mur.kA.hr Mur.kA.ht]; kernel_rfl) ((Mur.SlA.chg (Mur.SlA.chg ow9.sl ch10 (fun g off e hl => trivial)) hw' (fun g off e hl => trivial)).elem (show [Mur.kA][0]? = some Mur.kA from rfl)))) sS1 ?_
  refine Wk.dVal 12 (some 91) (.agg ((Mur.attC ([63, 0, 0, 0, 0, 0, 0, 0, 0, 0, 0, 0, 0, 0, 0, 0, 0, 0, 0, 0, 0, 0, 0, 0, 0, 0, 0, 0, 0, 0, 0, 0]) Mur.z32 1 Mur.z32).toArray)) rfl rfl (by kernel_rfl) (by kernel_rfl) (by kernel_rfl) (fun _ _ _ h => h) (by kernel_rfl) (fun w' hw' => (Mur.loadArr 32 (.tmp 3) rfl _ Tryd.underlying32 rfl W2.heap.size (by kernel_rfl) (Mur.attC ([63, 0, 0, 0, 0, 0, 0, 0, 0, 0, 0, 0, 0, 0, 0, 0, 0, 0, 0, 0, 0, 0, 0, 0, 0, 0, 0, 0, 0, 0, 0, 0]) Mur.z32 1 Mur.z32).toArray 97 (Mur.attC_size rfl rfl rfl) (by kernel_rfl) 32 (0, 0) (Wk.Chg.hp hw' (Wk.Chg.hp ch10 (Wk.Chg.hp ch9 (Wk.Chg.hp ch8 (Wk.Chg.hp ch7 (Wk.Chg.hp ch6 (Wk.Chg.hp ch5 hb2 (Mur.off_iff.2 (fun t ht => by have := hM1 t ht; omega))) trivial) trivial) trivial) trivial) trivial) trivial))) sS1 ?_
  refine Wk.dVal 13 (some 92) (.bool true) rfl rfl (by kernel_rfl) (by kernel_rfl) (by kernel_rfl) (fun _ _ _ h => h) (by kernel_rfl) (fun w' hw' => (Wk.boolT (b := decide (Mur.kA.k = ([63, 0, 0, 0, 0, 0, 0, 0, 0, 0, 0, 0, 0, 0, 0, 0, 0, 0, 0, 0, 0, 0, 0, 0, 0, 0, 0, 0, 0, 0, 0, 0]) ∧ Mur.kA.r = Mur.z32 ∧ Mur.kA.n = 1 ∧ Mur.kA.t = Mur.z32)) (decide_eq_true (⟨rfl, rfl, rfl, rfl⟩)) (run_eql_att (.tmp 90) (.tmp 91) 32 rfl Mur.kA.hk Mur.kA.hr Mur.kA.ht rfl rfl rfl Mur.kA.hn (by decide) (by kernel_rfl) (by kernel_rfl)))) sS1 ?_
  refine Wk.dVal 14 (some 93) (.bool true) rfl rfl (by kernel_rfl) (by kernel_rfl) (by kernel_rfl) (fun _ _ _ h => h) (by kernel_rfl) (fun w' hw' => by kernel_rfl) sS1 ?_
  refine Wk.dVal 15 (some 0) (.bool true) rfl rfl (by kernel_rfl) (by kernel_rfl) (by kernel_rfl) (fun _ _ _ h => h) (by kernel_rfl) (fun w' hw' => by kernel_rfl) sS1 ?_
  refine Wk.dEnd (by kernel_rfl) ?_
  refine Wk.nxt ?_
  refine wp_ret ?_
  have kk9 := Wk.Chg.step kk8 ch9 trivial
  have kk10 := Wk.Chg.step kk9 ch10 trivial
  refine Wk.ret (.bool true) rfl (by kernel_rfl) ?_
  exact ⟨rfl, kk10⟩
end Go.Proofs.YtfhneademopciaaDoor
namespace Mur
open Go Go.RowKit Go.Lib
theorem quiet_one {L : List Att} (hl : L.length ≤ 200) : repliesM L (summaryM [] L) = [] ∧ learnsM L (summaryM [] L) = [] := by
  have hm : mayM (summaryM [] L) := mayM_summary (by decide) hl
  constructor
  · unfold repliesM
    rw [if_pos hm, if_pos (show (summaryM [] L).kind = 1 from rfl)]
    unfold summedM
    exact if_pos ⟨rfl, rfl⟩
  · unfold learnsM
    rw [if_pos hm, if_pos (show (summaryM [] L).kind = 1 from rfl)]
theorem cut_perm {α : Type} {l : List α} {i : Nat} {x : α} (h : l[i]? = some x) : l.Perm (x :: (l.take i ++ l.drop (i + 1))) := by
  obtain ⟨hi, rfl⟩ := List.getElem?_eq_some_iff.1 h
  have e : l = l.take i ++ l[i] :: l.drop (i + 1) := by
    rw [← List.drop_eq_getElem_cons hi, List.take_append_drop]
  have h1 : (l.take i ++ l[i] :: l.drop (i + 1)).Perm (l[i] :: (l.take i ++ l.drop (i + 1))) := List.perm_middle
  rwa [← e] at h1
/-- One step of an exchange, by place. -/
theorem heard_at {I S : Bool → List Att} {U : List Att} {post : List (Bool × Msg)} {i : Nat} {b : Bool} {m : Msg} (T : Two I U) (h : Inv I U S post) (hi : post[i]? = some (b, m)) :
    Inv I U (upd S b (addsL (learnsM (S b) m) (S b))) ((post.take i ++ post.drop (i + 1)) ++ (repliesM (S b) m).map fun n => (!b, n)) ∧ costP U ((post.take i ++ post.drop (i + 1)) ++ (repliesM (S b) m).map fun n => (!b, n)) + 1 ≤ costP U post ∧
      (¬ Bad I → Cov U S post → Cov U (upd S b (addsL (learnsM (S b) m) (S b))) ((post.take i ++ post.drop (i + 1)) ++ (repliesM (S b) m).map fun n => (!b, n))) := by
  have e := cut_perm hi
  obtain ⟨h1, h2, h3⟩ := heard T (h.perm e)
  exact ⟨h1, by rw [costP.perm e]; exact h2, fun hb hc => h3 hb (hc.perm e)⟩
end Mur
namespace Mur
open Go Go.RowKit Wk
/-- A letter's cells: to whom, and a message. -/
def letC (b : Bool) (c : List Value) : List Value := .int .i64 (if b then 1 else 0) :: c
theorem letC_length {b : Bool} {c : List Value} (h : c.length = 37) : (letC b c).length = 38 := by rw [letC, List.length_cons, h]
theorem letC_one {b : Bool} {c : List Value} (h : ∀ v ∈ c, v.oneCell' = true) : ∀ v ∈ letC b c, v.oneCell' = true := by
  intro v hv
  rcases List.mem_cons.1 hv with rfl | hv
  · rfl
  · exact h v hv
def letR (R : List (Bool × Raw)) : List (List Value) := R.map fun y => letC y.1 y.2.C
theorem letR_append (R T : List (Bool × Raw)) : letR (R ++ T) = letR R ++ letR T := by simp [letR]
theorem letR_take (R : List (Bool × Raw)) (i : Nat) : letR (R.take i) = (letR R).take i := by simp [letR, List.map_take]
theorem letR_drop (R : List (Bool × Raw)) (i : Nat) : letR (R.drop i) = (letR R).drop i := by simp [letR, List.map_drop]
/-- A letter and how it lies. -/
def LetOk (w : World) : List (Bool × Raw) → List (Bool × Msg) → Prop
  | [], [] => True
  | r :: R, m :: M => (r.1 = m.1 ∧ RawOk w r.2 m.2) ∧ LetOk w R M
  | _, _ => False
def subsP (R : List (Bool × Raw)) : List Nat := R.flatMap fun y => y.2.subs
theorem LetOk.length {w : World} : ∀ {R : List (Bool × Raw)} {M : List (Bool × Msg)}, LetOk w R M → R.length = M.length
  | [], [], _ => rfl
  | [], _ :: _, h => h.elim
  | _ :: _, [], h => h.elim
  | _ :: _, _ :: _, h => by rw [List.length_cons, List.length_cons, LetOk.length h.2]
theorem LetOk.keep {w w' : World} {F : List Nat} (k : Keep F w w') : ∀ {R : List (Bool × Raw)} {M : List (Bool × Msg)}, LetOk w R M → (∀ q, q ∈ subsP R → q ∈ F) → LetOk w' R M
  | [], [], _, _ => trivial
  | [], _ :: _, h, _ => h.elim
  | _ :: _, [], h, _ => h.elim
  | r :: R, m :: M, h, hF => ⟨⟨h.1.1, h.1.2.keep k fun q hq => hF q (by simp only [subsP, List.flatMap_cons, List.mem_append]; exact .inl hq)⟩, LetOk.keep k h.2 fun q hq => hF q (by simp only [subsP, List.flatMap_cons, List.mem_append]; exact .inr hq)⟩
theorem LetOk.append {w : World} : ∀ {R T : List (Bool × Raw)} {M N : List (Bool × Msg)}, LetOk w R M → LetOk w T N → LetOk w (R ++ T) (M ++ N)
  | [], _, [], _, _, k => k
  | [], _, _ :: _, _, h, _ => h.elim
  | _ :: _, _, [], _, h, _ => h.elim
  | _ :: _, _, _ :: _, _, h, k => ⟨h.1, LetOk.append h.2 k⟩
theorem LetOk.take {w : World} : ∀ {R : List (Bool × Raw)} {M : List (Bool × Msg)} (i : Nat), LetOk w R M → LetOk w (R.take i) (M.take i)
  | [], [], i, _ => by
    rw [List.take_nil, List.take_nil]
    trivial
  | [], _ :: _, _, h => h.elim
  | _ :: _, [], _, h => h.elim
  | _ :: _, _ :: _, 0, _ => trivial
  | _ :: _, _ :: _, i + 1, h => ⟨h.1, LetOk.take i h.2⟩
theorem LetOk.drop {w : World} : ∀ {R : List (Bool × Raw)} {M : List (Bool × Msg)} (i : Nat), LetOk w R M → LetOk w (R.drop i) (M.drop i)
  | [], [], i, _ => by
    rw [List.drop_nil, List.drop_nil]
    trivial
  | [], _ :: _, _, h => h.elim
  | _ :: _, [], _, h => h.elim
  | _ :: _, _ :: _, 0, h => h
  | _ :: _, _ :: _, i + 1, h => LetOk.drop i h.2
theorem LetOk.at {w : World} : ∀ {R : List (Bool × Raw)} {M : List (Bool × Msg)} {i : Nat} {m : Bool × Msg}, LetOk w R M → M[i]? = some m → ∃ r, R[i]? = some r ∧ r.1 = m.1 ∧ RawOk w r.2 m.2
  | [], [], i, _, _, hm => by simp at hm
  | [], _ :: _, _, _, h, _ => h.elim
  | _ :: _, [], _, _, h, _ => h.elim
  | r :: _, m0 :: _, 0, m, h, hm => by
    simp at hm
    subst hm
    exact ⟨r, by simp, h.1.1, h.1.2⟩
  | _ :: _, _ :: _, i + 1, m, h, hm => by
    obtain ⟨r, h1, h2⟩ := LetOk.at h.2 (i := i) (m := m) (by simpa using hm)
    exact ⟨r, by simpa using h1, h2⟩
theorem LetOk.lt {w : World} : ∀ {R : List (Bool × Raw)} {M : List (Bool × Msg)}, LetOk w R M → ∀ q, q ∈ subsP R → q < w.heap.size
  | [], [], _, q, hq => by simp [subsP] at hq
  | [], _ :: _, h, _, _ => h.elim
  | _ :: _, [], h, _, _ => h.elim
  | r :: R, m :: M, h, q, hq => by
    simp only [subsP, List.flatMap_cons, List.mem_append] at hq
    rcases hq with hq | hq
    · exact h.1.2.subs_lt q hq
    · exact LetOk.lt h.2 q hq
theorem subsP_append (R T : List (Bool × Raw)) : subsP (R ++ T) = subsP R ++ subsP T := by simp [subsP]
theorem subsP_sub {R T : List (Bool × Raw)} (h : ∀ y, y ∈ R → y ∈ T) : ∀ q, q ∈ subsP R → q ∈ subsP T := fun q hq => by
  obtain ⟨y, h1, h2⟩ := List.mem_flatMap.1 hq
  exact List.mem_flatMap.2 ⟨y, h y h1, h2⟩
/-- Letters in a slice of one's own; all blocks of it are among X. -/
def LetA (w : World) (base e : Nat) (X : List Nat) (A : Option Addr) (n c : Nat) (M : List (Bool × Msg)) : Prop :=
  ∃ R : List (Bool × Raw), OwnR w base e 38 A n c (letR R) ∧ LetOk w R M ∧ (∀ q, q ∈ subsP R → q ∈ X) ∧ (∀ q, (Value.slice A n c).ownBlock = some q → q ∈ X) ∧ (∀ q, q ∈ subsP R → (Value.slice A n c).ownBlock ≠ some q) ∧ ∀ q, q ∈ X → base ≤ q ∧ q < w.heap.size
section
variable {w w' : World} {base e n c : Nat} {A : Option Addr} {X : List Nat} {M : List (Bool × Msg)}
theorem letA_nil (w : World) (base e : Nat) : LetA w base e [] none 0 0 [] := ⟨[], ownR_nil _ _ _ (by decide), trivial, (fun q hq => by cases hq), (fun q hq => by cases hq), (fun q hq => by cases hq), (fun q hq => by cases hq)⟩
theorem LetA.len (h : LetA w base e X A n c M) : M.length = n := by
  obtain ⟨R, h1, h2, _⟩ := h
  rw [← h2.length, ← h1.len, letR, List.length_map]
theorem LetA.nc (h : LetA w base e X A n c M) : n ≤ c := let ⟨_, h1, _⟩ := h; h1.nc
theorem LetA.cm (h : LetA w base e X A n c M) : c ≤ maxLen := let ⟨_, h1, _⟩ := h; h1.cm
theorem LetA.mem (h : LetA w base e X A n c M) : ∀ q, q ∈ X → base ≤ q ∧ q < w.heap.size := let ⟨_, _, _, _, _, _, h1⟩ := h; h1
theorem LetA.own (h : LetA w base e X A n c M) : ∀ q, (Value.slice A n c).ownBlock = some q → q ∈ X := let ⟨_, _, _, _, h1, _⟩ := h; h1
theorem LetA.chg {T : List Nat} (h : LetA w base e X A n c M) (ch : Chg T w w') (ho : ∀ q, q ∈ X → Off q T) : LetA w' base e X A n c M := by
  obtain ⟨R, h1, h2, h3, h4, h5, h6⟩ := h
  have hz := ch.size
  exact ⟨R, h1.chg (by decide) ch fun g hg _ _ => ho g (h4 g hg), h2.keep (Keep.of ch (fun q hq => h2.lt q hq) fun q hq => ho q (h3 q hq)) fun _ hq => hq, h3, h4, h5, fun q hq => ⟨(h6 q hq).1, Nat.lt_of_lt_of_le (h6 q hq).2 hz⟩⟩
theorem LetA.row0 (h : LetA w base e X A n c M) {i : Nat} {b : Bool} {m : Msg} (hm : M[i]? = some (b, m)) : ∃ r g, A = some ⟨g, 0, none⟩ ∧ w.rangeAt g (0 + i * 38) (letC b r.C) ∧ RawOk w r m ∧ g ∈ X ∧ ∀ q, q ∈ r.subs → q ∈ X := by
  obtain ⟨R, h1, h2, h3, h4, _⟩ := h
  obtain ⟨⟨b', r⟩, e1, rfl, e2⟩ := h2.at hm
  obtain ⟨hi, _⟩ := List.getElem?_eq_some_iff.1 e1
  have hn : 0 < n := by
    have := h1.len
    rw [letR, List.length_map] at this
    omega
  obtain ⟨g, rfl, _⟩ := own_some h1.own hn
  obtain ⟨g', off, e3, e4⟩ := h1.slR.row (i := i) (r := letC b' r.C) (by rw [letR, List.getElem?_map, e1]; rfl) (by decide)
  cases e3
  exact ⟨r, g, rfl, e4, e2, h4 g rfl, fun q hq => h3 q (List.mem_flatMap.2 ⟨_, List.mem_of_getElem? e1, hq⟩)⟩
theorem SlR.take {sz : Nat} {R : List (List Value)} (h : SlR w sz A n R) (i : Nat) (hi : i ≤ n) : SlR w sz A i (R.take i) := by
  have hl := h.len
  have hs : Sized sz (R.take i) := fun r hr => h.szd r (List.mem_of_mem_take hr)
  refine ⟨by rw [List.length_take]; omega, hs, by rw [flatR_len hs, List.length_take, Nat.min_eq_left (by omega)], fun hn => ?_⟩
  rw [flatR_take h.szd] at hn ⊢
  obtain ⟨g, off, e1, hr⟩ := h.sl.2 (fun e2 => hn (by rw [e2, List.take_nil]))
  refine ⟨g, off, e1, ?_⟩
  have := range_cut hr 0 ((flatR R).take (i * sz)) (by rw [List.drop_zero, List.length_take]; rcases Nat.le_total (i * sz) (flatR R).length with q | q
                                                       · rw [Nat.min_eq_left q]
                                                       · rw [Nat.min_eq_right q, List.take_length, List.take_of_length_le q])
  simpa using this
theorem SlR.drop {sz g off : Nat} {R : List (List Value)} (h : SlR w sz (some ⟨g, off, none⟩) n R) (i : Nat) : SlR w sz (some ⟨g, off + i * sz, none⟩) (n - i) (R.drop i) := by
  have hl := h.len
  have hs : Sized sz (R.drop i) := fun r hr => h.szd r (List.mem_of_mem_drop hr)
  refine ⟨by rw [List.length_drop]; omega, hs, by rw [flatR_len hs, List.length_drop, hl], fun hn => ?_⟩
  rw [flatR_drop h.szd] at hn ⊢
  obtain ⟨g', off', e1, hr⟩ := h.sl.2 (fun e2 => hn (by rw [e2]; simp))
  cases e1
  exact ⟨g, _, rfl, range_cut hr (i * sz) _ (by rw [List.take_of_length_le (Nat.le_refl _)])⟩
theorem slR_none (w : World) (sz : Nat) (A : Option Addr) : SlR w sz A 0 [] := ⟨rfl, (fun r hr => by cases hr), (by simp [flatR]), fun h => absurd rfl h⟩
end
section
variable {P : Program} {w : World} {a : Act} {o : Oper}
end
end Mur
namespace Mur
open Go Go.RowKit Wk
theorem letC_size {b : Bool} {c : List Value} (h : c.length = 37) : (letC b c).toArray.size = 38 := letC_length h
theorem letC_all {b : Bool} {c : List Value} (h : ∀ v ∈ c, v.oneCell' = true) : (letC b c).toArray.all (·.oneCell') = true := Array.all_eq_true_iff_forall_mem.2 fun v hv => letC_one h v (by simpa using hv)
theorem let_to {w : World} {g o : Nat} {b : Bool} {c : List Value} (h : w.rangeAt g o (letC b c)) : w.cell? ⟨g, o, none⟩ = some (.int .i64 (if b then 1 else 0)) := h 0 _ rfl
theorem let_msg {w : World} {g o : Nat} {b : Bool} {c : List Value} (h : w.rangeAt g o (letC b c)) : w.rangeAt g (o + 1) c := fun j v hv => by
  have := h (1 + j) v (by rw [letC, Nat.add_comm, List.getElem?_cons_succ]; exact hv)
  rwa [← Nat.add_assoc] at this
section
variable {w w' : World} {base e n c : Nat} {A : Option Addr} {M : List Msg}
/-- Messages in a slice of one's own; all blocks of it are among Y. -/
def MsgY (w : World) (base e : Nat) (Y : List Nat) (A : Option Addr) (n c : Nat) (M : List Msg) : Prop :=
  ∃ R : List Raw, OwnR w base e 37 A n c (R.map Raw.C) ∧ RawsOk w R M ∧ (∀ q, q ∈ subsL R → q ∈ Y) ∧ ∀ q, (Value.slice A n c).ownBlock = some q → q ∈ Y
theorem MsgA.toY (h : MsgA w base e A n c M) : ∃ Y, MsgY w base e Y A n c M ∧ ∀ q, q ∈ Y → base ≤ q ∧ q < w.heap.size := by
  obtain ⟨R, h1, h2, h3⟩ := h
  refine ⟨subsL R ++ blk (.slice A n c), ⟨R, h1, h2, fun q hq => List.mem_append_left _ hq, fun q hq => List.mem_append_right _ (by unfold blk; rw [hq]; simp)⟩, fun q hq => ?_⟩
  rcases List.mem_append.1 hq with hq | hq
  · exact ⟨(h3 q hq).1, h2.lt q hq⟩
  · exact h1.lt q (blk_mem hq)
theorem MsgY.len {Y : List Nat} (h : MsgY w base e Y A n c M) : M.length = n := by
  obtain ⟨R, h1, h2, _⟩ := h
  rw [← h2.length, ← h1.len, List.length_map]
theorem MsgY.chg {T Y : List Nat} (h : MsgY w base e Y A n c M) (ch : Chg T w w') (ho : ∀ q, q ∈ Y → Off q T) : MsgY w' base e Y A n c M := by
  obtain ⟨R, h1, h2, h3, h4⟩ := h
  exact ⟨R, h1.chg (by decide) ch fun g hg _ _ => ho g (h4 g hg), h2.chg ch fun q hq => ho q (h3 q hq), h3, h4⟩
theorem MsgY.row0 {Y : List Nat} (h : MsgY w base e Y A n c M) {i : Nat} {m : Msg} (hm : M[i]? = some m) : ∃ r g, A = some ⟨g, 0, none⟩ ∧ w.rangeAt g (0 + i * 37) r.C ∧ RawOk w r m ∧ g ∈ Y ∧ ∀ q, q ∈ r.subs → q ∈ Y := by
  obtain ⟨R, h1, h2, h3, h4⟩ := h
  have hl := h2.length
  obtain ⟨hi, _⟩ := List.getElem?_eq_some_iff.1 hm
  have hr : R[i]? = some R[i] := List.getElem?_eq_getElem (by omega)
  obtain ⟨m', e1, e2⟩ := h2.at hr
  rw [hm] at e1
  cases e1
  have hn : 0 < n := by
    have := h1.len
    rw [List.length_map] at this
    omega
  obtain ⟨g, rfl, _⟩ := own_some h1.own hn
  obtain ⟨g', off, e3, e4⟩ := h1.slR.row (i := i) (r := R[i].C) (by rw [List.getElem?_map, hr]; rfl) (by decide)
  cases e3
  exact ⟨R[i], g, rfl, e4, e2, h4 g rfl, fun q hq => h3 q (List.mem_flatMap.2 ⟨R[i], List.getElem_mem _, hq⟩)⟩
end
/-- One letter taken out. -/
theorem letA_cut {w w2 : World} {base base2 e n2 c2 i : Nat} {A2 : Option Addr} {X : List Nat} {R : List (Bool × Raw)} {M : List (Bool × Msg)} (hK : LetOk w R M) (hX : ∀ q, q ∈ subsP R → q ∈ X) (hXm : ∀ q, q ∈ X → base ≤ q ∧ q < w.heap.size)
    (hO : OwnR w2 base2 e 38 A2 n2 c2 ((letR R).take i ++ (letR R).drop (i + 1))) (ch : Chg [] w w2) (hb : w.heap.size ≤ base2) (hb2 : base ≤ w.heap.size) : LetA w2 base e (blk (.slice A2 n2 c2) ++ X) A2 n2 c2 (M.take i ++ M.drop (i + 1)) := by
  have hz := ch.size
  have hK2 : LetOk w2 R M := hK.keep (Keep.of ch (fun q hq => hK.lt q hq) fun q hq => trivial) fun _ hq => hq
  have hs : ∀ q, q ∈ subsP (R.take i ++ R.drop (i + 1)) → q ∈ X := fun q hq => hX q (subsP_sub (fun y hy => (List.mem_append.1 hy).elim List.mem_of_mem_take List.mem_of_mem_drop) q hq)
  refine ⟨R.take i ++ R.drop (i + 1), ?_, (hK2.take i).append (hK2.drop (i + 1)), fun q hq => List.mem_append_right _ (hs q hq), fun q hq => List.mem_append_left _ (by unfold blk; rw [hq]; simp), fun q hq e1 => ?_, fun q hq => ?_⟩
  · rw [letR_append, letR_take, letR_drop]
    exact ownR (own_le hO.own (Nat.le_trans hb2 hb)) hO.szd (by decide)
  · have := (hO.lt q e1).1
    have := (hXm q (hs q hq)).2
    omega
  · rcases List.mem_append.1 hq with hq | hq
    · have := hO.lt q (blk_mem hq)
      omega
    · have := hXm q hq
      omega
section
variable {P : Program} {w : World} {a : Act} {o : Oper}
theorem run_fromL (t : TypeId) (x y : Operand) (ho : o.op = .slice t x (some y) none none) (e : TypeId) (ht : P.underlying t = some (.slice e)) (hsz : (P.info? e).map (·.size) = some 38) (A B : Option Addr) (n c l : Nat) (hB : B = if c = l then A else A.map (·.add (l * 38)))
    (hx : a.eval x = .slice A n c) (hy : a.eval y = .int .i64 ((l : Nat) : Int)) (hl : l ≤ n) (m : Nat) (hm : n - l = m) : (execOp a.eval o).run P w = .ok (.value (.slice B m (c - l))) w := by
  subst hB
  exact run_fromK t x y ho e ht 38 hsz A n c l hx hy hl m hm
theorem slR_from {g n c l : Nat} {B : Option Addr} {R : List (List Value)} (hs : SlR w 38 (some ⟨g, 0, none⟩) n R) (hc : n ≤ c) (hB : B = if c = l then some ⟨g, 0, none⟩ else (some (⟨g, 0, none⟩ : Addr)).map (·.add (l * 38))) (hl : l ≤ n) : SlR w 38 B (n - l) (R.drop l) ∧ (B = none → c - l = 0) := by
  subst hB
  constructor
  · by_cases h : c = l
    · have h1 : n - l = 0 := by omega
      rw [h1, List.drop_of_length_le (by rw [hs.len]; omega)]
      exact slR_none _ _ _
    · rw [if_neg h]
      have := hs.drop l
      rwa [Option.map_some, Addr.add_mid]
  · intro h
    split at h <;> simp_all
/-- append of a letter. -/
theorem appendL (s x : Operand) (t e : TypeId) (ho : o.op = .call { callee := .builtin .append, args := #[s, x], argTypes := #[t, t] }) (ht : P.underlying t = some (.slice e)) (hinfo : (P.info? e).map (fun i => (i.zero, i.size, i.bytes)) = some (some (.agg (letC false msgZ).toArray), 38, 112))
    (base : Nat) (X : List Nat) (A0 : Option Addr) (n c0 : Nat) (M : List (Bool × Msg)) (g : Nat) (b : Bool) (r : Raw) (m : Msg) (hs : a.eval s = .slice A0 n c0) (hx : a.eval x = .slice (some ⟨g, 0, none⟩) 1 1) (H : LetA w base e X A0 n c0 M) (hg : w.heap[g]? = some (.cells (letC b r.C).toArray e (0, 0))) (hr : RawOk w r m)
    (hsub : ∀ q, q ∈ r.subs → base ≤ q ∧ (Value.slice A0 n c0).ownBlock ≠ some q) (hbase : base ≤ w.heap.size) (hl : n + 1 ≤ 1000000) :
    ∃ v1 w1, (execOp a.eval o).run P w = .ok (.value v1) w1 ∧ ∃ A1 c1 X1, v1 = .slice A1 (n + 1) c1 ∧ LetA w1 base e X1 A1 (n + 1) c1 (M ++ [(b, m)]) ∧ Chg (blk (.slice A0 n c0)) w w1 ∧ (∀ q, q ∈ X1 → q ∈ X ∨ q ∈ r.subs ∨ q = w.heap.size) ∧ ∀ q, (Value.slice A1 (n + 1) c1).ownBlock = some q → (Value.slice A0 n c0).ownBlock = some q ∨ q = w.heap.size := by
  obtain ⟨R, h1, h2, h3, h4, h5, h6⟩ := H
  obtain ⟨v1, w1, q1, A1, c1, q2, q3, q4, q5⟩ := appendR (P := P) s x t e ho ht _ 38 112 hinfo rfl (by decide) (by decide) base A0 n c0 (letR R) (some ⟨g, 0, none⟩) 1 1 [letC b r.C] hs hx h1 (slR_box (letC_length (msgC_length r.hs)) (letC_one msgC_one) hg) (fun h => by cases h) hbase hl (n + 1) rfl
  have hz := q4.size
  have hsl : ∀ q, q ∈ subsP (R ++ [(b, r)]) → base ≤ q ∧ q < w.heap.size ∧ (Value.slice A0 n c0).ownBlock ≠ some q ∧ (q ∈ X ∨ q ∈ r.subs) := fun q hq => by
    rw [subsP_append] at hq
    rcases List.mem_append.1 hq with hq | hq
    · exact ⟨(h6 q (h3 q hq)).1, (h6 q (h3 q hq)).2, h5 q hq, .inl (h3 q hq)⟩
    · have hq : q ∈ r.subs := by simpa [subsP] using hq
      exact ⟨(hsub q hq).1, hr.subs_lt q hq, (hsub q hq).2, .inr hq⟩
  have hok : LetOk w (R ++ [(b, r)]) (M ++ [(b, m)]) := h2.append ⟨⟨rfl, hr⟩, trivial⟩
  refine ⟨v1, w1, q1, A1, c1, blk (.slice A1 (n + 1) c1) ++ subsP (R ++ [(b, r)]), q2, ⟨R ++ [(b, r)], ?_, hok.keep (Keep.of q4 (fun q hq => hok.lt q hq) fun q hq => off_blk fun k hk => fun e1 => ?_) (fun _ hq => hq), fun q hq => List.mem_append_right _ hq, fun q hq => List.mem_append_left _ (by unfold blk; rw [hq]; simp), fun q hq e1 => ?_, fun q hq => ?_⟩, q4, (fun q hq => ?_), q5⟩
  · rw [letR_append]
    exact q3
  · exact (hsl q hq).2.2.1 (e1 ▸ hk)
  · rcases q5 q e1 with k | k
    · exact (hsl q hq).2.2.1 k
    · have := (hsl q hq).2.1
      omega
  · rcases List.mem_append.1 hq with hq | hq
    · exact q3.lt q (blk_mem hq)
    · have := hsl q hq
      omega
  · rcases List.mem_append.1 hq with hq | hq
    · rcases q5 q (blk_mem hq) with k | k
      · exact .inl (h4 q k)
      · exact .inr (.inr k)
    · rcases (hsl q hq).2.2.2 with k | k
      · exact .inl k
      · exact .inr (.inl k)
end
-- the pure side of a step
def S2 (S0 S1 : List Att) : Bool → List Att := fun b => if b then S1 else S0
theorem upd_S2f (S0 S1 L : List Att) : upd (S2 S0 S1) false L = S2 L S1 := by
  funext b
  cases b <;> rfl
theorem upd_S2t (S0 S1 L : List Att) : upd (S2 S0 S1) true L = S2 S0 L := by
  funext b
  cases b <;> rfl
/-- What an exchange keeps. -/
structure Exch (I : Bool → List Att) (U : List Att) (S0 S1 : List Att) (post : List (Bool × Msg)) (n : Nat) : Prop where
  inv : Inv I U (S2 S0 S1) post
  cov : ¬ Bad I → Cov U (S2 S0 S1) post
  low : n + costP U post ≤ 16803
  one : I false = I true → (n = 0 ∧ post = [(true, summaryM [] (I false))] ∧ S1 = I false) ∨ (n = 1 ∧ post = [])
theorem exch_start {I : Bool → List Att} {U S0 S1 : List Att} (T : Two I U) (h0 : S0 = I false) (h1 : S1 = I true) : Exch I U S0 S1 [(true, summaryM [] S0)] 0 := by
  subst h0 h1
  have e : S2 (I false) (I true) = I := by
    funext b
    cases b <;> rfl
  obtain ⟨a1, a2, a3⟩ := inv_start T
  exact ⟨by rw [e]; exact a1, fun _ => by rw [e]; exact a3, by omega, fun h => .inl ⟨rfl, rfl, h.symm⟩⟩
theorem exch_step {I : Bool → List Att} {U S0 S1 : List Att} {post : List (Bool × Msg)} {n i : Nat} {b : Bool} {m : Msg} (T : Two I U) (h : Exch I U S0 S1 post n) (hi : post[i]? = some (b, m)) :
    Inv I U (upd (S2 S0 S1) b (addsL (learnsM (S2 S0 S1 b) m) (S2 S0 S1 b))) ((post.take i ++ post.drop (i + 1)) ++ (repliesM (S2 S0 S1 b) m).map fun x => (!b, x)) ∧ (¬ Bad I → Cov U (upd (S2 S0 S1) b (addsL (learnsM (S2 S0 S1 b) m) (S2 S0 S1 b))) ((post.take i ++ post.drop (i + 1)) ++ (repliesM (S2 S0 S1 b) m).map fun x => (!b, x))) ∧
      n + 1 + costP U ((post.take i ++ post.drop (i + 1)) ++ (repliesM (S2 S0 S1 b) m).map fun x => (!b, x)) ≤ 16803 ∧ (I false = I true → (n + 1 = 0 ∧ (post.take i ++ post.drop (i + 1)) ++ ((repliesM (S2 S0 S1 b) m).map fun x => (!b, x)) = [(true, summaryM [] (I false))] ∧ S1 = I false) ∨ (n + 1 = 1 ∧ (post.take i ++ post.drop (i + 1)) ++ ((repliesM (S2 S0 S1 b) m).map fun x => (!b, x)) = [])) := by
  obtain ⟨h1, h2, h3⟩ := heard_at T h.inv hi
  refine ⟨h1, fun hb => h3 hb (h.cov hb), by have := h.low; omega, fun hq => .inr ?_⟩
  rcases h.one hq with ⟨rfl, rfl, hS⟩ | ⟨_, rfl⟩
  · obtain rfl : i = 0 := by
      have := (List.getElem?_eq_some_iff.1 hi).1
      simp at this
      exact this
    have e : b = true ∧ m = summaryM [] (I false) := by
      simp at hi
      exact ⟨hi.1, hi.2.symm⟩
    obtain ⟨rfl, rfl⟩ := e
    have hl : (I false).length ≤ 200 := by
      have := h.inv.len T true
      rwa [show S2 S0 S1 true = S1 from rfl, hS] at this
    refine ⟨rfl, ?_⟩
    rw [show S2 S0 S1 true = I false from hS, (quiet_one hl).1]
    rfl
  · simp at hi
theorem exch_f {I : Bool → List Att} {U S0 S1 : List Att} {post : List (Bool × Msg)} {n i : Nat} {m : Msg} (T : Two I U) (h : Exch I U S0 S1 post n) (hi : post[i]? = some (false, m)) : Exch I U (addsL (learnsM S0 m) S0) S1 ((post.take i ++ post.drop (i + 1)) ++ (repliesM S0 m).map fun x => (true, x)) (n + 1) := by
  obtain ⟨a1, a2, a3, a4⟩ := exch_step T h hi
  rw [upd_S2f] at a1 a2
  refine ⟨a1, a2, a3, fun hq => .inr ?_⟩
  rcases a4 hq with ⟨k, _⟩ | k
  · cases k
  · exact k
theorem exch_t {I : Bool → List Att} {U S0 S1 : List Att} {post : List (Bool × Msg)} {n i : Nat} {m : Msg} (T : Two I U) (h : Exch I U S0 S1 post n) (hi : post[i]? = some (true, m)) : Exch I U S0 (addsL (learnsM S1 m) S1) ((post.take i ++ post.drop (i + 1)) ++ (repliesM S1 m).map fun x => (false, x)) (n + 1) := by
  obtain ⟨a1, a2, a3, a4⟩ := exch_step T h hi
  rw [upd_S2t] at a1 a2
  refine ⟨a1, a2, a3, fun hq => .inr ?_⟩
  rcases a4 hq with ⟨k, _⟩ | k
  · cases k
  · exact k
theorem exch_end {I : Bool → List Att} {U S0 S1 : List Att} {n : Nat} (T : Two I U) (h : Exch I U S0 S1 [] n) : (I false = I true → n = 1) ∧ (¬ Bad I → S0 = U ∧ S1 = U) := by
  refine ⟨fun hq => ?_, fun hb => ⟨inv_end T h.inv (h.cov hb) false, inv_end T h.inv (h.cov hb) true⟩⟩
  rcases h.one hq with ⟨_, k, _⟩ | ⟨k, _⟩
  · cases k
  · exact k
theorem costP_len (U : List Att) : ∀ post : List (Bool × Msg), post.length ≤ costP U post
  | [] => Nat.zero_le _
  | (b, m) :: post => by
    have h := costP_len U post
    have h1 : 1 ≤ cost U m := by
      unfold cost
      split
      · omega
      · split <;> omega
    rw [costP_cons, List.length_cons]
    omega
theorem two_same {Z : List Att} (hs : Sorted Z) (hl : Z.length ≤ 200) (ok : ∀ y, y ∈ Z → may y.n) : Two (S2 Z Z) Z :=
  ⟨hs, hl, ok, fun b => by cases b <;> exact hs, fun b x h => by cases b <;> exact h, fun _ h => .inl h⟩
theorem addsL_snoc (l L : List Att) (x : Att) : addsL (l ++ [x]) L = (addS x (addsL l L)).1 := by simp [addsL]
theorem adds_step {l L : List Att} {j : Nat} {x : Att} (hx : l[j]? = some x) : addsL (l.take (j + 1)) L = (addS x (addsL (l.take j) L)).1 := by rw [take_snoc hx, addsL_snoc]
theorem map_snoc {M : List Msg} {k : Nat} {m : Msg} (hm : M[k]? = some m) (b : Bool) : ((M.take (k + 1)).map fun x => (b, x)) = ((M.take k).map fun x => (b, x)) ++ [(b, m)] := by
  obtain ⟨hi, rfl⟩ := List.getElem?_eq_some_iff.1 hm
  rw [List.take_succ_eq_append_getElem hi, List.map_append]
  rfl
end Mur
namespace Go.Proofs.YtfhneademopciaaDoor
open Go.RowKit Wk
open Mur (b8s msgC z32)
theorem lettI : (Tryd.prog.info? 104).map (fun i => (i.zero, i.size, i.bytes)) = some (some (.agg (Mur.letC false Mur.msgZ).toArray), 38, 112) := by kernel_rfl
theorem built_letter (b : Bool) {c : List Value} (hc : c.length = 37) : Program.built Tryd.prog 104 [(0, .int .i64 (if b then 1 else 0)), (1, .agg c.toArray)] = some (Mur.letC b c).toArray := by
  refine (show Program.built Tryd.prog 104 [(0, .int .i64 (if b then 1 else 0)), (1, .agg c.toArray)] = Instr.fill (fun i => #[(0, 1), (1, 37)][i]?) (Mur.letC false Mur.msgZ).toArray [(0, .int .i64 (if b then 1 else 0)), (1, .agg c.toArray)] from by kernel_rfl).trans ?_
  refine Mur.fill_part (off := 0) (size := 1) (vs := [.int .i64 (if b then 1 else 0)]) rfl rfl rfl (by rw [Mur.letC_length rfl]; omega) ?_
  refine Mur.fill_part (off := 1) (size := 37) (vs := c) rfl rfl hc (by
    show 1 + 37 ≤ 38
    omega) ?_
  have e : splice (splice (Mur.letC false Mur.msgZ) 0 [.int .i64 (if b then 1 else 0)]) 1 c = Mur.letC b c := by
    show splice (.int .i64 (if b then 1 else 0) :: Mur.msgZ) 1 c = _
    have := Mur.splice_mid (A := [Value.int .i64 (if b then 1 else 0)]) (B := Mur.msgZ) (C := []) (vs := c) (off := 1) rfl (by rw [hc]; rfl)
    simpa [Mur.letC] using this
  rw [e]
  rfl
end Go.Proofs.YtfhneademopciaaDoor
