/- What the row rests on, part 11. -/
import Derived.Test.YtgbadghjnpbiaaaDoorRS10
import Derived.Test.YtgbadghjnpbiaaaDoorRS7
import Derived.Test.YtgbadghjnpbiaaaDoorRS9
import Derived.Test.YtgbadghjnpbiaaaDoorRS8
namespace Go.Proofs.YtgbadghjnpbiaaaDoor
open Go.RowKit Wk
open Mur (b8s Byt Own8 Seg Segs flat cutA attC Att SlA OwnA rowA msgC msg_pre byt_chg mayM_iff msg_cnt msg_items msg_ans u8_cast_inj attC_length z32 attC_size take_snoc)
set_option maxRecDepth 100000
set_option maxHeartbeats 4000000
def MayG_F1 (b : Array Value) (u1 : Value) (u43 : Value) (u44 : Value) (u45 : Value) : Act := ⟨#[gd b 0, u1, gd b 2, gd b 3, gd b 4, gd b 5, gd b 6, gd b 7, gd b 8, gd b 9, gd b 10, gd b 11, gd b 12, gd b 13, gd b 14, gd b 15, gd b 16, gd b 17, gd b 18, gd b 19, gd b 20, gd b 21, gd b 22, gd b 23, gd b 24, gd b 25, gd b 26, gd b 27, gd b 28, gd b 29, gd b 30, gd b 31, gd b 32, gd b 33, gd b 34, gd b 35, gd b 36, gd b 37, gd b 38, gd b 39, gd b 40, gd b 41, gd b 42, u43, u44, u45, gd b 46, gd b 47, gd b 48, gd b 49, gd b 50, gd b 51, gd b 52, gd b 53, gd b 54, gd b 55, gd b 56, gd b 57, gd b 58, gd b 59, gd b 60, gd b 61, gd b 62, gd b 63, gd b 64, gd b 65, gd b 66, gd b 67, gd b 68, gd b 69, gd b 70, gd b 71, gd b 72, gd b 73, gd b 74, gd b 75, gd b 76, gd b 77, gd b 78, gd b 79, gd b 80, gd b 81, gd b 82, gd b 83, gd b 84, gd b 85, gd b 86, gd b 87, gd b 88], []⟩
theorem May_any (kd : UInt8) (p : List UInt8) (PA : Option Addr) (pn pc : Nat) (s : List UInt8) (m : Int) (I : List Att) (A : Option Addr) (n c : Nat) (b : Bool) (w : World) (hs : s.length = 32) (hb : Byt w PA pn p) (hl : SlA w A n I) (hpn : pn ≤ 9223372036854775807) (hn : n ≤ 9223372036854775807) : Calls Tryd.prog 46 #[.agg (msgC kd PA pn pc s m A n c b).toArray] w fun e w' => ∃ v, e = .returned (.bool v) ∧ (v = true ↔ Mur.mayM ⟨kd, p, s, m, I, b⟩) ∧ Chg [] w w' := by
 have hlI0 := hl.len
 have hkd_ := kd.toNat_lt
 refine calls_of_wp Tryd.func46 rfl ?_
 refine sR<|nW 0 1 ((Mur.msgC kd PA pn pc s m A n c b).toArray) 32 fun W1 hb1 ch1 sz1 => rP 1 2 (.bool false)<|eN<|wp_seq<|sR<|rP 0 7 (pt w.heap.size 1)<|rq 1 8 _ rfl (ld 22 7 w.heap.size 1 (.slice PA pn pc) (show World.cell? _ ⟨_, 0 + 1, _⟩ = _ from msg_pre (range_row hb1))) ?_
 have kk1 : Chg [] w W1 := zA ch1
 refine rK 2 9 (IsPrefix_any p PA pn pc W1 (byt_chg hb kk1 (fun g off e hl => trivial)) (by omega)) ?_
 cases hpre1 : Mur.isPre p
 ·rintro _ _ ⟨rfl, rfl⟩
  refine rP 3 10 (.bool true)<|rP 4 11 (.bool true)<|rZ 5 12<|rZ 6 13<|rZ 7 14<|rP 8 15 (.bool true)<|rP 9 16 (.bool true)<|rZ 10 17<|rZ 11 18<|rZ 12 19<|rP 13 20 (.bool true)<|rP 14 21 (.bool true)<|rZ 15 22<|rZ 16 23<|rZ 17 24<|rZ 18 25<|rP 19 26 (.bool true)<|eN<|cT<|sR<|rP 0 2 (.bool false)<|eN<|tR<|?_
  have hlI_ := hl.len
  refine rt (.bool false) ?_
  refine ⟨_, rfl, ⟨fun h_ => (by cases h_), fun h_ => ?_⟩, kk1⟩
  exfalso
  obtain ⟨h1_, h2_, h3_, h4_, h5_⟩ := mayM_iff.1 h_
  exact absurd (h1_.symm.trans hpre1) (by decide)
 rintro _ _ ⟨rfl, rfl⟩
 refine rP 3 10 (.bool false)<|rP 4 11 (.bool false)<|rP 5 12 (pt w.heap.size 34)<|rq 6 13 _ rfl (ld 3 12 w.heap.size 34 (.int .i64 m) (show World.cell? _ ⟨_, 0 + 34, _⟩ = _ from msg_cnt hs (range_row hb1))) ?_
 by_cases hx1 : m < (0 : Int)
 ·refine bT 7 14 (m < (0 : Int))<|rP 8 15 (.bool true)<|rP 9 16 (.bool true)<|rZ 10 17<|rZ 11 18<|rZ 12 19<|rP 13 20 (.bool true)<|rP 14 21 (.bool true)<|rZ 15 22<|rZ 16 23<|rZ 17 24<|rZ 18 25<|rP 19 26 (.bool true)<|eN<|cT<|sR<|rP 0 2 (.bool false)<|eN<|tR<|?_
  have hlI_ := hl.len
  refine rt (.bool false) ?_
  refine ⟨_, rfl, ⟨fun h_ => (by cases h_), fun h_ => ?_⟩, kk1⟩
  exfalso
  obtain ⟨h1_, h2_, h3_, h4_, h5_⟩ := mayM_iff.1 h_
  have h1k_ : ((1 : UInt8).toNat : Int) = 1 := rfl
  have h2k_ : ((2 : UInt8).toNat : Int) = 2 := rfl
  rcases h5_ with ⟨hk_, hi_, hb_⟩ | ⟨hk_, hi_, hso_, hz_, hc_⟩
  ·have hk2_ : (kd.toNat : Int) = _ := congrArg (fun z : UInt8 => (z.toNat : Int)) hk_
   have hi2_ := congrArg List.length hi_
   rw [List.length_nil] at hi2_
   first | omega | cases hb_ | (subst hb_; omega)
  have hk2_ : (kd.toNat : Int) = _ := congrArg (fun z : UInt8 => (z.toNat : Int)) hk_
  omega
 refine bF 7 14 (m < (0 : Int))<|rP 8 15 (.bool false)<|rP 9 16 (.bool false)<|rP 10 17 (pt w.heap.size 34)<|rq 11 18 _ rfl (ld 3 17 w.heap.size 34 (.int .i64 m) (show World.cell? _ ⟨_, 0 + 34, _⟩ = _ from msg_cnt hs (range_row hb1))) ?_
 by_cases hx2 : m > (200 : Int)
 ·refine bT 12 19 (m > (200 : Int))<|rP 13 20 (.bool true)<|rP 14 21 (.bool true)<|rZ 15 22<|rZ 16 23<|rZ 17 24<|rZ 18 25<|rP 19 26 (.bool true)<|eN<|cT<|sR<|rP 0 2 (.bool false)<|eN<|tR<|?_
  have hlI_ := hl.len
  refine rt (.bool false) ?_
  refine ⟨_, rfl, ⟨fun h_ => (by cases h_), fun h_ => ?_⟩, kk1⟩
  exfalso
  obtain ⟨h1_, h2_, h3_, h4_, h5_⟩ := mayM_iff.1 h_
  have h1k_ : ((1 : UInt8).toNat : Int) = 1 := rfl
  have h2k_ : ((2 : UInt8).toNat : Int) = 2 := rfl
  rcases h5_ with ⟨hk_, hi_, hb_⟩ | ⟨hk_, hi_, hso_, hz_, hc_⟩
  ·have hk2_ : (kd.toNat : Int) = _ := congrArg (fun z : UInt8 => (z.toNat : Int)) hk_
   have hi2_ := congrArg List.length hi_
   rw [List.length_nil] at hi2_
   first | omega | cases hb_ | (subst hb_; omega)
  have hk2_ : (kd.toNat : Int) = _ := congrArg (fun z : UInt8 => (z.toNat : Int)) hk_
  omega
 refine bF 12 19 (m > (200 : Int))<|rP 13 20 (.bool false)<|rP 14 21 (.bool false)<|rP 15 22 (pt w.heap.size 35)<|rq 16 23 _ rfl (ld 30 22 w.heap.size 35 (.slice A n c) (show World.cell? _ ⟨_, 0 + 35, _⟩ = _ from msg_items hs (range_row hb1)))<|rP 17 24 (.int .i64 n) ?_
 by_cases hx3 : (n : Int) > (8 : Int)
 ·refine bT 18 25 ((n : Int) > (8 : Int))<|rP 19 26 (.bool true)<|eN<|cT<|sR<|rP 0 2 (.bool false)<|eN<|tR<|?_
  have hlI_ := hl.len
  refine rt (.bool false) ?_
  refine ⟨_, rfl, ⟨fun h_ => (by cases h_), fun h_ => ?_⟩, kk1⟩
  exfalso
  obtain ⟨h1_, h2_, h3_, h4_, h5_⟩ := mayM_iff.1 h_
  have h1k_ : ((1 : UInt8).toNat : Int) = 1 := rfl
  have h2k_ : ((2 : UInt8).toNat : Int) = 2 := rfl
  rcases h5_ with ⟨hk_, hi_, hb_⟩ | ⟨hk_, hi_, hso_, hz_, hc_⟩
  ·have hk2_ : (kd.toNat : Int) = _ := congrArg (fun z : UInt8 => (z.toNat : Int)) hk_
   have hi2_ := congrArg List.length hi_
   rw [List.length_nil] at hi2_
   first | omega | cases hb_ | (subst hb_; omega)
  have hk2_ : (kd.toNat : Int) = _ := congrArg (fun z : UInt8 => (z.toNat : Int)) hk_
  omega
 refine bF 18 25 ((n : Int) > (8 : Int))<|rP 19 26 (.bool false)<|eN<|cF<|wp_skip<|nxt<|wp_seq<|sR<|?_
 have hpreT_ := hpre1
 have hp8_ := Mur.pre_len hpreT_
 have hpl_ := hb.1
 refine rP 0 27 (pt w.heap.size 0)<|rq 1 28 _ rfl (ld 5 27 w.heap.size 0 (.int .u8 kd.toNat) (show World.cell? _ ⟨_, 0 + 0, _⟩ = _ from Mur.msg_kind (range_row hb1)))<|eN<|wp_block<|sR<|?_
 by_cases hx4 : (kd.toNat : Int) = (1 : Int)
 ·refine eT 0 30 (kd.toNat : Int) (1 : Int)<|rP 1 29 (.bool true)<|eN<|cT<|sR<|?_
  cases b
  ·refine rP 0 31 (pt w.heap.size 35)<|rq 1 32 _ rfl (ld 30 31 w.heap.size 35 (.slice A n c) (show World.cell? _ ⟨_, 0 + 35, _⟩ = _ from msg_items hs (range_row hb1)))<|rP 2 33 (.int .i64 n) ?_
   by_cases hx5 : (n : Int) = (0 : Int)
   ·refine eT 3 34 (n : Int) (0 : Int)<|rP 4 35 (.bool true)<|rP 5 36 (pt w.heap.size 36)<|rq 6 37 _ rfl (ld 4 36 w.heap.size 36 (.bool false) (show World.cell? _ ⟨_, 0 + 36, _⟩ = _ from msg_ans hs (range_row hb1)))<|rP 7 38 (.bool true)<|rP 8 39 (.bool true)<|rP 9 2 (.bool true)<|eN<|tI<|?_
    have hlI_ := hl.len
    refine rt (.bool true) ?_
    exact ⟨_, rfl, ⟨fun _ => mayM_iff.2 ⟨hpreT_, by omega, by omega, by omega, .inl ⟨u8_cast_inj (by have h_ : ((1 : UInt8).toNat : Int) = 1 := rfl; omega), List.eq_nil_of_length_eq_zero (by omega), rfl⟩⟩, fun _ => rfl⟩, kk1⟩
   refine eF 3 34 (n : Int) (0 : Int)<|rP 4 35 (.bool false)<|rZ 5 36<|rZ 6 37<|rZ 7 38<|rP 8 39 (.bool false)<|rP 9 2 (.bool false)<|eN<|tI<|?_
   have hlI_ := hl.len
   refine rt (.bool false) ?_
   refine ⟨_, rfl, ⟨fun h_ => (by cases h_), fun h_ => ?_⟩, kk1⟩
   exfalso
   obtain ⟨h1_, h2_, h3_, h4_, h5_⟩ := mayM_iff.1 h_
   have h1k_ : ((1 : UInt8).toNat : Int) = 1 := rfl
   have h2k_ : ((2 : UInt8).toNat : Int) = 2 := rfl
   rcases h5_ with ⟨hk_, hi_, hb_⟩ | ⟨hk_, hi_, hso_, hz_, hc_⟩
   ·have hk2_ : (kd.toNat : Int) = _ := congrArg (fun z : UInt8 => (z.toNat : Int)) hk_
    have hi2_ := congrArg List.length hi_
    rw [List.length_nil] at hi2_
    first | omega | cases hb_ | (subst hb_; omega)
   have hk2_ : (kd.toNat : Int) = _ := congrArg (fun z : UInt8 => (z.toNat : Int)) hk_
   omega
  refine rP 0 31 (pt w.heap.size 35)<|rq 1 32 _ rfl (ld 30 31 w.heap.size 35 (.slice A n c) (show World.cell? _ ⟨_, 0 + 35, _⟩ = _ from msg_items hs (range_row hb1)))<|rP 2 33 (.int .i64 n) ?_
  by_cases hx6 : (n : Int) = (0 : Int)
  ·refine eT 3 34 (n : Int) (0 : Int)<|rP 4 35 (.bool true)<|rP 5 36 (pt w.heap.size 36)<|rq 6 37 _ rfl (ld 4 36 w.heap.size 36 (.bool true) (show World.cell? _ ⟨_, 0 + 36, _⟩ = _ from msg_ans hs (range_row hb1)))<|rP 7 38 (.bool false)<|rP 8 39 (.bool false)<|rP 9 2 (.bool false)<|eN<|tI<|?_
   have hlI_ := hl.len
   refine rt (.bool false) ?_
   refine ⟨_, rfl, ⟨fun h_ => (by cases h_), fun h_ => ?_⟩, kk1⟩
   exfalso
   obtain ⟨h1_, h2_, h3_, h4_, h5_⟩ := mayM_iff.1 h_
   have h1k_ : ((1 : UInt8).toNat : Int) = 1 := rfl
   have h2k_ : ((2 : UInt8).toNat : Int) = 2 := rfl
   rcases h5_ with ⟨hk_, hi_, hb_⟩ | ⟨hk_, hi_, hso_, hz_, hc_⟩
   ·have hk2_ : (kd.toNat : Int) = _ := congrArg (fun z : UInt8 => (z.toNat : Int)) hk_
    have hi2_ := congrArg List.length hi_
    rw [List.length_nil] at hi2_
    first | omega | cases hb_ | (subst hb_; omega)
   have hk2_ : (kd.toNat : Int) = _ := congrArg (fun z : UInt8 => (z.toNat : Int)) hk_
   omega
  refine eF 3 34 (n : Int) (0 : Int)<|rP 4 35 (.bool false)<|rZ 5 36<|rZ 6 37<|rZ 7 38<|rP 8 39 (.bool false)<|rP 9 2 (.bool false)<|eN<|tI<|?_
  have hlI_ := hl.len
  refine rt (.bool false) ?_
  refine ⟨_, rfl, ⟨fun h_ => (by cases h_), fun h_ => ?_⟩, kk1⟩
  exfalso
  obtain ⟨h1_, h2_, h3_, h4_, h5_⟩ := mayM_iff.1 h_
  have h1k_ : ((1 : UInt8).toNat : Int) = 1 := rfl
  have h2k_ : ((2 : UInt8).toNat : Int) = 2 := rfl
  rcases h5_ with ⟨hk_, hi_, hb_⟩ | ⟨hk_, hi_, hso_, hz_, hc_⟩
  ·have hk2_ : (kd.toNat : Int) = _ := congrArg (fun z : UInt8 => (z.toNat : Int)) hk_
   have hi2_ := congrArg List.length hi_
   rw [List.length_nil] at hi2_
   first | omega | cases hb_ | (subst hb_; omega)
  have hk2_ : (kd.toNat : Int) = _ := congrArg (fun z : UInt8 => (z.toNat : Int)) hk_
  omega
 refine eF 0 30 (kd.toNat : Int) (1 : Int)<|rP 1 29 (.bool false)<|eN<|cF<|sR<|?_
 by_cases hx7 : (kd.toNat : Int) = (2 : Int)
 ·refine eT 0 41 (kd.toNat : Int) (2 : Int)<|rP 1 40 (.bool true)<|eN<|cT<|wp_seq<|sR<|rP 0 42 (pt w.heap.size 35)<|rq 1 43 _ rfl (ld 30 42 w.heap.size 35 (.slice A n c) (show World.cell? _ ⟨_, 0 + 35, _⟩ = _ from msg_items hs (range_row hb1)))<|rP 2 44 (.int .i64 n)<|rP 3 45 (.int .i64 0)<|eN<|wp_block<|?_
  refine Wk.loop (fun m_ a wr => ∃ (i : Nat), m_ = n - i ∧ a = MayG_F1 a.tmps (pt w.heap.size 0) (.slice A n c) (.int .i64 n) (.int .i64 i) ∧ i ≤ n ∧ (∀ x, x ∈ I.take i → Mur.may x.n ∧ Mur.under p x.k = true) ∧ Mur.Sorted (I.take i) ∧ wr.heap[w.heap.size]? = some (.cells (Mur.msgC kd PA pn pc s m A n c b).toArray 32 (0, 0)) ∧ Chg [] w wr) (n - 0) ?_ ?_
  ·refine ⟨0, rfl, by kernel_rfl, (by omega), (by simp), List.Pairwise.nil, hb1, kk1⟩
  rintro mm1 aa1 W2 ⟨i, hmm1, hF1, hi, hall, hsr, hX, HB⟩
  generalize aa1.tmps = bb1 at hF1
  subst hF1
  have hzB := HB.size
  have hxl_ := (Array.getElem?_eq_some_iff.1 hX).1
  have hlI := hl.len
  by_cases hlt : i < n
  ·obtain ⟨g_x, o_x, rfl, _⟩ := hl.ex (by omega)
   obtain ⟨x, hx⟩ : ∃ x, I[i]? = some x := ⟨_, List.getElem?_eq_getElem (by have := hl.len; omega)⟩
   refine sR<|bT 0 46 ((i : Int) < (n : Int))<|eN<|wp_seq<|cT<|wp_skip<|nxt<|wp_seq<|wp_block<|sR<|rP 0 47 (.int .i64 i)<|rq 1 48 (pt g_x (o_x + i * 97)) rfl (iS 97 g_x o_x n c i)<|rq 2 49 (.agg ((Mur.attC x.k x.r x.n x.t).toArray)) rfl (lR (o_x + i * 97) (Mur.attC x.k x.r x.n x.t) ((Mur.SlA.chg hl HB (fun g off e hl => trivial)).elem hx) (by rw [attC_length x.hk x.hr x.ht]; kernel_rfl))<|nW 3 4 (Mur.attC z32 z32 0 z32).toArray 36 fun W3 hb2 ch2 sz2 => rP 4 3 (.int .i64 i)<|rU 5 rfl (sB (Mur.attC x.k x.r x.n x.t).toArray (attC_size x.hk x.hr x.ht) Mur.attC_all hb2 (attC_size rfl rfl rfl)) fun W4 hb3 ch3 zz3 => eN<|sR<|rq 0 51 (.agg ((Mur.attC x.k x.r x.n x.t).toArray)) rfl (lA hb3 (attC_size x.hk x.hr x.ht)) ?_
   refine rC 1 52 47 [.tmp 51] #[36] [.agg ((Mur.attC x.k x.r x.n x.t).toArray)] ?_
   by_cases hmay1 : Mur.may x.n
   ·have hmay1u : (1 ≤ x.n ∧ x.n ≤ 5000) := hmay1
    refine (Bytes_ok x.k x.r x.t x.n x.hk x.hr x.ht W4 hmay1).mono ?_
    rintro _ W5 ⟨qr1, cr1, RB1, hRB1, rfl, hbr1, hq1, hq2, ch4⟩
    have zz4 := ch4.size
    have hBt1 : ∀ g off, (some ⟨qr1, 0, none⟩ : Option Addr) = some ⟨g, off, none⟩ → W4.heap.size ≤ g ∧ g < W5.heap.size := fun g off e => by cases e; exact hq1
    refine ⟨_, rfl, ?_⟩
    refine rP 2 50 (.tuple #[.slice (some ⟨qr1, 0, none⟩) 104 cr1, .int .i64 0])<|rP 3 53 (.slice (some ⟨qr1, 0, none⟩) 104 cr1)<|rP 4 54 (.int .i64 0)<|rP 5 5 (.slice (some ⟨qr1, 0, none⟩) 104 cr1)<|rP 6 6 (.int .i64 0)<|eN<|wp_seq<|?_
    refine dReg ([]) (by kernel_rfl) ?_
    intro W6 ch5 sz3
    have zz5 := ch5.size
    have sS1 : Chg ([]) W6 W6 := (Chg.refl _).more (by simp)
    refine dW 0 55 (.int .i64 0) sS1 ?_
    refine dV 1 56 (.bool false) rfl rfl (fun w' hw' => boolF (b := ((0 : Int) != (0 : Int))) (bne_eq_false_iff_eq.2 (by decide)) (by kernel_rfl)) sS1 ?_
    refine dW 2 57 (.bool false) sS1 ?_
    refine dV 3 58 (.agg ((Mur.attC x.k x.r x.n x.t).toArray)) rfl rfl (fun w' hw' => lA (qT hw' (qT ch5 (qT ch4 hb3))) (attC_size x.hk x.hr x.ht)) sS1 ?_
    refine dW 4 59 (pt w.heap.size 1) sS1 ?_
    refine dV 5 60 (.slice PA pn pc) rfl rfl (fun w' hw' => ld 22 59 w.heap.size 1 (.slice PA pn pc) (show World.cell? _ ⟨_, 0 + 1, _⟩ = _ from msg_pre (range_row (qT hw' (qT ch5 (qT ch4 (qO ch3 (qT ch2 hX)))))))) sS1 ?_
    refine dOp 6 (by kernel_rfl) ?_
    have kk2 := kA HB ch2
    have kk3 := kB kk2 ch3
    have kk4 := kA kk3 ch4
    have kk5 := kA kk4 ch5
    refine oK 61 (within_any x p PA pn pc W6 (byt_chg hb kk5 (fun g off e hl => trivial)) (by omega)) ?_
    cases hun1 : Mur.under p x.k
    ·rintro _ W7 ⟨rfl, ch6⟩
     have zz6 := ch6.size
     have sS2 := kA sS1 ch6
     refine ⟨sS2, ?_⟩
     refine dW 7 62 (.bool true) sS2<|dW 8 63 (.bool true) sS2<|dW 9 64 (.bool true) sS2<|dZ 10 65 sS2<|dZ 11 66 sS2<|dZ 12 67 sS2<|dZ 13 68 sS2<|dZ 14 69 sS2<|dZ 15 70 sS2<|dZ 16 71 sS2<|dZ 17 72 sS2<|dZ 18 73 sS2<|dZ 19 74 sS2<|dZ 20 75 sS2<|dZ 21 76 sS2<|dZ 22 77 sS2<|dW 23 78 (.bool true) sS2 ?_
     refine dN<|cT<|sR<|?_
     refine rP 0 2 (.bool false)<|eN<|tI<|thR<|inR<|thR<|inR<|thR<|?_
     have kk6 := kA kk5 ch6
     have hlI_ := hl.len
     refine rt (.bool false) ?_
     refine ⟨_, rfl, ⟨fun h_ => (by cases h_), fun h_ => ?_⟩, kk6⟩
     exfalso
     obtain ⟨h1_, h2_, h3_, h4_, h5_⟩ := mayM_iff.1 h_
     have h1k_ : ((1 : UInt8).toNat : Int) = 1 := rfl
     have h2k_ : ((2 : UInt8).toNat : Int) = 2 := rfl
     rcases h5_ with ⟨hk_, hi_, hb_⟩ | ⟨hk_, hi_, hso_, hz_, hc_⟩
     ·have hk2_ : (kd.toNat : Int) = _ := congrArg (fun z : UInt8 => (z.toNat : Int)) hk_
      have hi2_ := congrArg List.length hi_
      rw [List.length_nil] at hi2_
      first | omega | cases hb_ | (subst hb_; omega)
     have hk2_ : (kd.toNat : Int) = _ := congrArg (fun z : UInt8 => (z.toNat : Int)) hk_
     have hu_ := (hi_ x (List.mem_of_getElem? hx)).2
     rw [hun1] at hu_
     cases hu_
    rintro _ W7 ⟨rfl, ch6⟩
    have zz7 := ch6.size
    have sS3 := kA sS1 ch6
    refine ⟨sS3, ?_⟩
    refine dW 7 62 (.bool false) sS3<|dW 8 63 (.bool false) sS3<|dW 9 64 (.bool false) sS3<|dW 10 65 (.int .i64 i) sS3 ?_
    by_cases hx8 : (i : Int) > (0 : Int)
    ·refine dV 11 66 (.bool true) rfl rfl (fun w' hw' => boolT (b := decide ((i : Int) > (0 : Int))) (decide_eq_true (by first | exact hx8 | omega)) (by kernel_rfl)) sS3 ?_
     refine dW 12 67 (.bool true) sS3<|dW 13 68 (pt w.heap.size 35) sS3 ?_
     refine dV 14 69 (.slice (some ⟨g_x, o_x, none⟩) n c) rfl rfl (fun w' hw' => ld 30 68 w.heap.size 35 (.slice (some ⟨g_x, o_x, none⟩) n c) (show World.cell? _ ⟨_, 0 + 35, _⟩ = _ from msg_items hs (range_row (qT hw' (qT ch5 (qT ch4 (qO ch3 (qT ch2 hX)))))))) sS3 ?_
     refine dW 15 70 (.int .i64 i) sS3 ?_
     obtain ⟨z, hz⟩ : ∃ z, I[i - 1]? = some z := ⟨_, List.getElem?_eq_getElem (by omega)⟩
     refine dV 16 71 (.int .i64 (i - 1 : Nat)) rfl rfl (fun w' hw' => int64 (n := (i : Int) - 1) (z := ((i - 1 : Nat) : Int)) (by omega) (by omega) (by omega) (by kernel_rfl)) sS3 ?_
     refine dV 17 72 (.pointer (some ⟨g_x, o_x + (i - 1) * 97, none⟩)) rfl rfl (fun w' hw' => iS 97 g_x o_x n c (i - 1)) sS3 ?_
     refine dV 18 73 (.agg ((Mur.attC z.k z.r z.n z.t).toArray)) rfl rfl (fun w' hw' => lR (o_x + (i - 1) * 97) (Mur.attC z.k z.r z.n z.t) ((Mur.SlA.chg (Mur.SlA.chg hl kk5 (fun g off e hl => trivial)) hw' (fun g off e hl => trivial)).elem hz) (by rw [attC_length z.hk z.hr z.ht]; kernel_rfl)) sS3 ?_
     refine dV 19 74 (.agg ((Mur.attC x.k x.r x.n x.t).toArray)) rfl rfl (fun w' hw' => lA (qT hw' (qT ch5 (qT ch4 hb3))) (attC_size x.hk x.hr x.ht)) sS3 ?_
     refine dOp 20 (by kernel_rfl) ?_
     refine oK 75 (Less_any z.k z.r z.t z.n z.hk z.hr z.ht x.k x.r x.t x.n x.hk x.hr x.ht W7) ?_
     by_cases hls1 : Go.Lib.compareBytes (Mur.rawL z.k z.r z.n z.t) (Mur.rawL x.k x.r x.n x.t) < 0
     ·rw [decide_eq_true (hls1 : Go.Lib.compareBytes (Mur.rawL z.k z.r z.n z.t) (Mur.rawL x.k x.r x.n x.t) < 0)]
      rintro _ W8 ⟨rfl, ch7⟩
      have zz8 := ch7.size
      have sS4 := kA sS3 ch7
      refine ⟨sS4, ?_⟩
      refine dW 21 76 (.bool false) sS4<|dW 22 77 (.bool false) sS4<|dW 23 78 (.bool false) sS4 ?_
      refine dN<|cF<|wp_skip<|inN<|nxt<|reg<|?_
      refine rI 0 79 ((i : Int) + 1) (((i + 1 : Nat) : Int))<|rP 1 45 (.int .i64 (i + 1 : Nat))<|eN<|?_
      have kk7 := kA kk5 ch6
      have kk8 := kA kk7 ch7
      refine ⟨_, ?_, i + 1, rfl, by kernel_rfl, (by omega), (fun y_ hy_ => by rw [take_snoc hx] at hy_; rcases List.mem_append.1 hy_ with h1_ | h1_ <;> first | exact hall y_ h1_ | (rw [List.mem_singleton.1 h1_]; exact ⟨hmay1, hun1⟩)), (Mur.sorted_more hsr hx hz (by omega) hls1), (qT ch7 (qT ch6 (qT ch5 (qT ch4 (qO ch3 (qT ch2 hX)))))), kk8⟩
      omega
     rw [decide_eq_false (hls1 : ¬ Go.Lib.compareBytes (Mur.rawL z.k z.r z.n z.t) (Mur.rawL x.k x.r x.n x.t) < 0)]
     rintro _ W8 ⟨rfl, ch7⟩
     have zz9 := ch7.size
     have sS5 := kA sS3 ch7
     refine ⟨sS5, ?_⟩
     refine dW 21 76 (.bool true) sS5<|dW 22 77 (.bool true) sS5<|dW 23 78 (.bool true) sS5 ?_
     refine dN<|cT<|sR<|?_
     refine rP 0 2 (.bool false)<|eN<|tI<|thR<|inR<|thR<|inR<|thR<|?_
     have kk9 := kA kk5 ch6
     have kk10 := kA kk9 ch7
     have hlI_ := hl.len
     refine rt (.bool false) ?_
     refine ⟨_, rfl, ⟨fun h_ => (by cases h_), fun h_ => ?_⟩, kk10⟩
     exfalso
     obtain ⟨h1_, h2_, h3_, h4_, h5_⟩ := mayM_iff.1 h_
     have h1k_ : ((1 : UInt8).toNat : Int) = 1 := rfl
     have h2k_ : ((2 : UInt8).toNat : Int) = 2 := rfl
     rcases h5_ with ⟨hk_, hi_, hb_⟩ | ⟨hk_, hi_, hso_, hz_, hc_⟩
     ·have hk2_ : (kd.toNat : Int) = _ := congrArg (fun z : UInt8 => (z.toNat : Int)) hk_
      have hi2_ := congrArg List.length hi_
      rw [List.length_nil] at hi2_
      first | omega | cases hb_ | (subst hb_; omega)
     have hk2_ : (kd.toNat : Int) = _ := congrArg (fun z : UInt8 => (z.toNat : Int)) hk_
     exact Mur.not_sorted hx hz (by omega) hls1 hso_
    refine dV 11 66 (.bool false) rfl rfl (fun w' hw' => boolF (b := decide ((i : Int) > (0 : Int))) (decide_eq_false (by first | exact hx8 | omega)) (by kernel_rfl)) sS3 ?_
    refine dW 12 67 (.bool false) sS3<|dZ 13 68 sS3<|dZ 14 69 sS3<|dZ 15 70 sS3<|dZ 16 71 sS3<|dZ 17 72 sS3<|dZ 18 73 sS3<|dZ 19 74 sS3<|dZ 20 75 sS3<|dZ 21 76 sS3<|dW 22 77 (.bool false) sS3<|dW 23 78 (.bool false) sS3 ?_
    refine dN<|cF<|wp_skip<|inN<|nxt<|reg<|?_
    refine rI 0 79 ((i : Int) + 1) (((i + 1 : Nat) : Int))<|rP 1 45 (.int .i64 (i + 1 : Nat))<|eN<|?_
    have kk11 := kA kk5 ch6
    refine ⟨_, ?_, i + 1, rfl, by kernel_rfl, (by omega), (fun y_ hy_ => by rw [take_snoc hx] at hy_; rcases List.mem_append.1 hy_ with h1_ | h1_ <;> first | exact hall y_ h1_ | (rw [List.mem_singleton.1 h1_]; exact ⟨hmay1, hun1⟩)), (by have h0_ : i = 0 := (by omega); subst h0_; exact Mur.sorted_one hx), (qT ch6 (qT ch5 (qT ch4 (qO ch3 (qT ch2 hX))))), kk11⟩
    omega
   have hmay1u : ¬ (1 ≤ x.n ∧ x.n ≤ 5000) := hmay1
   refine (Bytes_no x.k x.r x.t x.n x.hk x.hr x.ht W4 hmay1).mono ?_
   rintro _ W10 ⟨rfl, ch8⟩
   have zz10 := ch8.size
   refine ⟨_, rfl, ?_⟩
   refine rP 2 50 (.tuple #[.slice none 0 0, .int .i64 2])<|rP 3 53 (.slice none 0 0)<|rP 4 54 (.int .i64 2)<|rP 5 5 (.slice none 0 0)<|rP 6 6 (.int .i64 2)<|eN<|wp_seq<|?_
   refine dReg ([]) (by kernel_rfl) ?_
   intro W11 ch9 sz4
   have zz11 := ch9.size
   have sS6 : Chg ([]) W11 W11 := (Chg.refl _).more (by simp)
   refine dW 0 55 (.int .i64 2) sS6 ?_
   refine dV 1 56 (.bool true) rfl rfl (fun w' hw' => boolT (b := ((2 : Int) != (0 : Int))) (bne_iff_ne.2 (by decide)) (by kernel_rfl)) sS6 ?_
   refine dW 2 57 (.bool true) sS6<|dZ 3 58 sS6<|dZ 4 59 sS6<|dZ 5 60 sS6<|dZ 6 61 sS6<|dZ 7 62 sS6<|dW 8 63 (.bool true) sS6<|dW 9 64 (.bool true) sS6<|dZ 10 65 sS6<|dZ 11 66 sS6<|dZ 12 67 sS6<|dZ 13 68 sS6<|dZ 14 69 sS6<|dZ 15 70 sS6<|dZ 16 71 sS6<|dZ 17 72 sS6<|dZ 18 73 sS6<|dZ 19 74 sS6<|dZ 20 75 sS6<|dZ 21 76 sS6<|dZ 22 77 sS6<|dW 23 78 (.bool true) sS6 ?_
   refine dN<|cT<|sR<|?_
   refine rP 0 2 (.bool false)<|eN<|tI<|thR<|inR<|thR<|inR<|thR<|?_
   have kk12 := kA HB ch2
   have kk13 := kB kk12 ch3
   have kk14 := kA kk13 ch8
   have kk15 := kA kk14 ch9
   have hlI_ := hl.len
   refine rt (.bool false) ?_
   refine ⟨_, rfl, ⟨fun h_ => (by cases h_), fun h_ => ?_⟩, kk15⟩
   exfalso
   obtain ⟨h1_, h2_, h3_, h4_, h5_⟩ := mayM_iff.1 h_
   have h1k_ : ((1 : UInt8).toNat : Int) = 1 := rfl
   have h2k_ : ((2 : UInt8).toNat : Int) = 2 := rfl
   rcases h5_ with ⟨hk_, hi_, hb_⟩ | ⟨hk_, hi_, hso_, hz_, hc_⟩
   ·have hk2_ : (kd.toNat : Int) = _ := congrArg (fun z : UInt8 => (z.toNat : Int)) hk_
    have hi2_ := congrArg List.length hi_
    rw [List.length_nil] at hi2_
    first | omega | cases hb_ | (subst hb_; omega)
   have hk2_ : (kd.toNat : Int) = _ := congrArg (fun z : UInt8 => (z.toNat : Int)) hk_
   exact hmay1 (hi_ x (List.mem_of_getElem? hx)).1
  rw [List.take_of_length_le (show I.length ≤ i by omega)] at hall hsr
  refine sR<|bF 0 46 ((i : Int) < (n : Int))<|eN<|wp_seq<|cF<|xX<|nxt<|sR<|rP 0 80 (pt w.heap.size 2)<|rq 1 81 (.agg ((b8s s).toArray)) rfl (lR 2 (b8s s) (show World.rangeAt _ _ (0 + 2) _ from Mur.msg_sum (range_row hX)) (by rw [Mur.b8s_length, hs]; kernel_rfl))<|rP 2 82 (.agg ((b8s [0, 0, 0, 0, 0, 0, 0, 0, 0, 0, 0, 0, 0, 0, 0, 0, 0, 0, 0, 0, 0, 0, 0, 0, 0, 0, 0, 0, 0, 0, 0, 0]).toArray)) ?_
  by_cases hzs : s = z32
  ·refine rq 3 83 (.bool true) rfl (Mur.run_eql_yes digT s z32 hs rfl hzs _ (.tmp 81) (.tmp 82) 29 rfl (by kernel_rfl) (by kernel_rfl))<|rP 4 84 (.bool true)<|rP 5 85 (pt w.heap.size 34)<|rq 6 86 _ rfl (ld 3 85 w.heap.size 34 (.int .i64 m) (show World.cell? _ ⟨_, 0 + 34, _⟩ = _ from msg_cnt hs (range_row hX))) ?_
   by_cases hx9 : m = (0 : Int)
   ·refine eT 7 87 m (0 : Int)<|rP 8 88 (.bool true)<|rP 9 2 (.bool true)<|eN<|tI<|?_
    have hlI_ := hl.len
    refine rt (.bool true) ?_
    exact ⟨_, rfl, ⟨fun _ => mayM_iff.2 ⟨hpreT_, by omega, by omega, by omega, .inr ⟨u8_cast_inj (by have h_ : ((2 : UInt8).toNat : Int) = 2 := rfl; omega), hall, hsr, hzs, by omega⟩⟩, fun _ => rfl⟩, HB⟩
   refine eF 7 87 m (0 : Int)<|rP 8 88 (.bool false)<|rP 9 2 (.bool false)<|eN<|tI<|?_
   have hlI_ := hl.len
   refine rt (.bool false) ?_
   refine ⟨_, rfl, ⟨fun h_ => (by cases h_), fun h_ => ?_⟩, HB⟩
   exfalso
   obtain ⟨h1_, h2_, h3_, h4_, h5_⟩ := mayM_iff.1 h_
   have h1k_ : ((1 : UInt8).toNat : Int) = 1 := rfl
   have h2k_ : ((2 : UInt8).toNat : Int) = 2 := rfl
   rcases h5_ with ⟨hk_, hi_, hb_⟩ | ⟨hk_, hi_, hso_, hz_, hc_⟩
   ·have hk2_ : (kd.toNat : Int) = _ := congrArg (fun z : UInt8 => (z.toNat : Int)) hk_
    have hi2_ := congrArg List.length hi_
    rw [List.length_nil] at hi2_
    first | omega | cases hb_ | (subst hb_; omega)
   have hk2_ : (kd.toNat : Int) = _ := congrArg (fun z : UInt8 => (z.toNat : Int)) hk_
   omega
  refine rq 3 83 (.bool false) rfl (Mur.run_eql_no digT s z32 hs rfl hzs _ (.tmp 81) (.tmp 82) 29 rfl (by kernel_rfl) (by kernel_rfl))<|rP 4 84 (.bool false)<|rZ 5 85<|rZ 6 86<|rZ 7 87<|rP 8 88 (.bool false)<|rP 9 2 (.bool false)<|eN<|tI<|?_
  have hlI_ := hl.len
  refine rt (.bool false) ?_
  refine ⟨_, rfl, ⟨fun h_ => (by cases h_), fun h_ => ?_⟩, HB⟩
  exfalso
  obtain ⟨h1_, h2_, h3_, h4_, h5_⟩ := mayM_iff.1 h_
  have h1k_ : ((1 : UInt8).toNat : Int) = 1 := rfl
  have h2k_ : ((2 : UInt8).toNat : Int) = 2 := rfl
  rcases h5_ with ⟨hk_, hi_, hb_⟩ | ⟨hk_, hi_, hso_, hz_, hc_⟩
  ·have hk2_ : (kd.toNat : Int) = _ := congrArg (fun z : UInt8 => (z.toNat : Int)) hk_
   have hi2_ := congrArg List.length hi_
   rw [List.length_nil] at hi2_
   first | omega | cases hb_ | (subst hb_; omega)
  have hk2_ : (kd.toNat : Int) = _ := congrArg (fun z : UInt8 => (z.toNat : Int)) hk_
  exact hzs hz_
 refine eF 0 41 (kd.toNat : Int) (2 : Int)<|rP 1 40 (.bool false)<|eN<|cF<|wp_skip<|inN<|nxt<|sR<|rP 0 2 (.bool false)<|eN<|wp_ret<|?_
 have hlI_ := hl.len
 refine rt (.bool false) ?_
 refine ⟨_, rfl, ⟨fun h_ => (by cases h_), fun h_ => ?_⟩, kk1⟩
 exfalso
 obtain ⟨h1_, h2_, h3_, h4_, h5_⟩ := mayM_iff.1 h_
 have h1k_ : ((1 : UInt8).toNat : Int) = 1 := rfl
 have h2k_ : ((2 : UInt8).toNat : Int) = 2 := rfl
 rcases h5_ with ⟨hk_, hi_, hb_⟩ | ⟨hk_, hi_, hso_, hz_, hc_⟩
 ·have hk2_ : (kd.toNat : Int) = _ := congrArg (fun z : UInt8 => (z.toNat : Int)) hk_
  have hi2_ := congrArg List.length hi_
  rw [List.length_nil] at hi2_
  first | omega | cases hb_ | (subst hb_; omega)
 have hk2_ : (kd.toNat : Int) = _ := congrArg (fun z : UInt8 => (z.toNat : Int)) hk_
 omega
end Go.Proofs.YtgbadghjnpbiaaaDoor
namespace Go.Proofs.YtgbadghjnpbiaaaDoor
open Go.RowKit Wk
open Mur (b8s Byt Own8 Seg Segs flat cutA attC Att SlA OwnA rowA msgC Frm Zs LiesF FrmIn frmP segs_rng frmL_sz segs_cell mayFM frmL_size bareM bareZ mayFM_1 mayFM_2 mayFM_3 mayFM_4 mayFM_6)
set_option maxRecDepth 100000
set_option maxHeartbeats 4000000
def MayF_J3_1 (b : Array Value) (u1 : Value) (u3 : Value) : Act := ⟨#[gd b 0, u1, gd b 2, u3, gd b 4, gd b 5, gd b 6, gd b 7, gd b 8, gd b 9, gd b 10, gd b 11, gd b 12, gd b 13, gd b 14, gd b 15, gd b 16, gd b 17, gd b 18, gd b 19, gd b 20, gd b 21, gd b 22, gd b 23, gd b 24, gd b 25, gd b 26, gd b 27, gd b 28, gd b 29, gd b 30, gd b 31, gd b 32, gd b 33, gd b 34, gd b 35, gd b 36, gd b 37, gd b 38, gd b 39, gd b 40, gd b 41, gd b 42, gd b 43, gd b 44, gd b 45, gd b 46, gd b 47, gd b 48, gd b 49, gd b 50, gd b 51, gd b 52, gd b 53, gd b 54, gd b 55, gd b 56, gd b 57, gd b 58, gd b 59, gd b 60, gd b 61, gd b 62, gd b 63, gd b 64, gd b 65, gd b 66, gd b 67, gd b 68, gd b 69, gd b 70, gd b 71, gd b 72, gd b 73, gd b 74, gd b 75, gd b 76, gd b 77, gd b 78, gd b 79, gd b 80, gd b 81, gd b 82, gd b 83, gd b 84, gd b 85, gd b 86, gd b 87, gd b 88, gd b 89, gd b 90, gd b 91, gd b 92, gd b 93, gd b 94, gd b 95, gd b 96], []⟩
theorem Probe_any (f : Frm) (z : Zs) (w : World) (hL : LiesF w z f) (hI : FrmIn f) : Calls Tryd.prog 45 #[.agg (frmP f z).flatten.toArray] w fun e w' => ∃ v, e = .returned (.bool v) ∧ (v = true ↔ (f.pTo = f.dst ∧ (1 ≤ f.pKind.toNat ∧ f.pKind.toNat ≤ 3) ∧ (0 ≤ f.pAbout ∧ f.pAbout < 16) ∧ f.pUpd.length ≤ 8 ∧ ∀ u, u ∈ f.pUpd → Mur.goodU u)) ∧ Chg [] w w' := by
 have hLin_ : z.In fun g => g < w.heap.size → Wk.Off g [] := ⟨fun _ _ _ _ => trivial, fun _ _ _ _ => trivial, fun _ _ _ _ => trivial, fun _ _ _ _ => trivial, fun _ _ _ _ => trivial⟩
 have hLunc_ := hL.nu.nc
 have hLucm_ := hL.nu.cm
 have hLpnc_ := hL.np.nc
 have hLpcm_ := hL.np.cm
 have hLinc_ := hL.ni.nc
 have hLicm_ := hL.ni.cm
 have hLync_ := hL.ny.nc
 have hLycm_ := hL.ny.cm
 have hLfnc_ := hL.nf.nc
 have hLfcm_ := hL.nf.cm
 have hul_ := hL.upd.len
 rw [List.length_map] at hul_
 have hk8_ := f.pKind.toNat_lt
 refine calls_of_wp Tryd.func45 rfl ?_
 refine sR<|nW 0 1 ((frmP f z).flatten.toArray) 39 fun W1 hb1 ch1 sz1 => rP 1 2 (.bool false)<|eN<|sR<|rP 0 5 (pt w.heap.size 3)<|rq 1 6 (.agg #[.int .i64 f.pTo, .int .u8 f.pKind.toNat, .int .u64 f.pSeq, .int .i64 f.pAbout, .slice z.u.A z.u.n z.u.c]) rfl (lR 3 [.int .i64 f.pTo, .int .u8 f.pKind.toNat, .int .u64 f.pSeq, .int .i64 f.pAbout, .slice z.u.A z.u.n z.u.c] (show World.rangeAt _ _ (0 + 3) _ from segs_rng hI.sz (range_row hb1) 3 5 rfl rfl))<|nW 2 3 #[.int .i64 0, .int .u8 0, .int .u64 0, .int .i64 0, .slice none 0 0] 27 fun W2 hb2 ch2 sz2 => rU 3 rfl (Wk.storeR 27 (.tmp 3) (.tmp 6) rfl W1.heap.size 0 (by kernel_rfl) ([.int .i64 f.pTo, .int .u8 f.pKind.toNat, .int .u64 f.pSeq, .int .i64 f.pAbout, .slice z.u.A z.u.n z.u.c]) (by kernel_rfl) (by kernel_rfl) (by intro v hv; simp at hv; rcases hv with h | h | h | h | h <;> (subst h; rfl)) 27 ([.int .i64 0, .int .u8 0, .int .u64 0, .int .i64 0, .slice none 0 0]) hb2 (by simp)) fun W3 hb3 ch3 _ => ?_
 replace hb3 : W3.heap[W1.heap.size]? = some (.cells #[.int .i64 f.pTo, .int .u8 f.pKind.toNat, .int .u64 f.pSeq, .int .i64 f.pAbout, .slice z.u.A z.u.n z.u.c] 27 (0, 0)) := hb3
 have zz3 := ch3.size
 refine eN<|sR<|rP 0 4 (.func (.func 69) #[] #[])<|eN<|sR<|rP 0 7 (pt W1.heap.size 0)<|rL 1 8 0 (.int .i64 f.pTo) hb3<|rP 2 9 (pt w.heap.size 2)<|rF 3 10 2 (.int .i64 f.dst) hI.sz (qO ch3 (qT ch2 hb1)) 2 ?_
 by_cases hx1 : f.pTo = f.dst
 ·refine eT 4 11 f.pTo f.dst<|rP 5 12 (.bool true)<|rP 6 13 (pt W1.heap.size 1)<|rL 7 14 1 (.int .u8 f.pKind.toNat) hb3 ?_
  by_cases hx2 : (f.pKind.toNat : Int) ≥ (1 : Int)
  ·refine bT 8 15 ((f.pKind.toNat : Int) ≥ (1 : Int))<|rP 9 16 (.bool true)<|rP 10 17 (.bool true)<|rP 11 18 (pt W1.heap.size 1)<|rL 12 19 1 (.int .u8 f.pKind.toNat) hb3 ?_
   by_cases hx3 : (f.pKind.toNat : Int) ≤ (3 : Int)
   ·refine bT 13 20 ((f.pKind.toNat : Int) ≤ (3 : Int))<|rP 14 21 (.bool true)<|rP 15 22 (.bool true)<|rP 16 23 (pt W1.heap.size 3)<|rL 17 24 3 (.int .i64 f.pAbout) hb3<|rK 18 25 (Node_any f.pAbout W3) ?_
    by_cases hpr1 : (0 : Int) ≤ f.pAbout ∧ f.pAbout < (16 : Int)
    ·rw [decide_eq_true hpr1]
     rintro _ W4 ⟨rfl, ch4⟩
     have zz4 := ch4.size
     refine rP 19 26 (.bool true)<|rP 20 27 (.bool true)<|rP 21 28 (pt W1.heap.size 4)<|rL 22 29 4 (.slice z.u.A z.u.n z.u.c) (qT ch4 hb3)<|rP 23 30 (.int .i64 z.u.n) ?_
     by_cases hx4 : (z.u.n : Int) ≤ (8 : Int)
     ·refine bT 24 31 ((z.u.n : Int) ≤ (8 : Int))<|rP 25 32 (.bool true)<|rP 26 33 (.bool true)<|rP 27 34 (pt W1.heap.size 4)<|rL 28 35 4 (.slice z.u.A z.u.n z.u.c) (qT ch4 hb3)<|rP 29 36 (.func (.func 69) #[] #[]) ?_
      have kk1 : Chg [] w W1 := zA ch1
      have kk2 := kA kk1 ch2
      have kk3 := kB kk2 ch3
      have kk4 := kA kk3 ch4
      refine rK 30 37 (ContU_any z.u.A z.u.n z.u.c f.pUpd W4 (LiesF.chg hL kk4 hLin_).upd (by omega)) ?_
      rintro _ W5 ⟨bv1, rfl, hif1, ch5⟩
      have zz5 := ch5.size
      cases bv1
      ·refine rP 31 38 (.bool true)<|rP 32 39 (.bool true)<|rP 33 2 (.bool true)<|eN<|wp_ret<|?_
       have kk5 := kA kk4 ch5
       refine rt (.bool true) ?_
       exact ⟨_, rfl, ⟨fun _ => ⟨by omega, by omega, by omega, by omega, fun u_ h_ => Classical.byContradiction fun q_ => (fun q_ => Bool.noConfusion (hif1.2 q_)) ⟨u_, h_, q_⟩⟩, fun _ => rfl⟩, kk5⟩
      refine rP 31 38 (.bool false)<|rP 32 39 (.bool false)<|rP 33 2 (.bool false)<|eN<|wp_ret<|?_
      have kk6 := kA kk4 ch5
      refine rt (.bool false) ?_
      exact ⟨_, rfl, ⟨fun h_ => (by cases h_), fun h_ => absurd h_ (fun ⟨h1_, h2_, h3_, h4_, h5_⟩ => by obtain ⟨y_, q1_, q2_⟩ := (hif1.1 rfl); exact q2_ (h5_ y_ q1_))⟩, kk6⟩
     refine bF 24 31 ((z.u.n : Int) ≤ (8 : Int)) ?_
     refine Wk.many 40 8 25 [(27, .bool true), (31, .bool false)] 39 (.bool false) (by kernel_rfl) (by kernel_rfl) (by kernel_rfl) (by kernel_rfl) ?_
     intro bb1
     refine rP 33 2 (.bool false)<|eN<|wp_ret<|?_
     have kk7 : Chg [] w W1 := zA ch1
     have kk8 := kA kk7 ch2
     have kk9 := kB kk8 ch3
     have kk10 := kA kk9 ch4
     refine rt (.bool false) ?_
     exact ⟨_, rfl, ⟨fun h_ => (by cases h_), fun h_ => absurd h_ (fun ⟨h1_, h2_, h3_, h4_, h5_⟩ => by omega)⟩, kk10⟩
    rw [decide_eq_false hpr1]
    rintro _ W6 ⟨rfl, ch6⟩
    have zz6 := ch6.size
    refine Wk.many 40 14 19 [(22, .bool true), (25, .bool false)] 39 (.bool false) (by kernel_rfl) (by kernel_rfl) (by kernel_rfl) (by kernel_rfl) ?_
    intro bb2
    refine rP 33 2 (.bool false)<|eN<|wp_ret<|?_
    have kk11 : Chg [] w W1 := zA ch1
    have kk12 := kA kk11 ch2
    have kk13 := kB kk12 ch3
    have kk14 := kA kk13 ch6
    refine rt (.bool false) ?_
    exact ⟨_, rfl, ⟨fun h_ => (by cases h_), fun h_ => absurd h_ (fun ⟨h1_, h2_, h3_, h4_, h5_⟩ => by omega)⟩, kk14⟩
   refine bF 13 20 ((f.pKind.toNat : Int) ≤ (3 : Int)) ?_
   refine Wk.many 40 19 14 [(17, .bool true), (20, .bool false)] 39 (.bool false) (by kernel_rfl) (by kernel_rfl) (by kernel_rfl) (by kernel_rfl) ?_
   intro bb3
   refine rP 33 2 (.bool false)<|eN<|wp_ret<|?_
   have kk15 : Chg [] w W1 := zA ch1
   have kk16 := kA kk15 ch2
   have kk17 := kB kk16 ch3
   refine rt (.bool false) ?_
   exact ⟨_, rfl, ⟨fun h_ => (by cases h_), fun h_ => absurd h_ (fun ⟨h1_, h2_, h3_, h4_, h5_⟩ => by omega)⟩, kk17⟩
  refine bF 8 15 ((f.pKind.toNat : Int) ≥ (1 : Int)) ?_
  refine Wk.many 40 24 9 [(12, .bool true), (15, .bool false)] 39 (.bool false) (by kernel_rfl) (by kernel_rfl) (by kernel_rfl) (by kernel_rfl) ?_
  intro bb4
  refine rP 33 2 (.bool false)<|eN<|wp_ret<|?_
  have kk18 : Chg [] w W1 := zA ch1
  have kk19 := kA kk18 ch2
  have kk20 := kB kk19 ch3
  refine rt (.bool false) ?_
  exact ⟨_, rfl, ⟨fun h_ => (by cases h_), fun h_ => absurd h_ (fun ⟨h1_, h2_, h3_, h4_, h5_⟩ => by omega)⟩, kk20⟩
 refine eF 4 11 f.pTo f.dst ?_
 refine Wk.many 40 28 5 [(11, .bool false)] 39 (.bool false) (by kernel_rfl) (by kernel_rfl) (by kernel_rfl) (by kernel_rfl) ?_
 intro bb5
 refine rP 33 2 (.bool false)<|eN<|wp_ret<|?_
 have kk21 : Chg [] w W1 := zA ch1
 have kk22 := kA kk21 ch2
 have kk23 := kB kk22 ch3
 refine rt (.bool false) ?_
 exact ⟨_, rfl, ⟨fun h_ => (by cases h_), fun h_ => absurd h_ (fun ⟨h1_, h2_, h3_, h4_, h5_⟩ => by omega)⟩, kk23⟩
theorem MayF_any (f : Frm) (z : Zs) (w : World) (hL : LiesF w z f) (hI : FrmIn f) : Calls Tryd.prog 21 #[.agg (frmP f z).flatten.toArray] w fun e w' => ∃ v, e = .returned (.bool v) ∧ (v = true ↔ mayFM f) ∧ Chg [] w w' := by
 have hLin_ : z.In fun g => g < w.heap.size → Wk.Off g [] := ⟨fun _ _ _ _ => trivial, fun _ _ _ _ => trivial, fun _ _ _ _ => trivial, fun _ _ _ _ => trivial, fun _ _ _ _ => trivial⟩
 have hLunc_ := hL.nu.nc
 have hLucm_ := hL.nu.cm
 have hLpnc_ := hL.np.nc
 have hLpcm_ := hL.np.cm
 have hLinc_ := hL.ni.nc
 have hLicm_ := hL.ni.cm
 have hLync_ := hL.ny.nc
 have hLycm_ := hL.ny.cm
 have hLfnc_ := hL.nf.nc
 have hLfcm_ := hL.nf.cm
 have hbl_ := hL.byt.1
 have hfl_ := hL.prf.len
 rw [List.length_map] at hfl_
 refine calls_of_wp Tryd.func21 rfl ?_
 refine sR<|nW 0 1 ((frmP f z).flatten.toArray) 39 fun W1 hb1 ch1 sz1 => rP 1 2 (.bool false)<|eN<|wp_seq<|wp_seq<|?_
 refine dReg ([]) (by kernel_rfl) ?_
 intro W2 ch2 sz2
 have zz2 := ch2.size
 have sS1 : Chg ([]) W2 W2 := (Chg.refl _).more (by simp)
 refine dW 0 6 (pt w.heap.size 1) sS1 ?_
 refine dV 1 7 (.int .i64 f.frm) rfl rfl (fun w' hw' => fl 3 6 w.heap.size 1 (.int .i64 f.frm) hI.sz (qT hw' (qT ch2 hb1)) 1) sS1 ?_
 refine dOp 2 (by kernel_rfl) ?_
 refine oK 8 (Node_any f.frm W2) ?_
 by_cases hpr1 : (0 : Int) ≤ f.frm ∧ f.frm < (16 : Int)
 ·rw [decide_eq_true hpr1]
  rintro _ W3 ⟨rfl, ch3⟩
  have zz3 := ch3.size
  have sS2 := kA sS1 ch3
  refine ⟨sS2, ?_⟩
  refine dW 3 9 (.bool false) sS2<|dW 4 10 (.bool false) sS2<|dW 5 11 (pt w.heap.size 2) sS2 ?_
  refine dV 6 12 (.int .i64 f.dst) rfl rfl (fun w' hw' => fl 3 11 w.heap.size 2 (.int .i64 f.dst) hI.sz (qT hw' (qT ch2 hb1)) 2) sS2 ?_
  refine dOp 7 (by kernel_rfl) ?_
  refine oK 13 (Node_any f.dst W3) ?_
  by_cases hpr2 : (0 : Int) ≤ f.dst ∧ f.dst < (16 : Int)
  ·rw [decide_eq_true hpr2]
   rintro _ W4 ⟨rfl, ch4⟩
   have zz4 := ch4.size
   have sS3 := kA sS2 ch4
   refine ⟨sS3, ?_⟩
   refine dW 8 14 (.bool false) sS3<|dW 9 15 (.bool false) sS3<|dW 10 16 (.bool false) sS3<|dW 11 17 (pt w.heap.size 1) sS3 ?_
   refine dV 12 18 (.int .i64 f.frm) rfl rfl (fun w' hw' => fl 3 17 w.heap.size 1 (.int .i64 f.frm) hI.sz (qT hw' (qT ch2 hb1)) 1) sS3 ?_
   refine dW 13 19 (pt w.heap.size 2) sS3 ?_
   refine dV 14 20 (.int .i64 f.dst) rfl rfl (fun w' hw' => fl 3 19 w.heap.size 2 (.int .i64 f.dst) hI.sz (qT hw' (qT ch2 hb1)) 2) sS3 ?_
   by_cases hx1 : f.frm = f.dst
   ·refine dV 15 21 (.bool true) rfl rfl (fun w' hw' => boolT (b := (f.frm == f.dst)) (beq_iff_eq.2 (by first | exact hx1 | omega)) (by kernel_rfl)) sS3 ?_
    refine dW 16 22 (.bool true) sS3<|dW 17 23 (.bool true) sS3<|dZ 18 24 sS3<|dZ 19 25 sS3<|dZ 20 26 sS3<|dZ 21 27 sS3<|dZ 22 28 sS3<|dW 23 29 (.bool true) sS3 ?_
    refine dN<|cT<|sR<|?_
    refine rP 0 2 (.bool false)<|eN<|tR<|?_
    have kk1 : Chg [] w W1 := zA ch1
    have kk2 := kA kk1 ch2
    have kk3 := kA kk2 ch3
    have kk4 := kA kk3 ch4
    refine rt (.bool false) ?_
    exact ⟨_, rfl, ⟨fun h_ => (by cases h_), fun h_ => absurd h_ (fun ⟨h1_, h2_, h3_, h4_, h5_⟩ => h3_ (by omega))⟩, kk4⟩
   refine dV 15 21 (.bool false) rfl rfl (fun w' hw' => boolF (b := (f.frm == f.dst)) (beq_eq_false_iff_ne.2 (by first | exact hx1 | omega)) (by kernel_rfl)) sS3 ?_
   refine dW 16 22 (.bool false) sS3<|dW 17 23 (.bool false) sS3 ?_
   refine dV 18 24 (.agg ((frmP f z).flatten.toArray)) rfl rfl (fun w' hw' => lA (qT hw' (qT ch2 hb1)) (frmL_size hI.sz)) sS3 ?_
   refine dV 19 25 (.agg ((frmP f z).flatten.toArray)) rfl rfl (fun w' hw' => lA (qT hw' (qT ch2 hb1)) (frmL_size hI.sz)) sS3 ?_
   refine dOp 20 (by kernel_rfl) ?_
   refine oK 26 (Bare_any f z W4 hI) ?_
   rintro _ W5 ⟨rfl, ch5⟩
   have zz5 := ch5.size
   have sS4 := kA sS3 ch5
   refine ⟨sS4, ?_⟩
   refine dOp 21 (by kernel_rfl) ?_
   have kk5 : Chg [] w W1 := zA ch1
   have kk6 := kA kk5 ch2
   have kk7 := kA kk6 ch3
   have kk8 := kA kk7 ch4
   have kk9 := kA kk8 ch5
   refine oK 27 (Same_any f z (bareM f) (bareZ f z) W5 (LiesF.chg hL kk9 hLin_) hI (Mur.lies_bare (LiesF.chg hL kk9 hLin_)) (Mur.frmIn_bare hI)) ?_
   rintro _ W6 ⟨bv1, rfl, hif1, ch6⟩
   have zz6 := ch6.size
   cases bv1
   ·have sS5 := kA sS4 ch6
    refine ⟨sS5, ?_⟩
    refine dW 22 28 (.bool true) sS5<|dW 23 29 (.bool true) sS5 ?_
    refine dN<|cT<|sR<|?_
    refine rP 0 2 (.bool false)<|eN<|tR<|?_
    have kk10 := kA kk9 ch6
    refine rt (.bool false) ?_
    exact ⟨_, rfl, ⟨fun h_ => (by cases h_), fun h_ => absurd h_ (fun ⟨h1_, h2_, h3_, h4_, h5_⟩ => (fun q_ => Bool.noConfusion (hif1.2 q_)) h4_)⟩, kk10⟩
   have sS6 := kA sS4 ch6
   refine ⟨sS6, ?_⟩
   refine dW 22 28 (.bool false) sS6<|dW 23 29 (.bool false) sS6 ?_
   refine dN<|cF<|wp_skip<|nxt<|wp_seq<|?_
   refine Wk.cut (fun a wj => ∃ (cb : Bool), a = MayF_J3_1 a.tmps (pt w.heap.size 0) (.bool cb) ∧ W6 = wj ∧ (cb = true ↔ 0 ≤ f.chunk ∧ f.chunk < 100)) ?_ ?_
   ·refine reg<|rP 0 30 (pt w.heap.size 210)<|rF 1 31 210 (.int .i64 f.chunk) hI.sz (qT ch6 (qT ch5 (qT ch4 (qT ch3 (qT ch2 hb1))))) 24 ?_
    by_cases hx2 : f.chunk ≥ (0 : Int)
    ·refine bT 2 32 (f.chunk ≥ (0 : Int))<|rP 3 33 (.bool true)<|rP 4 34 (pt w.heap.size 210)<|rF 5 35 210 (.int .i64 f.chunk) hI.sz (qT ch6 (qT ch5 (qT ch4 (qT ch3 (qT ch2 hb1))))) 24 ?_
     by_cases hx3 : f.chunk < (100 : Int)
     ·refine bT 6 36 (f.chunk < (100 : Int))<|rP 7 37 (.bool true)<|rP 8 3 (.bool true)<|eN<|?_
      exact ⟨true, by kernel_rfl, rfl, ⟨fun _ => by omega, fun _ => rfl⟩⟩
     refine bF 6 36 (f.chunk < (100 : Int))<|rP 7 37 (.bool false)<|rP 8 3 (.bool false)<|eN<|?_
     exact ⟨false, by kernel_rfl, rfl, ⟨fun h_ => (by cases h_), fun h_ => (by omega)⟩⟩
    refine bF 2 32 (f.chunk ≥ (0 : Int))<|rP 3 33 (.bool false)<|rZ 4 34<|rZ 5 35<|rZ 6 36<|rP 7 37 (.bool false)<|rP 8 3 (.bool false)<|eN<|?_
    exact ⟨false, by kernel_rfl, rfl, ⟨fun h_ => (by cases h_), fun h_ => (by omega)⟩⟩
   rintro aa1 _ ⟨cb, hF1, rfl, hcb⟩
   generalize aa1.tmps = bb1 at hF1
   subst hF1
   refine nxt<|wp_seq<|sR<|rP 0 38 (pt w.heap.size 0)<|rF 1 39 0 (.int .u8 f.kind.toNat) hI.sz (qT ch6 (qT ch5 (qT ch4 (qT ch3 (qT ch2 hb1))))) 0<|eN<|wp_block<|sR<|?_
   by_cases hx4 : (f.kind.toNat : Int) = (1 : Int)
   ·refine eT 0 41 (f.kind.toNat : Int) (1 : Int)<|rP 1 40 (.bool true)<|eN<|cT<|sR<|rq 0 42 (.agg ((frmP f z).flatten.toArray)) rfl (lA (qT ch6 (qT ch5 (qT ch4 (qT ch3 (qT ch2 hb1))))) (frmL_size hI.sz)) ?_
    have kk11 := kA kk9 ch6
    refine rK 1 43 (Probe_any f z W6 (LiesF.chg hL kk11 hLin_) hI) ?_
    rintro _ W7 ⟨bv2, rfl, hif2, ch7⟩
    have zz7 := ch7.size
    cases bv2
    ·refine rP 2 2 (.bool false)<|eN<|tI<|?_
     have kk12 := kA kk11 ch7
     have hHd_ : Mur.nodeM f.frm ∧ Mur.nodeM f.dst ∧ f.frm ≠ f.dst ∧ f = bareM f := ⟨hpr1, hpr2, by omega, (hif1.1 rfl)⟩
     have hk_ : f.kind = 1 := UInt8.toNat_inj.1 (by have h_ : (1 : UInt8).toNat = 1 := rfl; omega)
     have hM_ : mayFM f ↔ Mur.mayK1 f := mayFM_1 hHd_ hk_
     refine rt (.bool false) ?_
     exact ⟨_, rfl, ⟨fun h_ => (by cases h_), fun h_ => absurd (hM_.1 h_) (fun q_ => Bool.noConfusion (hif2.2 q_))⟩, kk12⟩
    refine rP 2 2 (.bool true)<|eN<|tI<|?_
    have kk13 := kA kk11 ch7
    have hHd_ : Mur.nodeM f.frm ∧ Mur.nodeM f.dst ∧ f.frm ≠ f.dst ∧ f = bareM f := ⟨hpr1, hpr2, by omega, (hif1.1 rfl)⟩
    have hk_ : f.kind = 1 := UInt8.toNat_inj.1 (by have h_ : (1 : UInt8).toNat = 1 := rfl; omega)
    have hM_ : mayFM f ↔ Mur.mayK1 f := mayFM_1 hHd_ hk_
    refine rt (.bool true) ?_
    exact ⟨_, rfl, ⟨fun _ => hM_.2 (hif2.1 rfl), fun _ => rfl⟩, kk13⟩
   refine eF 0 41 (f.kind.toNat : Int) (1 : Int)<|rP 1 40 (.bool false)<|eN<|cF<|sR<|?_
   by_cases hx5 : (f.kind.toNat : Int) = (2 : Int)
   ·refine eT 0 45 (f.kind.toNat : Int) (2 : Int)<|rP 1 44 (.bool true)<|eN<|cT<|sR<|rP 0 46 (pt w.heap.size 8)<|rq 1 47 (.agg ((Mur.msgC f.gos.kind z.p.A z.p.n z.p.c f.gos.sum f.gos.cnt z.i.A z.i.n z.i.c f.gos.ans).toArray)) rfl (lR 8 (Mur.msgC f.gos.kind z.p.A z.p.n z.p.c f.gos.sum f.gos.cnt z.i.A z.i.n z.i.c f.gos.ans) (show World.rangeAt _ _ (0 + 8) _ from segs_rng hI.sz (range_row (qT ch6 (qT ch5 (qT ch4 (qT ch3 (qT ch2 hb1)))))) 8 6 rfl rfl) (by rw [Mur.msgC_length hI.ok.sum]; kernel_rfl)) ?_
    have kk14 := kA kk9 ch6
    refine rK 2 48 (May_any f.gos.kind f.gos.pre z.p.A z.p.n z.p.c f.gos.sum f.gos.cnt f.gos.items z.i.A z.i.n z.i.c f.gos.ans W6 hI.ok.sum (LiesF.chg hL kk14 hLin_).pre (LiesF.chg hL kk14 hLin_).its (by omega) (by omega)) ?_
    rintro _ W8 ⟨bv3, rfl, hif3, ch8⟩
    have zz8 := ch8.size
    cases bv3
    ·refine rP 3 2 (.bool false)<|eN<|tI<|?_
     have kk15 := kA kk14 ch8
     have hHd_ : Mur.nodeM f.frm ∧ Mur.nodeM f.dst ∧ f.frm ≠ f.dst ∧ f = bareM f := ⟨hpr1, hpr2, by omega, (hif1.1 rfl)⟩
     have hk_ : f.kind = 2 := UInt8.toNat_inj.1 (by have h_ : (2 : UInt8).toNat = 2 := rfl; omega)
     have hM_ : mayFM f ↔ Mur.mayK2 f := mayFM_2 hHd_ hk_
     refine rt (.bool false) ?_
     exact ⟨_, rfl, ⟨fun h_ => (by cases h_), fun h_ => absurd (hM_.1 h_) (fun q_ => Bool.noConfusion (hif3.2 q_))⟩, kk15⟩
    refine rP 3 2 (.bool true)<|eN<|tI<|?_
    have kk16 := kA kk14 ch8
    have hHd_ : Mur.nodeM f.frm ∧ Mur.nodeM f.dst ∧ f.frm ≠ f.dst ∧ f = bareM f := ⟨hpr1, hpr2, by omega, (hif1.1 rfl)⟩
    have hk_ : f.kind = 2 := UInt8.toNat_inj.1 (by have h_ : (2 : UInt8).toNat = 2 := rfl; omega)
    have hM_ : mayFM f ↔ Mur.mayK2 f := mayFM_2 hHd_ hk_
    refine rt (.bool true) ?_
    exact ⟨_, rfl, ⟨fun _ => hM_.2 (hif3.1 rfl), fun _ => rfl⟩, kk16⟩
   refine eF 0 45 (f.kind.toNat : Int) (2 : Int)<|rP 1 44 (.bool false)<|eN<|cF<|sR<|?_
   by_cases hx6 : (f.kind.toNat : Int) = (3 : Int)
   ·refine eT 0 50 (f.kind.toNat : Int) (3 : Int)<|rP 1 49 (.bool true)<|eN<|cT<|sR<|rP 0 51 (pt w.heap.size 45)<|rP 1 52 (pt w.heap.size 77)<|rF 2 53 77 (.int .i64 f.cNode) hI.sz (qT ch6 (qT ch5 (qT ch4 (qT ch3 (qT ch2 hb1))))) 15<|rP 3 54 (pt w.heap.size 1)<|rF 4 55 1 (.int .i64 f.frm) hI.sz (qT ch6 (qT ch5 (qT ch4 (qT ch3 (qT ch2 hb1))))) 1 ?_
    by_cases hx7 : f.cNode = f.frm
    ·refine eT 5 56 f.cNode f.frm<|rP 6 57 (.bool true)<|rP 7 58 (pt w.heap.size 45)<|rP 8 59 (pt w.heap.size 78)<|rF 9 60 78 (.int .u64 f.cInc) hI.sz (qT ch6 (qT ch5 (qT ch4 (qT ch3 (qT ch2 hb1))))) 16 ?_
     by_cases hx8 : (f.cInc : Int) ≤ (1099511627776 : Int)
     ·refine bT 10 61 ((f.cInc : Int) ≤ (1099511627776 : Int))<|rP 11 62 (.bool true)<|rP 12 63 (.bool true)<|rP 13 64 (pt w.heap.size 45)<|rP 14 65 (pt w.heap.size 79)<|rF 15 66 79 (.int .u64 f.cCnt) hI.sz (qT ch6 (qT ch5 (qT ch4 (qT ch3 (qT ch2 hb1))))) 17 ?_
      by_cases hx9 : (f.cCnt : Int) ≤ (1099511627776 : Int)
      ·refine bT 16 67 ((f.cCnt : Int) ≤ (1099511627776 : Int))<|rP 17 68 (.bool true)<|rP 18 2 (.bool true)<|eN<|tI<|?_
       have kk17 := kA kk9 ch6
       have hHd_ : Mur.nodeM f.frm ∧ Mur.nodeM f.dst ∧ f.frm ≠ f.dst ∧ f = bareM f := ⟨hpr1, hpr2, by omega, (hif1.1 rfl)⟩
       have hk_ : f.kind = 3 := UInt8.toNat_inj.1 (by have h_ : (3 : UInt8).toNat = 3 := rfl; omega)
       have hM_ : mayFM f ↔ Mur.mayK3 f := mayFM_3 hHd_ hk_
       refine rt (.bool true) ?_
       exact ⟨_, rfl, ⟨fun _ => hM_.2 (show _ ∧ _ ∧ _ from ⟨by omega, by omega, by omega⟩), fun _ => rfl⟩, kk17⟩
      refine bF 16 67 ((f.cCnt : Int) ≤ (1099511627776 : Int))<|rP 17 68 (.bool false)<|rP 18 2 (.bool false)<|eN<|tI<|?_
      have kk18 := kA kk9 ch6
      have hHd_ : Mur.nodeM f.frm ∧ Mur.nodeM f.dst ∧ f.frm ≠ f.dst ∧ f = bareM f := ⟨hpr1, hpr2, by omega, (hif1.1 rfl)⟩
      have hk_ : f.kind = 3 := UInt8.toNat_inj.1 (by have h_ : (3 : UInt8).toNat = 3 := rfl; omega)
      have hM_ : mayFM f ↔ Mur.mayK3 f := mayFM_3 hHd_ hk_
      refine rt (.bool false) ?_
      exact ⟨_, rfl, ⟨fun h_ => (by cases h_), fun h_ => absurd (hM_.1 h_) (fun ⟨q1_, q2_, q3_⟩ => by omega)⟩, kk18⟩
     refine bF 10 61 ((f.cInc : Int) ≤ (1099511627776 : Int))<|rP 11 62 (.bool false)<|rP 12 63 (.bool false)<|rZ 13 64<|rZ 14 65<|rZ 15 66<|rZ 16 67<|rP 17 68 (.bool false)<|rP 18 2 (.bool false)<|eN<|tI<|?_
     have kk19 := kA kk9 ch6
     have hHd_ : Mur.nodeM f.frm ∧ Mur.nodeM f.dst ∧ f.frm ≠ f.dst ∧ f = bareM f := ⟨hpr1, hpr2, by omega, (hif1.1 rfl)⟩
     have hk_ : f.kind = 3 := UInt8.toNat_inj.1 (by have h_ : (3 : UInt8).toNat = 3 := rfl; omega)
     have hM_ : mayFM f ↔ Mur.mayK3 f := mayFM_3 hHd_ hk_
     refine rt (.bool false) ?_
     exact ⟨_, rfl, ⟨fun h_ => (by cases h_), fun h_ => absurd (hM_.1 h_) (fun ⟨q1_, q2_, q3_⟩ => by omega)⟩, kk19⟩
    refine eF 5 56 f.cNode f.frm<|rP 6 57 (.bool false)<|rZ 7 58<|rZ 8 59<|rZ 9 60<|rZ 10 61<|rP 11 62 (.bool false)<|rP 12 63 (.bool false)<|rZ 13 64<|rZ 14 65<|rZ 15 66<|rZ 16 67<|rP 17 68 (.bool false)<|rP 18 2 (.bool false)<|eN<|tI<|?_
    have kk20 := kA kk9 ch6
    have hHd_ : Mur.nodeM f.frm ∧ Mur.nodeM f.dst ∧ f.frm ≠ f.dst ∧ f = bareM f := ⟨hpr1, hpr2, by omega, (hif1.1 rfl)⟩
    have hk_ : f.kind = 3 := UInt8.toNat_inj.1 (by have h_ : (3 : UInt8).toNat = 3 := rfl; omega)
    have hM_ : mayFM f ↔ Mur.mayK3 f := mayFM_3 hHd_ hk_
    refine rt (.bool false) ?_
    exact ⟨_, rfl, ⟨fun h_ => (by cases h_), fun h_ => absurd (hM_.1 h_) (fun ⟨q1_, q2_, q3_⟩ => by omega)⟩, kk20⟩
   refine eF 0 50 (f.kind.toNat : Int) (3 : Int)<|rP 1 49 (.bool false)<|eN<|cF<|sR<|?_
   by_cases hx10 : (f.kind.toNat : Int) = (4 : Int)
   ·refine eT 0 70 (f.kind.toNat : Int) (4 : Int)<|rP 1 69 (.bool true)<|eN<|cT<|sR<|rP 0 72 (pt w.heap.size 81)<|rq 1 73 (.agg ((Mur.attC f.att.k f.att.r f.att.n f.att.t).toArray)) rfl (lR 81 (Mur.attC f.att.k f.att.r f.att.n f.att.t) (show World.rangeAt _ _ (0 + 81) _ from segs_rng hI.sz (range_row (qT ch6 (qT ch5 (qT ch4 (qT ch3 (qT ch2 hb1)))))) 19 4 Mur.frmL_att rfl) (by rw [Mur.attC_length f.att.hk f.att.hr f.att.ht]; kernel_rfl)) ?_
    refine rC 2 74 47 [.tmp 73] #[36] [.agg ((Mur.attC f.att.k f.att.r f.att.n f.att.t).toArray)] ?_
    by_cases hmay1 : Mur.may f.att.n
    ·have hmay1u : (1 ≤ f.att.n ∧ f.att.n ≤ 5000) := hmay1
     refine (Bytes_ok f.att.k f.att.r f.att.t f.att.n f.att.hk f.att.hr f.att.ht W6 hmay1).mono ?_
     rintro _ W10 ⟨qr1, cr1, RB1, hRB1, rfl, hbr1, hq1, hq2, ch9⟩
     have zz9 := ch9.size
     have hBt1 : ∀ g off, (some ⟨qr1, 0, none⟩ : Option Addr) = some ⟨g, off, none⟩ → W6.heap.size ≤ g ∧ g < W10.heap.size := fun g off e => by cases e; exact hq1
     refine ⟨_, rfl, ?_⟩
     refine rP 3 71 (.tuple #[.slice (some ⟨qr1, 0, none⟩) 104 cr1, .int .i64 0])<|rP 4 75 (.slice (some ⟨qr1, 0, none⟩) 104 cr1)<|rP 5 76 (.int .i64 0)<|rP 6 4 (.slice (some ⟨qr1, 0, none⟩) 104 cr1)<|rP 7 5 (.int .i64 0)<|eN<|sR<|rP 0 77 (.int .i64 0)<|eT 1 78 (0 : Int) (0 : Int)<|rP 2 2 (.bool true)<|eN<|tI<|?_
     have kk21 := kA kk9 ch6
     have kk22 := kA kk21 ch9
     have hHd_ : Mur.nodeM f.frm ∧ Mur.nodeM f.dst ∧ f.frm ≠ f.dst ∧ f = bareM f := ⟨hpr1, hpr2, by omega, (hif1.1 rfl)⟩
     have hk_ : f.kind = 4 := UInt8.toNat_inj.1 (by have h_ : (4 : UInt8).toNat = 4 := rfl; omega)
     have hM_ : mayFM f ↔ Mur.mayK4 f := mayFM_4 hHd_ hk_
     refine rt (.bool true) ?_
     exact ⟨_, rfl, ⟨fun _ => hM_.2 hmay1, fun _ => rfl⟩, kk22⟩
    have hmay1u : ¬ (1 ≤ f.att.n ∧ f.att.n ≤ 5000) := hmay1
    refine (Bytes_no f.att.k f.att.r f.att.t f.att.n f.att.hk f.att.hr f.att.ht W6 hmay1).mono ?_
    rintro _ W11 ⟨rfl, ch10⟩
    have zz10 := ch10.size
    refine ⟨_, rfl, ?_⟩
    refine rP 3 71 (.tuple #[.slice none 0 0, .int .i64 2])<|rP 4 75 (.slice none 0 0)<|rP 5 76 (.int .i64 2)<|rP 6 4 (.slice none 0 0)<|rP 7 5 (.int .i64 2)<|eN<|sR<|rP 0 77 (.int .i64 2)<|eF 1 78 (2 : Int) (0 : Int)<|rP 2 2 (.bool false)<|eN<|tI<|?_
    have kk23 := kA kk9 ch6
    have kk24 := kA kk23 ch10
    have hHd_ : Mur.nodeM f.frm ∧ Mur.nodeM f.dst ∧ f.frm ≠ f.dst ∧ f = bareM f := ⟨hpr1, hpr2, by omega, (hif1.1 rfl)⟩
    have hk_ : f.kind = 4 := UInt8.toNat_inj.1 (by have h_ : (4 : UInt8).toNat = 4 := rfl; omega)
    have hM_ : mayFM f ↔ Mur.mayK4 f := mayFM_4 hHd_ hk_
    refine rt (.bool false) ?_
    exact ⟨_, rfl, ⟨fun h_ => (by cases h_), fun h_ => absurd (hM_.1 h_) hmay1⟩, kk24⟩
   refine eF 0 70 (f.kind.toNat : Int) (4 : Int)<|rP 1 69 (.bool false)<|eN<|cF<|sR<|?_
   by_cases hx11 : (f.kind.toNat : Int) = (5 : Int)
   ·refine eT 0 80 (f.kind.toNat : Int) (5 : Int)<|rP 1 79 (.bool true)<|eN<|cT<|sR<|rP 0 81 (.bool cb)<|rP 1 2 (.bool cb)<|eN<|tI<|?_
    have kk25 := kA kk9 ch6
    have hHd_ : Mur.nodeM f.frm ∧ Mur.nodeM f.dst ∧ f.frm ≠ f.dst ∧ f = bareM f := ⟨hpr1, hpr2, by omega, (hif1.1 rfl)⟩
    have hk_ : f.kind = 5 := UInt8.toNat_inj.1 (by have h_ : (5 : UInt8).toNat = 5 := rfl; omega)
    have hM_ : mayFM f ↔ Mur.mayK5 f := Mur.mayFM_5 hHd_ hk_
    refine rt (.bool cb) ?_
    exact ⟨_, rfl, hcb.trans hM_.symm, kk25⟩
   refine eF 0 80 (f.kind.toNat : Int) (5 : Int)<|rP 1 79 (.bool false)<|eN<|cF<|sR<|?_
   by_cases hx12 : (f.kind.toNat : Int) = (6 : Int)
   ·refine eT 0 83 (f.kind.toNat : Int) (6 : Int)<|rP 1 82 (.bool true)<|eN<|cT<|sR<|rP 0 84 (.bool cb)<|rP 1 85 (.bool cb) ?_
    cases cb
    ·refine rZ 2 86<|rZ 3 87<|rZ 4 88<|rZ 5 89<|rP 6 90 (.bool false)<|rP 7 91 (.bool false)<|rZ 8 92<|rZ 9 93<|rZ 10 94<|rZ 11 95<|rP 12 96 (.bool false)<|rP 13 2 (.bool false)<|eN<|tI<|?_
     have kk26 := kA kk9 ch6
     have hHd_ : Mur.nodeM f.frm ∧ Mur.nodeM f.dst ∧ f.frm ≠ f.dst ∧ f = bareM f := ⟨hpr1, hpr2, by omega, (hif1.1 rfl)⟩
     have hk_ : f.kind = 6 := UInt8.toNat_inj.1 (by have h_ : (6 : UInt8).toNat = 6 := rfl; omega)
     have hM_ : mayFM f ↔ Mur.mayK6 f := mayFM_6 hHd_ hk_
     refine rt (.bool false) ?_
     exact ⟨_, rfl, ⟨fun h_ => (by cases h_), fun h_ => absurd (hM_.1 h_) (fun ⟨q1_, q2_, q3_⟩ => by first | omega | exact Bool.noConfusion (hcb.2 q1_))⟩, kk26⟩
    refine rP 2 86 (pt w.heap.size 211)<|rF 3 87 211 (.slice z.y.A z.y.n z.y.c) hI.sz (qT ch6 (qT ch5 (qT ch4 (qT ch3 (qT ch2 hb1))))) 25<|rP 4 88 (.int .i64 z.y.n) ?_
    by_cases hx13 : (z.y.n : Int) ≤ (64 : Int)
    ·refine bT 5 89 ((z.y.n : Int) ≤ (64 : Int))<|rP 6 90 (.bool true)<|rP 7 91 (.bool true)<|rP 8 92 (pt w.heap.size 212)<|rF 9 93 212 (.slice z.f.A z.f.n z.f.c) hI.sz (qT ch6 (qT ch5 (qT ch4 (qT ch3 (qT ch2 hb1))))) 26<|rP 10 94 (.int .i64 z.f.n) ?_
     by_cases hx14 : (z.f.n : Int) ≤ (10 : Int)
     ·refine bT 11 95 ((z.f.n : Int) ≤ (10 : Int))<|rP 12 96 (.bool true)<|rP 13 2 (.bool true)<|eN<|tI<|?_
      have kk27 := kA kk9 ch6
      have hHd_ : Mur.nodeM f.frm ∧ Mur.nodeM f.dst ∧ f.frm ≠ f.dst ∧ f = bareM f := ⟨hpr1, hpr2, by omega, (hif1.1 rfl)⟩
      have hk_ : f.kind = 6 := UInt8.toNat_inj.1 (by have h_ : (6 : UInt8).toNat = 6 := rfl; omega)
      have hM_ : mayFM f ↔ Mur.mayK6 f := mayFM_6 hHd_ hk_
      refine rt (.bool true) ?_
      exact ⟨_, rfl, ⟨fun _ => hM_.2 ⟨hcb.1 rfl, by omega, by omega⟩, fun _ => rfl⟩, kk27⟩
     refine bF 11 95 ((z.f.n : Int) ≤ (10 : Int))<|rP 12 96 (.bool false)<|rP 13 2 (.bool false)<|eN<|tI<|?_
     have kk28 := kA kk9 ch6
     have hHd_ : Mur.nodeM f.frm ∧ Mur.nodeM f.dst ∧ f.frm ≠ f.dst ∧ f = bareM f := ⟨hpr1, hpr2, by omega, (hif1.1 rfl)⟩
     have hk_ : f.kind = 6 := UInt8.toNat_inj.1 (by have h_ : (6 : UInt8).toNat = 6 := rfl; omega)
     have hM_ : mayFM f ↔ Mur.mayK6 f := mayFM_6 hHd_ hk_
     refine rt (.bool false) ?_
     exact ⟨_, rfl, ⟨fun h_ => (by cases h_), fun h_ => absurd (hM_.1 h_) (fun ⟨q1_, q2_, q3_⟩ => by first | omega | exact Bool.noConfusion (hcb.2 q1_))⟩, kk28⟩
    refine bF 5 89 ((z.y.n : Int) ≤ (64 : Int))<|rP 6 90 (.bool false)<|rP 7 91 (.bool false)<|rZ 8 92<|rZ 9 93<|rZ 10 94<|rZ 11 95<|rP 12 96 (.bool false)<|rP 13 2 (.bool false)<|eN<|tI<|?_
    have kk29 := kA kk9 ch6
    have hHd_ : Mur.nodeM f.frm ∧ Mur.nodeM f.dst ∧ f.frm ≠ f.dst ∧ f = bareM f := ⟨hpr1, hpr2, by omega, (hif1.1 rfl)⟩
    have hk_ : f.kind = 6 := UInt8.toNat_inj.1 (by have h_ : (6 : UInt8).toNat = 6 := rfl; omega)
    have hM_ : mayFM f ↔ Mur.mayK6 f := mayFM_6 hHd_ hk_
    refine rt (.bool false) ?_
    exact ⟨_, rfl, ⟨fun h_ => (by cases h_), fun h_ => absurd (hM_.1 h_) (fun ⟨q1_, q2_, q3_⟩ => by first | omega | exact Bool.noConfusion (hcb.2 q1_))⟩, kk29⟩
   refine eF 0 83 (f.kind.toNat : Int) (6 : Int)<|rP 1 82 (.bool false)<|eN<|cF<|wp_skip<|inN<|nxt<|sR<|rP 0 2 (.bool false)<|eN<|wp_ret<|?_
   have kk30 := kA kk9 ch6
   have hHd_ : Mur.nodeM f.frm ∧ Mur.nodeM f.dst ∧ f.frm ≠ f.dst ∧ f = bareM f := ⟨hpr1, hpr2, by omega, (hif1.1 rfl)⟩
   refine rt (.bool false) ?_
   exact ⟨_, rfl, ⟨fun h_ => (by cases h_), fun h_ => absurd h_.2.2.2.2 (by rintro (h_ | h_ | h_ | h_ | h_ | h_) <;> (have q_ := congrArg UInt8.toNat h_.1; have q1_ : (1 : UInt8).toNat = 1 := rfl; have q2_ : (2 : UInt8).toNat = 2 := rfl; have q3_ : (3 : UInt8).toNat = 3 := rfl; have q4_ : (4 : UInt8).toNat = 4 := rfl; have q5_ : (5 : UInt8).toNat = 5 := rfl; have q6_ : (6 : UInt8).toNat = 6 := rfl; omega))⟩, kk30⟩
  rw [decide_eq_false hpr2]
  rintro _ W12 ⟨rfl, ch11⟩
  have zz11 := ch11.size
  have sS7 := kA sS2 ch11
  refine ⟨sS7, ?_⟩
  refine dW 8 14 (.bool true) sS7<|dW 9 15 (.bool true) sS7<|dW 10 16 (.bool true) sS7<|dZ 11 17 sS7<|dZ 12 18 sS7<|dZ 13 19 sS7<|dZ 14 20 sS7<|dZ 15 21 sS7<|dW 16 22 (.bool true) sS7<|dW 17 23 (.bool true) sS7<|dZ 18 24 sS7<|dZ 19 25 sS7<|dZ 20 26 sS7<|dZ 21 27 sS7<|dZ 22 28 sS7<|dW 23 29 (.bool true) sS7 ?_
  refine dN<|cT<|sR<|?_
  refine rP 0 2 (.bool false)<|eN<|tR<|?_
  have kk31 : Chg [] w W1 := zA ch1
  have kk32 := kA kk31 ch2
  have kk33 := kA kk32 ch3
  have kk34 := kA kk33 ch11
  refine rt (.bool false) ?_
  exact ⟨_, rfl, ⟨fun h_ => (by cases h_), fun h_ => absurd h_ (fun ⟨h1_, h2_, h3_, h4_, h5_⟩ => by have q1_ : 0 ≤ f.frm ∧ f.frm < 16 := h1_; have q2_ : 0 ≤ f.dst ∧ f.dst < 16 := h2_; first | exact hpr2 q1_ | exact hpr2 q2_)⟩, kk34⟩
 rw [decide_eq_false hpr1]
 rintro _ W13 ⟨rfl, ch12⟩
 have zz12 := ch12.size
 have sS8 := kA sS1 ch12
 refine ⟨sS8, ?_⟩
 refine dW 3 9 (.bool true) sS8<|dW 4 10 (.bool true) sS8<|dZ 5 11 sS8<|dZ 6 12 sS8<|dZ 7 13 sS8<|dZ 8 14 sS8<|dW 9 15 (.bool true) sS8<|dW 10 16 (.bool true) sS8<|dZ 11 17 sS8<|dZ 12 18 sS8<|dZ 13 19 sS8<|dZ 14 20 sS8<|dZ 15 21 sS8<|dW 16 22 (.bool true) sS8<|dW 17 23 (.bool true) sS8<|dZ 18 24 sS8<|dZ 19 25 sS8<|dZ 20 26 sS8<|dZ 21 27 sS8<|dZ 22 28 sS8<|dW 23 29 (.bool true) sS8 ?_
 refine dN<|cT<|sR<|?_
 refine rP 0 2 (.bool false)<|eN<|tR<|?_
 have kk35 : Chg [] w W1 := zA ch1
 have kk36 := kA kk35 ch2
 have kk37 := kA kk36 ch12
 refine rt (.bool false) ?_
 exact ⟨_, rfl, ⟨fun h_ => (by cases h_), fun h_ => absurd h_ (fun ⟨h1_, h2_, h3_, h4_, h5_⟩ => by have q1_ : 0 ≤ f.frm ∧ f.frm < 16 := h1_; have q2_ : 0 ≤ f.dst ∧ f.dst < 16 := h2_; first | exact hpr1 q1_ | exact hpr1 q2_)⟩, kk37⟩
end Go.Proofs.YtgbadghjnpbiaaaDoor
namespace Go.Proofs.YtgbadghjnpbiaaaDoor
open Go.RowKit Wk
open Mur (b8s Byt Own8 Seg Segs flat cutA attC Att SlA OwnA rowA msgC conv_int u64_nat readB_short i64_nat conv_u8o)
set_option maxRecDepth 100000
set_option maxHeartbeats 4000000
theorem WBytes_any (b : List UInt8) (A : Option Addr) (n c at_ : Nat) (w : World) (hb : Byt w A n b) (hnc : n ≤ c ∧ c ≤ 9223372036854775807) (hat : at_ ≤ n) (hn : n ≤ 100000) : Calls Tryd.prog 67 #[.slice A n c, .int .i64 at_, .int .i64 n] w fun e w' => ∃ A1 n1 c1 x nx er, e = .returned (.tuple #[.slice A1 n1 c1, .int .i64 ((nx : Nat) : Int), .int .i64 ((er : Nat) : Int)]) ∧ ((er = 0 ∧ Own8 w' w.heap.size 5 A1 n1 c1 x ∧ (at_ < nx ∧ nx ≤ n) ∧ Mur.readB (b.drop at_) = some (x, b.drop nx)) ∨ (er ≠ 0 ∧ A1 = none ∧ n1 = 0 ∧ c1 = 0 ∧ nx = 0 ∧ Mur.readB (b.drop at_) = none)) ∧ Chg [] w w' := by
 have hbl_ := hb.1
 refine calls_of_wp Tryd.func67 rfl ?_
 refine sR<|rP 0 6 (.slice none 0 0)<|rP 1 7 (.int .i64 0)<|rP 2 8 (.int .i64 0)<|eN<|sR<|rP 0 11 (.slice A n c)<|rP 1 12 (.int .i64 at_)<|rK 2 13 (Uint_any b A n c at_ w hb ⟨by omega, by omega⟩ (by omega)) ?_
 rintro _ _ ⟨v1, nx1, er1, rfl, hc1, rfl⟩
 rcases hc1 with ⟨rfl, hv1, hnx1, hrd1⟩ | ⟨hv1, rfl, rfl, hrd1⟩
 ·refine rP 3 10 (.tuple #[.int .u64 v1, .int .i64 nx1, .int .i64 0])<|rP 4 14 (.int .u64 v1)<|rP 5 15 (.int .i64 nx1)<|rP 6 16 (.int .i64 0)<|rP 7 9 (.int .u64 v1)<|rP 8 1 (.int .i64 nx1)<|rP 9 8 (.int .i64 0)<|eN<|wp_seq<|wp_block<|sR<|rP 0 18 (.int .i64 0)<|nF 1 19 (0 : Int) (0 : Int)<|rP 2 17 (.bool false)<|eN<|cF<|sR<|rP 0 22 (.int .i64 n)<|bF 1 23 ((n : Int) < (0 : Int))<|rP 2 24 (.bool false)<|rP 3 25 (.int .u64 v1)<|rP 4 26 (.int .i64 n)<|rq 5 27 (.int .u64 n) rfl (conv_int 3 24 (.tmp 26) rfl (by kernel_rfl) .u64 Tryd.underlying24 .i64 (n : Int) (by kernel_rfl) (u64_nat (n := n) (by omega))) ?_
  by_cases hx1 : (v1 : Int) > (n : Int)
  ·refine bT 6 28 ((v1 : Int) > (n : Int))<|rP 7 29 (.bool true)<|rP 8 21 (.bool true)<|eN<|cT<|sR<|rP 0 6 (.slice none 0 0)<|rP 1 7 (.int .i64 0)<|rP 2 8 (.int .i64 3)<|eN<|tI<|rt (.tuple #[.slice none 0 0, .int .i64 0, .int .i64 3]) ?_
   exact ⟨_, _, _, [], 0, 3, rfl, .inr ⟨by omega, rfl, rfl, rfl, rfl, readB_short hrd1 (by omega) (by omega)⟩, (Chg.refl _)⟩
  refine bF 6 28 ((v1 : Int) > (n : Int))<|rP 7 29 (.bool false)<|rP 8 21 (.bool false)<|eN<|cF<|sR<|rP 0 31 (.int .u64 v1)<|rP 1 32 (.slice A n c)<|rP 2 33 (.int .i64 n)<|rP 3 34 (.int .i64 nx1)<|rI 4 35 ((n : Int) - (nx1 : Int)) (((n - nx1 : Nat) : Int))<|rq 5 36 (.int .u64 (n - nx1 : Nat)) rfl (conv_int 3 24 (.tmp 35) rfl (by kernel_rfl) .u64 Tryd.underlying24 .i64 ((n - nx1 : Nat) : Int) (by kernel_rfl) (u64_nat (n := n - nx1) (by omega))) ?_
  by_cases hx2 : (v1 : Int) > ((n - nx1 : Nat) : Int)
  ·refine bT 6 37 ((v1 : Int) > ((n - nx1 : Nat) : Int))<|rP 7 30 (.bool true)<|eN<|cT<|sR<|rP 0 6 (.slice none 0 0)<|rP 1 7 (.int .i64 0)<|rP 2 8 (.int .i64 4)<|eN<|tI<|rt (.tuple #[.slice none 0 0, .int .i64 0, .int .i64 4]) ?_
   exact ⟨_, _, _, [], 0, 4, rfl, .inr ⟨by omega, rfl, rfl, rfl, rfl, readB_short hrd1 (by omega) (by omega)⟩, (Chg.refl _)⟩
  refine bF 6 37 ((v1 : Int) > ((n - nx1 : Nat) : Int))<|rP 7 30 (.bool false)<|eN<|cF<|wp_skip<|inN<|nxt<|sR<|rP 0 38 (.int .i64 nx1)<|rP 1 39 (.int .u64 v1)<|rq 2 40 (.int .i64 v1) rfl (conv_int 24 3 (.tmp 39) rfl (by kernel_rfl) .i64 Tryd.underlying3 .u64 (v1 : Int) (by kernel_rfl) (i64_nat (n := v1) (by omega)))<|rI 3 41 ((nx1 : Int) + (v1 : Int)) (((nx1 + v1 : Nat) : Int))<|rP 4 7 (.int .i64 (nx1 + v1 : Nat))<|eN<|sR<|rP 0 42 (.slice A n c)<|rP 1 43 (.int .i64 nx1)<|rP 2 44 (.int .i64 (nx1 + v1 : Nat)) ?_
  obtain ⟨Ac1, hAc1⟩ : ∃ x_, x_ = Mur.cutA A c nx1 := ⟨_, rfl⟩
  have hbc1 : Byt w Ac1 (nx1 + v1 - nx1) ((b.take (nx1 + v1)).drop nx1) := by rw [hAc1]; exact Mur.Byt.cut hb nx1 (nx1 + v1) (by omega) (by omega) (by omega)
  refine rq 3 45 (.slice Ac1 (nx1 + v1 - nx1) (c - nx1)) rfl (by rw [hAc1]; exact Mur.run_op_cutF 22 (.tmp 42) (.tmp 43) (.tmp 44) rfl 5 Tryd.underlying22 (by kernel_rfl) A n c nx1 (nx1 + v1) (by kernel_rfl) (by kernel_rfl) (by kernel_rfl) (by omega) (by omega) (by omega))<|rX 4 46 rfl rfl (new_ex (.slice (some ⟨w.heap.size, 0, none⟩) 1 1) #[.slice Ac1 (nx1 + v1 - nx1) (c - nx1)] 22 (by kernel_rfl)) ?_
  rintro _ W1 ⟨rfl, hb1, ch1, sz1⟩
  have zz1 := ch1.size
  have kk1 : Chg [] w W1 := zA ch1
  have hby1 := (Mur.byt_chg hbc1 kk1 (fun g off e hl => trivial))
  refine rK 5 47 (behind_any ([⟨Ac1, (nx1 + v1 - nx1), (c - nx1), ((b.take (nx1 + v1)).drop nx1)⟩]) (some ⟨w.heap.size, 0, none⟩) 1 1 W1 (Mur.segs_lit [⟨Ac1, (nx1 + v1 - nx1), (c - nx1), ((b.take (nx1 + v1)).drop nx1)⟩] 1 hb1 (Mur.ok_cons ⟨(show nx1 + v1 - nx1 ≤ c - nx1 by omega), (fun h_ => absurd (hAc1.symm.trans h_) (Mur.cutA_ne hb (by omega))), hby1, (show c - nx1 ≤ Go.maxLen by first | omega | (unfold Go.maxLen; omega))⟩ Mur.ok_nil) rfl) (by omega) (by show (((b.take (nx1 + v1)).drop nx1) ++ []).length ≤ _; simp only [List.length_append, List.length_nil]; have hl0 := hby1.1; omega)) ?_
  rintro _ W2 ⟨AA1, nn1, nn2, rfl, ow1, ch2⟩
  have zz2 := ch2.size
  rw [show Mur.flat ([⟨Ac1, (nx1 + v1 - nx1), (c - nx1), ((b.take (nx1 + v1)).drop nx1)⟩]) = ((b.take (nx1 + v1)).drop nx1) from by simp [Mur.flat]] at ow1
  have hq1 := ow1.nc
  have hq2 := ow1.cm
  refine rP 6 48 (.int .i64 (nx1 + v1 : Nat))<|rP 7 6 (.slice AA1 nn1 nn2)<|rP 8 7 (.int .i64 (nx1 + v1 : Nat))<|rP 9 8 (.int .i64 0)<|eN<|wp_ret<|?_
  have kk2 := kA kk1 ch2
  refine rt (.tuple #[.slice AA1 nn1 nn2, .int .i64 (nx1 + v1 : Nat), .int .i64 0]) ?_
  exact ⟨_, _, _, _, _, 0, rfl, .inl ⟨rfl, Mur.own8_low ow1 (by omega), ⟨by omega, by omega⟩, Mur.readB_ok hrd1 (by omega)⟩, kk2⟩
 refine rP 3 10 (.tuple #[.int .u64 0, .int .i64 0, .int .i64 er1])<|rP 4 14 (.int .u64 0)<|rP 5 15 (.int .i64 0)<|rP 6 16 (.int .i64 er1)<|rP 7 9 (.int .u64 0)<|rP 8 1 (.int .i64 0)<|rP 9 8 (.int .i64 er1)<|eN<|wp_seq<|wp_block<|sR<|rP 0 18 (.int .i64 er1)<|nT 1 19 (er1 : Int) (0 : Int)<|rP 2 17 (.bool true)<|eN<|cT<|sR<|rP 0 20 (.int .i64 er1)<|rP 1 6 (.slice none 0 0)<|rP 2 7 (.int .i64 0)<|rP 3 8 (.int .i64 er1)<|eN<|tI<|rt (.tuple #[.slice none 0 0, .int .i64 0, .int .i64 er1]) ?_
 exact ⟨_, _, _, [], 0, er1, rfl, .inr ⟨by omega, rfl, rfl, rfl, rfl, Mur.readB_no hrd1⟩, (Chg.refl _)⟩
theorem Ruint_any (gr : Nat) (A : Option Addr) (n c : Nat) (b : List UInt8) (at_ : Nat) (bad : Bool) (w : World) (hr : w.heap[gr]? = some (.cells #[.slice A n c, .int .i64 at_, .bool bad] 56 (0, 0))) (hb : Byt w A n b) (hnc : n ≤ c ∧ c ≤ 9223372036854775807) (hneb : ∀ a, A = some a → 0 < n → a.block ≠ gr) (hat : at_ ≤ n) (hn : n ≤ 100000) : Calls Tryd.prog 34 #[pt gr 0] w fun e w' => ∃ (at2 : Nat) (bad2 : Bool) (v : Nat), e = .returned (.int .u64 v) ∧ (at_ ≤ at2 ∧ at2 ≤ n) ∧ w'.heap[gr]? = some (.cells #[.slice A n c, .int .i64 at2, .bool bad2] 56 (0, 0)) ∧ Mur.Step Mur.readN b at_ bad at2 bad2 v ∧ v < 18446744073709551616 ∧ Chg [gr] w w' := by
 have hne : ∀ g off, A = some ⟨g, off, none⟩ → 0 < n → g ≠ gr := fun g off e hn => hneb _ e hn
 have hbl_ := hb.1
 have hn_ := hn
 have hgl_ := (Array.getElem?_eq_some_iff.1 hr).1
 refine calls_of_wp Tryd.func34 rfl ?_
 refine sR<|rP 0 2 (.int .u64 0)<|eN<|wp_seq<|?_
 refine dReg ([]) (by kernel_rfl) ?_
 intro W1 ch1 sz1
 have zz1 := ch1.size
 have sS1 : Chg ([]) W1 W1 := (Chg.refl _).more (by simp)
 refine dW 0 7 (pt gr 0) sS1<|dW 1 8 (pt gr 0) sS1<|dW 2 9 (pt gr 0) sS1 ?_
 refine dV 3 10 (.slice A n c) rfl rfl (fun w' hw' => ld 22 9 gr 0 (.slice A n c) ((cell_of_row _ _ 0 _ _ _ (qT hw' (qT ch1 hr))).trans rfl)) sS1 ?_
 refine dW 4 11 (pt gr 0) sS1<|dW 5 12 (pt gr 0) sS1<|dW 6 13 (pt gr 1) sS1 ?_
 refine dV 7 14 (.int .i64 at_) rfl rfl (fun w' hw' => ld 3 13 gr 1 (.int .i64 at_) ((cell_of_row _ _ 1 _ _ _ (qT hw' (qT ch1 hr))).trans rfl)) sS1 ?_
 refine dOp 8 (by kernel_rfl) ?_
 have kk1 : Chg [gr] (w) W1 := zA ch1
 refine oK 15 (Uint_any b A n c at_ W1 (Mur.byt_chgp hb kk1 (fun g off e hn hl => ⟨by have := hne g off e hn; omega, trivial⟩)) ⟨by omega, by omega⟩ (by omega)) ?_
 rintro _ _ ⟨v1, nx1, er1, rfl, hc1, rfl⟩
 rcases hc1 with ⟨rfl, hv1, hnx1, hrd1⟩ | ⟨hv1, rfl, rfl, hrd1⟩
 ·refine ⟨sS1, ?_⟩
  refine dW 9 6 (.tuple #[.int .u64 v1, .int .i64 nx1, .int .i64 0]) sS1<|dW 10 16 (.int .u64 v1) sS1<|dW 11 17 (.int .i64 nx1) sS1<|dW 12 18 (.int .i64 0) sS1<|dW 13 3 (.int .u64 v1) sS1<|dW 14 4 (.int .i64 nx1) sS1<|dW 15 5 (.int .i64 0) sS1 ?_
  refine dN<|wp_seq<|sR<|?_
  refine rP 0 19 (.int .i64 0)<|nF 1 20 (0 : Int) (0 : Int)<|eN<|cF<|wp_skip<|nxt<|sR<|rP 0 24 (pt gr 0)<|rP 1 25 (.int .i64 nx1)<|rP 2 26 (pt gr 0)<|rP 3 27 (pt gr 1)<|rU 4 rfl (sW 1 (.int .i64 nx1) (qT ch1 hr)) fun W2 hb1 ch2 _ => ?_
  replace hb1 : W2.heap[gr]? = some (.cells #[.slice A n c, .int .i64 nx1, .bool bad] 56 (0, 0)) := hb1
  have zz2 := ch2.size
  refine eN<|sR<|rP 0 28 (.int .u64 v1)<|rP 1 2 (.int .u64 v1)<|eN<|wp_ret<|?_
  have kk2 := kC kk1 ch2
  refine rt (.int .u64 v1) ?_
  exact ⟨nx1, bad, v1, rfl, ⟨by omega, by omega⟩, hb1, Mur.Step.of_ok hrd1, by omega, kk2⟩
 refine ⟨sS1, ?_⟩
 refine dW 9 6 (.tuple #[.int .u64 0, .int .i64 0, .int .i64 er1]) sS1<|dW 10 16 (.int .u64 0) sS1<|dW 11 17 (.int .i64 0) sS1<|dW 12 18 (.int .i64 er1) sS1<|dW 13 3 (.int .u64 0) sS1<|dW 14 4 (.int .i64 0) sS1<|dW 15 5 (.int .i64 er1) sS1 ?_
 refine dN<|wp_seq<|sR<|?_
 refine rP 0 19 (.int .i64 er1)<|nT 1 20 (er1 : Int) (0 : Int)<|eN<|cT<|sR<|rP 0 21 (pt gr 0)<|rP 1 22 (pt gr 0)<|rP 2 23 (pt gr 2)<|rU 3 rfl (sW 2 (.bool true) (qT ch1 hr)) fun W3 hb2 ch3 _ => ?_
 replace hb2 : W3.heap[gr]? = some (.cells #[.slice A n c, .int .i64 at_, .bool true] 56 (0, 0)) := hb2
 have zz3 := ch3.size
 refine eN<|sR<|rP 0 2 (.int .u64 0)<|eN<|tR<|?_
 have kk3 := kC kk1 ch3
 refine rt (.int .u64 0) ?_
 exact ⟨at_, true, 0, rfl, ⟨by omega, by omega⟩, hb2, Mur.Step.of_no hrd1 0, by decide, kk3⟩
theorem Rint_any (gr : Nat) (A : Option Addr) (n c : Nat) (b : List UInt8) (at_ : Nat) (bad : Bool) (w : World) (hr : w.heap[gr]? = some (.cells #[.slice A n c, .int .i64 at_, .bool bad] 56 (0, 0))) (hb : Byt w A n b) (hnc : n ≤ c ∧ c ≤ 9223372036854775807) (hneb : ∀ a, A = some a → 0 < n → a.block ≠ gr) (hat : at_ ≤ n) (hn : n ≤ 100000) : Calls Tryd.prog 17 #[pt gr 0] w fun e w' => ∃ (at2 : Nat) (bad2 : Bool) (v : Nat), e = .returned (.int .i64 v) ∧ (at_ ≤ at2 ∧ at2 ≤ n) ∧ w'.heap[gr]? = some (.cells #[.slice A n c, .int .i64 at2, .bool bad2] 56 (0, 0)) ∧ Mur.Step Mur.readI b at_ bad at2 bad2 v ∧ v ≤ 1073741824 ∧ Chg [gr] w w' := by
 have hne : ∀ g off, A = some ⟨g, off, none⟩ → 0 < n → g ≠ gr := fun g off e hn => hneb _ e hn
 have hbl_ := hb.1
 have hn_ := hn
 have hgl_ := (Array.getElem?_eq_some_iff.1 hr).1
 refine calls_of_wp Tryd.func17 rfl ?_
 refine sR<|rP 0 2 (.int .i64 0)<|eN<|sR<|rP 0 4 (pt gr 0)<|rK 1 5 (Ruint_any gr A n c b at_ bad w hr hb ⟨by omega, by omega⟩ hneb (by omega) (by omega)) ?_
 rintro _ W1 ⟨at1, bad1, v1, rfl, hat1, hr1, hst1, hlt1, ch1⟩
 have zz1 := ch1.size
 refine rP 2 3 (.int .u64 v1)<|eN<|wp_seq<|sR<|rP 0 6 (.int .u64 v1) ?_
 by_cases hx1 : (v1 : Int) > (1073741824 : Int)
 ·refine bT 1 7 ((v1 : Int) > (1073741824 : Int))<|eN<|cT<|sR<|rP 0 8 (pt gr 0)<|rP 1 9 (pt gr 0)<|rP 2 10 (pt gr 2)<|rU 3 rfl (sW 2 (.bool true) hr1) fun W2 hb1 ch2 _ => ?_
  replace hb1 : W2.heap[gr]? = some (.cells #[.slice A n c, .int .i64 at1, .bool true] 56 (0, 0)) := hb1
  have zz2 := ch2.size
  refine eN<|sR<|rP 0 2 (.int .i64 0)<|eN<|tR<|?_
  have kk1 : Chg [gr] (w) W1 := zC ch1
  have kk2 := kC kk1 ch2
  refine rt (.int .i64 0) ?_
  exact ⟨at1, true, 0, rfl, ⟨by omega, by omega⟩, hb1, (show Mur.Step Mur.readI _ _ _ _ _ _ from Mur.Step.if_no (ok := fun n => decide (n ≤ 2 ^ 30)) hst1 (decide_eq_false (by omega)) 0), by decide, kk2⟩
 refine bF 1 7 ((v1 : Int) > (1073741824 : Int))<|eN<|cF<|wp_skip<|nxt<|sR<|rP 0 11 (.int .u64 v1)<|rq 1 12 (.int .i64 v1) rfl (conv_int 24 3 (.tmp 11) rfl (by kernel_rfl) .i64 Tryd.underlying3 .u64 (v1 : Int) (by kernel_rfl) (i64_nat (n := v1) (by omega)))<|rP 2 2 (.int .i64 v1)<|eN<|wp_ret<|?_
 have kk3 : Chg [gr] (w) W1 := zC ch1
 refine rt (.int .i64 v1) ?_
 exact ⟨at1, bad1, v1, rfl, ⟨by omega, by omega⟩, hr1, (show Mur.Step Mur.readI _ _ _ _ _ _ from Mur.Step.if_ok (ok := fun n => decide (n ≤ 2 ^ 30)) hst1 (decide_eq_true (by omega))), by omega, kk3⟩
theorem Rkind_any (gr : Nat) (A : Option Addr) (n c : Nat) (b : List UInt8) (at_ : Nat) (bad : Bool) (w : World) (hr : w.heap[gr]? = some (.cells #[.slice A n c, .int .i64 at_, .bool bad] 56 (0, 0))) (hb : Byt w A n b) (hnc : n ≤ c ∧ c ≤ 9223372036854775807) (hneb : ∀ a, A = some a → 0 < n → a.block ≠ gr) (hat : at_ ≤ n) (hn : n ≤ 100000) : Calls Tryd.prog 16 #[pt gr 0] w fun e w' => ∃ (at2 : Nat) (bad2 : Bool) (v : Nat), e = .returned (.int .u8 ((UInt8.ofNat v).toNat : Nat)) ∧ (at_ ≤ at2 ∧ at2 ≤ n) ∧ w'.heap[gr]? = some (.cells #[.slice A n c, .int .i64 at2, .bool bad2] 56 (0, 0)) ∧ Mur.Step Mur.readK b at_ bad at2 bad2 v ∧ v ≤ 1073741824 ∧ Chg [gr] w w' := by
 have hne : ∀ g off, A = some ⟨g, off, none⟩ → 0 < n → g ≠ gr := fun g off e hn => hneb _ e hn
 have hbl_ := hb.1
 have hn_ := hn
 have hgl_ := (Array.getElem?_eq_some_iff.1 hr).1
 refine calls_of_wp Tryd.func16 rfl ?_
 refine sR<|rP 0 2 (.int .u8 0)<|eN<|sR<|rP 0 4 (pt gr 0)<|rK 1 5 (Rint_any gr A n c b at_ bad w hr hb ⟨by omega, by omega⟩ hneb (by omega) (by omega)) ?_
 rintro _ W1 ⟨at1, bad1, v1, rfl, hat1, hr1, hst1, hlt1, ch1⟩
 have zz1 := ch1.size
 refine rP 2 3 (.int .i64 v1)<|eN<|wp_seq<|sR<|rP 0 6 (.int .i64 v1) ?_
 by_cases hx1 : (v1 : Int) > (255 : Int)
 ·refine bT 1 7 ((v1 : Int) > (255 : Int))<|eN<|cT<|reg<|rP 0 8 (pt gr 0)<|rP 1 9 (pt gr 0)<|rP 2 10 (pt gr 2)<|rU 3 rfl (sW 2 (.bool true) hr1) fun W2 hb1 ch2 _ => ?_
  replace hb1 : W2.heap[gr]? = some (.cells #[.slice A n c, .int .i64 at1, .bool true] 56 (0, 0)) := hb1
  have zz2 := ch2.size
  refine eN<|sR<|rP 0 11 (.int .i64 v1)<|rq 1 12 (.int .u8 ((UInt8.ofNat v1).toNat : Nat)) rfl (conv_u8o 3 5 (.tmp 11) rfl (by kernel_rfl) Tryd.underlying5 .i64 v1 (by kernel_rfl))<|rP 2 2 (.int .u8 ((UInt8.ofNat v1).toNat : Nat))<|eN<|wp_ret<|?_
  have kk1 : Chg [gr] (w) W1 := zC ch1
  have kk2 := kC kk1 ch2
  refine rt (.int .u8 ((UInt8.ofNat v1).toNat : Nat)) ?_
  exact ⟨at1, true, v1, rfl, ⟨by omega, by omega⟩, hb1, (show Mur.Step Mur.readK _ _ _ _ _ _ from Mur.Step.if_no (ok := fun n => decide (n ≤ 255)) hst1 (decide_eq_false (by omega)) _), by omega, kk2⟩
 refine bF 1 7 ((v1 : Int) > (255 : Int))<|eN<|cF<|wp_skip<|nxt<|sR<|rP 0 11 (.int .i64 v1)<|rq 1 12 (.int .u8 ((UInt8.ofNat v1).toNat : Nat)) rfl (conv_u8o 3 5 (.tmp 11) rfl (by kernel_rfl) Tryd.underlying5 .i64 v1 (by kernel_rfl))<|rP 2 2 (.int .u8 ((UInt8.ofNat v1).toNat : Nat))<|eN<|wp_ret<|?_
 have kk3 : Chg [gr] (w) W1 := zC ch1
 refine rt (.int .u8 ((UInt8.ofNat v1).toNat : Nat)) ?_
 exact ⟨at1, bad1, v1, rfl, ⟨by omega, by omega⟩, hr1, (show Mur.Step Mur.readK _ _ _ _ _ _ from Mur.Step.if_ok (ok := fun n => decide (n ≤ 255)) hst1 (decide_eq_true (by omega))), by omega, kk3⟩
theorem Rflag_any (gr : Nat) (A : Option Addr) (n c : Nat) (b : List UInt8) (at_ : Nat) (bad : Bool) (w : World) (hr : w.heap[gr]? = some (.cells #[.slice A n c, .int .i64 at_, .bool bad] 56 (0, 0))) (hb : Byt w A n b) (hnc : n ≤ c ∧ c ≤ 9223372036854775807) (hneb : ∀ a, A = some a → 0 < n → a.block ≠ gr) (hat : at_ ≤ n) (hn : n ≤ 100000) : Calls Tryd.prog 40 #[pt gr 0] w fun e w' => ∃ (at2 : Nat) (bad2 : Bool) (fl : Bool), e = .returned (.bool fl) ∧ (at_ ≤ at2 ∧ at2 ≤ n) ∧ w'.heap[gr]? = some (.cells #[.slice A n c, .int .i64 at2, .bool bad2] 56 (0, 0)) ∧ Mur.Step Mur.readFlag b at_ bad at2 bad2 fl ∧ Chg [gr] w w' := by
 have hne : ∀ g off, A = some ⟨g, off, none⟩ → 0 < n → g ≠ gr := fun g off e hn => hneb _ e hn
 have hbl_ := hb.1
 have hn_ := hn
 have hgl_ := (Array.getElem?_eq_some_iff.1 hr).1
 refine calls_of_wp Tryd.func40 rfl ?_
 refine sR<|rP 0 2 (.bool false)<|eN<|sR<|rP 0 4 (pt gr 0)<|rK 1 5 (Rint_any gr A n c b at_ bad w hr hb ⟨by omega, by omega⟩ hneb (by omega) (by omega)) ?_
 rintro _ W1 ⟨at1, bad1, v1, rfl, hat1, hr1, hst1, hlt1, ch1⟩
 have zz1 := ch1.size
 refine rP 2 3 (.int .i64 v1)<|eN<|wp_seq<|sR<|rP 0 6 (.int .i64 v1) ?_
 by_cases hx1 : (v1 : Int) > (1 : Int)
 ·refine bT 1 7 ((v1 : Int) > (1 : Int))<|eN<|cT<|reg<|rP 0 8 (pt gr 0)<|rP 1 9 (pt gr 0)<|rP 2 10 (pt gr 2)<|rU 3 rfl (sW 2 (.bool true) hr1) fun W2 hb1 ch2 _ => ?_
  replace hb1 : W2.heap[gr]? = some (.cells #[.slice A n c, .int .i64 at1, .bool true] 56 (0, 0)) := hb1
  have zz2 := ch2.size
  refine eN<|sR<|rP 0 11 (.int .i64 v1) ?_
  by_cases hx2 : (v1 : Int) = (1 : Int)
  ·refine eT 1 12 (v1 : Int) (1 : Int)<|rP 2 2 (.bool true)<|eN<|wp_ret<|?_
   have kk1 : Chg [gr] (w) W1 := zC ch1
   have kk2 := kC kk1 ch2
   refine rt (.bool true) ?_
   exact ⟨at1, true, true, rfl, ⟨by omega, by omega⟩, hb1, (show Mur.Step Mur.readFlag _ _ _ _ _ _ from Mur.Step.map' (Mur.Step.if_no (ok := fun n => decide (n ≤ 1)) hst1 (decide_eq_false (by omega)) v1) (fun n : Nat => decide (n = 1)) (decide_eq_true (by omega))), kk2⟩
  refine eF 1 12 (v1 : Int) (1 : Int)<|rP 2 2 (.bool false)<|eN<|wp_ret<|?_
  have kk3 : Chg [gr] (w) W1 := zC ch1
  have kk4 := kC kk3 ch2
  refine rt (.bool false) ?_
  exact ⟨at1, true, false, rfl, ⟨by omega, by omega⟩, hb1, (show Mur.Step Mur.readFlag _ _ _ _ _ _ from Mur.Step.map' (Mur.Step.if_no (ok := fun n => decide (n ≤ 1)) hst1 (decide_eq_false (by omega)) v1) (fun n : Nat => decide (n = 1)) (decide_eq_false (by omega))), kk4⟩
 refine bF 1 7 ((v1 : Int) > (1 : Int))<|eN<|cF<|wp_skip<|nxt<|sR<|rP 0 11 (.int .i64 v1) ?_
 by_cases hx3 : (v1 : Int) = (1 : Int)
 ·refine eT 1 12 (v1 : Int) (1 : Int)<|rP 2 2 (.bool true)<|eN<|wp_ret<|?_
  have kk5 : Chg [gr] (w) W1 := zC ch1
  refine rt (.bool true) ?_
  exact ⟨at1, bad1, true, rfl, ⟨by omega, by omega⟩, hr1, (show Mur.Step Mur.readFlag _ _ _ _ _ _ from Mur.Step.map' (Mur.Step.if_ok (ok := fun n => decide (n ≤ 1)) hst1 (decide_eq_true (by omega))) (fun n : Nat => decide (n = 1)) (decide_eq_true (by omega))), kk5⟩
 refine eF 1 12 (v1 : Int) (1 : Int)<|rP 2 2 (.bool false)<|eN<|wp_ret<|?_
 have kk6 : Chg [gr] (w) W1 := zC ch1
 refine rt (.bool false) ?_
 exact ⟨at1, bad1, false, rfl, ⟨by omega, by omega⟩, hr1, (show Mur.Step Mur.readFlag _ _ _ _ _ _ from Mur.Step.map' (Mur.Step.if_ok (ok := fun n => decide (n ≤ 1)) hst1 (decide_eq_true (by omega))) (fun n : Nat => decide (n = 1)) (decide_eq_false (by omega))), kk6⟩
end Go.Proofs.YtgbadghjnpbiaaaDoor
namespace Go.Proofs.YtgbadghjnpbiaaaDoor
open Go.RowKit Wk
open Mur (b8s Byt Own8 Seg Segs flat cutA attC Att SlA OwnA rowA msgC byt_chgp b8s_length z32 attC_size sub_len attC_all)
set_option maxRecDepth 100000
set_option maxHeartbeats 4000000
theorem Rbytes_of (gr : Nat) (A : Option Addr) (n c : Nat) (b : List UInt8) (at_ : Nat) (bad : Bool) (w : World) (hr : w.heap[gr]? = some (.cells #[.slice A n c, .int .i64 at_, .bool bad] 56 (0, 0))) (hb : Byt w A n b) (hnc : n ≤ c ∧ c ≤ 9223372036854775807) (hneb : ∀ a, A = some a → 0 < n → a.block ≠ gr) (hat : at_ ≤ n) (hn : n ≤ 100000) : Calls Tryd.prog 37 #[pt gr 0] w fun e w' => ∃ (at2 : Nat) (bad2 : Bool) (A1 : Option Addr) (n1 c1 : Nat) (x : List UInt8), e = .returned (.slice A1 n1 c1) ∧ (at_ ≤ at2 ∧ at2 ≤ n) ∧ w'.heap[gr]? = some (.cells #[.slice A n c, .int .i64 at2, .bool bad2] 56 (0, 0)) ∧ Mur.Step Mur.readB b at_ bad at2 bad2 x ∧ Own8 w' w.heap.size 5 A1 n1 c1 x ∧ Chg [gr] w w' := by
 have hne : ∀ g off, A = some ⟨g, off, none⟩ → 0 < n → g ≠ gr := fun g off e hn => hneb _ e hn
 have hbl_ := hb.1
 have hn_ := hn
 have hgl_ := (Array.getElem?_eq_some_iff.1 hr).1
 refine calls_of_wp Tryd.func37 rfl ?_
 refine sR<|rP 0 2 (.slice none 0 0)<|eN<|wp_seq<|?_
 refine dReg ([]) (by kernel_rfl) ?_
 intro W1 ch1 sz1
 have zz1 := ch1.size
 have sS1 : Chg ([]) W1 W1 := (Chg.refl _).more (by simp)
 refine dW 0 7 (pt gr 0) sS1<|dW 1 8 (pt gr 0) sS1<|dW 2 9 (pt gr 0) sS1 ?_
 refine dV 3 10 (.slice A n c) rfl rfl (fun w' hw' => ld 22 9 gr 0 (.slice A n c) ((cell_of_row _ _ 0 _ _ _ (qT hw' (qT ch1 hr))).trans rfl)) sS1 ?_
 refine dW 4 11 (pt gr 0) sS1<|dW 5 12 (pt gr 0) sS1<|dW 6 13 (pt gr 1) sS1 ?_
 refine dV 7 14 (.int .i64 at_) rfl rfl (fun w' hw' => ld 3 13 gr 1 (.int .i64 at_) ((cell_of_row _ _ 1 _ _ _ (qT hw' (qT ch1 hr))).trans rfl)) sS1 ?_
 refine dW 8 15 (pt gr 0) sS1<|dW 9 16 (pt gr 0) sS1<|dW 10 17 (pt gr 0) sS1 ?_
 refine dV 11 18 (.slice A n c) rfl rfl (fun w' hw' => ld 22 17 gr 0 (.slice A n c) ((cell_of_row _ _ 0 _ _ _ (qT hw' (qT ch1 hr))).trans rfl)) sS1 ?_
 refine dW 12 19 (.int .i64 n) sS1 ?_
 refine dOp 13 (by kernel_rfl) ?_
 have kk1 : Chg [gr] (w) W1 := zA ch1
 refine oK 20 (WBytes_any b A n c at_ W1 (byt_chgp hb kk1 (fun g off e hn hl => ⟨by have := hne g off e hn; omega, trivial⟩)) ⟨by omega, by omega⟩ (by omega) (by omega)) ?_
 rintro _ W2 ⟨AA1, nn1, cc1, x1, nx1, er1, rfl, hc1, ch2⟩
 have zz2 := ch2.size
 rcases hc1 with ⟨rfl, ow1, hnx1, hrd1⟩ | ⟨hnx1, rfl, rfl, rfl, rfl, hrd1⟩
 ·have sS2 := kA sS1 ch2
  refine ⟨sS2, ?_⟩
  refine dW 14 6 (.tuple #[.slice AA1 nn1 cc1, .int .i64 nx1, .int .i64 0]) sS2<|dW 15 21 (.slice AA1 nn1 cc1) sS2<|dW 16 22 (.int .i64 nx1) sS2<|dW 17 23 (.int .i64 0) sS2<|dW 18 3 (.slice AA1 nn1 cc1) sS2<|dW 19 4 (.int .i64 nx1) sS2<|dW 20 5 (.int .i64 0) sS2 ?_
  refine dN<|wp_seq<|sR<|?_
  refine rP 0 24 (.int .i64 0)<|nF 1 25 (0 : Int) (0 : Int)<|eN<|cF<|wp_skip<|nxt<|sR<|rP 0 29 (pt gr 0)<|rP 1 30 (.int .i64 nx1)<|rP 2 31 (pt gr 0)<|rP 3 32 (pt gr 1)<|rU 4 rfl (sW 1 (.int .i64 nx1) (qT ch2 (qT ch1 hr))) fun W3 hb1 ch3 _ => ?_
  replace hb1 : W3.heap[gr]? = some (.cells #[.slice A n c, .int .i64 nx1, .bool bad] 56 (0, 0)) := hb1
  have zz3 := ch3.size
  refine eN<|sR<|rP 0 33 (.slice AA1 nn1 cc1)<|rP 1 2 (.slice AA1 nn1 cc1)<|eN<|wp_ret<|?_
  have ow2 := Mur.own8 (own_chg ow1.own ch3 (fun q e _ _ => ⟨by have := ow1.lt q e; omega, trivial⟩))
  have kk2 := kA kk1 ch2
  have kk3 := kC kk2 ch3
  refine rt (.slice AA1 nn1 cc1) ?_
  exact ⟨nx1, bad, AA1, nn1, cc1, x1, rfl, ⟨by omega, by omega⟩, hb1, Mur.Step.of_ok hrd1, Mur.own8_low ow2 (by omega), kk3⟩
 have sS3 := kA sS1 ch2
 refine ⟨sS3, ?_⟩
 refine dW 14 6 (.tuple #[.slice none 0 0, .int .i64 0, .int .i64 er1]) sS3<|dW 15 21 (.slice none 0 0) sS3<|dW 16 22 (.int .i64 0) sS3<|dW 17 23 (.int .i64 er1) sS3<|dW 18 3 (.slice none 0 0) sS3<|dW 19 4 (.int .i64 0) sS3<|dW 20 5 (.int .i64 er1) sS3 ?_
 refine dN<|wp_seq<|sR<|?_
 refine rP 0 24 (.int .i64 er1)<|nT 1 25 (er1 : Int) (0 : Int)<|eN<|cT<|sR<|rP 0 26 (pt gr 0)<|rP 1 27 (pt gr 0)<|rP 2 28 (pt gr 2)<|rU 3 rfl (sW 2 (.bool true) (qT ch2 (qT ch1 hr))) fun W4 hb2 ch4 _ => ?_
 replace hb2 : W4.heap[gr]? = some (.cells #[.slice A n c, .int .i64 at_, .bool true] 56 (0, 0)) := hb2
 have zz4 := ch4.size
 refine eN<|sR<|rP 0 2 (.slice none 0 0)<|eN<|tR<|?_
 have kk4 := kA kk1 ch2
 have kk5 := kC kk4 ch4
 refine rt (.slice none 0 0) ?_
 exact ⟨at_, true, none, 0, 0, [], rfl, ⟨by omega, by omega⟩, hb2, Mur.Step.of_no hrd1 [], Mur.own8_nil _ _ _, kk5⟩
theorem Rsome_any0 (gr : Nat) (A : Option Addr) (n c : Nat) (b : List UInt8) (at_ : Nat) (bad : Bool) (w : World) (hr : w.heap[gr]? = some (.cells #[.slice A n c, .int .i64 at_, .bool bad] 56 (0, 0))) (hb : Byt w A n b) (hnc : n ≤ c ∧ c ≤ 9223372036854775807) (hneb : ∀ a, A = some a → 0 < n → a.block ≠ gr) (hat : at_ ≤ n) (hn : n ≤ 100000) (k : Nat) (hk : k ≤ 1000) : Calls Tryd.prog 42 #[pt gr 0, .int .i64 k] w fun e w' => ∃ (at2 : Nat) (bad2 : Bool) (A1 : Option Addr) (n1 c1 : Nat) (x : List UInt8), e = .returned (.slice A1 n1 c1) ∧ (at_ ≤ at2 ∧ at2 ≤ n) ∧ w'.heap[gr]? = some (.cells #[.slice A n c, .int .i64 at2, .bool bad2] 56 (0, 0)) ∧ Mur.Step (Mur.readS k) b at_ bad at2 bad2 x ∧ (n1 = k ∧ Byt w' A1 n1 x ∧ n1 ≤ c1 ∧ c1 ≤ 9223372036854775807) ∧ Chg [gr] w w' := by
 have hne : ∀ g off, A = some ⟨g, off, none⟩ → 0 < n → g ≠ gr := fun g off e hn => hneb _ e hn
 have hbl_ := hb.1
 have hn_ := hn
 have hgl_ := (Array.getElem?_eq_some_iff.1 hr).1
 refine calls_of_wp Tryd.func42 rfl ?_
 refine sR<|rP 0 4 (.slice none 0 0)<|eN<|wp_seq<|wp_seq<|?_
 refine dReg ([]) (by kernel_rfl) ?_
 intro W1 ch1 sz1
 have zz1 := ch1.size
 have sS1 : Chg ([]) W1 W1 := (Chg.refl _).more (by simp)
 refine dW 0 5 (pt gr 0) sS1<|dW 1 6 (pt gr 0) sS1<|dW 2 7 (pt gr 0) sS1 ?_
 refine dV 3 8 (.slice A n c) rfl rfl (fun w' hw' => ld 22 7 gr 0 (.slice A n c) ((cell_of_row _ _ 0 _ _ _ (qT hw' (qT ch1 hr))).trans rfl)) sS1 ?_
 refine dW 4 9 (.int .i64 n) sS1<|dW 5 10 (pt gr 0) sS1<|dW 6 11 (pt gr 0) sS1<|dW 7 12 (pt gr 1) sS1 ?_
 refine dV 8 13 (.int .i64 at_) rfl rfl (fun w' hw' => ld 3 12 gr 1 (.int .i64 at_) ((cell_of_row _ _ 1 _ _ _ (qT hw' (qT ch1 hr))).trans rfl)) sS1 ?_
 refine dV 9 14 (.int .i64 (n - at_ : Nat)) rfl rfl (fun w' hw' => int64 (n := (n : Int) - (at_ : Int)) (z := ((n - at_ : Nat) : Int)) (by omega) (by omega) (by omega) (by kernel_rfl)) sS1 ?_
 refine dW 10 15 (.int .i64 k) sS1 ?_
 by_cases hx1 : ((n - at_ : Nat) : Int) < (k : Int)
 ·refine dV 11 16 (.bool true) rfl rfl (fun w' hw' => boolT (b := decide (((n - at_ : Nat) : Int) < (k : Int))) (decide_eq_true (by first | exact hx1 | omega)) (by kernel_rfl)) sS1 ?_
  refine dN<|cT<|sR<|?_
  refine rP 0 17 (pt gr 0)<|rP 1 18 (pt gr 0)<|rP 2 19 (pt gr 2)<|rU 3 rfl (sW 2 (.bool true) (qT ch1 hr)) fun W2 hb1 ch2 _ => ?_
  replace hb1 : W2.heap[gr]? = some (.cells #[.slice A n c, .int .i64 at_, .bool true] 56 (0, 0)) := hb1
  have zz2 := ch2.size
  refine eN<|sR<|rP 0 20 (.int .i64 k)<|rX 1 21 rfl rfl (Mur.makeZ 22 5 (.tmp 20) rfl Tryd.underlying22 (by kernel_rfl) k (by omega) (by kernel_rfl)) ?_
  rintro _ W3 ⟨rfl, hb2, ch3, sz2⟩
  have zz3 := ch3.size
  refine rP 2 4 (.slice (some ⟨W2.heap.size, 0, none⟩) k k)<|eN<|tR<|?_
  have hbz1 : Byt W3 (some ⟨W2.heap.size, 0, none⟩) k (List.replicate k 0) := (Mur.byt_blk (List.replicate k 0) (by simp) hb2)
  have kk1 : Chg [gr] (w) W1 := zA ch1
  have kk2 := kC kk1 ch2
  have kk3 := kA kk2 ch3
  refine rt (.slice (some ⟨W2.heap.size, 0, none⟩) k k) ?_
  exact ⟨at_, true, some ⟨W2.heap.size, 0, none⟩, _, k, _, rfl, ⟨by omega, by omega⟩, (qT ch3 hb1), Mur.Step.of_no (Mur.readS_no (by omega) (by omega)) _, ⟨rfl, hbz1, by omega, by omega⟩, kk3⟩
 refine dV 11 16 (.bool false) rfl rfl (fun w' hw' => boolF (b := decide (((n - at_ : Nat) : Int) < (k : Int))) (decide_eq_false (by first | exact hx1 | omega)) (by kernel_rfl)) sS1 ?_
 refine dN<|cF<|wp_skip<|nxt<|sR<|?_
 refine rP 0 22 (pt gr 0)<|rP 1 23 (pt gr 0)<|rP 2 24 (pt gr 1)<|rL 3 25 1 (.int .i64 at_) (qT ch1 hr)<|rP 4 26 (.int .i64 k)<|rI 5 27 ((at_ : Int) + (k : Int)) (((at_ + k : Nat) : Int))<|rP 6 28 (pt gr 0)<|rP 7 29 (pt gr 1)<|rU 8 rfl (sW 1 (.int .i64 (at_ + k : Nat)) (qT ch1 hr)) fun W4 hb3 ch4 _ => ?_
 replace hb3 : W4.heap[gr]? = some (.cells #[.slice A n c, .int .i64 (at_ + k : Nat), .bool bad] 56 (0, 0)) := hb3
 have zz4 := ch4.size
 refine eN<|wp_seq<|?_
 refine dReg ([]) (by kernel_rfl) ?_
 intro W5 ch5 sz3
 have zz5 := ch5.size
 have sS2 : Chg ([]) W5 W5 := (Chg.refl _).more (by simp)
 refine dW 0 30 (pt gr 0) sS2<|dW 1 31 (pt gr 0) sS2<|dW 2 32 (pt gr 0) sS2 ?_
 refine dV 3 33 (.slice A n c) rfl rfl (fun w' hw' => ld 22 32 gr 0 (.slice A n c) ((cell_of_row _ _ 0 _ _ _ (qT hw' (qT ch5 hb3))).trans rfl)) sS2 ?_
 refine dW 4 34 (pt gr 0) sS2<|dW 5 35 (pt gr 0) sS2<|dW 6 36 (pt gr 1) sS2 ?_
 refine dV 7 37 (.int .i64 (at_ + k : Nat)) rfl rfl (fun w' hw' => ld 3 36 gr 1 (.int .i64 (at_ + k : Nat)) ((cell_of_row _ _ 1 _ _ _ (qT hw' (qT ch5 hb3))).trans rfl)) sS2 ?_
 refine dW 8 38 (.int .i64 k) sS2 ?_
 refine dV 9 39 (.int .i64 at_) rfl rfl (fun w' hw' => int64 (n := ((at_ + k : Nat) : Int) - (k : Int)) (z := (at_ : Int)) (by omega) (by omega) (by omega) (by kernel_rfl)) sS2 ?_
 refine dW 10 40 (pt gr 0) sS2<|dW 11 41 (pt gr 0) sS2<|dW 12 42 (pt gr 1) sS2 ?_
 refine dV 13 43 (.int .i64 (at_ + k : Nat)) rfl rfl (fun w' hw' => ld 3 42 gr 1 (.int .i64 (at_ + k : Nat)) ((cell_of_row _ _ 1 _ _ _ (qT hw' (qT ch5 hb3))).trans rfl)) sS2 ?_
 have kk4 : Chg [gr] (w) W1 := zA ch1
 have kk5 := kC kk4 ch4
 have kk6 := kA kk5 ch5
 obtain ⟨Ac1, hAc1⟩ : ∃ x_, x_ = Mur.cutA A c at_ := ⟨_, rfl⟩
 have hbc1 : Byt (w) Ac1 (at_ + k - at_) ((b.take (at_ + k)).drop at_) := by rw [hAc1]; exact Mur.Byt.cut hb at_ (at_ + k) (by omega) (by omega) (by omega)
 have ltc1 : ∀ g off, Ac1 = some ⟨g, off, none⟩ → 0 < at_ + k - at_ → g ≠ gr := fun g off e hn => Mur.cutA_blk (Q := fun q => q ≠ gr) (fun a_ e2_ => hneb a_ e2_ (by omega)) _ (hAc1.symm.trans e)
 refine dV 14 44 (.slice Ac1 (at_ + k - at_) (c - at_)) rfl rfl (fun w' hw' => by rw [hAc1]; exact Mur.run_op_cutF 22 (.tmp 33) (.tmp 39) (.tmp 43) rfl 5 Tryd.underlying22 (by kernel_rfl) A n c at_ (at_ + k) (by kernel_rfl) (by kernel_rfl) (by kernel_rfl) (by omega) (by omega) (by omega)) sS2 ?_
 refine dW 15 4 (.slice Ac1 (at_ + k - at_) (c - at_)) sS2 ?_
 refine dN<|wp_ret<|?_
 have hbz2 : Byt W5 Ac1 (at_ + k - at_) ((b.take (at_ + k)).drop at_) := (byt_chgp hbc1 kk6 (fun g off e hn hl => ⟨by have := ltc1 g off e hn; omega, trivial⟩))
 refine rt (.slice Ac1 (at_ + k - at_) (c - at_)) ?_
 exact ⟨at_ + k, bad, Ac1, _, c - at_, _, rfl, ⟨by omega, by omega⟩, (qT ch5 hb3), Mur.Step.of_ok (Mur.readS_ok (by omega)), ⟨by omega, hbz2, by omega, by omega⟩, kk6⟩
theorem Rsome_any (gr : Nat) (A : Option Addr) (n c : Nat) (b : List UInt8) (at_ : Nat) (bad : Bool) (w : World) (hr : w.heap[gr]? = some (.cells #[.slice A n c, .int .i64 at_, .bool bad] 56 (0, 0))) (hb : Byt w A n b) (hnc : n ≤ c ∧ c ≤ 9223372036854775807) (hneb : ∀ a, A = some a → 0 < n → a.block ≠ gr) (hat : at_ ≤ n) (hn : n ≤ 100000) (k : Nat) (hk : k ≤ 1000) : Calls Tryd.prog 42 #[pt gr 0, .int .i64 k] w fun e w' => ∃ (at2 : Nat) (bad2 : Bool) (A1 : Option Addr) (c1 : Nat) (x : List UInt8), e = .returned (.slice A1 k c1) ∧ (at_ ≤ at2 ∧ at2 ≤ n) ∧ w'.heap[gr]? = some (.cells #[.slice A n c, .int .i64 at2, .bool bad2] 56 (0, 0)) ∧ Mur.Step (Mur.readS k) b at_ bad at2 bad2 x ∧ Byt w' A1 k x ∧ (k ≤ c1 ∧ c1 ≤ 9223372036854775807) ∧ Chg [gr] w w' := by
 refine (Rsome_any0 gr A n c b at_ bad w hr hb hnc hneb hat hn k hk).mono ?_
 rintro _ W ⟨at2, bad2, A1, n1, c1, x, rfl, h1, h2, h3, ⟨rfl, h4, h5, h6⟩, h7⟩
 exact ⟨at2, bad2, A1, c1, x, rfl, h1, h2, h3, h4, ⟨h5, h6⟩, h7⟩
theorem Rdigest_any (gr : Nat) (A : Option Addr) (n c : Nat) (b : List UInt8) (at_ : Nat) (bad : Bool) (w : World) (hr : w.heap[gr]? = some (.cells #[.slice A n c, .int .i64 at_, .bool bad] 56 (0, 0))) (hb : Byt w A n b) (hnc : n ≤ c ∧ c ≤ 9223372036854775807) (hneb : ∀ a, A = some a → 0 < n → a.block ≠ gr) (hat : at_ ≤ n) (hn : n ≤ 100000) : Calls Tryd.prog 20 #[pt gr 0] w fun e w' => ∃ (at2 : Nat) (bad2 : Bool) (x : List UInt8), e = .returned (.agg (b8s x).toArray) ∧ (at_ ≤ at2 ∧ at2 ≤ n) ∧ w'.heap[gr]? = some (.cells #[.slice A n c, .int .i64 at2, .bool bad2] 56 (0, 0)) ∧ Mur.Step (Mur.readS 32) b at_ bad at2 bad2 x ∧ x.length = 32 ∧ Chg [gr] w w' := by
 have hne : ∀ g off, A = some ⟨g, off, none⟩ → 0 < n → g ≠ gr := fun g off e hn => hneb _ e hn
 have hbl_ := hb.1
 have hn_ := hn
 have hgl_ := (Array.getElem?_eq_some_iff.1 hr).1
 refine calls_of_wp Tryd.func20 rfl ?_
 refine sR<|nW 0 2 Z32 29 fun W1 hb1 ch1 sz1 => eN<|sR<|rP 0 3 (pt gr 0) ?_
 have kk1 : Chg [gr] (w) W1 := zA ch1
 refine rK 1 4 (Rsome_any gr A n c b at_ bad W1 (qT ch1 hr) (byt_chgp hb kk1 (fun g off e hn hl => ⟨by have := hne g off e hn; omega, trivial⟩)) ⟨by omega, by omega⟩ hneb (by omega) (by omega) 32 (by omega)) ?_
 rintro _ W2 ⟨at1, bad1, AA1, cc1, x1, rfl, hat1, hr1, hst1, hb2, hcc1, ch2⟩
 have zz2 := ch2.size
 -- AA1
 obtain ⟨qs1, os1, hq_, _⟩ := hb2.2 (by omega)
 subst hq_
 refine rq 2 5 (pt qs1 os1) rfl (Mur.s2a 29 5 (.tmp 4) 32 rfl Tryd.underlying29 (some ⟨qs1, os1, none⟩) 32 cc1 (by kernel_rfl) (by omega))<|rq 3 6 (.agg ((b8s x1).toArray)) rfl (lR os1 (b8s x1) (Mur.rng_byt hb2) (by rw [b8s_length, hb2.1]; kernel_rfl))<|rU 4 rfl (sC x1 hb2.1 (qO ch2 hb1)) fun W3 hb3 ch3 zz3 => eN<|wp_ret<|?_
 have kk2 := kC kk1 ch2
 have kk3 := kB kk2 ch3
 refine Wk.ret (.agg (b8s x1).toArray) rfl (results_cell_row rfl _ _ w.heap.size 29 (b8s x1).toArray (0, 0) _ (by kernel_rfl) hb3 Tryd.underlying29 rfl (by rw [List.size_toArray, b8s_length, hb2.1]; kernel_rfl)) ?_
 exact ⟨at1, bad1, x1, rfl, ⟨by omega, by omega⟩, (qO ch3 hr1), hst1, hb2.1, kk3⟩
theorem Rattest_any (gr : Nat) (A : Option Addr) (n c : Nat) (b : List UInt8) (at_ : Nat) (bad : Bool) (w : World) (hr : w.heap[gr]? = some (.cells #[.slice A n c, .int .i64 at_, .bool bad] 56 (0, 0))) (hb : Byt w A n b) (hnc : n ≤ c ∧ c ≤ 9223372036854775807) (hneb : ∀ a, A = some a → 0 < n → a.block ≠ gr) (hat : at_ ≤ n) (hn : n ≤ 100000) : Calls Tryd.prog 39 #[pt gr 0] w fun e w' => ∃ (at2 : Nat) (bad2 : Bool) (y : Att), e = .returned (.agg (attC y.k y.r y.n y.t).toArray) ∧ (at_ ≤ at2 ∧ at2 ≤ n) ∧ w'.heap[gr]? = some (.cells #[.slice A n c, .int .i64 at2, .bool bad2] 56 (0, 0)) ∧ Mur.Step Mur.readA b at_ bad at2 bad2 y ∧ Chg [gr] w w' := by
 have hne : ∀ g off, A = some ⟨g, off, none⟩ → 0 < n → g ≠ gr := fun g off e hn => hneb _ e hn
 have hbl_ := hb.1
 have hn_ := hn
 have hgl_ := (Array.getElem?_eq_some_iff.1 hr).1
 refine calls_of_wp Tryd.func39 rfl ?_
 refine sR<|nW 0 2 (Mur.attC z32 z32 0 z32).toArray 36 fun W1 hb1 ch1 sz1 => eN<|sR<|rP 0 6 (pt gr 0) ?_
 have kk1 : Chg [gr] (w) W1 := zA ch1
 refine rK 1 7 (Rsome_any gr A n c b at_ bad W1 (qT ch1 hr) (byt_chgp hb kk1 (fun g off e hn hl => ⟨by have := hne g off e hn; omega, trivial⟩)) ⟨by omega, by omega⟩ hneb (by omega) (by omega) 104 (by omega)) ?_
 rintro _ W2 ⟨at1, bad1, AA1, cc1, x1, rfl, hat1, hr1, hst1, hb2, hcc1, ch2⟩
 have zz2 := ch2.size
 refine rC 2 8 68 [.tmp 7] #[22] [.slice AA1 104 cc1] ?_
 obtain ⟨qs1, os1, hq_, _⟩ := hb2.2 (by omega)
 subst hq_
 by_cases hV1 : 1 ≤ Mur.be8 ((x1.take 72).drop 64) ∧ Mur.be8 ((x1.take 72).drop 64) ≤ 5000
 ·refine (Read_ok qs1 os1 cc1 x1 _ _ _ _ _ W2 hb2 (by omega) rfl rfl rfl rfl rfl hV1).mono ?_
  rintro _ W3 ⟨rfl, ch3⟩
  have zz3 := ch3.size
  refine ⟨_, rfl, ?_⟩
  refine rP 3 5 (.tuple #[.agg ((Mur.attC ((x1.take 32).drop 0) ((x1.take 64).drop 32) ((Mur.be8 ((x1.take 72).drop 64) : Nat) : Int) ((x1.take 104).drop 72)).toArray), .int .i64 0])<|rP 4 9 (.agg ((Mur.attC ((x1.take 32).drop 0) ((x1.take 64).drop 32) ((Mur.be8 ((x1.take 72).drop 64) : Nat) : Int) ((x1.take 104).drop 72)).toArray))<|rP 5 10 (.int .i64 0)<|nW 6 3 (Mur.attC z32 z32 0 z32).toArray 36 fun W4 hb3 ch4 sz2 => rU 7 rfl (sB (Mur.attC ((x1.take 32).drop 0) ((x1.take 64).drop 32) ((Mur.be8 ((x1.take 72).drop 64) : Nat) : Int) ((x1.take 104).drop 72)).toArray (attC_size (sub_len hb2.1 (by omega) rfl) (sub_len hb2.1 (by omega) rfl) (sub_len hb2.1 (by omega) rfl)) attC_all hb3 (attC_size rfl rfl rfl)) fun W5 hb4 ch5 zz5 => rP 8 4 (.int .i64 0)<|eN<|wp_seq<|sR<|rP 0 11 (.int .i64 0)<|nF 1 12 (0 : Int) (0 : Int)<|eN<|cF<|wp_skip<|nxt<|sR<|rq 0 16 (.agg ((Mur.attC ((x1.take 32).drop 0) ((x1.take 64).drop 32) ((Mur.be8 ((x1.take 72).drop 64) : Nat) : Int) ((x1.take 104).drop 72)).toArray)) rfl (lA hb4 (attC_size (sub_len hb2.1 (by omega) rfl) (sub_len hb2.1 (by omega) rfl) (sub_len hb2.1 (by omega) rfl)))<|rU 1 rfl (sB (Mur.attC ((x1.take 32).drop 0) ((x1.take 64).drop 32) ((Mur.be8 ((x1.take 72).drop 64) : Nat) : Int) ((x1.take 104).drop 72)).toArray (attC_size (sub_len hb2.1 (by omega) rfl) (sub_len hb2.1 (by omega) rfl) (sub_len hb2.1 (by omega) rfl)) attC_all (qO ch5 (qT ch4 (qT ch3 (qO ch2 hb1)))) (attC_size rfl rfl rfl)) fun W6 hb5 ch6 zz6 => eN<|wp_ret<|?_
  have kk2 := kC kk1 ch2
  have kk3 := kA kk2 ch3
  have kk4 := kA kk3 ch4
  have kk5 := kB kk4 ch5
  have kk6 := kB kk5 ch6
  refine Wk.ret (.agg (Mur.attC ((x1.take 32).drop 0) ((x1.take 64).drop 32) ((Mur.be8 ((x1.take 72).drop 64) : Nat) : Int) ((x1.take 104).drop 72)).toArray) rfl (results_cell_row rfl _ _ w.heap.size 36 (Mur.attC ((x1.take 32).drop 0) ((x1.take 64).drop 32) ((Mur.be8 ((x1.take 72).drop 64) : Nat) : Int) ((x1.take 104).drop 72)).toArray (0, 0) _ (by kernel_rfl) hb5 Tryd.underlying36 rfl (by rw [(attC_size (sub_len hb2.1 (by omega) rfl) (sub_len hb2.1 (by omega) rfl) (sub_len hb2.1 (by omega) rfl))]; kernel_rfl)) ?_
  exact ⟨at1, bad1, Mur.attOf x1 hb2.1 hV1.2, rfl, ⟨by omega, by omega⟩, (qO ch6 (qO ch5 (qT ch4 (qT ch3 hr1)))), Mur.Step.att_ok hst1 hb2.1 hV1, kk6⟩
 refine (Read_no qs1 os1 cc1 x1 _ _ _ _ _ W2 hb2 (by omega) rfl rfl rfl rfl rfl hV1).mono ?_
 rintro _ W7 ⟨rfl, ch7⟩
 have zz7 := ch7.size
 refine ⟨_, rfl, ?_⟩
 refine rP 3 5 (.tuple #[.agg ((Mur.attC z32 z32 0 z32).toArray), .int .i64 5])<|rP 4 9 (.agg ((Mur.attC z32 z32 0 z32).toArray))<|rP 5 10 (.int .i64 5)<|nW 6 3 (Mur.attC z32 z32 0 z32).toArray 36 fun W8 hb6 ch8 sz3 => rU 7 rfl (sB (Mur.attC z32 z32 0 z32).toArray (attC_size rfl rfl rfl) attC_all hb6 (attC_size rfl rfl rfl)) fun W10 hb7 ch9 zz9 => rP 8 4 (.int .i64 5)<|eN<|wp_seq<|sR<|rP 0 11 (.int .i64 5)<|nT 1 12 (5 : Int) (0 : Int)<|eN<|cT<|reg<|rP 0 13 (pt gr 0)<|rP 1 14 (pt gr 0)<|rP 2 15 (pt gr 2)<|rU 3 rfl (sW 2 (.bool true) (qO ch9 (qT ch8 (qT ch7 hr1)))) fun W11 hb8 ch10 _ => ?_
 replace hb8 : W11.heap[gr]? = some (.cells #[.slice A n c, .int .i64 at1, .bool true] 56 (0, 0)) := hb8
 have zz10 := ch10.size
 refine eN<|sR<|rq 0 16 (.agg ((Mur.attC z32 z32 0 z32).toArray)) rfl (lA (qO ch10 hb7) (attC_size rfl rfl rfl))<|rU 1 rfl (sB (Mur.attC z32 z32 0 z32).toArray (attC_size rfl rfl rfl) attC_all (qO ch10 (qO ch9 (qT ch8 (qT ch7 (qO ch2 hb1))))) (attC_size rfl rfl rfl)) fun W12 hb9 ch11 zz11 => eN<|wp_ret<|?_
 have kk7 := kC kk1 ch2
 have kk8 := kA kk7 ch7
 have kk9 := kA kk8 ch8
 have kk10 := kB kk9 ch9
 have kk11 := kC kk10 ch10
 have kk12 := kB kk11 ch11
 refine Wk.ret (.agg (Mur.attC z32 z32 0 z32).toArray) rfl (results_cell_row rfl _ _ w.heap.size 36 (Mur.attC z32 z32 0 z32).toArray (0, 0) _ (by kernel_rfl) hb9 Tryd.underlying36 rfl (by rw [(attC_size rfl rfl rfl)]; kernel_rfl)) ?_
 exact ⟨at1, true, Mur.attNone, rfl, ⟨by omega, by omega⟩, (qO ch11 hb8), Mur.Step.att_no hst1 hb2.1 hV1 _, kk12⟩
theorem Rupdate_any (gr : Nat) (A : Option Addr) (n c : Nat) (b : List UInt8) (at_ : Nat) (bad : Bool) (w : World) (hr : w.heap[gr]? = some (.cells #[.slice A n c, .int .i64 at_, .bool bad] 56 (0, 0))) (hb : Byt w A n b) (hnc : n ≤ c ∧ c ≤ 9223372036854775807) (hneb : ∀ a, A = some a → 0 < n → a.block ≠ gr) (hat : at_ ≤ n) (hn : n ≤ 100000) : Calls Tryd.prog 36 #[pt gr 0] w fun e w' => ∃ (at2 : Nat) (bad2 : Bool) (u : Mur.Upd), e = .returned (.agg (Mur.updU u).toArray) ∧ (at_ ≤ at2 ∧ at2 ≤ n) ∧ w'.heap[gr]? = some (.cells #[.slice A n c, .int .i64 at2, .bool bad2] 56 (0, 0)) ∧ Mur.Step Mur.readU b at_ bad at2 bad2 u ∧ (u.node ≤ 1073741824 ∧ u.inc < 18446744073709551616) ∧ Chg [gr] w w' := by
 have hne : ∀ g off, A = some ⟨g, off, none⟩ → 0 < n → g ≠ gr := fun g off e hn => hneb _ e hn
 have hbl_ := hb.1
 have hn_ := hn
 have hgl_ := (Array.getElem?_eq_some_iff.1 hr).1
 refine calls_of_wp Tryd.func36 rfl ?_
 refine sR<|nW 0 2 #[.int .i64 0, .int .u8 0, .int .u64 0] 66 fun W1 hb1 ch1 sz1 => eN<|sR<|rP 0 4 (pt gr 0) ?_
 have kk1 : Chg [gr] (w) W1 := zA ch1
 refine rK 1 5 (Rint_any gr A n c b at_ bad W1 (qT ch1 hr) (byt_chgp hb kk1 (fun g off e hn hl => ⟨by have := hne g off e hn; omega, trivial⟩)) ⟨by omega, by omega⟩ hneb (by omega) (by omega)) ?_
 rintro _ W2 ⟨at1, bad1, v1, rfl, hat1, hr1, hst1, hlt1, ch2⟩
 have zz2 := ch2.size
 refine rP 2 6 (.agg #[.int .i64 v1, .int .u8 0, .int .u64 0])<|nW 3 3 #[.int .i64 0, .int .u8 0, .int .u64 0] 66 fun W3 hb2 ch3 sz2 => rU 4 rfl (Wk.storeR 66 (.tmp 3) (.tmp 6) rfl W2.heap.size 0 (by kernel_rfl) ([.int .i64 v1, .int .u8 0, .int .u64 0]) (by kernel_rfl) (by kernel_rfl) (by intro v hv; simp at hv; rcases hv with h | h | h <;> (subst h; rfl)) 66 ([.int .i64 0, .int .u8 0, .int .u64 0]) hb2 (by simp)) fun W4 hb3 ch4 _ => ?_
 replace hb3 : W4.heap[W2.heap.size]? = some (.cells #[.int .i64 v1, .int .u8 0, .int .u64 0] 66 (0, 0)) := hb3
 have zz4 := ch4.size
 refine eN<|sR<|rP 0 7 (pt gr 0) ?_
 have kk2 := kC kk1 ch2
 have kk3 := kA kk2 ch3
 have kk4 := kB kk3 ch4
 refine rK 1 8 (Rkind_any gr A n c b at1 bad1 W4 (qO ch4 (qT ch3 hr1)) (byt_chgp hb kk4 (fun g off e hn hl => ⟨by have := hne g off e hn; omega, trivial⟩)) ⟨by omega, by omega⟩ hneb (by omega) (by omega)) ?_
 rintro _ W5 ⟨at2, bad2, v2, rfl, hat2, hr2, hst2, hlt2, ch5⟩
 have zz5 := ch5.size
 refine rP 2 9 (pt W2.heap.size 1)<|rU 3 rfl (sW 1 (.int .u8 ((UInt8.ofNat v2).toNat : Nat)) (qO ch5 hb3)) fun W6 hb4 ch6 _ => ?_
 replace hb4 : W6.heap[W2.heap.size]? = some (.cells #[.int .i64 v1, .int .u8 ((UInt8.ofNat v2).toNat : Nat), .int .u64 0] 66 (0, 0)) := hb4
 have zz6 := ch6.size
 refine eN<|sR<|rP 0 10 (pt gr 0) ?_
 have kk5 := kC kk4 ch5
 have kk6 := kB kk5 ch6
 refine rK 1 11 (Ruint_any gr A n c b at2 bad2 W6 (qO ch6 hr2) (byt_chgp hb kk6 (fun g off e hn hl => ⟨by have := hne g off e hn; omega, trivial⟩)) ⟨by omega, by omega⟩ hneb (by omega) (by omega)) ?_
 rintro _ W7 ⟨at3, bad3, v3, rfl, hat3, hr3, hst3, hlt3, ch7⟩
 have zz7 := ch7.size
 refine rP 2 12 (pt W2.heap.size 2)<|rU 3 rfl (sW 2 (.int .u64 v3) (qO ch7 hb4)) fun W8 hb5 ch8 _ => ?_
 replace hb5 : W8.heap[W2.heap.size]? = some (.cells #[.int .i64 v1, .int .u8 ((UInt8.ofNat v2).toNat : Nat), .int .u64 v3] 66 (0, 0)) := hb5
 have zz8 := ch8.size
 refine eN<|sR<|rq 0 13 (.agg #[.int .i64 v1, .int .u8 ((UInt8.ofNat v2).toNat : Nat), .int .u64 v3]) rfl (lR 0 ([.int .i64 v1, .int .u8 ((UInt8.ofNat v2).toNat : Nat), .int .u64 v3]) (range_row hb5))<|rU 1 rfl (Wk.storeR 66 (.tmp 2) (.tmp 13) rfl w.heap.size 0 (by kernel_rfl) ([.int .i64 v1, .int .u8 ((UInt8.ofNat v2).toNat : Nat), .int .u64 v3]) (by kernel_rfl) (by kernel_rfl) (by intro v hv; simp at hv; rcases hv with h | h | h <;> (subst h; rfl)) 66 ([.int .i64 0, .int .u8 0, .int .u64 0]) (qO ch8 (qO ch7 (qO ch6 (qO ch5 (qO ch4 (qT ch3 (qO ch2 hb1))))))) (by simp)) fun W10 hb6 ch9 _ => ?_
 replace hb6 : W10.heap[w.heap.size]? = some (.cells #[.int .i64 v1, .int .u8 ((UInt8.ofNat v2).toNat : Nat), .int .u64 v3] 66 (0, 0)) := hb6
 have zz9 := ch9.size
 refine eN<|wp_ret<|?_
 have kk7 := kC kk6 ch7
 have kk8 := kB kk7 ch8
 have kk9 := kB kk8 ch9
 refine Wk.ret (.agg #[.int .i64 v1, .int .u8 ((UInt8.ofNat v2).toNat : Nat), .int .u64 v3]) rfl (results_cell_row rfl _ _ w.heap.size 66 #[.int .i64 v1, .int .u8 ((UInt8.ofNat v2).toNat : Nat), .int .u64 v3] (0, 0) _ (by kernel_rfl) hb6 Tryd.underlying66 rfl (by kernel_rfl)) ?_
 exact ⟨at3, bad3, ⟨v1, v2, v3⟩, rfl, ⟨by omega, by omega⟩, (qO ch9 (qO ch8 hr3)), (show Mur.Step Mur.readU _ _ _ _ _ _ from (hst1.seq (hst2.seq hst3)).map (fun y : Nat × Nat × Nat => (⟨y.1, y.2.1, y.2.2⟩ : Mur.Upd))), ⟨by omega, by omega⟩, kk9⟩
end Go.Proofs.YtgbadghjnpbiaaaDoor
