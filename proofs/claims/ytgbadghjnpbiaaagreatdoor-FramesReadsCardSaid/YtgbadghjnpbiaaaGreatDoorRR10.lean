/- What the row rests on, part 10. -/
import Derived.Test.YtgbadghjnpbiaaaGreatDoorRR9
import Derived.Test.YtgbadghjnpbiaaaGreatDoorRR6
import Derived.Test.YtgbadghjnpbiaaaGreatDoorRR8
import Derived.Test.YtgbadghjnpbiaaaGreatDoorRR7
namespace Go.Proofs.YtgbadghjnpbiaaaGreatDoor
open Go.RowKit Wk
open Mur (b8s Byt Own8 Seg Segs flat cutA attC Att SlA OwnA rowA msgC msg_pre byt_chg mayM_iff msg_cnt msg_items msg_ans u8_cast_inj attC_length z32 attC_size take_snoc)
set_option maxRecDepth 100000
set_option maxHeartbeats 4000000
def MayG_F1 (b : Array Value) (u1 u43 u44 u45 : Value) : Act := sg 89 [(1, u1), (43, u43), (44, u44), (45, u45)] b
theorem May_any (kd : UInt8) (p : List UInt8) (PA : Option Addr) (pn pc : Nat) (s : List UInt8) (m : Int) (I : List Att) (A : Option Addr) (n c : Nat) (b : Bool) (w : World) (hs : s.length = 32) (hb : Byt w PA pn p) (hl : SlA w A n I) (hpn : pn ≤ 9223372036854775807) (hn : n ≤ 9223372036854775807) : Calls Tryz.prog 22 #[.agg (msgC kd PA pn pc s m A n c b).toArray] w fun e w' => ∃ v, e = .returned (.bool v) ∧ (v = true ↔ Mur.mayM ⟨kd, p, s, m, I, b⟩) ∧ Chg [] w w' := by
 have hlI0 := hl.len
 have hkd_ := kd.toNat_lt
 refine calls_of_wp Tryz.func22 rfl ?_
 refine sR<|nW 0 1 ((Mur.msgC kd PA pn pc s m A n c b).toArray) 31 fun W1 hb1 ch1 sz1 => rP 1 2 vF<|eN<|wp_seq<|sR<|rP 0 7 (pw w 1)<|rq 1 8 _ rfl (ld 22 7 w.heap.size 1 (.slice PA pn pc) (show World.cell? _ ⟨_, 0 + 1, _⟩ = _ from msg_pre (range_row hb1))) ?_
 have kk1 : Chg [] w W1 := zA ch1
 refine rK 2 9 (IsPrefix_any p PA pn pc W1 (byt_chg hb kk1 (fun g off e hl => trivial)) (by omega)) ?_
 cases hpre1 : Mur.isPre p
 ·rintro _ _ ⟨rfl, rfl⟩
  refine rP 3 10 vT<|rP 4 11 vT<|rZ 5 12<|rZ 6 13<|rZ 7 14<|rP 8 15 vT<|rP 9 16 vT<|rZ 10 17<|rZ 11 18<|rZ 12 19<|rP 13 20 vT<|rP 14 21 vT<|rZ 15 22<|rZ 16 23<|rZ 17 24<|rZ 18 25<|rP 19 26 vT<|eN<|cT<|sR<|rP 0 2 vF<|eN<|tR<|?_
  have hlI_ := hl.len
  refine rt vF ?_
  refine ⟨_, rfl, ⟨fun h_ => (by cases h_), fun h_ => ?_⟩, kk1⟩
  exfalso
  obtain ⟨h1_, h2_, h3_, h4_, h5_⟩ := mayM_iff.1 h_
  exact absurd (h1_.symm.trans hpre1) (by decide)
 rintro _ _ ⟨rfl, rfl⟩
 refine rP 3 10 vF<|rP 4 11 vF<|rP 5 12 (pw w 34)<|rq 6 13 _ rfl (ld 3 12 w.heap.size 34 (vI m) (show World.cell? _ ⟨_, 0 + 34, _⟩ = _ from msg_cnt hs (range_row hb1))) ?_
 by_cases hx1 : m < (0 : Int)
 ·refine bT 7 14 (m < (0 : Int))<|rP 8 15 vT<|rP 9 16 vT<|rZ 10 17<|rZ 11 18<|rZ 12 19<|rP 13 20 vT<|rP 14 21 vT<|rZ 15 22<|rZ 16 23<|rZ 17 24<|rZ 18 25<|rP 19 26 vT<|eN<|cT<|sR<|rP 0 2 vF<|eN<|tR<|?_
  have hlI_ := hl.len
  refine rt vF ?_
  refine ⟨_, rfl, ⟨fun h_ => (by cases h_), fun h_ => ?_⟩, kk1⟩
  exfalso
  obtain ⟨h1_, h2_, h3_, h4_, h5_⟩ := mayM_iff.1 h_
  have h1k_ : ((1 : UInt8).toNat : Int) = 1 := rfl
  have h2k_ : ((2 : UInt8).toNat : Int) = 2 := rfl
  rcases h5_ with ⟨hk_, hi_, hb_⟩ | ⟨hk_, hi_, hso_, hz_, hc_⟩
  ·have hk2_ : (kd.toNat : Int) = _ := congrArg (fun z : UInt8 => (z.toNat : Int)) hk_
   have hi2_ := congrArg List.length hi_
   rw [List.length_nil] at hi2_
   first | omega | cases hb_ | (subst hb_; omega)
  have hk2_ : (kd.toNat : Int) = _ := congrArg (fun z : UInt8 => (z.toNat : Int)) hk_
  omega
 refine bF 7 14 (m < (0 : Int))<|rP 8 15 vF<|rP 9 16 vF<|rP 10 17 (pw w 34)<|rq 11 18 _ rfl (ld 3 17 w.heap.size 34 (vI m) (show World.cell? _ ⟨_, 0 + 34, _⟩ = _ from msg_cnt hs (range_row hb1))) ?_
 by_cases hx2 : m > (200 : Int)
 ·refine bT 12 19 (m > (200 : Int))<|rP 13 20 vT<|rP 14 21 vT<|rZ 15 22<|rZ 16 23<|rZ 17 24<|rZ 18 25<|rP 19 26 vT<|eN<|cT<|sR<|rP 0 2 vF<|eN<|tR<|?_
  have hlI_ := hl.len
  refine rt vF ?_
  refine ⟨_, rfl, ⟨fun h_ => (by cases h_), fun h_ => ?_⟩, kk1⟩
  exfalso
  obtain ⟨h1_, h2_, h3_, h4_, h5_⟩ := mayM_iff.1 h_
  have h1k_ : ((1 : UInt8).toNat : Int) = 1 := rfl
  have h2k_ : ((2 : UInt8).toNat : Int) = 2 := rfl
  rcases h5_ with ⟨hk_, hi_, hb_⟩ | ⟨hk_, hi_, hso_, hz_, hc_⟩
  ·have hk2_ : (kd.toNat : Int) = _ := congrArg (fun z : UInt8 => (z.toNat : Int)) hk_
   have hi2_ := congrArg List.length hi_
   rw [List.length_nil] at hi2_
   first | omega | cases hb_ | (subst hb_; omega)
  have hk2_ : (kd.toNat : Int) = _ := congrArg (fun z : UInt8 => (z.toNat : Int)) hk_
  omega
 refine bF 12 19 (m > (200 : Int))<|rP 13 20 vF<|rP 14 21 vF<|rP 15 22 (pw w 35)<|rq 16 23 _ rfl (ld 29 22 w.heap.size 35 (.slice A n c) (show World.cell? _ ⟨_, 0 + 35, _⟩ = _ from msg_items hs (range_row hb1)))<|rP 17 24 (vI n) ?_
 by_cases hx3 : (n : Int) > (8 : Int)
 ·refine bT 18 25 ((n : Int) > (8 : Int))<|rP 19 26 vT<|eN<|cT<|sR<|rP 0 2 vF<|eN<|tR<|?_
  have hlI_ := hl.len
  refine rt vF ?_
  refine ⟨_, rfl, ⟨fun h_ => (by cases h_), fun h_ => ?_⟩, kk1⟩
  exfalso
  obtain ⟨h1_, h2_, h3_, h4_, h5_⟩ := mayM_iff.1 h_
  have h1k_ : ((1 : UInt8).toNat : Int) = 1 := rfl
  have h2k_ : ((2 : UInt8).toNat : Int) = 2 := rfl
  rcases h5_ with ⟨hk_, hi_, hb_⟩ | ⟨hk_, hi_, hso_, hz_, hc_⟩
  ·have hk2_ : (kd.toNat : Int) = _ := congrArg (fun z : UInt8 => (z.toNat : Int)) hk_
   have hi2_ := congrArg List.length hi_
   rw [List.length_nil] at hi2_
   first | omega | cases hb_ | (subst hb_; omega)
  have hk2_ : (kd.toNat : Int) = _ := congrArg (fun z : UInt8 => (z.toNat : Int)) hk_
  omega
 refine bF 18 25 ((n : Int) > (8 : Int))<|rP 19 26 vF<|eN<|cF<|wp_skip<|nxt<|wp_seq<|sR<|?_
 have hpreT_ := hpre1
 have hp8_ := Mur.pre_len hpreT_
 have hpl_ := hb.1
 refine rP 0 27 (pw w 0)<|rq 1 28 _ rfl (ld 5 27 w.heap.size 0 (vB kd.toNat) (show World.cell? _ ⟨_, 0 + 0, _⟩ = _ from Mur.msg_kind (range_row hb1)))<|eN<|wp_block<|sR<|?_
 by_cases hx4 : (kd.toNat : Int) = (1 : Int)
 ·refine eT 0 30 (kd.toNat : Int) (1 : Int)<|rP 1 29 vT<|eN<|cT<|sR<|?_
  cases b
  ·refine rP 0 31 (pw w 35)<|rq 1 32 _ rfl (ld 29 31 w.heap.size 35 (.slice A n c) (show World.cell? _ ⟨_, 0 + 35, _⟩ = _ from msg_items hs (range_row hb1)))<|rP 2 33 (vI n) ?_
   by_cases hx5 : (n : Int) = (0 : Int)
   ·refine eT 3 34 (n : Int) (0 : Int)<|rP 4 35 vT<|rP 5 36 (pw w 36)<|rq 6 37 _ rfl (ld 4 36 w.heap.size 36 vF (show World.cell? _ ⟨_, 0 + 36, _⟩ = _ from msg_ans hs (range_row hb1)))<|rP 7 38 vT<|rP 8 39 vT<|rP 9 2 vT<|eN<|tI<|?_
    have hlI_ := hl.len
    exact rt vT (yesB (mayM_iff.2 ⟨hpreT_, by omega, by omega, by omega, .inl ⟨u8_cast_inj (by have h_ : ((1 : UInt8).toNat : Int) = 1 := rfl; omega), List.eq_nil_of_length_eq_zero (by omega), rfl⟩⟩) kk1)
   refine eF 3 34 (n : Int) (0 : Int)<|rP 4 35 vF<|rZ 5 36<|rZ 6 37<|rZ 7 38<|rP 8 39 vF<|rP 9 2 vF<|eN<|tI<|?_
   have hlI_ := hl.len
   refine rt vF ?_
   refine ⟨_, rfl, ⟨fun h_ => (by cases h_), fun h_ => ?_⟩, kk1⟩
   exfalso
   obtain ⟨h1_, h2_, h3_, h4_, h5_⟩ := mayM_iff.1 h_
   have h1k_ : ((1 : UInt8).toNat : Int) = 1 := rfl
   have h2k_ : ((2 : UInt8).toNat : Int) = 2 := rfl
   rcases h5_ with ⟨hk_, hi_, hb_⟩ | ⟨hk_, hi_, hso_, hz_, hc_⟩
   ·have hk2_ : (kd.toNat : Int) = _ := congrArg (fun z : UInt8 => (z.toNat : Int)) hk_
    have hi2_ := congrArg List.length hi_
    rw [List.length_nil] at hi2_
    first | omega | cases hb_ | (subst hb_; omega)
   have hk2_ : (kd.toNat : Int) = _ := congrArg (fun z : UInt8 => (z.toNat : Int)) hk_
   omega
  refine rP 0 31 (pw w 35)<|rq 1 32 _ rfl (ld 29 31 w.heap.size 35 (.slice A n c) (show World.cell? _ ⟨_, 0 + 35, _⟩ = _ from msg_items hs (range_row hb1)))<|rP 2 33 (vI n) ?_
  by_cases hx6 : (n : Int) = (0 : Int)
  ·refine eT 3 34 (n : Int) (0 : Int)<|rP 4 35 vT<|rP 5 36 (pw w 36)<|rq 6 37 _ rfl (ld 4 36 w.heap.size 36 vT (show World.cell? _ ⟨_, 0 + 36, _⟩ = _ from msg_ans hs (range_row hb1)))<|rP 7 38 vF<|rP 8 39 vF<|rP 9 2 vF<|eN<|tI<|?_
   have hlI_ := hl.len
   refine rt vF ?_
   refine ⟨_, rfl, ⟨fun h_ => (by cases h_), fun h_ => ?_⟩, kk1⟩
   exfalso
   obtain ⟨h1_, h2_, h3_, h4_, h5_⟩ := mayM_iff.1 h_
   have h1k_ : ((1 : UInt8).toNat : Int) = 1 := rfl
   have h2k_ : ((2 : UInt8).toNat : Int) = 2 := rfl
   rcases h5_ with ⟨hk_, hi_, hb_⟩ | ⟨hk_, hi_, hso_, hz_, hc_⟩
   ·have hk2_ : (kd.toNat : Int) = _ := congrArg (fun z : UInt8 => (z.toNat : Int)) hk_
    have hi2_ := congrArg List.length hi_
    rw [List.length_nil] at hi2_
    first | omega | cases hb_ | (subst hb_; omega)
   have hk2_ : (kd.toNat : Int) = _ := congrArg (fun z : UInt8 => (z.toNat : Int)) hk_
   omega
  refine eF 3 34 (n : Int) (0 : Int)<|rP 4 35 vF<|rZ 5 36<|rZ 6 37<|rZ 7 38<|rP 8 39 vF<|rP 9 2 vF<|eN<|tI<|?_
  have hlI_ := hl.len
  refine rt vF ?_
  refine ⟨_, rfl, ⟨fun h_ => (by cases h_), fun h_ => ?_⟩, kk1⟩
  exfalso
  obtain ⟨h1_, h2_, h3_, h4_, h5_⟩ := mayM_iff.1 h_
  have h1k_ : ((1 : UInt8).toNat : Int) = 1 := rfl
  have h2k_ : ((2 : UInt8).toNat : Int) = 2 := rfl
  rcases h5_ with ⟨hk_, hi_, hb_⟩ | ⟨hk_, hi_, hso_, hz_, hc_⟩
  ·have hk2_ : (kd.toNat : Int) = _ := congrArg (fun z : UInt8 => (z.toNat : Int)) hk_
   have hi2_ := congrArg List.length hi_
   rw [List.length_nil] at hi2_
   first | omega | cases hb_ | (subst hb_; omega)
  have hk2_ : (kd.toNat : Int) = _ := congrArg (fun z : UInt8 => (z.toNat : Int)) hk_
  omega
 refine eF 0 30 (kd.toNat : Int) (1 : Int)<|rP 1 29 vF<|eN<|cF<|sR<|?_
 by_cases hx7 : (kd.toNat : Int) = (2 : Int)
 ·refine eT 0 41 (kd.toNat : Int) (2 : Int)<|rP 1 40 vT<|eN<|cT<|wp_seq<|sR<|rP 0 42 (pw w 35)<|rq 1 43 _ rfl (ld 29 42 w.heap.size 35 (.slice A n c) (show World.cell? _ ⟨_, 0 + 35, _⟩ = _ from msg_items hs (range_row hb1)))<|rP 2 44 (vI n)<|rP 3 45 (vI 0)<|eN<|wp_block<|?_
  refine Wk.loop (fun m_ a wr => ∃ (i : Nat), m_ = n - i ∧ a = MayG_F1 a.tmps (pw w 0) (.slice A n c) (vI n) (vI i) ∧ i ≤ n ∧ (∀ x, x ∈ I.take i → Mur.may x.n ∧ Mur.under p x.k = true) ∧ Mur.Sorted (I.take i) ∧ wr.heap[w.heap.size]? = some (.cells (Mur.msgC kd PA pn pc s m A n c b).toArray 31 (0, 0)) ∧ Chg [] w wr) (n - 0) ?_ ?_
  ·refine ⟨0, rfl, by kernel_rfl, (by omega), (by simp), List.Pairwise.nil, hb1, kk1⟩
  rintro mm1 aa1 W2 ⟨i, hmm1, hF1, hi, hall, hsr, hX, HB⟩
  generalize aa1.tmps = bb1 at hF1
  subst hF1
  have hzB := HB.size
  have hxl_ := (Array.getElem?_eq_some_iff.1 hX).1
  have hlI := hl.len
  by_cases hlt : i < n
  ·obtain ⟨g_x, o_x, rfl, _⟩ := hl.ex (by omega)
   obtain ⟨x, hx⟩ : ∃ x, I[i]? = some x := ⟨_, List.getElem?_eq_getElem (by have := hl.len; omega)⟩
   refine sR<|bT 0 46 ((i : Int) < (n : Int))<|eN<|wp_seq<|cT<|wp_skip<|nxt<|wp_seq<|wp_block<|sR<|rP 0 47 (vI i)<|rq 1 48 (pt g_x (o_x + i * 97)) rfl (iS 97 g_x o_x n c i)<|rq 2 49 _ rfl (lR (o_x + i * 97) (Mur.attC x.k x.r x.n x.t) ((Mur.SlA.chg hl HB (fun g off e hl => trivial)).elem hx) (by rw [attC_length x.hk x.hr x.ht]; kernel_rfl))<|nW 3 4 (Mur.attC z32 z32 0 z32).toArray 35 fun W3 hb2 ch2 sz2 => rP 4 3 (vI i)<|rU 5 rfl (sB (Mur.attC x.k x.r x.n x.t).toArray (attC_size x.hk x.hr x.ht) Mur.attC_all hb2 (attC_size rfl rfl rfl)) fun W4 hb3 ch3 zz3 => eN<|sR<|rq 0 51 _ rfl (lA hb3 (attC_size x.hk x.hr x.ht)) ?_
   refine rC 1 52 23 [.tmp 51] #[35] [.agg ((Mur.attC x.k x.r x.n x.t).toArray)] ?_
   by_cases hmay1 : Mur.may x.n
   ·have hmay1u : (1 ≤ x.n ∧ x.n ≤ 5000) := hmay1
    refine (Bytes_ok x.k x.r x.t x.n x.hk x.hr x.ht W4 hmay1).mono ?_
    rintro _ W5 ⟨qr1, cr1, RB1, hRB1, rfl, hbr1, hq1, hq2, ch4⟩
    have zz4 := ch4.size
    have hBt1 : ∀ g off, (some ⟨qr1, 0, none⟩ : Option Addr) = some ⟨g, off, none⟩ → W4.heap.size ≤ g ∧ g < W5.heap.size := fun g off e => by cases e; exact hq1
    refine ⟨_, rfl, ?_⟩
    refine rP 2 50 (.tuple #[.slice (some ⟨qr1, 0, none⟩) 104 cr1, vI 0])<|rP 3 53 (.slice (some ⟨qr1, 0, none⟩) 104 cr1)<|rP 4 54 (vI 0)<|rP 5 5 (.slice (some ⟨qr1, 0, none⟩) 104 cr1)<|rP 6 6 (vI 0)<|eN<|wp_seq<|?_
    refine dReg ([]) (by kernel_rfl) ?_
    intro W6 ch5 sz3
    have zz5 := ch5.size
    have sS1 : Chg ([]) W6 W6 := (Chg.refl _).more (by simp)
    refine dW 0 55 (vI 0) sS1<|dV 1 56 vF rfl rfl (fun w' hw' => boolF (b := ((0 : Int) != (0 : Int))) (bne_eq_false_iff_eq.2 (by decide)) (by kernel_rfl)) sS1<|dW 2 57 vF sS1<|dV 3 58 _ rfl rfl (fun w' hw' => lA (qT hw' (qT ch5 (qT ch4 hb3))) (attC_size x.hk x.hr x.ht)) sS1<|dW 4 59 (pw w 1) sS1<|dV 5 60 (.slice PA pn pc) rfl rfl (fun w' hw' => ld 22 59 w.heap.size 1 (.slice PA pn pc) (show World.cell? _ ⟨_, 0 + 1, _⟩ = _ from msg_pre (range_row (qT hw' (qT ch5 (qT ch4 (qO ch3 (qT ch2 hX)))))))) sS1<|dO 6 ?_
    have kk5 := kA (kA (kB (kA HB ch2) ch3) ch4) ch5
    refine oK 61 (within_any x p PA pn pc W6 (byt_chg hb kk5 (fun g off e hl => trivial)) (by omega)) ?_
    cases hun1 : Mur.under p x.k
    ·rintro _ W7 ⟨rfl, ch6⟩
     have zz6 := ch6.size
     have sS2 := kA sS1 ch6
     refine aN sS2<|dW 7 62 vT sS2<|dW 8 63 vT sS2<|dW 9 64 vT sS2<|dZ 10 65 sS2<|dZ 11 66 sS2<|dZ 12 67 sS2<|dZ 13 68 sS2<|dZ 14 69 sS2<|dZ 15 70 sS2<|dZ 16 71 sS2<|dZ 17 72 sS2<|dZ 18 73 sS2<|dZ 19 74 sS2<|dZ 20 75 sS2<|dZ 21 76 sS2<|dZ 22 77 sS2<|dW 23 78 vT sS2<|dN<|cT<|sR<|rP 0 2 vF<|eN<|tI<|thR<|inR<|thR<|inR<|thR<|?_
     have hlI_ := hl.len
     refine rt vF ?_
     refine ⟨_, rfl, ⟨fun h_ => (by cases h_), fun h_ => ?_⟩, (kA kk5 ch6)⟩
     exfalso
     obtain ⟨h1_, h2_, h3_, h4_, h5_⟩ := mayM_iff.1 h_
     have h1k_ : ((1 : UInt8).toNat : Int) = 1 := rfl
     have h2k_ : ((2 : UInt8).toNat : Int) = 2 := rfl
     rcases h5_ with ⟨hk_, hi_, hb_⟩ | ⟨hk_, hi_, hso_, hz_, hc_⟩
     ·have hk2_ : (kd.toNat : Int) = _ := congrArg (fun z : UInt8 => (z.toNat : Int)) hk_
      have hi2_ := congrArg List.length hi_
      rw [List.length_nil] at hi2_
      first | omega | cases hb_ | (subst hb_; omega)
     have hk2_ : (kd.toNat : Int) = _ := congrArg (fun z : UInt8 => (z.toNat : Int)) hk_
     have hu_ := (hi_ x (List.mem_of_getElem? hx)).2
     rw [hun1] at hu_
     cases hu_
    rintro _ W7 ⟨rfl, ch6⟩
    have zz7 := ch6.size
    have sS3 := kA sS1 ch6
    refine aN sS3<|dW 7 62 vF sS3<|dW 8 63 vF sS3<|dW 9 64 vF sS3<|dW 10 65 (vI i) sS3 ?_
    by_cases hx8 : (i : Int) > (0 : Int)
    ·refine dV 11 66 vT rfl rfl (fun w' hw' => boolT (b := decide ((i : Int) > (0 : Int))) (decide_eq_true (by first | exact hx8 | omega)) (by kernel_rfl)) sS3<|dW 12 67 vT sS3<|dW 13 68 (pw w 35) sS3<|dV 14 69 (.slice (some ⟨g_x, o_x, none⟩) n c) rfl rfl (fun w' hw' => ld 29 68 w.heap.size 35 (.slice (some ⟨g_x, o_x, none⟩) n c) (show World.cell? _ ⟨_, 0 + 35, _⟩ = _ from msg_items hs (range_row (qT hw' (qT ch5 (qT ch4 (qO ch3 (qT ch2 hX)))))))) sS3<|dW 15 70 (vI i) sS3 ?_
     obtain ⟨z, hz⟩ : ∃ z, I[i - 1]? = some z := ⟨_, List.getElem?_eq_getElem (by omega)⟩
     refine dV 16 71 (vI (i - 1 : Nat)) rfl rfl (fun w' hw' => int64 (n := (i : Int) - 1) (z := ((i - 1 : Nat) : Int)) (by omega) (by omega) (by omega) (by kernel_rfl)) sS3<|dV 17 72 (.pointer (some ⟨g_x, o_x + (i - 1) * 97, none⟩)) rfl rfl (fun w' hw' => iS 97 g_x o_x n c (i - 1)) sS3<|dV 18 73 _ rfl rfl (fun w' hw' => lR (o_x + (i - 1) * 97) (Mur.attC z.k z.r z.n z.t) ((Mur.SlA.chg (Mur.SlA.chg hl kk5 (fun g off e hl => trivial)) hw' (fun g off e hl => trivial)).elem hz) (by rw [attC_length z.hk z.hr z.ht]; kernel_rfl)) sS3<|dV 19 74 _ rfl rfl (fun w' hw' => lA (qT hw' (qT ch5 (qT ch4 hb3))) (attC_size x.hk x.hr x.ht)) sS3<|dO 20<|oK 75 (Less_any z.k z.r z.t z.n z.hk z.hr z.ht x.k x.r x.t x.n x.hk x.hr x.ht W7) ?_
     by_cases hls1 : Go.Lib.compareBytes (Mur.rawL z.k z.r z.n z.t) (Mur.rawL x.k x.r x.n x.t) < 0
     ·rw [decide_eq_true (hls1 : Go.Lib.compareBytes (Mur.rawL z.k z.r z.n z.t) (Mur.rawL x.k x.r x.n x.t) < 0)]
      rintro _ W8 ⟨rfl, ch7⟩
      have zz8 := ch7.size
      have sS4 := kA sS3 ch7
      refine aN sS4<|dW 21 76 vF sS4<|dW 22 77 vF sS4<|dW 23 78 vF sS4<|dN<|cF<|wp_skip<|inN<|nxt<|reg<|rI 0 79 ((i : Int) + 1) (((i + 1 : Nat) : Int))<|rP 1 45 (vI (i + 1 : Nat))<|eN<|?_
      refine ⟨_, ?_, i + 1, rfl, by kernel_rfl, (by omega), (fun y_ hy_ => by rw [take_snoc hx] at hy_; rcases List.mem_append.1 hy_ with h1_ | h1_ <;> first | exact hall y_ h1_ | (rw [List.mem_singleton.1 h1_]; exact ⟨hmay1, hun1⟩)), (Mur.sorted_more hsr hx hz (by omega) hls1), (qT ch7 (qT ch6 (qT ch5 (qT ch4 (qO ch3 (qT ch2 hX)))))), (kA (kA kk5 ch6) ch7)⟩
      omega
     rw [decide_eq_false (hls1 : ¬ Go.Lib.compareBytes (Mur.rawL z.k z.r z.n z.t) (Mur.rawL x.k x.r x.n x.t) < 0)]
     rintro _ W8 ⟨rfl, ch7⟩
     have zz9 := ch7.size
     have sS5 := kA sS3 ch7
     refine aN sS5<|dW 21 76 vT sS5<|dW 22 77 vT sS5<|dW 23 78 vT sS5<|dN<|cT<|sR<|rP 0 2 vF<|eN<|tI<|thR<|inR<|thR<|inR<|thR<|?_
     have hlI_ := hl.len
     refine rt vF ?_
     refine ⟨_, rfl, ⟨fun h_ => (by cases h_), fun h_ => ?_⟩, (kA (kA kk5 ch6) ch7)⟩
     exfalso
     obtain ⟨h1_, h2_, h3_, h4_, h5_⟩ := mayM_iff.1 h_
     have h1k_ : ((1 : UInt8).toNat : Int) = 1 := rfl
     have h2k_ : ((2 : UInt8).toNat : Int) = 2 := rfl
     rcases h5_ with ⟨hk_, hi_, hb_⟩ | ⟨hk_, hi_, hso_, hz_, hc_⟩
     ·have hk2_ : (kd.toNat : Int) = _ := congrArg (fun z : UInt8 => (z.toNat : Int)) hk_
      have hi2_ := congrArg List.length hi_
      rw [List.length_nil] at hi2_
      first | omega | cases hb_ | (subst hb_; omega)
     have hk2_ : (kd.toNat : Int) = _ := congrArg (fun z : UInt8 => (z.toNat : Int)) hk_
     exact Mur.not_sorted hx hz (by omega) hls1 hso_
    refine dV 11 66 vF rfl rfl (fun w' hw' => boolF (b := decide ((i : Int) > (0 : Int))) (decide_eq_false (by first | exact hx8 | omega)) (by kernel_rfl)) sS3<|dW 12 67 vF sS3<|dZ 13 68 sS3<|dZ 14 69 sS3<|dZ 15 70 sS3<|dZ 16 71 sS3<|dZ 17 72 sS3<|dZ 18 73 sS3<|dZ 19 74 sS3<|dZ 20 75 sS3<|dZ 21 76 sS3<|dW 22 77 vF sS3<|dW 23 78 vF sS3<|dN<|cF<|wp_skip<|inN<|nxt<|reg<|rI 0 79 ((i : Int) + 1) (((i + 1 : Nat) : Int))<|rP 1 45 (vI (i + 1 : Nat))<|eN<|?_
    refine ⟨_, ?_, i + 1, rfl, by kernel_rfl, (by omega), (fun y_ hy_ => by rw [take_snoc hx] at hy_; rcases List.mem_append.1 hy_ with h1_ | h1_ <;> first | exact hall y_ h1_ | (rw [List.mem_singleton.1 h1_]; exact ⟨hmay1, hun1⟩)), (by have h0_ : i = 0 := (by omega); subst h0_; exact Mur.sorted_one hx), (qT ch6 (qT ch5 (qT ch4 (qO ch3 (qT ch2 hX))))), (kA kk5 ch6)⟩
    omega
   have hmay1u : ¬ (1 ≤ x.n ∧ x.n ≤ 5000) := hmay1
   refine (Bytes_no x.k x.r x.t x.n x.hk x.hr x.ht W4 hmay1).mono ?_
   rintro _ W10 ⟨rfl, ch8⟩
   have zz10 := ch8.size
   refine ⟨_, rfl, ?_⟩
   refine rP 2 50 (.tuple #[.slice none 0 0, vI 2])<|rP 3 53 (.slice none 0 0)<|rP 4 54 (vI 2)<|rP 5 5 (.slice none 0 0)<|rP 6 6 (vI 2)<|eN<|wp_seq<|?_
   refine dReg ([]) (by kernel_rfl) ?_
   intro W11 ch9 sz4
   have zz11 := ch9.size
   have sS6 : Chg ([]) W11 W11 := (Chg.refl _).more (by simp)
   refine dW 0 55 (vI 2) sS6<|dV 1 56 vT rfl rfl (fun w' hw' => boolT (b := ((2 : Int) != (0 : Int))) (bne_iff_ne.2 (by decide)) (by kernel_rfl)) sS6<|dW 2 57 vT sS6<|dZ 3 58 sS6<|dZ 4 59 sS6<|dZ 5 60 sS6<|dZ 6 61 sS6<|dZ 7 62 sS6<|dW 8 63 vT sS6<|dW 9 64 vT sS6<|dZ 10 65 sS6<|dZ 11 66 sS6<|dZ 12 67 sS6<|dZ 13 68 sS6<|dZ 14 69 sS6<|dZ 15 70 sS6<|dZ 16 71 sS6<|dZ 17 72 sS6<|dZ 18 73 sS6<|dZ 19 74 sS6<|dZ 20 75 sS6<|dZ 21 76 sS6<|dZ 22 77 sS6<|dW 23 78 vT sS6<|dN<|cT<|sR<|rP 0 2 vF<|eN<|tI<|thR<|inR<|thR<|inR<|thR<|?_
   have hlI_ := hl.len
   refine rt vF ?_
   refine ⟨_, rfl, ⟨fun h_ => (by cases h_), fun h_ => ?_⟩, (kA (kA (kB (kA HB ch2) ch3) ch8) ch9)⟩
   exfalso
   obtain ⟨h1_, h2_, h3_, h4_, h5_⟩ := mayM_iff.1 h_
   have h1k_ : ((1 : UInt8).toNat : Int) = 1 := rfl
   have h2k_ : ((2 : UInt8).toNat : Int) = 2 := rfl
   rcases h5_ with ⟨hk_, hi_, hb_⟩ | ⟨hk_, hi_, hso_, hz_, hc_⟩
   ·have hk2_ : (kd.toNat : Int) = _ := congrArg (fun z : UInt8 => (z.toNat : Int)) hk_
    have hi2_ := congrArg List.length hi_
    rw [List.length_nil] at hi2_
    first | omega | cases hb_ | (subst hb_; omega)
   have hk2_ : (kd.toNat : Int) = _ := congrArg (fun z : UInt8 => (z.toNat : Int)) hk_
   exact hmay1 (hi_ x (List.mem_of_getElem? hx)).1
  rw [List.take_of_length_le (show I.length ≤ i by omega)] at hall hsr
  refine sR<|bF 0 46 ((i : Int) < (n : Int))<|eN<|wp_seq<|cF<|xX<|nxt<|sR<|rP 0 80 (pw w 2)<|rq 1 81 _ rfl (lR 2 (b8s s) (show World.rangeAt _ _ (0 + 2) _ from Mur.msg_sum (range_row hX)) (by rw [Mur.b8s_length, hs]; kernel_rfl))<|rP 2 82 (.agg ((b8s [0, 0, 0, 0, 0, 0, 0, 0, 0, 0, 0, 0, 0, 0, 0, 0, 0, 0, 0, 0, 0, 0, 0, 0, 0, 0, 0, 0, 0, 0, 0, 0]).toArray)) ?_
  by_cases hzs : s = z32
  ·refine rq 3 83 vT rfl (Mur.run_eql_yes digT s z32 hs rfl hzs _ (.tmp 81) (.tmp 82) 28 rfl (by kernel_rfl) (by kernel_rfl))<|rP 4 84 vT<|rP 5 85 (pw w 34)<|rq 6 86 _ rfl (ld 3 85 w.heap.size 34 (vI m) (show World.cell? _ ⟨_, 0 + 34, _⟩ = _ from msg_cnt hs (range_row hX))) ?_
   by_cases hx9 : m = (0 : Int)
   ·refine eT 7 87 m (0 : Int)<|rP 8 88 vT<|rP 9 2 vT<|eN<|tI<|?_
    have hlI_ := hl.len
    exact rt vT (yesB (mayM_iff.2 ⟨hpreT_, by omega, by omega, by omega, .inr ⟨u8_cast_inj (by have h_ : ((2 : UInt8).toNat : Int) = 2 := rfl; omega), hall, hsr, hzs, by omega⟩⟩) HB)
   refine eF 7 87 m (0 : Int)<|rP 8 88 vF<|rP 9 2 vF<|eN<|tI<|?_
   have hlI_ := hl.len
   refine rt vF ?_
   refine ⟨_, rfl, ⟨fun h_ => (by cases h_), fun h_ => ?_⟩, HB⟩
   exfalso
   obtain ⟨h1_, h2_, h3_, h4_, h5_⟩ := mayM_iff.1 h_
   have h1k_ : ((1 : UInt8).toNat : Int) = 1 := rfl
   have h2k_ : ((2 : UInt8).toNat : Int) = 2 := rfl
   rcases h5_ with ⟨hk_, hi_, hb_⟩ | ⟨hk_, hi_, hso_, hz_, hc_⟩
   ·have hk2_ : (kd.toNat : Int) = _ := congrArg (fun z : UInt8 => (z.toNat : Int)) hk_
    have hi2_ := congrArg List.length hi_
    rw [List.length_nil] at hi2_
    first | omega | cases hb_ | (subst hb_; omega)
   have hk2_ : (kd.toNat : Int) = _ := congrArg (fun z : UInt8 => (z.toNat : Int)) hk_
   omega
  refine rq 3 83 vF rfl (Mur.run_eql_no digT s z32 hs rfl hzs _ (.tmp 81) (.tmp 82) 28 rfl (by kernel_rfl) (by kernel_rfl))<|rP 4 84 vF<|rZ 5 85<|rZ 6 86<|rZ 7 87<|rP 8 88 vF<|rP 9 2 vF<|eN<|tI<|?_
  have hlI_ := hl.len
  refine rt vF ?_
  refine ⟨_, rfl, ⟨fun h_ => (by cases h_), fun h_ => ?_⟩, HB⟩
  exfalso
  obtain ⟨h1_, h2_, h3_, h4_, h5_⟩ := mayM_iff.1 h_
  have h1k_ : ((1 : UInt8).toNat : Int) = 1 := rfl
  have h2k_ : ((2 : UInt8).toNat : Int) = 2 := rfl
  rcases h5_ with ⟨hk_, hi_, hb_⟩ | ⟨hk_, hi_, hso_, hz_, hc_⟩
  ·have hk2_ : (kd.toNat : Int) = _ := congrArg (fun z : UInt8 => (z.toNat : Int)) hk_
   have hi2_ := congrArg List.length hi_
   rw [List.length_nil] at hi2_
   first | omega | cases hb_ | (subst hb_; omega)
  have hk2_ : (kd.toNat : Int) = _ := congrArg (fun z : UInt8 => (z.toNat : Int)) hk_
  exact hzs hz_
 refine eF 0 41 (kd.toNat : Int) (2 : Int)<|rP 1 40 vF<|eN<|cF<|wp_skip<|inN<|nxt<|sR<|rP 0 2 vF<|eN<|wp_ret<|?_
 have hlI_ := hl.len
 refine rt vF ?_
 refine ⟨_, rfl, ⟨fun h_ => (by cases h_), fun h_ => ?_⟩, kk1⟩
 exfalso
 obtain ⟨h1_, h2_, h3_, h4_, h5_⟩ := mayM_iff.1 h_
 have h1k_ : ((1 : UInt8).toNat : Int) = 1 := rfl
 have h2k_ : ((2 : UInt8).toNat : Int) = 2 := rfl
 rcases h5_ with ⟨hk_, hi_, hb_⟩ | ⟨hk_, hi_, hso_, hz_, hc_⟩
 ·have hk2_ : (kd.toNat : Int) = _ := congrArg (fun z : UInt8 => (z.toNat : Int)) hk_
  have hi2_ := congrArg List.length hi_
  rw [List.length_nil] at hi2_
  first | omega | cases hb_ | (subst hb_; omega)
 have hk2_ : (kd.toNat : Int) = _ := congrArg (fun z : UInt8 => (z.toNat : Int)) hk_
 omega
end Go.Proofs.YtgbadghjnpbiaaaGreatDoor
namespace Go.Proofs.YtgbadghjnpbiaaaGreatDoor
open Go.RowKit Wk
open Mur (b8s Byt Own8 Seg Segs flat cutA attC Att SlA OwnA rowA msgC Frm Zs LiesF FrmIn frmP segs_rng frmL_sz segs_cell mayFM frmL_size bareM bareZ mayFM_1 mayFM_2 mayFM_3 mayFM_4 mayFM_6)
set_option maxRecDepth 100000
set_option maxHeartbeats 4000000
def MayF_J3_1 (b : Array Value) (u1 u3 : Value) : Act := sg 97 [(1, u1), (3, u3)] b
theorem Probe_any (f : Frm) (z : Zs) (w : World) (hL : LiesF w z f) (hI : FrmIn f) : Calls Tryz.prog 21 #[.agg (frmP f z).flatten.toArray] w fun e w' => ∃ v, e = .returned (.bool v) ∧ (v = true ↔ (f.pTo = f.dst ∧ (1 ≤ f.pKind.toNat ∧ f.pKind.toNat ≤ 3) ∧ (0 ≤ f.pAbout ∧ f.pAbout < 16) ∧ f.pUpd.length ≤ 8 ∧ ∀ u, u ∈ f.pUpd → Mur.goodU u)) ∧ Chg [] w w' := by
 have hLin_ : z.In fun g => g < w.heap.size → Wk.Off g [] := ⟨fun _ _ _ _ => trivial, fun _ _ _ _ => trivial, fun _ _ _ _ => trivial, fun _ _ _ _ => trivial, fun _ _ _ _ => trivial⟩
 have hLunc_ := hL.nu.nc
 have hLucm_ := hL.nu.cm
 have hLpnc_ := hL.np.nc
 have hLpcm_ := hL.np.cm
 have hLinc_ := hL.ni.nc
 have hLicm_ := hL.ni.cm
 have hLync_ := hL.ny.nc
 have hLycm_ := hL.ny.cm
 have hLfnc_ := hL.nf.nc
 have hLfcm_ := hL.nf.cm
 have hul_ := hL.upd.len
 rw [List.length_map] at hul_
 have hk8_ := f.pKind.toNat_lt
 refine calls_of_wp Tryz.func21 rfl ?_
 refine sR<|nW 0 1 ((frmP f z).flatten.toArray) 38 fun W1 hb1 ch1 sz1 => rP 1 2 vF<|eN<|sR<|rP 0 5 (pw w 3)<|rq 1 6 _ rfl (lR 3 [vI f.pTo, vB f.pKind.toNat, vU f.pSeq, vI f.pAbout, .slice z.u.A z.u.n z.u.c] (sgR hI.sz hb1 3 5 rfl))<|nW 2 3 #[vI 0, vB 0, vU 0, vI 0, .slice none 0 0] 26 fun W2 hb2 ch2 sz2 => rU 3 rfl (Wk.storeR 26 (.tmp 3) (.tmp 6) rfl W1.heap.size 0 (by kernel_rfl) ([vI f.pTo, vB f.pKind.toNat, vU f.pSeq, vI f.pAbout, .slice z.u.A z.u.n z.u.c]) (by kernel_rfl) (by kernel_rfl) (by intro v hv; simp at hv; rcases hv with h | h | h | h | h <;> (subst h; rfl)) 26 ([vI 0, vB 0, vU 0, vI 0, .slice none 0 0]) hb2 (by simp)) fun W3 hb3 ch3 _ => ?_
 replace hb3 : W3.heap[W1.heap.size]? = some (.cells #[vI f.pTo, vB f.pKind.toNat, vU f.pSeq, vI f.pAbout, .slice z.u.A z.u.n z.u.c] 26 (0, 0)) := hb3
 have zz3 := ch3.size
 refine eN<|sR<|rP 0 4 (.func (.func 52) #[] #[])<|eN<|sR<|rP 0 7 (pw W1 0)<|rL 1 8 0 (vI f.pTo) hb3<|rP 2 9 (pw w 2)<|rF 3 10 2 (vI f.dst) hI.sz (qO ch3 (qT ch2 hb1)) 2 ?_
 by_cases hx1 : f.pTo = f.dst
 ·refine eT 4 11 f.pTo f.dst<|rP 5 12 vT<|rP 6 13 (pw W1 1)<|rL 7 14 1 (vB f.pKind.toNat) hb3 ?_
  by_cases hx2 : (f.pKind.toNat : Int) ≥ (1 : Int)
  ·refine bT 8 15 ((f.pKind.toNat : Int) ≥ (1 : Int))<|rP 9 16 vT<|rP 10 17 vT<|rP 11 18 (pw W1 1)<|rL 12 19 1 (vB f.pKind.toNat) hb3 ?_
   by_cases hx3 : (f.pKind.toNat : Int) ≤ (3 : Int)
   ·refine bT 13 20 ((f.pKind.toNat : Int) ≤ (3 : Int))<|rP 14 21 vT<|rP 15 22 vT<|rP 16 23 (pw W1 3)<|rL 17 24 3 (vI f.pAbout) hb3<|rK 18 25 (Node_any f.pAbout W3) ?_
    by_cases hpr1 : (0 : Int) ≤ f.pAbout ∧ f.pAbout < (16 : Int)
    ·rw [decide_eq_true hpr1]
     rintro _ W4 ⟨rfl, ch4⟩
     have zz4 := ch4.size
     refine rP 19 26 vT<|rP 20 27 vT<|rP 21 28 (pw W1 4)<|rL 22 29 4 (.slice z.u.A z.u.n z.u.c) (qT ch4 hb3)<|rP 23 30 (vI z.u.n) ?_
     by_cases hx4 : (z.u.n : Int) ≤ (8 : Int)
     ·refine bT 24 31 ((z.u.n : Int) ≤ (8 : Int))<|rP 25 32 vT<|rP 26 33 vT<|rP 27 34 (pw W1 4)<|rL 28 35 4 (.slice z.u.A z.u.n z.u.c) (qT ch4 hb3)<|rP 29 36 (.func (.func 52) #[] #[]) ?_
      have kk4 := kA (kB (kA (zA ch1 : Chg [] w W1) ch2) ch3) ch4
      refine rK 30 37 (ContU_any z.u.A z.u.n z.u.c f.pUpd W4 (LiesF.chg hL kk4 hLin_).upd (by omega)) ?_
      rintro _ W5 ⟨bv1, rfl, hif1, ch5⟩
      have zz5 := ch5.size
      cases bv1
      ·exact rP 31 38 vT<|rP 32 39 vT<|rP 33 2 vT<|eN<|wp_ret<|rt vT (yesB ⟨by omega, by omega, by omega, by omega, fun u_ h_ => Classical.byContradiction fun q_ => (fun q_ => Bool.noConfusion (hif1.2 q_)) ⟨u_, h_, q_⟩⟩ (kA kk4 ch5))
      exact rP 31 38 vF<|rP 32 39 vF<|rP 33 2 vF<|eN<|wp_ret<|rt vF (noB (fun h_ => absurd h_ (fun ⟨h1_, h2_, h3_, h4_, h5_⟩ => by obtain ⟨y_, q1_, q2_⟩ := (hif1.1 rfl); exact q2_ (h5_ y_ q1_))) (kA kk4 ch5))
     exact bF 24 31 ((z.u.n : Int) ≤ (8 : Int))<|mV 40 8 25 [(27, vT), (31, vF)] 39 vF fun _ => rP 33 2 vF<|eN<|wp_ret<|rt vF (noB (fun h_ => absurd h_ (fun ⟨h1_, h2_, h3_, h4_, h5_⟩ => by omega)) (kA (kB (kA (zA ch1 : Chg [] w W1) ch2) ch3) ch4))
    rw [decide_eq_false hpr1]
    rintro _ W6 ⟨rfl, ch6⟩
    have zz6 := ch6.size
    exact mV 40 14 19 [(22, vT), (25, vF)] 39 vF fun _ => rP 33 2 vF<|eN<|wp_ret<|rt vF (noB (fun h_ => absurd h_ (fun ⟨h1_, h2_, h3_, h4_, h5_⟩ => by omega)) (kA (kB (kA (zA ch1 : Chg [] w W1) ch2) ch3) ch6))
   exact bF 13 20 ((f.pKind.toNat : Int) ≤ (3 : Int))<|mV 40 19 14 [(17, vT), (20, vF)] 39 vF fun _ => rP 33 2 vF<|eN<|wp_ret<|rt vF (noB (fun h_ => absurd h_ (fun ⟨h1_, h2_, h3_, h4_, h5_⟩ => by omega)) (kB (kA (zA ch1 : Chg [] w W1) ch2) ch3))
  exact bF 8 15 ((f.pKind.toNat : Int) ≥ (1 : Int))<|mV 40 24 9 [(12, vT), (15, vF)] 39 vF fun _ => rP 33 2 vF<|eN<|wp_ret<|rt vF (noB (fun h_ => absurd h_ (fun ⟨h1_, h2_, h3_, h4_, h5_⟩ => by omega)) (kB (kA (zA ch1 : Chg [] w W1) ch2) ch3))
 exact eF 4 11 f.pTo f.dst<|mV 40 28 5 [(11, vF)] 39 vF fun _ => rP 33 2 vF<|eN<|wp_ret<|rt vF (noB (fun h_ => absurd h_ (fun ⟨h1_, h2_, h3_, h4_, h5_⟩ => by omega)) (kB (kA (zA ch1 : Chg [] w W1) ch2) ch3))
theorem MayF_any (f : Frm) (z : Zs) (w : World) (hL : LiesF w z f) (hI : FrmIn f) : Calls Tryz.prog 9 #[.agg (frmP f z).flatten.toArray] w fun e w' => ∃ v, e = .returned (.bool v) ∧ (v = true ↔ mayFM f) ∧ Chg [] w w' := by
 have hLin_ : z.In fun g => g < w.heap.size → Wk.Off g [] := ⟨fun _ _ _ _ => trivial, fun _ _ _ _ => trivial, fun _ _ _ _ => trivial, fun _ _ _ _ => trivial, fun _ _ _ _ => trivial⟩
 have hLunc_ := hL.nu.nc
 have hLucm_ := hL.nu.cm
 have hLpnc_ := hL.np.nc
 have hLpcm_ := hL.np.cm
 have hLinc_ := hL.ni.nc
 have hLicm_ := hL.ni.cm
 have hLync_ := hL.ny.nc
 have hLycm_ := hL.ny.cm
 have hLfnc_ := hL.nf.nc
 have hLfcm_ := hL.nf.cm
 have hbl_ := hL.byt.1
 have hfl_ := hL.prf.len
 rw [List.length_map] at hfl_
 refine calls_of_wp Tryz.func9 rfl ?_
 refine sR<|nW 0 1 ((frmP f z).flatten.toArray) 38 fun W1 hb1 ch1 sz1 => rP 1 2 vF<|eN<|wp_seq<|wp_seq<|?_
 refine dReg ([]) (by kernel_rfl) ?_
 intro W2 ch2 sz2
 have zz2 := ch2.size
 have sS1 : Chg ([]) W2 W2 := (Chg.refl _).more (by simp)
 refine dW 0 6 (pw w 1) sS1<|dV 1 7 (vI f.frm) rfl rfl (fun w' hw' => fl 3 6 w.heap.size 1 (vI f.frm) hI.sz (qT hw' (qT ch2 hb1)) 1) sS1<|dO 2<|oK 8 (Node_any f.frm W2) ?_
 by_cases hpr1 : (0 : Int) ≤ f.frm ∧ f.frm < (16 : Int)
 ·rw [decide_eq_true hpr1]
  rintro _ W3 ⟨rfl, ch3⟩
  have zz3 := ch3.size
  have sS2 := kA sS1 ch3
  refine aN sS2<|dW 3 9 vF sS2<|dW 4 10 vF sS2<|dW 5 11 (pw w 2) sS2<|dV 6 12 (vI f.dst) rfl rfl (fun w' hw' => fl 3 11 w.heap.size 2 (vI f.dst) hI.sz (qT hw' (qT ch2 hb1)) 2) sS2<|dO 7<|oK 13 (Node_any f.dst W3) ?_
  by_cases hpr2 : (0 : Int) ≤ f.dst ∧ f.dst < (16 : Int)
  ·rw [decide_eq_true hpr2]
   rintro _ W4 ⟨rfl, ch4⟩
   have zz4 := ch4.size
   have sS3 := kA sS2 ch4
   refine aN sS3<|dW 8 14 vF sS3<|dW 9 15 vF sS3<|dW 10 16 vF sS3<|dW 11 17 (pw w 1) sS3<|dV 12 18 (vI f.frm) rfl rfl (fun w' hw' => fl 3 17 w.heap.size 1 (vI f.frm) hI.sz (qT hw' (qT ch2 hb1)) 1) sS3<|dW 13 19 (pw w 2) sS3<|dV 14 20 (vI f.dst) rfl rfl (fun w' hw' => fl 3 19 w.heap.size 2 (vI f.dst) hI.sz (qT hw' (qT ch2 hb1)) 2) sS3 ?_
   by_cases hx1 : f.frm = f.dst
   ·exact dV 15 21 vT rfl rfl (fun w' hw' => boolT (b := (f.frm == f.dst)) (beq_iff_eq.2 (by first | exact hx1 | omega)) (by kernel_rfl)) sS3<|dW 16 22 vT sS3<|dW 17 23 vT sS3<|dZ 18 24 sS3<|dZ 19 25 sS3<|dZ 20 26 sS3<|dZ 21 27 sS3<|dZ 22 28 sS3<|dW 23 29 vT sS3<|dN<|cT<|sR<|rP 0 2 vF<|eN<|tR<|rt vF (noB (fun h_ => absurd h_ (fun ⟨h1_, h2_, h3_, h4_, h5_⟩ => h3_ (by omega))) (kA (kA (kA (zA ch1 : Chg [] w W1) ch2) ch3) ch4))
   refine dV 15 21 vF rfl rfl (fun w' hw' => boolF (b := (f.frm == f.dst)) (beq_eq_false_iff_ne.2 (by first | exact hx1 | omega)) (by kernel_rfl)) sS3<|dW 16 22 vF sS3<|dW 17 23 vF sS3<|dV 18 24 _ rfl rfl (fun w' hw' => lA (qT hw' (qT ch2 hb1)) (frmL_size hI.sz)) sS3<|dV 19 25 _ rfl rfl (fun w' hw' => lA (qT hw' (qT ch2 hb1)) (frmL_size hI.sz)) sS3<|dO 20<|oK 26 (Bare_any f z W4 hI) ?_
   rintro _ W5 ⟨rfl, ch5⟩
   have zz5 := ch5.size
   have sS4 := kA sS3 ch5
   refine aN sS4<|dO 21 ?_
   have kk9 := kA (kA (kA (kA (zA ch1 : Chg [] w W1) ch2) ch3) ch4) ch5
   refine oK 27 (Same_any f z (bareM f) (bareZ f z) W5 (LiesF.chg hL kk9 hLin_) hI (Mur.lies_bare (LiesF.chg hL kk9 hLin_)) (Mur.frmIn_bare hI)) ?_
   rintro _ W6 ⟨bv1, rfl, hif1, ch6⟩
   have zz6 := ch6.size
   cases bv1
   ·have sS5 := kA sS4 ch6
    exact aN sS5<|dW 22 28 vT sS5<|dW 23 29 vT sS5<|dN<|cT<|sR<|rP 0 2 vF<|eN<|tR<|rt vF (noB (fun h_ => absurd h_ (fun ⟨h1_, h2_, h3_, h4_, h5_⟩ => (fun q_ => Bool.noConfusion (hif1.2 q_)) h4_)) (kA kk9 ch6))
   have sS6 := kA sS4 ch6
   refine aN sS6<|dW 22 28 vF sS6<|dW 23 29 vF sS6<|dN<|cF<|wp_skip<|nxt<|wp_seq<|?_
   refine Wk.cut (fun a wj => ∃ (cb : Bool), a = MayF_J3_1 a.tmps (pw w 0) (.bool cb) ∧ W6 = wj ∧ (cb = true ↔ 0 ≤ f.chunk ∧ f.chunk < 100)) ?_ ?_
   ·refine reg<|rP 0 30 (pw w 210)<|rF 1 31 210 (vI f.chunk) hI.sz (qT ch6 (qT ch5 (qT ch4 (qT ch3 (qT ch2 hb1))))) 24 ?_
    by_cases hx2 : f.chunk ≥ (0 : Int)
    ·refine bT 2 32 (f.chunk ≥ (0 : Int))<|rP 3 33 vT<|rP 4 34 (pw w 210)<|rF 5 35 210 (vI f.chunk) hI.sz (qT ch6 (qT ch5 (qT ch4 (qT ch3 (qT ch2 hb1))))) 24 ?_
     by_cases hx3 : f.chunk < (100 : Int)
     ·refine bT 6 36 (f.chunk < (100 : Int))<|rP 7 37 vT<|rP 8 3 vT<|eN<|?_
      exact ⟨true, by kernel_rfl, rfl, ⟨fun _ => by omega, fun _ => rfl⟩⟩
     refine bF 6 36 (f.chunk < (100 : Int))<|rP 7 37 vF<|rP 8 3 vF<|eN<|?_
     exact ⟨false, by kernel_rfl, rfl, ⟨fun h_ => (by cases h_), fun h_ => (by omega)⟩⟩
    refine bF 2 32 (f.chunk ≥ (0 : Int))<|rP 3 33 vF<|rZ 4 34<|rZ 5 35<|rZ 6 36<|rP 7 37 vF<|rP 8 3 vF<|eN<|?_
    exact ⟨false, by kernel_rfl, rfl, ⟨fun h_ => (by cases h_), fun h_ => (by omega)⟩⟩
   rintro aa1 _ ⟨cb, hF1, rfl, hcb⟩
   generalize aa1.tmps = bb1 at hF1
   subst hF1
   refine nxt<|wp_seq<|sR<|rP 0 38 (pw w 0)<|rF 1 39 0 (vB f.kind.toNat) hI.sz (qT ch6 (qT ch5 (qT ch4 (qT ch3 (qT ch2 hb1))))) 0<|eN<|wp_block<|sR<|?_
   by_cases hx4 : (f.kind.toNat : Int) = (1 : Int)
   ·refine eT 0 41 (f.kind.toNat : Int) (1 : Int)<|rP 1 40 vT<|eN<|cT<|sR<|rq 0 42 _ rfl (lA (qT ch6 (qT ch5 (qT ch4 (qT ch3 (qT ch2 hb1))))) (frmL_size hI.sz)) ?_
    have kk11 := kA kk9 ch6
    refine rK 1 43 (Probe_any f z W6 (LiesF.chg hL kk11 hLin_) hI) ?_
    rintro _ W7 ⟨bv2, rfl, hif2, ch7⟩
    have zz7 := ch7.size
    cases bv2
    ·refine rP 2 2 vF<|eN<|tI<|?_
     have hHd_ : Mur.nodeM f.frm ∧ Mur.nodeM f.dst ∧ f.frm ≠ f.dst ∧ f = bareM f := ⟨hpr1, hpr2, by omega, (hif1.1 rfl)⟩
     have hk_ : f.kind = 1 := kI 1
     have hM_ : mayFM f ↔ Mur.mayK1 f := mayFM_1 hHd_ hk_
     exact rt vF (noB (fun h_ => absurd (hM_.1 h_) (fun q_ => Bool.noConfusion (hif2.2 q_))) (kA kk11 ch7))
    refine rP 2 2 vT<|eN<|tI<|?_
    have hHd_ : Mur.nodeM f.frm ∧ Mur.nodeM f.dst ∧ f.frm ≠ f.dst ∧ f = bareM f := ⟨hpr1, hpr2, by omega, (hif1.1 rfl)⟩
    have hk_ : f.kind = 1 := kI 1
    have hM_ : mayFM f ↔ Mur.mayK1 f := mayFM_1 hHd_ hk_
    exact rt vT (yesB (hM_.2 (hif2.1 rfl)) (kA kk11 ch7))
   refine eF 0 41 (f.kind.toNat : Int) (1 : Int)<|rP 1 40 vF<|eN<|cF<|sR<|?_
   by_cases hx5 : (f.kind.toNat : Int) = (2 : Int)
   ·refine eT 0 45 (f.kind.toNat : Int) (2 : Int)<|rP 1 44 vT<|eN<|cT<|sR<|rP 0 46 (pw w 8)<|rq 1 47 _ rfl (lR 8 (Mur.msgC f.gos.kind z.p.A z.p.n z.p.c f.gos.sum f.gos.cnt z.i.A z.i.n z.i.c f.gos.ans) (sgR hI.sz (qT ch6 (qT ch5 (qT ch4 (qT ch3 (qT ch2 hb1))))) 8 6 rfl) (by rw [Mur.msgC_length hI.ok.sum]; kernel_rfl)) ?_
    have kk14 := kA kk9 ch6
    refine rK 2 48 (May_any f.gos.kind f.gos.pre z.p.A z.p.n z.p.c f.gos.sum f.gos.cnt f.gos.items z.i.A z.i.n z.i.c f.gos.ans W6 hI.ok.sum (LiesF.chg hL kk14 hLin_).pre (LiesF.chg hL kk14 hLin_).its (by omega) (by omega)) ?_
    rintro _ W8 ⟨bv3, rfl, hif3, ch8⟩
    have zz8 := ch8.size
    cases bv3
    ·refine rP 3 2 vF<|eN<|tI<|?_
     have hHd_ : Mur.nodeM f.frm ∧ Mur.nodeM f.dst ∧ f.frm ≠ f.dst ∧ f = bareM f := ⟨hpr1, hpr2, by omega, (hif1.1 rfl)⟩
     have hk_ : f.kind = 2 := kI 2
     have hM_ : mayFM f ↔ Mur.mayK2 f := mayFM_2 hHd_ hk_
     exact rt vF (noB (fun h_ => absurd (hM_.1 h_) (fun q_ => Bool.noConfusion (hif3.2 q_))) (kA kk14 ch8))
    refine rP 3 2 vT<|eN<|tI<|?_
    have hHd_ : Mur.nodeM f.frm ∧ Mur.nodeM f.dst ∧ f.frm ≠ f.dst ∧ f = bareM f := ⟨hpr1, hpr2, by omega, (hif1.1 rfl)⟩
    have hk_ : f.kind = 2 := kI 2
    have hM_ : mayFM f ↔ Mur.mayK2 f := mayFM_2 hHd_ hk_
    exact rt vT (yesB (hM_.2 (hif3.1 rfl)) (kA kk14 ch8))
   refine eF 0 45 (f.kind.toNat : Int) (2 : Int)<|rP 1 44 vF<|eN<|cF<|sR<|?_
   by_cases hx6 : (f.kind.toNat : Int) = (3 : Int)
   ·refine eT 0 50 (f.kind.toNat : Int) (3 : Int)<|rP 1 49 vT<|eN<|cT<|sR<|rP 0 51 (pw w 45)<|rP 1 52 (pw w 77)<|rF 2 53 77 (vI f.cNode) hI.sz (qT ch6 (qT ch5 (qT ch4 (qT ch3 (qT ch2 hb1))))) 15<|rP 3 54 (pw w 1)<|rF 4 55 1 (vI f.frm) hI.sz (qT ch6 (qT ch5 (qT ch4 (qT ch3 (qT ch2 hb1))))) 1 ?_
    by_cases hx7 : f.cNode = f.frm
    ·refine eT 5 56 f.cNode f.frm<|rP 6 57 vT<|rP 7 58 (pw w 45)<|rP 8 59 (pw w 78)<|rF 9 60 78 (vU f.cInc) hI.sz (qT ch6 (qT ch5 (qT ch4 (qT ch3 (qT ch2 hb1))))) 16 ?_
     by_cases hx8 : (f.cInc : Int) ≤ (1099511627776 : Int)
     ·refine bT 10 61 ((f.cInc : Int) ≤ (1099511627776 : Int))<|rP 11 62 vT<|rP 12 63 vT<|rP 13 64 (pw w 45)<|rP 14 65 (pw w 79)<|rF 15 66 79 (vU f.cCnt) hI.sz (qT ch6 (qT ch5 (qT ch4 (qT ch3 (qT ch2 hb1))))) 17 ?_
      by_cases hx9 : (f.cCnt : Int) ≤ (1099511627776 : Int)
      ·refine bT 16 67 ((f.cCnt : Int) ≤ (1099511627776 : Int))<|rP 17 68 vT<|rP 18 2 vT<|eN<|tI<|?_
       have hHd_ : Mur.nodeM f.frm ∧ Mur.nodeM f.dst ∧ f.frm ≠ f.dst ∧ f = bareM f := ⟨hpr1, hpr2, by omega, (hif1.1 rfl)⟩
       have hk_ : f.kind = 3 := kI 3
       have hM_ : mayFM f ↔ Mur.mayK3 f := mayFM_3 hHd_ hk_
       exact rt vT (yesB (hM_.2 (show _ ∧ _ ∧ _ from ⟨by omega, by omega, by omega⟩)) (kA kk9 ch6))
      refine bF 16 67 ((f.cCnt : Int) ≤ (1099511627776 : Int))<|rP 17 68 vF<|rP 18 2 vF<|eN<|tI<|?_
      have hHd_ : Mur.nodeM f.frm ∧ Mur.nodeM f.dst ∧ f.frm ≠ f.dst ∧ f = bareM f := ⟨hpr1, hpr2, by omega, (hif1.1 rfl)⟩
      have hk_ : f.kind = 3 := kI 3
      have hM_ : mayFM f ↔ Mur.mayK3 f := mayFM_3 hHd_ hk_
      exact rt vF (noB (fun h_ => absurd (hM_.1 h_) (fun ⟨q1_, q2_, q3_⟩ => by omega)) (kA kk9 ch6))
     refine bF 10 61 ((f.cInc : Int) ≤ (1099511627776 : Int))<|rP 11 62 vF<|rP 12 63 vF<|rZ 13 64<|rZ 14 65<|rZ 15 66<|rZ 16 67<|rP 17 68 vF<|rP 18 2 vF<|eN<|tI<|?_
     have hHd_ : Mur.nodeM f.frm ∧ Mur.nodeM f.dst ∧ f.frm ≠ f.dst ∧ f = bareM f := ⟨hpr1, hpr2, by omega, (hif1.1 rfl)⟩
     have hk_ : f.kind = 3 := kI 3
     have hM_ : mayFM f ↔ Mur.mayK3 f := mayFM_3 hHd_ hk_
     exact rt vF (noB (fun h_ => absurd (hM_.1 h_) (fun ⟨q1_, q2_, q3_⟩ => by omega)) (kA kk9 ch6))
    refine eF 5 56 f.cNode f.frm<|rP 6 57 vF<|rZ 7 58<|rZ 8 59<|rZ 9 60<|rZ 10 61<|rP 11 62 vF<|rP 12 63 vF<|rZ 13 64<|rZ 14 65<|rZ 15 66<|rZ 16 67<|rP 17 68 vF<|rP 18 2 vF<|eN<|tI<|?_
    have hHd_ : Mur.nodeM f.frm ∧ Mur.nodeM f.dst ∧ f.frm ≠ f.dst ∧ f = bareM f := ⟨hpr1, hpr2, by omega, (hif1.1 rfl)⟩
    have hk_ : f.kind = 3 := kI 3
    have hM_ : mayFM f ↔ Mur.mayK3 f := mayFM_3 hHd_ hk_
    exact rt vF (noB (fun h_ => absurd (hM_.1 h_) (fun ⟨q1_, q2_, q3_⟩ => by omega)) (kA kk9 ch6))
   refine eF 0 50 (f.kind.toNat : Int) (3 : Int)<|rP 1 49 vF<|eN<|cF<|sR<|?_
   by_cases hx10 : (f.kind.toNat : Int) = (4 : Int)
   ·refine eT 0 70 (f.kind.toNat : Int) (4 : Int)<|rP 1 69 vT<|eN<|cT<|sR<|rP 0 72 (pw w 81)<|rq 1 73 _ rfl (lR 81 (Mur.attC f.att.k f.att.r f.att.n f.att.t) (sgR hI.sz (qT ch6 (qT ch5 (qT ch4 (qT ch3 (qT ch2 hb1))))) 19 4 Mur.frmL_att) (by rw [Mur.attC_length f.att.hk f.att.hr f.att.ht]; kernel_rfl)) ?_
    refine rC 2 74 23 [.tmp 73] #[35] [.agg ((Mur.attC f.att.k f.att.r f.att.n f.att.t).toArray)] ?_
    by_cases hmay1 : Mur.may f.att.n
    ·have hmay1u : (1 ≤ f.att.n ∧ f.att.n ≤ 5000) := hmay1
     refine (Bytes_ok f.att.k f.att.r f.att.t f.att.n f.att.hk f.att.hr f.att.ht W6 hmay1).mono ?_
     rintro _ W10 ⟨qr1, cr1, RB1, hRB1, rfl, hbr1, hq1, hq2, ch9⟩
     have zz9 := ch9.size
     have hBt1 : ∀ g off, (some ⟨qr1, 0, none⟩ : Option Addr) = some ⟨g, off, none⟩ → W6.heap.size ≤ g ∧ g < W10.heap.size := fun g off e => by cases e; exact hq1
     refine ⟨_, rfl, ?_⟩
     refine rP 3 71 (.tuple #[.slice (some ⟨qr1, 0, none⟩) 104 cr1, vI 0])<|rP 4 75 (.slice (some ⟨qr1, 0, none⟩) 104 cr1)<|rP 5 76 (vI 0)<|rP 6 4 (.slice (some ⟨qr1, 0, none⟩) 104 cr1)<|rP 7 5 (vI 0)<|eN<|sR<|rP 0 77 (vI 0)<|eT 1 78 (0 : Int) (0 : Int)<|rP 2 2 vT<|eN<|tI<|?_
     have hHd_ : Mur.nodeM f.frm ∧ Mur.nodeM f.dst ∧ f.frm ≠ f.dst ∧ f = bareM f := ⟨hpr1, hpr2, by omega, (hif1.1 rfl)⟩
     have hk_ : f.kind = 4 := kI 4
     have hM_ : mayFM f ↔ Mur.mayK4 f := mayFM_4 hHd_ hk_
     exact rt vT (yesB (hM_.2 hmay1) (kA (kA kk9 ch6) ch9))
    have hmay1u : ¬ (1 ≤ f.att.n ∧ f.att.n ≤ 5000) := hmay1
    refine (Bytes_no f.att.k f.att.r f.att.t f.att.n f.att.hk f.att.hr f.att.ht W6 hmay1).mono ?_
    rintro _ W11 ⟨rfl, ch10⟩
    have zz10 := ch10.size
    refine ⟨_, rfl, ?_⟩
    refine rP 3 71 (.tuple #[.slice none 0 0, vI 2])<|rP 4 75 (.slice none 0 0)<|rP 5 76 (vI 2)<|rP 6 4 (.slice none 0 0)<|rP 7 5 (vI 2)<|eN<|sR<|rP 0 77 (vI 2)<|eF 1 78 (2 : Int) (0 : Int)<|rP 2 2 vF<|eN<|tI<|?_
    have hHd_ : Mur.nodeM f.frm ∧ Mur.nodeM f.dst ∧ f.frm ≠ f.dst ∧ f = bareM f := ⟨hpr1, hpr2, by omega, (hif1.1 rfl)⟩
    have hk_ : f.kind = 4 := kI 4
    have hM_ : mayFM f ↔ Mur.mayK4 f := mayFM_4 hHd_ hk_
    exact rt vF (noB (fun h_ => absurd (hM_.1 h_) hmay1) (kA (kA kk9 ch6) ch10))
   refine eF 0 70 (f.kind.toNat : Int) (4 : Int)<|rP 1 69 vF<|eN<|cF<|sR<|?_
   by_cases hx11 : (f.kind.toNat : Int) = (5 : Int)
   ·refine eT 0 80 (f.kind.toNat : Int) (5 : Int)<|rP 1 79 vT<|eN<|cT<|sR<|rP 0 81 (.bool cb)<|rP 1 2 (.bool cb)<|eN<|tI<|?_
    have hHd_ : Mur.nodeM f.frm ∧ Mur.nodeM f.dst ∧ f.frm ≠ f.dst ∧ f = bareM f := ⟨hpr1, hpr2, by omega, (hif1.1 rfl)⟩
    have hk_ : f.kind = 5 := kI 5
    have hM_ : mayFM f ↔ Mur.mayK5 f := Mur.mayFM_5 hHd_ hk_
    exact rt (.bool cb) ⟨_, rfl, hcb.trans hM_.symm, (kA kk9 ch6)⟩
   refine eF 0 80 (f.kind.toNat : Int) (5 : Int)<|rP 1 79 vF<|eN<|cF<|sR<|?_
   by_cases hx12 : (f.kind.toNat : Int) = (6 : Int)
   ·refine eT 0 83 (f.kind.toNat : Int) (6 : Int)<|rP 1 82 vT<|eN<|cT<|sR<|rP 0 84 (.bool cb)<|rP 1 85 (.bool cb) ?_
    cases cb
    ·refine rZ 2 86<|rZ 3 87<|rZ 4 88<|rZ 5 89<|rP 6 90 vF<|rP 7 91 vF<|rZ 8 92<|rZ 9 93<|rZ 10 94<|rZ 11 95<|rP 12 96 vF<|rP 13 2 vF<|eN<|tI<|?_
     have hHd_ : Mur.nodeM f.frm ∧ Mur.nodeM f.dst ∧ f.frm ≠ f.dst ∧ f = bareM f := ⟨hpr1, hpr2, by omega, (hif1.1 rfl)⟩
     have hk_ : f.kind = 6 := kI 6
     have hM_ : mayFM f ↔ Mur.mayK6 f := mayFM_6 hHd_ hk_
     exact rt vF (noB (fun h_ => absurd (hM_.1 h_) (fun ⟨q1_, q2_, q3_⟩ => by first | omega | exact Bool.noConfusion (hcb.2 q1_))) (kA kk9 ch6))
    refine rP 2 86 (pw w 211)<|rF 3 87 211 (.slice z.y.A z.y.n z.y.c) hI.sz (qT ch6 (qT ch5 (qT ch4 (qT ch3 (qT ch2 hb1))))) 25<|rP 4 88 (vI z.y.n) ?_
    by_cases hx13 : (z.y.n : Int) ≤ (64 : Int)
    ·refine bT 5 89 ((z.y.n : Int) ≤ (64 : Int))<|rP 6 90 vT<|rP 7 91 vT<|rP 8 92 (pw w 212)<|rF 9 93 212 (.slice z.f.A z.f.n z.f.c) hI.sz (qT ch6 (qT ch5 (qT ch4 (qT ch3 (qT ch2 hb1))))) 26<|rP 10 94 (vI z.f.n) ?_
     by_cases hx14 : (z.f.n : Int) ≤ (10 : Int)
     ·refine bT 11 95 ((z.f.n : Int) ≤ (10 : Int))<|rP 12 96 vT<|rP 13 2 vT<|eN<|tI<|?_
      have hHd_ : Mur.nodeM f.frm ∧ Mur.nodeM f.dst ∧ f.frm ≠ f.dst ∧ f = bareM f := ⟨hpr1, hpr2, by omega, (hif1.1 rfl)⟩
      have hk_ : f.kind = 6 := kI 6
      have hM_ : mayFM f ↔ Mur.mayK6 f := mayFM_6 hHd_ hk_
      exact rt vT (yesB (hM_.2 ⟨hcb.1 rfl, by omega, by omega⟩) (kA kk9 ch6))
     refine bF 11 95 ((z.f.n : Int) ≤ (10 : Int))<|rP 12 96 vF<|rP 13 2 vF<|eN<|tI<|?_
     have hHd_ : Mur.nodeM f.frm ∧ Mur.nodeM f.dst ∧ f.frm ≠ f.dst ∧ f = bareM f := ⟨hpr1, hpr2, by omega, (hif1.1 rfl)⟩
     have hk_ : f.kind = 6 := kI 6
     have hM_ : mayFM f ↔ Mur.mayK6 f := mayFM_6 hHd_ hk_
     exact rt vF (noB (fun h_ => absurd (hM_.1 h_) (fun ⟨q1_, q2_, q3_⟩ => by first | omega | exact Bool.noConfusion (hcb.2 q1_))) (kA kk9 ch6))
    refine bF 5 89 ((z.y.n : Int) ≤ (64 : Int))<|rP 6 90 vF<|rP 7 91 vF<|rZ 8 92<|rZ 9 93<|rZ 10 94<|rZ 11 95<|rP 12 96 vF<|rP 13 2 vF<|eN<|tI<|?_
    have hHd_ : Mur.nodeM f.frm ∧ Mur.nodeM f.dst ∧ f.frm ≠ f.dst ∧ f = bareM f := ⟨hpr1, hpr2, by omega, (hif1.1 rfl)⟩
    have hk_ : f.kind = 6 := kI 6
    have hM_ : mayFM f ↔ Mur.mayK6 f := mayFM_6 hHd_ hk_
    exact rt vF (noB (fun h_ => absurd (hM_.1 h_) (fun ⟨q1_, q2_, q3_⟩ => by first | omega | exact Bool.noConfusion (hcb.2 q1_))) (kA kk9 ch6))
   refine eF 0 83 (f.kind.toNat : Int) (6 : Int)<|rP 1 82 vF<|eN<|cF<|wp_skip<|inN<|nxt<|sR<|rP 0 2 vF<|eN<|wp_ret<|?_
   have hHd_ : Mur.nodeM f.frm ∧ Mur.nodeM f.dst ∧ f.frm ≠ f.dst ∧ f = bareM f := ⟨hpr1, hpr2, by omega, (hif1.1 rfl)⟩
   exact rt vF (noB (fun h_ => absurd h_.2.2.2.2 (by rintro (h_ | h_ | h_ | h_ | h_ | h_) <;> (have q_ := congrArg UInt8.toNat h_.1; have q1_ : (1 : UInt8).toNat = 1 := rfl; have q2_ : (2 : UInt8).toNat = 2 := rfl; have q3_ : (3 : UInt8).toNat = 3 := rfl; have q4_ : (4 : UInt8).toNat = 4 := rfl; have q5_ : (5 : UInt8).toNat = 5 := rfl; have q6_ : (6 : UInt8).toNat = 6 := rfl; omega))) (kA kk9 ch6))
  rw [decide_eq_false hpr2]
  rintro _ W12 ⟨rfl, ch11⟩
  have zz11 := ch11.size
  have sS7 := kA sS2 ch11
  exact aN sS7<|dW 8 14 vT sS7<|dW 9 15 vT sS7<|dW 10 16 vT sS7<|dZ 11 17 sS7<|dZ 12 18 sS7<|dZ 13 19 sS7<|dZ 14 20 sS7<|dZ 15 21 sS7<|dW 16 22 vT sS7<|dW 17 23 vT sS7<|dZ 18 24 sS7<|dZ 19 25 sS7<|dZ 20 26 sS7<|dZ 21 27 sS7<|dZ 22 28 sS7<|dW 23 29 vT sS7<|dN<|cT<|sR<|rP 0 2 vF<|eN<|tR<|rt vF (noB (fun h_ => absurd h_ (fun ⟨h1_, h2_, h3_, h4_, h5_⟩ => by have q1_ : 0 ≤ f.frm ∧ f.frm < 16 := h1_; have q2_ : 0 ≤ f.dst ∧ f.dst < 16 := h2_; first | exact hpr2 q1_ | exact hpr2 q2_)) (kA (kA (kA (zA ch1 : Chg [] w W1) ch2) ch3) ch11))
 rw [decide_eq_false hpr1]
 rintro _ W13 ⟨rfl, ch12⟩
 have zz12 := ch12.size
 have sS8 := kA sS1 ch12
 exact aN sS8<|dW 3 9 vT sS8<|dW 4 10 vT sS8<|dZ 5 11 sS8<|dZ 6 12 sS8<|dZ 7 13 sS8<|dZ 8 14 sS8<|dW 9 15 vT sS8<|dW 10 16 vT sS8<|dZ 11 17 sS8<|dZ 12 18 sS8<|dZ 13 19 sS8<|dZ 14 20 sS8<|dZ 15 21 sS8<|dW 16 22 vT sS8<|dW 17 23 vT sS8<|dZ 18 24 sS8<|dZ 19 25 sS8<|dZ 20 26 sS8<|dZ 21 27 sS8<|dZ 22 28 sS8<|dW 23 29 vT sS8<|dN<|cT<|sR<|rP 0 2 vF<|eN<|tR<|rt vF (noB (fun h_ => absurd h_ (fun ⟨h1_, h2_, h3_, h4_, h5_⟩ => by have q1_ : 0 ≤ f.frm ∧ f.frm < 16 := h1_; have q2_ : 0 ≤ f.dst ∧ f.dst < 16 := h2_; first | exact hpr1 q1_ | exact hpr1 q2_)) (kA (kA (zA ch1 : Chg [] w W1) ch2) ch12))
end Go.Proofs.YtgbadghjnpbiaaaGreatDoor
namespace Go.Proofs.YtgbadghjnpbiaaaGreatDoor
open Go.RowKit Wk
open Mur (b8s Byt Own8 Seg Segs flat cutA attC Att SlA OwnA rowA msgC conv_int u64_nat readB_short i64_nat conv_u8o)
set_option maxRecDepth 100000
set_option maxHeartbeats 4000000
theorem WBytes_any (b : List UInt8) (A : Option Addr) (n c at_ : Nat) (w : World) (hb : Byt w A n b) (hnc : n ≤ c ∧ c ≤ 9223372036854775807) (hat : at_ ≤ n) (hn : n ≤ 100000) : Calls Tryz.prog 94 #[.slice A n c, vI at_, vI n] w fun e w' => ∃ A1 n1 c1 x nx er, e = .returned (.tuple #[.slice A1 n1 c1, vI ((nx : Nat) : Int), vI ((er : Nat) : Int)]) ∧ ((er = 0 ∧ Own8 w' w.heap.size 5 A1 n1 c1 x ∧ (at_ < nx ∧ nx ≤ n) ∧ Mur.readB (b.drop at_) = some (x, b.drop nx)) ∨ (er ≠ 0 ∧ A1 = none ∧ n1 = 0 ∧ c1 = 0 ∧ nx = 0 ∧ Mur.readB (b.drop at_) = none)) ∧ Chg [] w w' := by
 have hbl_ := hb.1
 refine calls_of_wp Tryz.func94 rfl ?_
 refine sR<|rP 0 6 (.slice none 0 0)<|rP 1 7 (vI 0)<|rP 2 8 (vI 0)<|eN<|sR<|rP 0 11 (.slice A n c)<|rP 1 12 (vI at_)<|rK 2 13 (Uint_any b A n c at_ w hb ⟨by omega, by omega⟩ (by omega)) ?_
 rintro _ _ ⟨v1, nx1, er1, rfl, hc1, rfl⟩
 rcases hc1 with ⟨rfl, hv1, hnx1, hrd1⟩ | ⟨hv1, rfl, rfl, hrd1⟩
 ·refine rP 3 10 (.tuple #[vU v1, vI nx1, vI 0])<|rP 4 14 (vU v1)<|rP 5 15 (vI nx1)<|rP 6 16 (vI 0)<|rP 7 9 (vU v1)<|rP 8 1 (vI nx1)<|rP 9 8 (vI 0)<|eN<|wp_seq<|wp_block<|sR<|rP 0 18 (vI 0)<|nF 1 19 (0 : Int) (0 : Int)<|rP 2 17 vF<|eN<|cF<|sR<|rP 0 22 (vI n)<|bF 1 23 ((n : Int) < (0 : Int))<|rP 2 24 vF<|rP 3 25 (vU v1)<|rP 4 26 (vI n)<|rq 5 27 (vU n) rfl (conv_int 3 23 (.tmp 26) rfl (by kernel_rfl) .u64 Tryz.underlying23 .i64 (n : Int) (by kernel_rfl) (u64_nat (n := n) (by omega))) ?_
  by_cases hx1 : (v1 : Int) > (n : Int)
  ·exact bT 6 28 ((v1 : Int) > (n : Int))<|rP 7 29 vT<|rP 8 21 vT<|eN<|cT<|sR<|rP 0 6 (.slice none 0 0)<|rP 1 7 (vI 0)<|rP 2 8 (vI 3)<|eN<|tI<|rt (.tuple #[.slice none 0 0, vI 0, vI 3]) ⟨_, _, _, [], 0, 3, rfl, .inr ⟨by omega, rfl, rfl, rfl, rfl, readB_short hrd1 (by omega) (by omega)⟩, (Chg.refl _)⟩
  refine bF 6 28 ((v1 : Int) > (n : Int))<|rP 7 29 vF<|rP 8 21 vF<|eN<|cF<|sR<|rP 0 31 (vU v1)<|rP 1 32 (.slice A n c)<|rP 2 33 (vI n)<|rP 3 34 (vI nx1)<|rI 4 35 ((n : Int) - (nx1 : Int)) (((n - nx1 : Nat) : Int))<|rq 5 36 (vU (n - nx1 : Nat)) rfl (conv_int 3 23 (.tmp 35) rfl (by kernel_rfl) .u64 Tryz.underlying23 .i64 ((n - nx1 : Nat) : Int) (by kernel_rfl) (u64_nat (n := n - nx1) (by omega))) ?_
  by_cases hx2 : (v1 : Int) > ((n - nx1 : Nat) : Int)
  ·exact bT 6 37 ((v1 : Int) > ((n - nx1 : Nat) : Int))<|rP 7 30 vT<|eN<|cT<|sR<|rP 0 6 (.slice none 0 0)<|rP 1 7 (vI 0)<|rP 2 8 (vI 4)<|eN<|tI<|rt (.tuple #[.slice none 0 0, vI 0, vI 4]) ⟨_, _, _, [], 0, 4, rfl, .inr ⟨by omega, rfl, rfl, rfl, rfl, readB_short hrd1 (by omega) (by omega)⟩, (Chg.refl _)⟩
  refine bF 6 37 ((v1 : Int) > ((n - nx1 : Nat) : Int))<|rP 7 30 vF<|eN<|cF<|wp_skip<|inN<|nxt<|sR<|rP 0 38 (vI nx1)<|rP 1 39 (vU v1)<|rq 2 40 (vI v1) rfl (conv_int 23 3 (.tmp 39) rfl (by kernel_rfl) .i64 Tryz.underlying3 .u64 (v1 : Int) (by kernel_rfl) (i64_nat (n := v1) (by omega)))<|rI 3 41 ((nx1 : Int) + (v1 : Int)) (((nx1 + v1 : Nat) : Int))<|rP 4 7 (vI (nx1 + v1 : Nat))<|eN<|sR<|rP 0 42 (.slice A n c)<|rP 1 43 (vI nx1)<|rP 2 44 (vI (nx1 + v1 : Nat)) ?_
  obtain ⟨Ac1, hAc1⟩ : ∃ x_, x_ = Mur.cutA A c nx1 := ⟨_, rfl⟩
  have hbc1 : Byt w Ac1 (nx1 + v1 - nx1) ((b.take (nx1 + v1)).drop nx1) := by rw [hAc1]; exact Mur.Byt.cut hb nx1 (nx1 + v1) (by omega) (by omega) (by omega)
  refine rq 3 45 (.slice Ac1 (nx1 + v1 - nx1) (c - nx1)) rfl (by rw [hAc1]; exact Mur.run_op_cutF 22 (.tmp 42) (.tmp 43) (.tmp 44) rfl 5 Tryz.underlying22 (by kernel_rfl) A n c nx1 (nx1 + v1) (by kernel_rfl) (by kernel_rfl) (by kernel_rfl) (by omega) (by omega) (by omega))<|nS 4 46 1 #[.slice Ac1 (nx1 + v1 - nx1) (c - nx1)] 22 fun W1 hb1 ch1 sz1 => ?_
  have kk1 : Chg [] w W1 := zA ch1
  have hby1 := (Mur.byt_chg hbc1 kk1 (fun g off e hl => trivial))
  refine rK 5 47 (behind_any ([⟨Ac1, (nx1 + v1 - nx1), (c - nx1), ((b.take (nx1 + v1)).drop nx1)⟩]) (some ⟨w.heap.size, 0, none⟩) 1 1 W1 (Mur.segs_lit [⟨Ac1, (nx1 + v1 - nx1), (c - nx1), ((b.take (nx1 + v1)).drop nx1)⟩] 1 hb1 (Mur.ok_cons ⟨(show nx1 + v1 - nx1 ≤ c - nx1 by omega), (fun h_ => absurd (hAc1.symm.trans h_) (Mur.cutA_ne hb (by omega))), hby1, (show c - nx1 ≤ Go.maxLen by first | omega | (unfold Go.maxLen; omega))⟩ Mur.ok_nil) rfl) (by omega) (by show (((b.take (nx1 + v1)).drop nx1) ++ []).length ≤ _; simp only [List.length_append, List.length_nil]; have hl0 := hby1.1; omega)) ?_
  rintro _ W2 ⟨AA1, nn1, nn2, rfl, ow1, ch2⟩
  have zz2 := ch2.size
  rw [show Mur.flat ([⟨Ac1, (nx1 + v1 - nx1), (c - nx1), ((b.take (nx1 + v1)).drop nx1)⟩]) = ((b.take (nx1 + v1)).drop nx1) from by simp [Mur.flat]] at ow1
  have hq1 := ow1.nc
  have hq2 := ow1.cm
  exact rP 6 48 (vI (nx1 + v1 : Nat))<|rP 7 6 (.slice AA1 nn1 nn2)<|rP 8 7 (vI (nx1 + v1 : Nat))<|rP 9 8 (vI 0)<|eN<|wp_ret<|rt (.tuple #[.slice AA1 nn1 nn2, vI (nx1 + v1 : Nat), vI 0]) ⟨_, _, _, _, _, 0, rfl, .inl ⟨rfl, Mur.own8_low ow1 (by omega), ⟨by omega, by omega⟩, Mur.readB_ok hrd1 (by omega)⟩, (kA kk1 ch2)⟩
 exact rP 3 10 (.tuple #[vU 0, vI 0, vI er1])<|rP 4 14 (vU 0)<|rP 5 15 (vI 0)<|rP 6 16 (vI er1)<|rP 7 9 (vU 0)<|rP 8 1 (vI 0)<|rP 9 8 (vI er1)<|eN<|wp_seq<|wp_block<|sR<|rP 0 18 (vI er1)<|nT 1 19 (er1 : Int) (0 : Int)<|rP 2 17 vT<|eN<|cT<|sR<|rP 0 20 (vI er1)<|rP 1 6 (.slice none 0 0)<|rP 2 7 (vI 0)<|rP 3 8 (vI er1)<|eN<|tI<|rt (.tuple #[.slice none 0 0, vI 0, vI er1]) ⟨_, _, _, [], 0, er1, rfl, .inr ⟨by omega, rfl, rfl, rfl, rfl, Mur.readB_no hrd1⟩, (Chg.refl _)⟩
theorem Ruint_any (gr : Nat) (A : Option Addr) (n c : Nat) (b : List UInt8) (at_ : Nat) (bad : Bool) (w : World) (hr : w.heap[gr]? = some (.cells #[.slice A n c, vI at_, .bool bad] 71 (0, 0))) (hb : Byt w A n b) (hnc : n ≤ c ∧ c ≤ 9223372036854775807) (hneb : ∀ a, A = some a → 0 < n → a.block ≠ gr) (hat : at_ ≤ n) (hn : n ≤ 100000) : Calls Tryz.prog 68 #[pt gr 0] w fun e w' => ∃ (at2 : Nat) (bad2 : Bool) (v : Nat), e = .returned (vU v) ∧ (at_ ≤ at2 ∧ at2 ≤ n) ∧ w'.heap[gr]? = some (.cells #[.slice A n c, vI at2, .bool bad2] 71 (0, 0)) ∧ Mur.Step Mur.readN b at_ bad at2 bad2 v ∧ v < 18446744073709551616 ∧ Chg [gr] w w' := by
 have hne : ∀ g off, A = some ⟨g, off, none⟩ → 0 < n → g ≠ gr := fun g off e hn => hneb _ e hn
 have hbl_ := hb.1
 have hn_ := hn
 have hgl_ := (Array.getElem?_eq_some_iff.1 hr).1
 refine calls_of_wp Tryz.func68 rfl ?_
 refine sR<|rP 0 2 (vU 0)<|eN<|wp_seq<|?_
 refine dReg ([]) (by kernel_rfl) ?_
 intro W1 ch1 sz1
 have zz1 := ch1.size
 have sS1 : Chg ([]) W1 W1 := (Chg.refl _).more (by simp)
 refine dW 0 7 (pt gr 0) sS1<|dW 1 8 (pt gr 0) sS1<|dW 2 9 (pt gr 0) sS1<|dV 3 10 (.slice A n c) rfl rfl (fun w' hw' => ld 22 9 gr 0 (.slice A n c) ((cell_of_row _ _ 0 _ _ _ (qT hw' (qT ch1 hr))).trans rfl)) sS1<|dW 4 11 (pt gr 0) sS1<|dW 5 12 (pt gr 0) sS1<|dW 6 13 (pt gr 1) sS1<|dV 7 14 (vI at_) rfl rfl (fun w' hw' => ld 3 13 gr 1 (vI at_) ((cell_of_row _ _ 1 _ _ _ (qT hw' (qT ch1 hr))).trans rfl)) sS1<|dO 8 ?_
 have kk1 : Chg [gr] (w) W1 := zA ch1
 refine oK 15 (Uint_any b A n c at_ W1 (Mur.byt_chgp hb kk1 (fun g off e hn hl => ⟨by have := hne g off e hn; omega, trivial⟩)) ⟨by omega, by omega⟩ (by omega)) ?_
 rintro _ _ ⟨v1, nx1, er1, rfl, hc1, rfl⟩
 rcases hc1 with ⟨rfl, hv1, hnx1, hrd1⟩ | ⟨hv1, rfl, rfl, hrd1⟩
 ·refine aN sS1<|dW 9 6 (.tuple #[vU v1, vI nx1, vI 0]) sS1<|dW 10 16 (vU v1) sS1<|dW 11 17 (vI nx1) sS1<|dW 12 18 (vI 0) sS1<|dW 13 3 (vU v1) sS1<|dW 14 4 (vI nx1) sS1<|dW 15 5 (vI 0) sS1<|dN<|wp_seq<|sR<|rP 0 19 (vI 0)<|nF 1 20 (0 : Int) (0 : Int)<|eN<|cF<|wp_skip<|nxt<|sR<|rP 0 24 (pt gr 0)<|rP 1 25 (vI nx1)<|rP 2 26 (pt gr 0)<|rP 3 27 (pt gr 1)<|rU 4 rfl (sW 1 (vI nx1) (qT ch1 hr)) fun W2 hb1 ch2 _ => ?_
  replace hb1 : W2.heap[gr]? = some (.cells #[.slice A n c, vI nx1, .bool bad] 71 (0, 0)) := hb1
  have zz2 := ch2.size
  exact eN<|sR<|rP 0 28 (vU v1)<|rP 1 2 (vU v1)<|eN<|wp_ret<|rt (vU v1) ⟨nx1, bad, v1, rfl, ⟨by omega, by omega⟩, hb1, Mur.Step.of_ok hrd1, by omega, (kC kk1 ch2)⟩
 refine aN sS1<|dW 9 6 (.tuple #[vU 0, vI 0, vI er1]) sS1<|dW 10 16 (vU 0) sS1<|dW 11 17 (vI 0) sS1<|dW 12 18 (vI er1) sS1<|dW 13 3 (vU 0) sS1<|dW 14 4 (vI 0) sS1<|dW 15 5 (vI er1) sS1<|dN<|wp_seq<|sR<|rP 0 19 (vI er1)<|nT 1 20 (er1 : Int) (0 : Int)<|eN<|cT<|sR<|rP 0 21 (pt gr 0)<|rP 1 22 (pt gr 0)<|rP 2 23 (pt gr 2)<|rU 3 rfl (sW 2 vT (qT ch1 hr)) fun W3 hb2 ch3 _ => ?_
 replace hb2 : W3.heap[gr]? = some (.cells #[.slice A n c, vI at_, vT] 71 (0, 0)) := hb2
 have zz3 := ch3.size
 exact eN<|sR<|rP 0 2 (vU 0)<|eN<|tR<|rt (vU 0) ⟨at_, true, 0, rfl, ⟨by omega, by omega⟩, hb2, Mur.Step.of_no hrd1 0, by decide, (kC kk1 ch3)⟩
theorem Rint_any (gr : Nat) (A : Option Addr) (n c : Nat) (b : List UInt8) (at_ : Nat) (bad : Bool) (w : World) (hr : w.heap[gr]? = some (.cells #[.slice A n c, vI at_, .bool bad] 71 (0, 0))) (hb : Byt w A n b) (hnc : n ≤ c ∧ c ≤ 9223372036854775807) (hneb : ∀ a, A = some a → 0 < n → a.block ≠ gr) (hat : at_ ≤ n) (hn : n ≤ 100000) : Calls Tryz.prog 38 #[pt gr 0] w fun e w' => ∃ (at2 : Nat) (bad2 : Bool) (v : Nat), e = .returned (vI v) ∧ (at_ ≤ at2 ∧ at2 ≤ n) ∧ w'.heap[gr]? = some (.cells #[.slice A n c, vI at2, .bool bad2] 71 (0, 0)) ∧ Mur.Step Mur.readI b at_ bad at2 bad2 v ∧ v ≤ 1073741824 ∧ Chg [gr] w w' := by
 have hne : ∀ g off, A = some ⟨g, off, none⟩ → 0 < n → g ≠ gr := fun g off e hn => hneb _ e hn
 have hbl_ := hb.1
 have hn_ := hn
 have hgl_ := (Array.getElem?_eq_some_iff.1 hr).1
 refine calls_of_wp Tryz.func38 rfl ?_
 refine sR<|rP 0 2 (vI 0)<|eN<|sR<|rP 0 4 (pt gr 0)<|rK 1 5 (Ruint_any gr A n c b at_ bad w hr hb ⟨by omega, by omega⟩ hneb (by omega) (by omega)) ?_
 rintro _ W1 ⟨at1, bad1, v1, rfl, hat1, hr1, hst1, hlt1, ch1⟩
 have zz1 := ch1.size
 refine rP 2 3 (vU v1)<|eN<|wp_seq<|sR<|rP 0 6 (vU v1) ?_
 by_cases hx1 : (v1 : Int) > (1073741824 : Int)
 ·refine bT 1 7 ((v1 : Int) > (1073741824 : Int))<|eN<|cT<|sR<|rP 0 8 (pt gr 0)<|rP 1 9 (pt gr 0)<|rP 2 10 (pt gr 2)<|rU 3 rfl (sW 2 vT hr1) fun W2 hb1 ch2 _ => ?_
  replace hb1 : W2.heap[gr]? = some (.cells #[.slice A n c, vI at1, vT] 71 (0, 0)) := hb1
  have zz2 := ch2.size
  exact eN<|sR<|rP 0 2 (vI 0)<|eN<|tR<|rt (vI 0) ⟨at1, true, 0, rfl, ⟨by omega, by omega⟩, hb1, (show Mur.Step Mur.readI _ _ _ _ _ _ from Mur.Step.if_no (ok := fun n => decide (n ≤ 2 ^ 30)) hst1 (decide_eq_false (by omega)) 0), by decide, (kC (zC ch1 : Chg [gr] (w) W1) ch2)⟩
 exact bF 1 7 ((v1 : Int) > (1073741824 : Int))<|eN<|cF<|wp_skip<|nxt<|sR<|rP 0 11 (vU v1)<|rq 1 12 (vI v1) rfl (conv_int 23 3 (.tmp 11) rfl (by kernel_rfl) .i64 Tryz.underlying3 .u64 (v1 : Int) (by kernel_rfl) (i64_nat (n := v1) (by omega)))<|rP 2 2 (vI v1)<|eN<|wp_ret<|rt (vI v1) ⟨at1, bad1, v1, rfl, ⟨by omega, by omega⟩, hr1, (show Mur.Step Mur.readI _ _ _ _ _ _ from Mur.Step.if_ok (ok := fun n => decide (n ≤ 2 ^ 30)) hst1 (decide_eq_true (by omega))), by omega, (zC ch1 : Chg [gr] (w) W1)⟩
theorem Rkind_any (gr : Nat) (A : Option Addr) (n c : Nat) (b : List UInt8) (at_ : Nat) (bad : Bool) (w : World) (hr : w.heap[gr]? = some (.cells #[.slice A n c, vI at_, .bool bad] 71 (0, 0))) (hb : Byt w A n b) (hnc : n ≤ c ∧ c ≤ 9223372036854775807) (hneb : ∀ a, A = some a → 0 < n → a.block ≠ gr) (hat : at_ ≤ n) (hn : n ≤ 100000) : Calls Tryz.prog 37 #[pt gr 0] w fun e w' => ∃ (at2 : Nat) (bad2 : Bool) (v : Nat), e = .returned (vB ((UInt8.ofNat v).toNat : Nat)) ∧ (at_ ≤ at2 ∧ at2 ≤ n) ∧ w'.heap[gr]? = some (.cells #[.slice A n c, vI at2, .bool bad2] 71 (0, 0)) ∧ Mur.Step Mur.readK b at_ bad at2 bad2 v ∧ v ≤ 1073741824 ∧ Chg [gr] w w' := by
 have hne : ∀ g off, A = some ⟨g, off, none⟩ → 0 < n → g ≠ gr := fun g off e hn => hneb _ e hn
 have hbl_ := hb.1
 have hn_ := hn
 have hgl_ := (Array.getElem?_eq_some_iff.1 hr).1
 refine calls_of_wp Tryz.func37 rfl ?_
 refine sR<|rP 0 2 (vB 0)<|eN<|sR<|rP 0 4 (pt gr 0)<|rK 1 5 (Rint_any gr A n c b at_ bad w hr hb ⟨by omega, by omega⟩ hneb (by omega) (by omega)) ?_
 rintro _ W1 ⟨at1, bad1, v1, rfl, hat1, hr1, hst1, hlt1, ch1⟩
 have zz1 := ch1.size
 refine rP 2 3 (vI v1)<|eN<|wp_seq<|sR<|rP 0 6 (vI v1) ?_
 by_cases hx1 : (v1 : Int) > (255 : Int)
 ·refine bT 1 7 ((v1 : Int) > (255 : Int))<|eN<|cT<|reg<|rP 0 8 (pt gr 0)<|rP 1 9 (pt gr 0)<|rP 2 10 (pt gr 2)<|rU 3 rfl (sW 2 vT hr1) fun W2 hb1 ch2 _ => ?_
  replace hb1 : W2.heap[gr]? = some (.cells #[.slice A n c, vI at1, vT] 71 (0, 0)) := hb1
  have zz2 := ch2.size
  exact eN<|sR<|rP 0 11 (vI v1)<|rq 1 12 (vB ((UInt8.ofNat v1).toNat : Nat)) rfl (conv_u8o 3 5 (.tmp 11) rfl (by kernel_rfl) Tryz.underlying5 .i64 v1 (by kernel_rfl))<|rP 2 2 (vB ((UInt8.ofNat v1).toNat : Nat))<|eN<|wp_ret<|rt (vB ((UInt8.ofNat v1).toNat : Nat)) ⟨at1, true, v1, rfl, ⟨by omega, by omega⟩, hb1, (show Mur.Step Mur.readK _ _ _ _ _ _ from Mur.Step.if_no (ok := fun n => decide (n ≤ 255)) hst1 (decide_eq_false (by omega)) _), by omega, (kC (zC ch1 : Chg [gr] (w) W1) ch2)⟩
 exact bF 1 7 ((v1 : Int) > (255 : Int))<|eN<|cF<|wp_skip<|nxt<|sR<|rP 0 11 (vI v1)<|rq 1 12 (vB ((UInt8.ofNat v1).toNat : Nat)) rfl (conv_u8o 3 5 (.tmp 11) rfl (by kernel_rfl) Tryz.underlying5 .i64 v1 (by kernel_rfl))<|rP 2 2 (vB ((UInt8.ofNat v1).toNat : Nat))<|eN<|wp_ret<|rt (vB ((UInt8.ofNat v1).toNat : Nat)) ⟨at1, bad1, v1, rfl, ⟨by omega, by omega⟩, hr1, (show Mur.Step Mur.readK _ _ _ _ _ _ from Mur.Step.if_ok (ok := fun n => decide (n ≤ 255)) hst1 (decide_eq_true (by omega))), by omega, (zC ch1 : Chg [gr] (w) W1)⟩
theorem Rflag_any (gr : Nat) (A : Option Addr) (n c : Nat) (b : List UInt8) (at_ : Nat) (bad : Bool) (w : World) (hr : w.heap[gr]? = some (.cells #[.slice A n c, vI at_, .bool bad] 71 (0, 0))) (hb : Byt w A n b) (hnc : n ≤ c ∧ c ≤ 9223372036854775807) (hneb : ∀ a, A = some a → 0 < n → a.block ≠ gr) (hat : at_ ≤ n) (hn : n ≤ 100000) : Calls Tryz.prog 74 #[pt gr 0] w fun e w' => ∃ (at2 : Nat) (bad2 : Bool) (fl : Bool), e = .returned (.bool fl) ∧ (at_ ≤ at2 ∧ at2 ≤ n) ∧ w'.heap[gr]? = some (.cells #[.slice A n c, vI at2, .bool bad2] 71 (0, 0)) ∧ Mur.Step Mur.readFlag b at_ bad at2 bad2 fl ∧ Chg [gr] w w' := by
 have hne : ∀ g off, A = some ⟨g, off, none⟩ → 0 < n → g ≠ gr := fun g off e hn => hneb _ e hn
 have hbl_ := hb.1
 have hn_ := hn
 have hgl_ := (Array.getElem?_eq_some_iff.1 hr).1
 refine calls_of_wp Tryz.func74 rfl ?_
 refine sR<|rP 0 2 vF<|eN<|sR<|rP 0 4 (pt gr 0)<|rK 1 5 (Rint_any gr A n c b at_ bad w hr hb ⟨by omega, by omega⟩ hneb (by omega) (by omega)) ?_
 rintro _ W1 ⟨at1, bad1, v1, rfl, hat1, hr1, hst1, hlt1, ch1⟩
 have zz1 := ch1.size
 refine rP 2 3 (vI v1)<|eN<|wp_seq<|sR<|rP 0 6 (vI v1) ?_
 by_cases hx1 : (v1 : Int) > (1 : Int)
 ·refine bT 1 7 ((v1 : Int) > (1 : Int))<|eN<|cT<|reg<|rP 0 8 (pt gr 0)<|rP 1 9 (pt gr 0)<|rP 2 10 (pt gr 2)<|rU 3 rfl (sW 2 vT hr1) fun W2 hb1 ch2 _ => ?_
  replace hb1 : W2.heap[gr]? = some (.cells #[.slice A n c, vI at1, vT] 71 (0, 0)) := hb1
  have zz2 := ch2.size
  refine eN<|sR<|rP 0 11 (vI v1) ?_
  by_cases hx2 : (v1 : Int) = (1 : Int)
  ·exact eT 1 12 (v1 : Int) (1 : Int)<|rP 2 2 vT<|eN<|wp_ret<|rt vT ⟨at1, true, true, rfl, ⟨by omega, by omega⟩, hb1, (show Mur.Step Mur.readFlag _ _ _ _ _ _ from Mur.Step.map' (Mur.Step.if_no (ok := fun n => decide (n ≤ 1)) hst1 (decide_eq_false (by omega)) v1) (fun n : Nat => decide (n = 1)) (decide_eq_true (by omega))), (kC (zC ch1 : Chg [gr] (w) W1) ch2)⟩
  exact eF 1 12 (v1 : Int) (1 : Int)<|rP 2 2 vF<|eN<|wp_ret<|rt vF ⟨at1, true, false, rfl, ⟨by omega, by omega⟩, hb1, (show Mur.Step Mur.readFlag _ _ _ _ _ _ from Mur.Step.map' (Mur.Step.if_no (ok := fun n => decide (n ≤ 1)) hst1 (decide_eq_false (by omega)) v1) (fun n : Nat => decide (n = 1)) (decide_eq_false (by omega))), (kC (zC ch1 : Chg [gr] (w) W1) ch2)⟩
 refine bF 1 7 ((v1 : Int) > (1 : Int))<|eN<|cF<|wp_skip<|nxt<|sR<|rP 0 11 (vI v1) ?_
 by_cases hx3 : (v1 : Int) = (1 : Int)
 ·exact eT 1 12 (v1 : Int) (1 : Int)<|rP 2 2 vT<|eN<|wp_ret<|rt vT ⟨at1, bad1, true, rfl, ⟨by omega, by omega⟩, hr1, (show Mur.Step Mur.readFlag _ _ _ _ _ _ from Mur.Step.map' (Mur.Step.if_ok (ok := fun n => decide (n ≤ 1)) hst1 (decide_eq_true (by omega))) (fun n : Nat => decide (n = 1)) (decide_eq_true (by omega))), (zC ch1 : Chg [gr] (w) W1)⟩
 exact eF 1 12 (v1 : Int) (1 : Int)<|rP 2 2 vF<|eN<|wp_ret<|rt vF ⟨at1, bad1, false, rfl, ⟨by omega, by omega⟩, hr1, (show Mur.Step Mur.readFlag _ _ _ _ _ _ from Mur.Step.map' (Mur.Step.if_ok (ok := fun n => decide (n ≤ 1)) hst1 (decide_eq_true (by omega))) (fun n : Nat => decide (n = 1)) (decide_eq_false (by omega))), (zC ch1 : Chg [gr] (w) W1)⟩
end Go.Proofs.YtgbadghjnpbiaaaGreatDoor
namespace Go.Proofs.YtgbadghjnpbiaaaGreatDoor
open Go.RowKit Wk
open Mur (b8s Byt Own8 Seg Segs flat cutA attC Att SlA OwnA rowA msgC byt_chgp b8s_length z32 attC_size sub_len attC_all)
set_option maxRecDepth 100000
set_option maxHeartbeats 4000000
theorem Rbytes_of (gr : Nat) (A : Option Addr) (n c : Nat) (b : List UInt8) (at_ : Nat) (bad : Bool) (w : World) (hr : w.heap[gr]? = some (.cells #[.slice A n c, vI at_, .bool bad] 71 (0, 0))) (hb : Byt w A n b) (hnc : n ≤ c ∧ c ≤ 9223372036854775807) (hneb : ∀ a, A = some a → 0 < n → a.block ≠ gr) (hat : at_ ≤ n) (hn : n ≤ 100000) : Calls Tryz.prog 71 #[pt gr 0] w fun e w' => ∃ (at2 : Nat) (bad2 : Bool) (A1 : Option Addr) (n1 c1 : Nat) (x : List UInt8), e = .returned (.slice A1 n1 c1) ∧ (at_ ≤ at2 ∧ at2 ≤ n) ∧ w'.heap[gr]? = some (.cells #[.slice A n c, vI at2, .bool bad2] 71 (0, 0)) ∧ Mur.Step Mur.readB b at_ bad at2 bad2 x ∧ Own8 w' w.heap.size 5 A1 n1 c1 x ∧ Chg [gr] w w' := by
 have hne : ∀ g off, A = some ⟨g, off, none⟩ → 0 < n → g ≠ gr := fun g off e hn => hneb _ e hn
 have hbl_ := hb.1
 have hn_ := hn
 have hgl_ := (Array.getElem?_eq_some_iff.1 hr).1
 refine calls_of_wp Tryz.func71 rfl ?_
 refine sR<|rP 0 2 (.slice none 0 0)<|eN<|wp_seq<|?_
 refine dReg ([]) (by kernel_rfl) ?_
 intro W1 ch1 sz1
 have zz1 := ch1.size
 have sS1 : Chg ([]) W1 W1 := (Chg.refl _).more (by simp)
 refine dW 0 7 (pt gr 0) sS1<|dW 1 8 (pt gr 0) sS1<|dW 2 9 (pt gr 0) sS1<|dV 3 10 (.slice A n c) rfl rfl (fun w' hw' => ld 22 9 gr 0 (.slice A n c) ((cell_of_row _ _ 0 _ _ _ (qT hw' (qT ch1 hr))).trans rfl)) sS1<|dW 4 11 (pt gr 0) sS1<|dW 5 12 (pt gr 0) sS1<|dW 6 13 (pt gr 1) sS1<|dV 7 14 (vI at_) rfl rfl (fun w' hw' => ld 3 13 gr 1 (vI at_) ((cell_of_row _ _ 1 _ _ _ (qT hw' (qT ch1 hr))).trans rfl)) sS1<|dW 8 15 (pt gr 0) sS1<|dW 9 16 (pt gr 0) sS1<|dW 10 17 (pt gr 0) sS1<|dV 11 18 (.slice A n c) rfl rfl (fun w' hw' => ld 22 17 gr 0 (.slice A n c) ((cell_of_row _ _ 0 _ _ _ (qT hw' (qT ch1 hr))).trans rfl)) sS1<|dW 12 19 (vI n) sS1<|dO 13 ?_
 have kk1 : Chg [gr] (w) W1 := zA ch1
 refine oK 20 (WBytes_any b A n c at_ W1 (byt_chgp hb kk1 (fun g off e hn hl => ⟨by have := hne g off e hn; omega, trivial⟩)) ⟨by omega, by omega⟩ (by omega) (by omega)) ?_
 rintro _ W2 ⟨AA1, nn1, cc1, x1, nx1, er1, rfl, hc1, ch2⟩
 have zz2 := ch2.size
 rcases hc1 with ⟨rfl, ow1, hnx1, hrd1⟩ | ⟨hnx1, rfl, rfl, rfl, rfl, hrd1⟩
 ·have sS2 := kA sS1 ch2
  refine aN sS2<|dW 14 6 (.tuple #[.slice AA1 nn1 cc1, vI nx1, vI 0]) sS2<|dW 15 21 (.slice AA1 nn1 cc1) sS2<|dW 16 22 (vI nx1) sS2<|dW 17 23 (vI 0) sS2<|dW 18 3 (.slice AA1 nn1 cc1) sS2<|dW 19 4 (vI nx1) sS2<|dW 20 5 (vI 0) sS2<|dN<|wp_seq<|sR<|rP 0 24 (vI 0)<|nF 1 25 (0 : Int) (0 : Int)<|eN<|cF<|wp_skip<|nxt<|sR<|rP 0 29 (pt gr 0)<|rP 1 30 (vI nx1)<|rP 2 31 (pt gr 0)<|rP 3 32 (pt gr 1)<|rU 4 rfl (sW 1 (vI nx1) (qT ch2 (qT ch1 hr))) fun W3 hb1 ch3 _ => ?_
  replace hb1 : W3.heap[gr]? = some (.cells #[.slice A n c, vI nx1, .bool bad] 71 (0, 0)) := hb1
  have zz3 := ch3.size
  exact eN<|sR<|rP 0 33 (.slice AA1 nn1 cc1)<|rP 1 2 (.slice AA1 nn1 cc1)<|eN<|wp_ret<|rt (.slice AA1 nn1 cc1) ⟨nx1, bad, AA1, nn1, cc1, x1, rfl, ⟨by omega, by omega⟩, hb1, Mur.Step.of_ok hrd1, Mur.own8_low (oB ow1 ch3 ow1.lt) (by omega), (kC (kA kk1 ch2) ch3)⟩
 have sS3 := kA sS1 ch2
 refine aN sS3<|dW 14 6 (.tuple #[.slice none 0 0, vI 0, vI er1]) sS3<|dW 15 21 (.slice none 0 0) sS3<|dW 16 22 (vI 0) sS3<|dW 17 23 (vI er1) sS3<|dW 18 3 (.slice none 0 0) sS3<|dW 19 4 (vI 0) sS3<|dW 20 5 (vI er1) sS3<|dN<|wp_seq<|sR<|rP 0 24 (vI er1)<|nT 1 25 (er1 : Int) (0 : Int)<|eN<|cT<|sR<|rP 0 26 (pt gr 0)<|rP 1 27 (pt gr 0)<|rP 2 28 (pt gr 2)<|rU 3 rfl (sW 2 vT (qT ch2 (qT ch1 hr))) fun W4 hb2 ch4 _ => ?_
 replace hb2 : W4.heap[gr]? = some (.cells #[.slice A n c, vI at_, vT] 71 (0, 0)) := hb2
 have zz4 := ch4.size
 exact eN<|sR<|rP 0 2 (.slice none 0 0)<|eN<|tR<|rt (.slice none 0 0) ⟨at_, true, none, 0, 0, [], rfl, ⟨by omega, by omega⟩, hb2, Mur.Step.of_no hrd1 [], Mur.own8_nil _ _ _, (kC (kA kk1 ch2) ch4)⟩
theorem Rsome_any0 (gr : Nat) (A : Option Addr) (n c : Nat) (b : List UInt8) (at_ : Nat) (bad : Bool) (w : World) (hr : w.heap[gr]? = some (.cells #[.slice A n c, vI at_, .bool bad] 71 (0, 0))) (hb : Byt w A n b) (hnc : n ≤ c ∧ c ≤ 9223372036854775807) (hneb : ∀ a, A = some a → 0 < n → a.block ≠ gr) (hat : at_ ≤ n) (hn : n ≤ 100000) (k : Nat) (hk : k ≤ 1000) : Calls Tryz.prog 76 #[pt gr 0, vI k] w fun e w' => ∃ (at2 : Nat) (bad2 : Bool) (A1 : Option Addr) (n1 c1 : Nat) (x : List UInt8), e = .returned (.slice A1 n1 c1) ∧ (at_ ≤ at2 ∧ at2 ≤ n) ∧ w'.heap[gr]? = some (.cells #[.slice A n c, vI at2, .bool bad2] 71 (0, 0)) ∧ Mur.Step (Mur.readS k) b at_ bad at2 bad2 x ∧ (n1 = k ∧ Byt w' A1 n1 x ∧ n1 ≤ c1 ∧ c1 ≤ 9223372036854775807) ∧ Chg [gr] w w' := by
 have hne : ∀ g off, A = some ⟨g, off, none⟩ → 0 < n → g ≠ gr := fun g off e hn => hneb _ e hn
 have hbl_ := hb.1
 have hn_ := hn
 have hgl_ := (Array.getElem?_eq_some_iff.1 hr).1
 refine calls_of_wp Tryz.func76 rfl ?_
 refine sR<|rP 0 4 (.slice none 0 0)<|eN<|wp_seq<|wp_seq<|?_
 refine dReg ([]) (by kernel_rfl) ?_
 intro W1 ch1 sz1
 have zz1 := ch1.size
 have sS1 : Chg ([]) W1 W1 := (Chg.refl _).more (by simp)
 refine dW 0 5 (pt gr 0) sS1<|dW 1 6 (pt gr 0) sS1<|dW 2 7 (pt gr 0) sS1<|dV 3 8 (.slice A n c) rfl rfl (fun w' hw' => ld 22 7 gr 0 (.slice A n c) ((cell_of_row _ _ 0 _ _ _ (qT hw' (qT ch1 hr))).trans rfl)) sS1<|dW 4 9 (vI n) sS1<|dW 5 10 (pt gr 0) sS1<|dW 6 11 (pt gr 0) sS1<|dW 7 12 (pt gr 1) sS1<|dV 8 13 (vI at_) rfl rfl (fun w' hw' => ld 3 12 gr 1 (vI at_) ((cell_of_row _ _ 1 _ _ _ (qT hw' (qT ch1 hr))).trans rfl)) sS1<|dV 9 14 (vI (n - at_ : Nat)) rfl rfl (fun w' hw' => int64 (n := (n : Int) - (at_ : Int)) (z := ((n - at_ : Nat) : Int)) (by omega) (by omega) (by omega) (by kernel_rfl)) sS1<|dW 10 15 (vI k) sS1 ?_
 by_cases hx1 : ((n - at_ : Nat) : Int) < (k : Int)
 ·refine dV 11 16 vT rfl rfl (fun w' hw' => boolT (b := decide (((n - at_ : Nat) : Int) < (k : Int))) (decide_eq_true (by first | exact hx1 | omega)) (by kernel_rfl)) sS1<|dN<|cT<|sR<|rP 0 17 (pt gr 0)<|rP 1 18 (pt gr 0)<|rP 2 19 (pt gr 2)<|rU 3 rfl (sW 2 vT (qT ch1 hr)) fun W2 hb1 ch2 _ => ?_
  replace hb1 : W2.heap[gr]? = some (.cells #[.slice A n c, vI at_, vT] 71 (0, 0)) := hb1
  have zz2 := ch2.size
  refine eN<|sR<|rP 0 20 (vI k)<|rX 1 21 rfl rfl (Mur.makeZ 22 5 (.tmp 20) rfl Tryz.underlying22 (by kernel_rfl) k (by omega) (by kernel_rfl)) ?_
  rintro _ W3 ⟨rfl, hb2, ch3, sz2⟩
  have zz3 := ch3.size
  refine rP 2 4 (.slice (some ⟨W2.heap.size, 0, none⟩) k k)<|eN<|tR<|?_
  have hbz1 : Byt W3 (some ⟨W2.heap.size, 0, none⟩) k (List.replicate k 0) := (Mur.byt_blk (List.replicate k 0) (by simp) hb2)
  exact rt (.slice (some ⟨W2.heap.size, 0, none⟩) k k) ⟨at_, true, some ⟨W2.heap.size, 0, none⟩, _, k, _, rfl, ⟨by omega, by omega⟩, (qT ch3 hb1), Mur.Step.of_no (Mur.readS_no (by omega) (by omega)) _, ⟨rfl, hbz1, by omega, by omega⟩, (kA (kC (zA ch1 : Chg [gr] (w) W1) ch2) ch3)⟩
 refine dV 11 16 vF rfl rfl (fun w' hw' => boolF (b := decide (((n - at_ : Nat) : Int) < (k : Int))) (decide_eq_false (by first | exact hx1 | omega)) (by kernel_rfl)) sS1<|dN<|cF<|wp_skip<|nxt<|sR<|rP 0 22 (pt gr 0)<|rP 1 23 (pt gr 0)<|rP 2 24 (pt gr 1)<|rL 3 25 1 (vI at_) (qT ch1 hr)<|rP 4 26 (vI k)<|rI 5 27 ((at_ : Int) + (k : Int)) (((at_ + k : Nat) : Int))<|rP 6 28 (pt gr 0)<|rP 7 29 (pt gr 1)<|rU 8 rfl (sW 1 (vI (at_ + k : Nat)) (qT ch1 hr)) fun W4 hb3 ch4 _ => ?_
 replace hb3 : W4.heap[gr]? = some (.cells #[.slice A n c, vI (at_ + k : Nat), .bool bad] 71 (0, 0)) := hb3
 have zz4 := ch4.size
 refine eN<|wp_seq<|?_
 refine dReg ([]) (by kernel_rfl) ?_
 intro W5 ch5 sz3
 have zz5 := ch5.size
 have sS2 : Chg ([]) W5 W5 := (Chg.refl _).more (by simp)
 refine dW 0 30 (pt gr 0) sS2<|dW 1 31 (pt gr 0) sS2<|dW 2 32 (pt gr 0) sS2<|dV 3 33 (.slice A n c) rfl rfl (fun w' hw' => ld 22 32 gr 0 (.slice A n c) ((cell_of_row _ _ 0 _ _ _ (qT hw' (qT ch5 hb3))).trans rfl)) sS2<|dW 4 34 (pt gr 0) sS2<|dW 5 35 (pt gr 0) sS2<|dW 6 36 (pt gr 1) sS2<|dV 7 37 (vI (at_ + k : Nat)) rfl rfl (fun w' hw' => ld 3 36 gr 1 (vI (at_ + k : Nat)) ((cell_of_row _ _ 1 _ _ _ (qT hw' (qT ch5 hb3))).trans rfl)) sS2<|dW 8 38 (vI k) sS2<|dV 9 39 (vI at_) rfl rfl (fun w' hw' => int64 (n := ((at_ + k : Nat) : Int) - (k : Int)) (z := (at_ : Int)) (by omega) (by omega) (by omega) (by kernel_rfl)) sS2<|dW 10 40 (pt gr 0) sS2<|dW 11 41 (pt gr 0) sS2<|dW 12 42 (pt gr 1) sS2<|dV 13 43 (vI (at_ + k : Nat)) rfl rfl (fun w' hw' => ld 3 42 gr 1 (vI (at_ + k : Nat)) ((cell_of_row _ _ 1 _ _ _ (qT hw' (qT ch5 hb3))).trans rfl)) sS2 ?_
 have kk6 := kA (kC (zA ch1 : Chg [gr] (w) W1) ch4) ch5
 obtain ⟨Ac1, hAc1⟩ : ∃ x_, x_ = Mur.cutA A c at_ := ⟨_, rfl⟩
 have hbc1 : Byt (w) Ac1 (at_ + k - at_) ((b.take (at_ + k)).drop at_) := by rw [hAc1]; exact Mur.Byt.cut hb at_ (at_ + k) (by omega) (by omega) (by omega)
 have ltc1 : ∀ g off, Ac1 = some ⟨g, off, none⟩ → 0 < at_ + k - at_ → g ≠ gr := fun g off e hn => Mur.cutA_blk (Q := fun q => q ≠ gr) (fun a_ e2_ => hneb a_ e2_ (by omega)) _ (hAc1.symm.trans e)
 refine dV 14 44 (.slice Ac1 (at_ + k - at_) (c - at_)) rfl rfl (fun w' hw' => by rw [hAc1]; exact Mur.run_op_cutF 22 (.tmp 33) (.tmp 39) (.tmp 43) rfl 5 Tryz.underlying22 (by kernel_rfl) A n c at_ (at_ + k) (by kernel_rfl) (by kernel_rfl) (by kernel_rfl) (by omega) (by omega) (by omega)) sS2<|dW 15 4 (.slice Ac1 (at_ + k - at_) (c - at_)) sS2<|dN<|wp_ret<|?_
 have hbz2 : Byt W5 Ac1 (at_ + k - at_) ((b.take (at_ + k)).drop at_) := (byt_chgp hbc1 kk6 (fun g off e hn hl => ⟨by have := ltc1 g off e hn; omega, trivial⟩))
 exact rt (.slice Ac1 (at_ + k - at_) (c - at_)) ⟨at_ + k, bad, Ac1, _, c - at_, _, rfl, ⟨by omega, by omega⟩, (qT ch5 hb3), Mur.Step.of_ok (Mur.readS_ok (by omega)), ⟨by omega, hbz2, by omega, by omega⟩, kk6⟩
theorem Rsome_any (gr : Nat) (A : Option Addr) (n c : Nat) (b : List UInt8) (at_ : Nat) (bad : Bool) (w : World) (hr : w.heap[gr]? = some (.cells #[.slice A n c, vI at_, .bool bad] 71 (0, 0))) (hb : Byt w A n b) (hnc : n ≤ c ∧ c ≤ 9223372036854775807) (hneb : ∀ a, A = some a → 0 < n → a.block ≠ gr) (hat : at_ ≤ n) (hn : n ≤ 100000) (k : Nat) (hk : k ≤ 1000) : Calls Tryz.prog 76 #[pt gr 0, vI k] w fun e w' => ∃ (at2 : Nat) (bad2 : Bool) (A1 : Option Addr) (c1 : Nat) (x : List UInt8), e = .returned (.slice A1 k c1) ∧ (at_ ≤ at2 ∧ at2 ≤ n) ∧ w'.heap[gr]? = some (.cells #[.slice A n c, vI at2, .bool bad2] 71 (0, 0)) ∧ Mur.Step (Mur.readS k) b at_ bad at2 bad2 x ∧ Byt w' A1 k x ∧ (k ≤ c1 ∧ c1 ≤ 9223372036854775807) ∧ Chg [gr] w w' := by
 refine (Rsome_any0 gr A n c b at_ bad w hr hb hnc hneb hat hn k hk).mono ?_
 rintro _ W ⟨at2, bad2, A1, n1, c1, x, rfl, h1, h2, h3, ⟨rfl, h4, h5, h6⟩, h7⟩
 exact ⟨at2, bad2, A1, c1, x, rfl, h1, h2, h3, h4, ⟨h5, h6⟩, h7⟩
theorem Rdigest_any (gr : Nat) (A : Option Addr) (n c : Nat) (b : List UInt8) (at_ : Nat) (bad : Bool) (w : World) (hr : w.heap[gr]? = some (.cells #[.slice A n c, vI at_, .bool bad] 71 (0, 0))) (hb : Byt w A n b) (hnc : n ≤ c ∧ c ≤ 9223372036854775807) (hneb : ∀ a, A = some a → 0 < n → a.block ≠ gr) (hat : at_ ≤ n) (hn : n ≤ 100000) : Calls Tryz.prog 40 #[pt gr 0] w fun e w' => ∃ (at2 : Nat) (bad2 : Bool) (x : List UInt8), e = .returned (.agg (b8s x).toArray) ∧ (at_ ≤ at2 ∧ at2 ≤ n) ∧ w'.heap[gr]? = some (.cells #[.slice A n c, vI at2, .bool bad2] 71 (0, 0)) ∧ Mur.Step (Mur.readS 32) b at_ bad at2 bad2 x ∧ x.length = 32 ∧ Chg [gr] w w' := by
 have hne : ∀ g off, A = some ⟨g, off, none⟩ → 0 < n → g ≠ gr := fun g off e hn => hneb _ e hn
 have hbl_ := hb.1
 have hn_ := hn
 have hgl_ := (Array.getElem?_eq_some_iff.1 hr).1
 refine calls_of_wp Tryz.func40 rfl ?_
 refine sR<|nW 0 2 Z32 28 fun W1 hb1 ch1 sz1 => eN<|sR<|rP 0 3 (pt gr 0) ?_
 have kk1 : Chg [gr] (w) W1 := zA ch1
 refine rK 1 4 (Rsome_any gr A n c b at_ bad W1 (qT ch1 hr) (byt_chgp hb kk1 (fun g off e hn hl => ⟨by have := hne g off e hn; omega, trivial⟩)) ⟨by omega, by omega⟩ hneb (by omega) (by omega) 32 (by omega)) ?_
 rintro _ W2 ⟨at1, bad1, AA1, cc1, x1, rfl, hat1, hr1, hst1, hb2, hcc1, ch2⟩
 have zz2 := ch2.size
 -- AA1
 obtain ⟨qs1, os1, hq_, _⟩ := hb2.2 (by omega)
 subst hq_
 refine rq 2 5 (pt qs1 os1) rfl (Mur.s2a 28 5 (.tmp 4) 32 rfl Tryz.underlying28 (some ⟨qs1, os1, none⟩) 32 cc1 (by kernel_rfl) (by omega))<|rq 3 6 _ rfl (lR os1 (b8s x1) (Mur.rng_byt hb2) (by rw [b8s_length, hb2.1]; kernel_rfl))<|rU 4 rfl (sC x1 hb2.1 (qO ch2 hb1)) fun W3 hb3 ch3 zz3 => eN<|wp_ret<|?_
 exact retC rfl hb3 (by rw [List.size_toArray, b8s_length, hb2.1]; kernel_rfl) ⟨at1, bad1, x1, rfl, ⟨by omega, by omega⟩, (qO ch3 hr1), hst1, hb2.1, (kB (kC kk1 ch2) ch3)⟩
theorem Rattest_any (gr : Nat) (A : Option Addr) (n c : Nat) (b : List UInt8) (at_ : Nat) (bad : Bool) (w : World) (hr : w.heap[gr]? = some (.cells #[.slice A n c, vI at_, .bool bad] 71 (0, 0))) (hb : Byt w A n b) (hnc : n ≤ c ∧ c ≤ 9223372036854775807) (hneb : ∀ a, A = some a → 0 < n → a.block ≠ gr) (hat : at_ ≤ n) (hn : n ≤ 100000) : Calls Tryz.prog 73 #[pt gr 0] w fun e w' => ∃ (at2 : Nat) (bad2 : Bool) (y : Att), e = .returned (.agg (attC y.k y.r y.n y.t).toArray) ∧ (at_ ≤ at2 ∧ at2 ≤ n) ∧ w'.heap[gr]? = some (.cells #[.slice A n c, vI at2, .bool bad2] 71 (0, 0)) ∧ Mur.Step Mur.readA b at_ bad at2 bad2 y ∧ Chg [gr] w w' := by
 have hne : ∀ g off, A = some ⟨g, off, none⟩ → 0 < n → g ≠ gr := fun g off e hn => hneb _ e hn
 have hbl_ := hb.1
 have hn_ := hn
 have hgl_ := (Array.getElem?_eq_some_iff.1 hr).1
 refine calls_of_wp Tryz.func73 rfl ?_
 refine sR<|nW 0 2 (Mur.attC z32 z32 0 z32).toArray 35 fun W1 hb1 ch1 sz1 => eN<|sR<|rP 0 6 (pt gr 0) ?_
 have kk1 : Chg [gr] (w) W1 := zA ch1
 refine rK 1 7 (Rsome_any gr A n c b at_ bad W1 (qT ch1 hr) (byt_chgp hb kk1 (fun g off e hn hl => ⟨by have := hne g off e hn; omega, trivial⟩)) ⟨by omega, by omega⟩ hneb (by omega) (by omega) 104 (by omega)) ?_
 rintro _ W2 ⟨at1, bad1, AA1, cc1, x1, rfl, hat1, hr1, hst1, hb2, hcc1, ch2⟩
 have zz2 := ch2.size
 refine rC 2 8 95 [.tmp 7] #[22] [.slice AA1 104 cc1] ?_
 obtain ⟨qs1, os1, hq_, _⟩ := hb2.2 (by omega)
 subst hq_
 by_cases hV1 : 1 ≤ Mur.be8 ((x1.take 72).drop 64) ∧ Mur.be8 ((x1.take 72).drop 64) ≤ 5000
 ·refine (Read_ok qs1 os1 cc1 x1 _ _ _ _ _ W2 hb2 (by omega) rfl rfl rfl rfl rfl hV1).mono ?_
  rintro _ W3 ⟨rfl, ch3⟩
  have zz3 := ch3.size
  refine ⟨_, rfl, ?_⟩
  refine rP 3 5 (.tuple #[.agg ((Mur.attC ((x1.take 32).drop 0) ((x1.take 64).drop 32) ((Mur.be8 ((x1.take 72).drop 64) : Nat) : Int) ((x1.take 104).drop 72)).toArray), vI 0])<|rP 4 9 (.agg ((Mur.attC ((x1.take 32).drop 0) ((x1.take 64).drop 32) ((Mur.be8 ((x1.take 72).drop 64) : Nat) : Int) ((x1.take 104).drop 72)).toArray))<|rP 5 10 (vI 0)<|nW 6 3 (Mur.attC z32 z32 0 z32).toArray 35 fun W4 hb3 ch4 sz2 => rU 7 rfl (sB (Mur.attC ((x1.take 32).drop 0) ((x1.take 64).drop 32) ((Mur.be8 ((x1.take 72).drop 64) : Nat) : Int) ((x1.take 104).drop 72)).toArray (attC_size (sub_len hb2.1 (by omega) rfl) (sub_len hb2.1 (by omega) rfl) (sub_len hb2.1 (by omega) rfl)) attC_all hb3 (attC_size rfl rfl rfl)) fun W5 hb4 ch5 zz5 => rP 8 4 (vI 0)<|eN<|wp_seq<|sR<|rP 0 11 (vI 0)<|nF 1 12 (0 : Int) (0 : Int)<|eN<|cF<|wp_skip<|nxt<|sR<|rq 0 16 _ rfl (lA hb4 (attC_size (sub_len hb2.1 (by omega) rfl) (sub_len hb2.1 (by omega) rfl) (sub_len hb2.1 (by omega) rfl)))<|rU 1 rfl (sB (Mur.attC ((x1.take 32).drop 0) ((x1.take 64).drop 32) ((Mur.be8 ((x1.take 72).drop 64) : Nat) : Int) ((x1.take 104).drop 72)).toArray (attC_size (sub_len hb2.1 (by omega) rfl) (sub_len hb2.1 (by omega) rfl) (sub_len hb2.1 (by omega) rfl)) attC_all (qO ch5 (qT ch4 (qT ch3 (qO ch2 hb1)))) (attC_size rfl rfl rfl)) fun W6 hb5 ch6 zz6 => eN<|wp_ret<|?_
  exact retC rfl hb5 (by rw [(attC_size (sub_len hb2.1 (by omega) rfl) (sub_len hb2.1 (by omega) rfl) (sub_len hb2.1 (by omega) rfl))]; kernel_rfl) ⟨at1, bad1, Mur.attOf x1 hb2.1 hV1.2, rfl, ⟨by omega, by omega⟩, (qO ch6 (qO ch5 (qT ch4 (qT ch3 hr1)))), Mur.Step.att_ok hst1 hb2.1 hV1, (kB (kB (kA (kA (kC kk1 ch2) ch3) ch4) ch5) ch6)⟩
 refine (Read_no qs1 os1 cc1 x1 _ _ _ _ _ W2 hb2 (by omega) rfl rfl rfl rfl rfl hV1).mono ?_
 rintro _ W7 ⟨rfl, ch7⟩
 have zz7 := ch7.size
 refine ⟨_, rfl, ?_⟩
 refine rP 3 5 (.tuple #[.agg ((Mur.attC z32 z32 0 z32).toArray), vI 5])<|rP 4 9 (.agg ((Mur.attC z32 z32 0 z32).toArray))<|rP 5 10 (vI 5)<|nW 6 3 (Mur.attC z32 z32 0 z32).toArray 35 fun W8 hb6 ch8 sz3 => rU 7 rfl (sB (Mur.attC z32 z32 0 z32).toArray (attC_size rfl rfl rfl) attC_all hb6 (attC_size rfl rfl rfl)) fun W10 hb7 ch9 zz9 => rP 8 4 (vI 5)<|eN<|wp_seq<|sR<|rP 0 11 (vI 5)<|nT 1 12 (5 : Int) (0 : Int)<|eN<|cT<|reg<|rP 0 13 (pt gr 0)<|rP 1 14 (pt gr 0)<|rP 2 15 (pt gr 2)<|rU 3 rfl (sW 2 vT (qO ch9 (qT ch8 (qT ch7 hr1)))) fun W11 hb8 ch10 _ => ?_
 replace hb8 : W11.heap[gr]? = some (.cells #[.slice A n c, vI at1, vT] 71 (0, 0)) := hb8
 have zz10 := ch10.size
 refine eN<|sR<|rq 0 16 _ rfl (lA (qO ch10 hb7) (attC_size rfl rfl rfl))<|rU 1 rfl (sB (Mur.attC z32 z32 0 z32).toArray (attC_size rfl rfl rfl) attC_all (qO ch10 (qO ch9 (qT ch8 (qT ch7 (qO ch2 hb1))))) (attC_size rfl rfl rfl)) fun W12 hb9 ch11 zz11 => eN<|wp_ret<|?_
 exact retC rfl hb9 (by rw [(attC_size rfl rfl rfl)]; kernel_rfl) ⟨at1, true, Mur.attNone, rfl, ⟨by omega, by omega⟩, (qO ch11 hb8), Mur.Step.att_no hst1 hb2.1 hV1 _, (kB (kC (kB (kA (kA (kC kk1 ch2) ch7) ch8) ch9) ch10) ch11)⟩
theorem Rupdate_any (gr : Nat) (A : Option Addr) (n c : Nat) (b : List UInt8) (at_ : Nat) (bad : Bool) (w : World) (hr : w.heap[gr]? = some (.cells #[.slice A n c, vI at_, .bool bad] 71 (0, 0))) (hb : Byt w A n b) (hnc : n ≤ c ∧ c ≤ 9223372036854775807) (hneb : ∀ a, A = some a → 0 < n → a.block ≠ gr) (hat : at_ ≤ n) (hn : n ≤ 100000) : Calls Tryz.prog 70 #[pt gr 0] w fun e w' => ∃ (at2 : Nat) (bad2 : Bool) (u : Mur.Upd), e = .returned (.agg (Mur.updU u).toArray) ∧ (at_ ≤ at2 ∧ at2 ≤ n) ∧ w'.heap[gr]? = some (.cells #[.slice A n c, vI at2, .bool bad2] 71 (0, 0)) ∧ Mur.Step Mur.readU b at_ bad at2 bad2 u ∧ (u.node ≤ 1073741824 ∧ u.inc < 18446744073709551616) ∧ Chg [gr] w w' := by
 have hne : ∀ g off, A = some ⟨g, off, none⟩ → 0 < n → g ≠ gr := fun g off e hn => hneb _ e hn
 have hbl_ := hb.1
 have hn_ := hn
 have hgl_ := (Array.getElem?_eq_some_iff.1 hr).1
 refine calls_of_wp Tryz.func70 rfl ?_
 refine sR<|nW 0 2 #[vI 0, vB 0, vU 0] 61 fun W1 hb1 ch1 sz1 => eN<|sR<|rP 0 4 (pt gr 0) ?_
 have kk1 : Chg [gr] (w) W1 := zA ch1
 refine rK 1 5 (Rint_any gr A n c b at_ bad W1 (qT ch1 hr) (byt_chgp hb kk1 (fun g off e hn hl => ⟨by have := hne g off e hn; omega, trivial⟩)) ⟨by omega, by omega⟩ hneb (by omega) (by omega)) ?_
 rintro _ W2 ⟨at1, bad1, v1, rfl, hat1, hr1, hst1, hlt1, ch2⟩
 have zz2 := ch2.size
 refine rP 2 6 (.agg #[vI v1, vB 0, vU 0])<|nW 3 3 #[vI 0, vB 0, vU 0] 61 fun W3 hb2 ch3 sz2 => rU 4 rfl (Wk.storeR 61 (.tmp 3) (.tmp 6) rfl W2.heap.size 0 (by kernel_rfl) ([vI v1, vB 0, vU 0]) (by kernel_rfl) (by kernel_rfl) (by intro v hv; simp at hv; rcases hv with h | h | h <;> (subst h; rfl)) 61 ([vI 0, vB 0, vU 0]) hb2 (by simp)) fun W4 hb3 ch4 _ => ?_
 replace hb3 : W4.heap[W2.heap.size]? = some (.cells #[vI v1, vB 0, vU 0] 61 (0, 0)) := hb3
 have zz4 := ch4.size
 refine eN<|sR<|rP 0 7 (pt gr 0) ?_
 have kk4 := kB (kA (kC kk1 ch2) ch3) ch4
 refine rK 1 8 (Rkind_any gr A n c b at1 bad1 W4 (qO ch4 (qT ch3 hr1)) (byt_chgp hb kk4 (fun g off e hn hl => ⟨by have := hne g off e hn; omega, trivial⟩)) ⟨by omega, by omega⟩ hneb (by omega) (by omega)) ?_
 rintro _ W5 ⟨at2, bad2, v2, rfl, hat2, hr2, hst2, hlt2, ch5⟩
 have zz5 := ch5.size
 refine rP 2 9 (pw W2 1)<|rU 3 rfl (sW 1 (vB ((UInt8.ofNat v2).toNat : Nat)) (qO ch5 hb3)) fun W6 hb4 ch6 _ => ?_
 replace hb4 : W6.heap[W2.heap.size]? = some (.cells #[vI v1, vB ((UInt8.ofNat v2).toNat : Nat), vU 0] 61 (0, 0)) := hb4
 have zz6 := ch6.size
 refine eN<|sR<|rP 0 10 (pt gr 0) ?_
 have kk6 := kB (kC kk4 ch5) ch6
 refine rK 1 11 (Ruint_any gr A n c b at2 bad2 W6 (qO ch6 hr2) (byt_chgp hb kk6 (fun g off e hn hl => ⟨by have := hne g off e hn; omega, trivial⟩)) ⟨by omega, by omega⟩ hneb (by omega) (by omega)) ?_
 rintro _ W7 ⟨at3, bad3, v3, rfl, hat3, hr3, hst3, hlt3, ch7⟩
 have zz7 := ch7.size
 refine rP 2 12 (pw W2 2)<|rU 3 rfl (sW 2 (vU v3) (qO ch7 hb4)) fun W8 hb5 ch8 _ => ?_
 replace hb5 : W8.heap[W2.heap.size]? = some (.cells #[vI v1, vB ((UInt8.ofNat v2).toNat : Nat), vU v3] 61 (0, 0)) := hb5
 have zz8 := ch8.size
 refine eN<|sR<|rq 0 13 _ rfl (lR 0 ([vI v1, vB ((UInt8.ofNat v2).toNat : Nat), vU v3]) (range_row hb5))<|rU 1 rfl (Wk.storeR 61 (.tmp 2) (.tmp 13) rfl w.heap.size 0 (by kernel_rfl) ([vI v1, vB ((UInt8.ofNat v2).toNat : Nat), vU v3]) (by kernel_rfl) (by kernel_rfl) (by intro v hv; simp at hv; rcases hv with h | h | h <;> (subst h; rfl)) 61 ([vI 0, vB 0, vU 0]) (qO ch8 (qO ch7 (qO ch6 (qO ch5 (qO ch4 (qT ch3 (qO ch2 hb1))))))) (by simp)) fun W10 hb6 ch9 _ => ?_
 replace hb6 : W10.heap[w.heap.size]? = some (.cells #[vI v1, vB ((UInt8.ofNat v2).toNat : Nat), vU v3] 61 (0, 0)) := hb6
 have zz9 := ch9.size
 refine eN<|wp_ret<|?_
 exact retC rfl hb6 (by kernel_rfl) ⟨at3, bad3, ⟨v1, v2, v3⟩, rfl, ⟨by omega, by omega⟩, (qO ch9 (qO ch8 hr3)), (show Mur.Step Mur.readU _ _ _ _ _ _ from (hst1.seq (hst2.seq hst3)).map (fun y : Nat × Nat × Nat => (⟨y.1, y.2.1, y.2.2⟩ : Mur.Upd))), ⟨by omega, by omega⟩, (kB (kB (kC kk6 ch7) ch8) ch9)⟩
end Go.Proofs.YtgbadghjnpbiaaaGreatDoor
