/- What the row rests on, part 9. -/
import Derived.Test.YtgbadghjnpbiaaaGreatDoorRG5
import Derived.Test.YtgbadghjnpbiaaaGreatDoorRG8
import Derived.Test.YtgbadghjnpbiaaaGreatDoorRG6
import Derived.Test.YtgbadghjnpbiaaaGreatDoorRG7
namespace Go.Proofs.YtgbadghjnpbiaaaGreatDoor
open Go.RowKit Wk
open Mur (b8s Byt Own8 Seg Segs flat cutA attC)
set_option maxRecDepth 100000
set_option maxHeartbeats 4000000
theorem Read_no (g off c : Nat) (b K R E T : List UInt8) (V : Nat) (w : World) (hb : Byt w (some ⟨g, off, none⟩) 104 b) (hc : 104 ≤ c) (hK : (b.take 32).drop 0 = K) (hR : (b.take 64).drop 32 = R) (hE : (b.take 72).drop 64 = E) (hT : (b.take 104).drop 72 = T) (hV : Mur.be8 E = V) (hm : ¬ (1 ≤ V ∧ V ≤ 5000)) : Calls Tryz.prog 95 #[.slice (some ⟨g, off, none⟩) 104 c] w fun e w' => e = .returned (.tuple #[.agg (attC Mur.z32 Mur.z32 0 Mur.z32).toArray, vI 5]) ∧ Chg [] w w' := by
 have hb0 : Byt w (some ⟨g, off + 0, none⟩) 32 K := by have := Mur.byt_sub hb 0 32 32 rfl (by omega); rw [hK] at this; exact this
 have hb32 : Byt w (some ⟨g, off + 32, none⟩) 32 R := by have := Mur.byt_sub hb 32 64 32 rfl (by omega); rw [hR] at this; exact this
 have hb64 : Byt w (some ⟨g, off + 64, none⟩) 8 E := by have := Mur.byt_sub hb 64 72 8 rfl (by omega); rw [hE] at this; exact this
 have hb72 : Byt w (some ⟨g, off + 72, none⟩) 32 T := by have := Mur.byt_sub hb 72 104 32 rfl (by omega); rw [hT] at this; exact this
 have hx0_ := (E.getD 0 0).toNat_lt
 have hx1_ := (E.getD 1 0).toNat_lt
 have hx2_ := (E.getD 2 0).toNat_lt
 have hx3_ := (E.getD 3 0).toNat_lt
 have hx4_ := (E.getD 4 0).toNat_lt
 have hx5_ := (E.getD 5 0).toNat_lt
 have hx6_ := (E.getD 6 0).toNat_lt
 have hx7_ := (E.getD 7 0).toNat_lt
 refine calls_of_wp Tryz.func95 rfl ?_
 refine sR<|nW 0 2 (Mur.attC Mur.z32 Mur.z32 0 Mur.z32).toArray 35 fun W1 hb1 ch1 sz1 => rP 1 3 (vI 0)<|eN<|wp_seq<|sR<|rP 0 7 (.slice (some ⟨g, off, none⟩) 104 c)<|rP 1 8 (vI 104)<|nF 2 9 (104 : Int) (104 : Int)<|eN<|cF<|wp_skip<|nxt<|wp_seq<|?_
 refine dReg ([w.heap.size]) (by kernel_rfl) ?_
 intro W2 ch2 sz2
 have zz2 := ch2.size
 have sS1 : Chg ([w.heap.size]) W2 W2 := (Chg.refl _).more (by simp)
 refine dW 0 11 (pw w 0) sS1<|dV 1 12 (.slice (some ⟨w.heap.size, 0, none⟩) 32 32) rfl rfl (fun w' hw' => Mur.arr_slice 28 5 (.tmp 11) 32 rfl Tryz.underlying28 (by kernel_rfl) w.heap.size (by kernel_rfl)) sS1<|dW 2 13 (.slice (some ⟨g, off, none⟩) 104 c) sS1<|dV 3 14 (.slice (some ⟨g, off + 0, none⟩) 32 32) rfl rfl (fun w' hw' => Mur.run_cut3 22 (.tmp 13) none (.const (vI 32)) (.const (vI 32)) rfl 5 Tryz.underlying22 (by kernel_rfl) g off 104 c 0 32 32 32 (by kernel_rfl) (.inr ⟨rfl, rfl⟩) (by kernel_rfl) (by kernel_rfl) rfl rfl (by omega) (by omega)) sS1<|dO 4 ?_
 have kk2 := kA (zA ch1 : Chg [] w W1) ch2
 refine oEx (some 15) _ rfl rfl (by kernel_rfl) (Mur.copy_mid (.tmp 12) (.tmp 14) 22 22 rfl 5 Tryz.underlying22 (by kernel_rfl) w.heap.size 0 32 32 (by kernel_rfl) (some ⟨g, off + 0, none⟩) 32 32 (by kernel_rfl) 35 (Mur.attC Mur.z32 Mur.z32 0 Mur.z32) K (qT ch2 hb1) (Mur.byt_chg hb0 kk2 (fun g off e hl => trivial)) (by omega) (by omega) (by rw [Mur.attC_length rfl rfl rfl]; omega) _ (Mur.att_sp0 rfl hb0.1)) ?_
 rintro _ W3 ⟨rfl, hb2, ch3⟩
 have zz3 := ch3.size
 have sS2 := kC sS1 ch3
 refine aN sS2<|dN<|wp_seq<|?_
 refine dReg ([w.heap.size]) (by kernel_rfl) ?_
 intro W4 ch4 sz3
 have zz4 := ch4.size
 have sS3 : Chg ([w.heap.size]) W4 W4 := (Chg.refl _).more (by simp)
 refine dW 0 16 (pw w 32) sS3<|dV 1 17 (.slice (some ⟨w.heap.size, 32, none⟩) 32 32) rfl rfl (fun w' hw' => Mur.arr_slice_at 28 5 (.tmp 16) 32 rfl Tryz.underlying28 (by kernel_rfl) w.heap.size 32 (by kernel_rfl)) sS3<|dW 2 18 (.slice (some ⟨g, off, none⟩) 104 c) sS3<|dV 3 19 (.slice (some ⟨g, off + 32, none⟩) 32 32) rfl rfl (fun w' hw' => Mur.run_cut3 22 (.tmp 18) (some (.const (vI 32))) (.const (vI 64)) (.const (vI 64)) rfl 5 Tryz.underlying22 (by kernel_rfl) g off 104 c 32 64 64 32 (by kernel_rfl) (.inl (by kernel_rfl)) (by kernel_rfl) (by kernel_rfl) rfl rfl (by omega) (by omega)) sS3<|dO 4 ?_
 have kk4 := kA (kB kk2 ch3) ch4
 refine oEx (some 20) _ rfl rfl (by kernel_rfl) (Mur.copy_mid (.tmp 17) (.tmp 19) 22 22 rfl 5 Tryz.underlying22 (by kernel_rfl) w.heap.size 32 32 32 (by kernel_rfl) (some ⟨g, off + 32, none⟩) 32 32 (by kernel_rfl) 35 (Mur.attC K Mur.z32 0 Mur.z32) R (qT ch4 hb2) (Mur.byt_chg hb32 kk4 (fun g off e hl => trivial)) (by omega) (by omega) (by rw [Mur.attC_length hb0.1 rfl rfl]; omega) _ (Mur.att_sp32 hb0.1 rfl hb32.1)) ?_
 rintro _ W5 ⟨rfl, hb3, ch5⟩
 have zz5 := ch5.size
 have sS4 := kC sS3 ch5
 refine aN sS4<|dN<|sR<|rP 0 4 (vU 0)<|eN<|wp_seq<|sR<|rP 0 21 (.slice (some ⟨g, off, none⟩) 104 c)<|rq 1 22 (.slice (some ⟨g, off + 64, none⟩) 8 8) rfl (Mur.run_cut3 22 (.tmp 21) (some (.const (vI 64))) (.const (vI 72)) (.const (vI 72)) rfl 5 Tryz.underlying22 (by kernel_rfl) g off 104 c 64 72 72 8 (by kernel_rfl) (.inl (by kernel_rfl)) (by kernel_rfl) (by kernel_rfl) rfl rfl (by omega) (by omega))<|rP 2 23 (vI 8)<|rP 3 24 (vI 0)<|eN<|wp_block<|?_
 refine Wk.loopN 9 ?_
 refine Wk.rdS<|sR<|?_
 refine bT 0 25 ((0 : Int) < (8 : Int))<|eN<|wp_seq<|cT<|wp_skip<|nxt<|wp_seq<|wp_block<|sR<|rq 0 26 (pt g (off + 64 + 0 * 1)) rfl (iS 1 g (off + 64) 8 8 0) ?_
 have kk5 := kB kk4 ch5
 refine rq 1 27 _ rfl (ld 5 26 g (off + 64 + 0 * 1) (vB ((E.getD 0 0).toNat : Nat)) (Mur.byt_cell (Mur.byt_chg hb64 kk5 (fun g off e hl => trivial)) 0 (by omega)))<|rP 2 6 (vB ((E.getD 0 0).toNat : Nat))<|eN<|reg<|rP 0 28 (vU 0)<|rq 1 29 (vU (0 * 256 : Nat)) rfl (Mur.shl8_64 23 148 (.tmp 28) (.const (vU 8)) rfl 0 .u64 (by kernel_rfl) (by kernel_rfl) (by omega))<|rP 2 30 (vB ((E.getD 0 0).toNat : Nat))<|rq 3 31 (vU ((E.getD 0 0).toNat : Nat)) rfl (Mur.conv_int 5 23 (.tmp 30) rfl (by kernel_rfl) .u64 Tryz.underlying23 .u8 (((E.getD 0 0).toNat : Nat) : Int) (by kernel_rfl) (Mur.u64_nat (by omega)))<|rq 4 32 (vU (0 * 256 + (E.getD 0 0).toNat : Nat)) rfl (Mur.or64 23 23 (.tmp 29) (.tmp 31) rfl 0 (E.getD 0 0).toNat (by kernel_rfl) (by kernel_rfl) (by omega) (by omega))<|rP 5 4 (vU (0 * 256 + (E.getD 0 0).toNat : Nat))<|rE<|inN<|nxt<|reg<|rI 0 33 (0 + 1) (1)<|rP 1 24 (vI 1)<|eN<|Wk.rdS<|sR<|bT 0 25 ((1 : Int) < (8 : Int))<|eN<|wp_seq<|cT<|wp_skip<|nxt<|wp_seq<|wp_block<|sR<|rq 0 26 (pt g (off + 64 + 1 * 1)) rfl (iS 1 g (off + 64) 8 8 1)<|rq 1 27 _ rfl (ld 5 26 g (off + 64 + 1 * 1) (vB ((E.getD 1 0).toNat : Nat)) (Mur.byt_cell (Mur.byt_chg hb64 kk5 (fun g off e hl => trivial)) 1 (by omega)))<|rP 2 6 (vB ((E.getD 1 0).toNat : Nat))<|eN<|reg<|rP 0 28 (vU (0 * 256 + (E.getD 0 0).toNat : Nat))<|rq 1 29 (vU ((0 * 256 + (E.getD 0 0).toNat) * 256 : Nat)) rfl (Mur.shl8_64 23 148 (.tmp 28) (.const (vU 8)) rfl (0 * 256 + (E.getD 0 0).toNat) .u64 (by kernel_rfl) (by kernel_rfl) (by omega)) ?_
 refine rP 2 30 (vB ((E.getD 1 0).toNat : Nat))<|rq 3 31 (vU ((E.getD 1 0).toNat : Nat)) rfl (Mur.conv_int 5 23 (.tmp 30) rfl (by kernel_rfl) .u64 Tryz.underlying23 .u8 (((E.getD 1 0).toNat : Nat) : Int) (by kernel_rfl) (Mur.u64_nat (by omega)))<|rq 4 32 (vU ((0 * 256 + (E.getD 0 0).toNat) * 256 + (E.getD 1 0).toNat : Nat)) rfl (Mur.or64 23 23 (.tmp 29) (.tmp 31) rfl (0 * 256 + (E.getD 0 0).toNat) (E.getD 1 0).toNat (by kernel_rfl) (by kernel_rfl) (by omega) (by omega))<|rP 5 4 (vU ((0 * 256 + (E.getD 0 0).toNat) * 256 + (E.getD 1 0).toNat : Nat))<|rE<|inN<|nxt<|reg<|rI 0 33 (1 + 1) (2)<|rP 1 24 (vI 2)<|eN<|Wk.rdS<|sR<|bT 0 25 ((2 : Int) < (8 : Int))<|eN<|wp_seq<|cT<|wp_skip<|nxt<|wp_seq<|wp_block<|sR<|rq 0 26 (pt g (off + 64 + 2 * 1)) rfl (iS 1 g (off + 64) 8 8 2)<|rq 1 27 _ rfl (ld 5 26 g (off + 64 + 2 * 1) (vB ((E.getD 2 0).toNat : Nat)) (Mur.byt_cell (Mur.byt_chg hb64 kk5 (fun g off e hl => trivial)) 2 (by omega)))<|rP 2 6 (vB ((E.getD 2 0).toNat : Nat))<|eN<|reg<|rP 0 28 (vU ((0 * 256 + (E.getD 0 0).toNat) * 256 + (E.getD 1 0).toNat : Nat))<|rq 1 29 (vU (((0 * 256 + (E.getD 0 0).toNat) * 256 + (E.getD 1 0).toNat) * 256 : Nat)) rfl (Mur.shl8_64 23 148 (.tmp 28) (.const (vU 8)) rfl ((0 * 256 + (E.getD 0 0).toNat) * 256 + (E.getD 1 0).toNat) .u64 (by kernel_rfl) (by kernel_rfl) (by omega))<|rP 2 30 (vB ((E.getD 2 0).toNat : Nat))<|rq 3 31 (vU ((E.getD 2 0).toNat : Nat)) rfl (Mur.conv_int 5 23 (.tmp 30) rfl (by kernel_rfl) .u64 Tryz.underlying23 .u8 (((E.getD 2 0).toNat : Nat) : Int) (by kernel_rfl) (Mur.u64_nat (by omega))) ?_
 refine rq 4 32 (vU (((0 * 256 + (E.getD 0 0).toNat) * 256 + (E.getD 1 0).toNat) * 256 + (E.getD 2 0).toNat : Nat)) rfl (Mur.or64 23 23 (.tmp 29) (.tmp 31) rfl ((0 * 256 + (E.getD 0 0).toNat) * 256 + (E.getD 1 0).toNat) (E.getD 2 0).toNat (by kernel_rfl) (by kernel_rfl) (by omega) (by omega))<|rP 5 4 (vU (((0 * 256 + (E.getD 0 0).toNat) * 256 + (E.getD 1 0).toNat) * 256 + (E.getD 2 0).toNat : Nat))<|rE<|inN<|nxt<|reg<|rI 0 33 (2 + 1) (3)<|rP 1 24 (vI 3)<|eN<|Wk.rdS<|sR<|bT 0 25 ((3 : Int) < (8 : Int))<|eN<|wp_seq<|cT<|wp_skip<|nxt<|wp_seq<|wp_block<|sR<|rq 0 26 (pt g (off + 64 + 3 * 1)) rfl (iS 1 g (off + 64) 8 8 3)<|rq 1 27 _ rfl (ld 5 26 g (off + 64 + 3 * 1) (vB ((E.getD 3 0).toNat : Nat)) (Mur.byt_cell (Mur.byt_chg hb64 kk5 (fun g off e hl => trivial)) 3 (by omega)))<|rP 2 6 (vB ((E.getD 3 0).toNat : Nat))<|eN<|reg<|rP 0 28 (vU (((0 * 256 + (E.getD 0 0).toNat) * 256 + (E.getD 1 0).toNat) * 256 + (E.getD 2 0).toNat : Nat))<|rq 1 29 (vU ((((0 * 256 + (E.getD 0 0).toNat) * 256 + (E.getD 1 0).toNat) * 256 + (E.getD 2 0).toNat) * 256 : Nat)) rfl (Mur.shl8_64 23 148 (.tmp 28) (.const (vU 8)) rfl (((0 * 256 + (E.getD 0 0).toNat) * 256 + (E.getD 1 0).toNat) * 256 + (E.getD 2 0).toNat) .u64 (by kernel_rfl) (by kernel_rfl) (by omega))<|rP 2 30 (vB ((E.getD 3 0).toNat : Nat))<|rq 3 31 (vU ((E.getD 3 0).toNat : Nat)) rfl (Mur.conv_int 5 23 (.tmp 30) rfl (by kernel_rfl) .u64 Tryz.underlying23 .u8 (((E.getD 3 0).toNat : Nat) : Int) (by kernel_rfl) (Mur.u64_nat (by omega))) ?_
 refine rq 4 32 (vU ((((0 * 256 + (E.getD 0 0).toNat) * 256 + (E.getD 1 0).toNat) * 256 + (E.getD 2 0).toNat) * 256 + (E.getD 3 0).toNat : Nat)) rfl (Mur.or64 23 23 (.tmp 29) (.tmp 31) rfl (((0 * 256 + (E.getD 0 0).toNat) * 256 + (E.getD 1 0).toNat) * 256 + (E.getD 2 0).toNat) (E.getD 3 0).toNat (by kernel_rfl) (by kernel_rfl) (by omega) (by omega))<|rP 5 4 (vU ((((0 * 256 + (E.getD 0 0).toNat) * 256 + (E.getD 1 0).toNat) * 256 + (E.getD 2 0).toNat) * 256 + (E.getD 3 0).toNat : Nat))<|rE<|inN<|nxt<|reg<|rI 0 33 (3 + 1) (4)<|rP 1 24 (vI 4)<|eN<|Wk.rdS<|sR<|bT 0 25 ((4 : Int) < (8 : Int))<|eN<|wp_seq<|cT<|wp_skip<|nxt<|wp_seq<|wp_block<|sR<|rq 0 26 (pt g (off + 64 + 4 * 1)) rfl (iS 1 g (off + 64) 8 8 4)<|rq 1 27 _ rfl (ld 5 26 g (off + 64 + 4 * 1) (vB ((E.getD 4 0).toNat : Nat)) (Mur.byt_cell (Mur.byt_chg hb64 kk5 (fun g off e hl => trivial)) 4 (by omega)))<|rP 2 6 (vB ((E.getD 4 0).toNat : Nat))<|eN<|reg<|rP 0 28 (vU ((((0 * 256 + (E.getD 0 0).toNat) * 256 + (E.getD 1 0).toNat) * 256 + (E.getD 2 0).toNat) * 256 + (E.getD 3 0).toNat : Nat))<|rq 1 29 (vU (((((0 * 256 + (E.getD 0 0).toNat) * 256 + (E.getD 1 0).toNat) * 256 + (E.getD 2 0).toNat) * 256 + (E.getD 3 0).toNat) * 256 : Nat)) rfl (Mur.shl8_64 23 148 (.tmp 28) (.const (vU 8)) rfl ((((0 * 256 + (E.getD 0 0).toNat) * 256 + (E.getD 1 0).toNat) * 256 + (E.getD 2 0).toNat) * 256 + (E.getD 3 0).toNat) .u64 (by kernel_rfl) (by kernel_rfl) (by omega))<|rP 2 30 (vB ((E.getD 4 0).toNat : Nat)) ?_
 refine rq 3 31 (vU ((E.getD 4 0).toNat : Nat)) rfl (Mur.conv_int 5 23 (.tmp 30) rfl (by kernel_rfl) .u64 Tryz.underlying23 .u8 (((E.getD 4 0).toNat : Nat) : Int) (by kernel_rfl) (Mur.u64_nat (by omega)))<|rq 4 32 (vU (((((0 * 256 + (E.getD 0 0).toNat) * 256 + (E.getD 1 0).toNat) * 256 + (E.getD 2 0).toNat) * 256 + (E.getD 3 0).toNat) * 256 + (E.getD 4 0).toNat : Nat)) rfl (Mur.or64 23 23 (.tmp 29) (.tmp 31) rfl ((((0 * 256 + (E.getD 0 0).toNat) * 256 + (E.getD 1 0).toNat) * 256 + (E.getD 2 0).toNat) * 256 + (E.getD 3 0).toNat) (E.getD 4 0).toNat (by kernel_rfl) (by kernel_rfl) (by omega) (by omega))<|rP 5 4 (vU (((((0 * 256 + (E.getD 0 0).toNat) * 256 + (E.getD 1 0).toNat) * 256 + (E.getD 2 0).toNat) * 256 + (E.getD 3 0).toNat) * 256 + (E.getD 4 0).toNat : Nat))<|rE<|inN<|nxt<|reg<|rI 0 33 (4 + 1) (5)<|rP 1 24 (vI 5)<|eN<|Wk.rdS<|sR<|bT 0 25 ((5 : Int) < (8 : Int))<|eN<|wp_seq<|cT<|wp_skip<|nxt<|wp_seq<|wp_block<|sR<|rq 0 26 (pt g (off + 64 + 5 * 1)) rfl (iS 1 g (off + 64) 8 8 5)<|rq 1 27 _ rfl (ld 5 26 g (off + 64 + 5 * 1) (vB ((E.getD 5 0).toNat : Nat)) (Mur.byt_cell (Mur.byt_chg hb64 kk5 (fun g off e hl => trivial)) 5 (by omega)))<|rP 2 6 (vB ((E.getD 5 0).toNat : Nat))<|eN<|reg<|rP 0 28 (vU (((((0 * 256 + (E.getD 0 0).toNat) * 256 + (E.getD 1 0).toNat) * 256 + (E.getD 2 0).toNat) * 256 + (E.getD 3 0).toNat) * 256 + (E.getD 4 0).toNat : Nat))<|rq 1 29 (vU ((((((0 * 256 + (E.getD 0 0).toNat) * 256 + (E.getD 1 0).toNat) * 256 + (E.getD 2 0).toNat) * 256 + (E.getD 3 0).toNat) * 256 + (E.getD 4 0).toNat) * 256 : Nat)) rfl (Mur.shl8_64 23 148 (.tmp 28) (.const (vU 8)) rfl (((((0 * 256 + (E.getD 0 0).toNat) * 256 + (E.getD 1 0).toNat) * 256 + (E.getD 2 0).toNat) * 256 + (E.getD 3 0).toNat) * 256 + (E.getD 4 0).toNat) .u64 (by kernel_rfl) (by kernel_rfl) (by omega)) ?_
 refine rP 2 30 (vB ((E.getD 5 0).toNat : Nat))<|rq 3 31 (vU ((E.getD 5 0).toNat : Nat)) rfl (Mur.conv_int 5 23 (.tmp 30) rfl (by kernel_rfl) .u64 Tryz.underlying23 .u8 (((E.getD 5 0).toNat : Nat) : Int) (by kernel_rfl) (Mur.u64_nat (by omega)))<|rq 4 32 (vU ((((((0 * 256 + (E.getD 0 0).toNat) * 256 + (E.getD 1 0).toNat) * 256 + (E.getD 2 0).toNat) * 256 + (E.getD 3 0).toNat) * 256 + (E.getD 4 0).toNat) * 256 + (E.getD 5 0).toNat : Nat)) rfl (Mur.or64 23 23 (.tmp 29) (.tmp 31) rfl (((((0 * 256 + (E.getD 0 0).toNat) * 256 + (E.getD 1 0).toNat) * 256 + (E.getD 2 0).toNat) * 256 + (E.getD 3 0).toNat) * 256 + (E.getD 4 0).toNat) (E.getD 5 0).toNat (by kernel_rfl) (by kernel_rfl) (by omega) (by omega))<|rP 5 4 (vU ((((((0 * 256 + (E.getD 0 0).toNat) * 256 + (E.getD 1 0).toNat) * 256 + (E.getD 2 0).toNat) * 256 + (E.getD 3 0).toNat) * 256 + (E.getD 4 0).toNat) * 256 + (E.getD 5 0).toNat : Nat))<|rE<|inN<|nxt<|reg<|rI 0 33 (5 + 1) (6)<|rP 1 24 (vI 6)<|eN<|Wk.rdS<|sR<|bT 0 25 ((6 : Int) < (8 : Int))<|eN<|wp_seq<|cT<|wp_skip<|nxt<|wp_seq<|wp_block<|sR<|rq 0 26 (pt g (off + 64 + 6 * 1)) rfl (iS 1 g (off + 64) 8 8 6)<|rq 1 27 _ rfl (ld 5 26 g (off + 64 + 6 * 1) (vB ((E.getD 6 0).toNat : Nat)) (Mur.byt_cell (Mur.byt_chg hb64 kk5 (fun g off e hl => trivial)) 6 (by omega)))<|rP 2 6 (vB ((E.getD 6 0).toNat : Nat))<|eN<|reg<|rP 0 28 (vU ((((((0 * 256 + (E.getD 0 0).toNat) * 256 + (E.getD 1 0).toNat) * 256 + (E.getD 2 0).toNat) * 256 + (E.getD 3 0).toNat) * 256 + (E.getD 4 0).toNat) * 256 + (E.getD 5 0).toNat : Nat)) ?_
 refine rq 1 29 (vU (((((((0 * 256 + (E.getD 0 0).toNat) * 256 + (E.getD 1 0).toNat) * 256 + (E.getD 2 0).toNat) * 256 + (E.getD 3 0).toNat) * 256 + (E.getD 4 0).toNat) * 256 + (E.getD 5 0).toNat) * 256 : Nat)) rfl (Mur.shl8_64 23 148 (.tmp 28) (.const (vU 8)) rfl ((((((0 * 256 + (E.getD 0 0).toNat) * 256 + (E.getD 1 0).toNat) * 256 + (E.getD 2 0).toNat) * 256 + (E.getD 3 0).toNat) * 256 + (E.getD 4 0).toNat) * 256 + (E.getD 5 0).toNat) .u64 (by kernel_rfl) (by kernel_rfl) (by omega))<|rP 2 30 (vB ((E.getD 6 0).toNat : Nat))<|rq 3 31 (vU ((E.getD 6 0).toNat : Nat)) rfl (Mur.conv_int 5 23 (.tmp 30) rfl (by kernel_rfl) .u64 Tryz.underlying23 .u8 (((E.getD 6 0).toNat : Nat) : Int) (by kernel_rfl) (Mur.u64_nat (by omega)))<|rq 4 32 (vU (((((((0 * 256 + (E.getD 0 0).toNat) * 256 + (E.getD 1 0).toNat) * 256 + (E.getD 2 0).toNat) * 256 + (E.getD 3 0).toNat) * 256 + (E.getD 4 0).toNat) * 256 + (E.getD 5 0).toNat) * 256 + (E.getD 6 0).toNat : Nat)) rfl (Mur.or64 23 23 (.tmp 29) (.tmp 31) rfl ((((((0 * 256 + (E.getD 0 0).toNat) * 256 + (E.getD 1 0).toNat) * 256 + (E.getD 2 0).toNat) * 256 + (E.getD 3 0).toNat) * 256 + (E.getD 4 0).toNat) * 256 + (E.getD 5 0).toNat) (E.getD 6 0).toNat (by kernel_rfl) (by kernel_rfl) (by omega) (by omega))<|rP 5 4 (vU (((((((0 * 256 + (E.getD 0 0).toNat) * 256 + (E.getD 1 0).toNat) * 256 + (E.getD 2 0).toNat) * 256 + (E.getD 3 0).toNat) * 256 + (E.getD 4 0).toNat) * 256 + (E.getD 5 0).toNat) * 256 + (E.getD 6 0).toNat : Nat)) ?_
 refine rE<|inN<|nxt<|reg<|rI 0 33 (6 + 1) (7)<|rP 1 24 (vI 7)<|eN<|Wk.rdS<|sR<|bT 0 25 ((7 : Int) < (8 : Int))<|eN<|wp_seq<|cT<|wp_skip<|nxt<|wp_seq<|wp_block<|sR<|rq 0 26 (pt g (off + 64 + 7 * 1)) rfl (iS 1 g (off + 64) 8 8 7)<|rq 1 27 _ rfl (ld 5 26 g (off + 64 + 7 * 1) (vB ((E.getD 7 0).toNat : Nat)) (Mur.byt_cell (Mur.byt_chg hb64 kk5 (fun g off e hl => trivial)) 7 (by omega)))<|rP 2 6 (vB ((E.getD 7 0).toNat : Nat))<|eN<|reg<|rP 0 28 (vU (((((((0 * 256 + (E.getD 0 0).toNat) * 256 + (E.getD 1 0).toNat) * 256 + (E.getD 2 0).toNat) * 256 + (E.getD 3 0).toNat) * 256 + (E.getD 4 0).toNat) * 256 + (E.getD 5 0).toNat) * 256 + (E.getD 6 0).toNat : Nat))<|rq 1 29 (vU ((((((((0 * 256 + (E.getD 0 0).toNat) * 256 + (E.getD 1 0).toNat) * 256 + (E.getD 2 0).toNat) * 256 + (E.getD 3 0).toNat) * 256 + (E.getD 4 0).toNat) * 256 + (E.getD 5 0).toNat) * 256 + (E.getD 6 0).toNat) * 256 : Nat)) rfl (Mur.shl8_64 23 148 (.tmp 28) (.const (vU 8)) rfl (((((((0 * 256 + (E.getD 0 0).toNat) * 256 + (E.getD 1 0).toNat) * 256 + (E.getD 2 0).toNat) * 256 + (E.getD 3 0).toNat) * 256 + (E.getD 4 0).toNat) * 256 + (E.getD 5 0).toNat) * 256 + (E.getD 6 0).toNat) .u64 (by kernel_rfl) (by kernel_rfl) (by omega))<|rP 2 30 (vB ((E.getD 7 0).toNat : Nat))<|rq 3 31 (vU ((E.getD 7 0).toNat : Nat)) rfl (Mur.conv_int 5 23 (.tmp 30) rfl (by kernel_rfl) .u64 Tryz.underlying23 .u8 (((E.getD 7 0).toNat : Nat) : Int) (by kernel_rfl) (Mur.u64_nat (by omega)))<|rq 4 32 (vU ((((((((0 * 256 + (E.getD 0 0).toNat) * 256 + (E.getD 1 0).toNat) * 256 + (E.getD 2 0).toNat) * 256 + (E.getD 3 0).toNat) * 256 + (E.getD 4 0).toNat) * 256 + (E.getD 5 0).toNat) * 256 + (E.getD 6 0).toNat) * 256 + (E.getD 7 0).toNat : Nat)) rfl (Mur.or64 23 23 (.tmp 29) (.tmp 31) rfl (((((((0 * 256 + (E.getD 0 0).toNat) * 256 + (E.getD 1 0).toNat) * 256 + (E.getD 2 0).toNat) * 256 + (E.getD 3 0).toNat) * 256 + (E.getD 4 0).toNat) * 256 + (E.getD 5 0).toNat) * 256 + (E.getD 6 0).toNat) (E.getD 7 0).toNat (by kernel_rfl) (by kernel_rfl) (by omega) (by omega)) ?_
 refine rP 5 4 (vU ((((((((0 * 256 + (E.getD 0 0).toNat) * 256 + (E.getD 1 0).toNat) * 256 + (E.getD 2 0).toNat) * 256 + (E.getD 3 0).toNat) * 256 + (E.getD 4 0).toNat) * 256 + (E.getD 5 0).toNat) * 256 + (E.getD 6 0).toNat) * 256 + (E.getD 7 0).toNat : Nat))<|rE<|inN<|nxt<|reg<|rI 0 33 (7 + 1) (8)<|rP 1 24 (vI 8)<|eN<|Wk.rdS<|sR<|bF 0 25 ((8 : Int) < (8 : Int))<|eN<|wp_seq<|cF<|xX<|nxt<|wp_seq<|sR<|rq 0 34 (vU V) rfl (Wk.val (v := vU ((((((((0 * 256 + (E.getD 0 0).toNat) * 256 + (E.getD 1 0).toNat) * 256 + (E.getD 2 0).toNat) * 256 + (E.getD 3 0).toNat) * 256 + (E.getD 4 0).toNat) * 256 + (E.getD 5 0).toNat) * 256 + (E.getD 6 0).toNat) * 256 + (E.getD 7 0).toNat : Nat)) (congrArg (fun z : Nat => Value.int .u64 (z : Int)) hV) (by kernel_rfl)) ?_
 by_cases hx1 : (V : Int) < (1 : Int)
 ·exact bT 1 35 ((V : Int) < (1 : Int))<|rP 2 36 vT<|rZ 3 37<|rZ 4 38<|rP 5 39 vT<|eN<|cT<|sR<|rP 0 40 (.agg ((Mur.attC Mur.z32 Mur.z32 0 Mur.z32).toArray))<|rU 1 rfl (sB (Mur.attC Mur.z32 Mur.z32 0 Mur.z32).toArray (Mur.attC_size rfl rfl rfl) Mur.attC_all hb3 (Mur.attC_size hb0.1 hb32.1 rfl)) fun W6 hb4 ch6 zz6 => rP 2 3 (vI 5)<|eN<|tR<|Wk.ret (.tuple #[.agg (Mur.attC Mur.z32 Mur.z32 0 Mur.z32).toArray, vI 5]) rfl (results_att rfl _ _ w.heap.size (Mur.attC Mur.z32 Mur.z32 0 Mur.z32).toArray (0, 0) (vI 5) (by kernel_rfl) hb4 (Mur.attC_size rfl rfl rfl) (by kernel_rfl)) ⟨rfl, (kB kk5 ch6)⟩
 refine bF 1 35 ((V : Int) < (1 : Int))<|rP 2 36 vF<|rq 3 37 (vU V) rfl (Wk.val (v := vU ((((((((0 * 256 + (E.getD 0 0).toNat) * 256 + (E.getD 1 0).toNat) * 256 + (E.getD 2 0).toNat) * 256 + (E.getD 3 0).toNat) * 256 + (E.getD 4 0).toNat) * 256 + (E.getD 5 0).toNat) * 256 + (E.getD 6 0).toNat) * 256 + (E.getD 7 0).toNat : Nat)) (congrArg (fun z : Nat => Value.int .u64 (z : Int)) hV) (by kernel_rfl)) ?_
 by_cases hx2 : (V : Int) > (5000 : Int)
 ·exact bT 4 38 ((V : Int) > (5000 : Int))<|rP 5 39 vT<|eN<|cT<|sR<|rP 0 40 (.agg ((Mur.attC Mur.z32 Mur.z32 0 Mur.z32).toArray))<|rU 1 rfl (sB (Mur.attC Mur.z32 Mur.z32 0 Mur.z32).toArray (Mur.attC_size rfl rfl rfl) Mur.attC_all hb3 (Mur.attC_size hb0.1 hb32.1 rfl)) fun W7 hb5 ch7 zz7 => rP 2 3 (vI 5)<|eN<|tR<|Wk.ret (.tuple #[.agg (Mur.attC Mur.z32 Mur.z32 0 Mur.z32).toArray, vI 5]) rfl (results_att rfl _ _ w.heap.size (Mur.attC Mur.z32 Mur.z32 0 Mur.z32).toArray (0, 0) (vI 5) (by kernel_rfl) hb5 (Mur.attC_size rfl rfl rfl) (by kernel_rfl)) ⟨rfl, (kB kk5 ch7)⟩
 refine bF 4 38 ((V : Int) > (5000 : Int))<|rP 5 39 vF<|eN<|cF<|wp_skip<|nxt<|sR<|rq 0 41 (vU V) rfl (Wk.val (v := vU ((((((((0 * 256 + (E.getD 0 0).toNat) * 256 + (E.getD 1 0).toNat) * 256 + (E.getD 2 0).toNat) * 256 + (E.getD 3 0).toNat) * 256 + (E.getD 4 0).toNat) * 256 + (E.getD 5 0).toNat) * 256 + (E.getD 6 0).toNat) * 256 + (E.getD 7 0).toNat : Nat)) (congrArg (fun z : Nat => Value.int .u64 (z : Int)) hV) (by kernel_rfl))<|rq 1 42 (vI V) rfl (Mur.conv_int 23 3 (.tmp 41) rfl (by kernel_rfl) .i64 Tryz.underlying3 .u64 (V : Int) (by kernel_rfl) (Mur.i64_nat (by omega)))<|rP 2 43 (pw w 64)<|rU 3 rfl (Mur.store_len 3 (.tmp 43) (.tmp 42) rfl (by kernel_rfl) w.heap.size (by kernel_rfl) (V : Int) (by kernel_rfl) 35 K R Mur.z32 0 hb0.1 hb32.1 rfl hb3) fun W8 hb6 ch8 zz8 => eN<|wp_seq<|?_
 refine dReg ([w.heap.size]) (by kernel_rfl) ?_
 intro W9 ch9 sz4
 have zz9 := ch9.size
 have sS5 : Chg ([w.heap.size]) W9 W9 := (Chg.refl _).more (by simp)
 refine dW 0 44 (pw w 65) sS5<|dV 1 45 (.slice (some ⟨w.heap.size, 65, none⟩) 32 32) rfl rfl (fun w' hw' => Mur.arr_slice_at 28 5 (.tmp 44) 32 rfl Tryz.underlying28 (by kernel_rfl) w.heap.size 65 (by kernel_rfl)) sS5<|dW 2 46 (.slice (some ⟨g, off, none⟩) 104 c) sS5<|dV 3 47 (.slice (some ⟨g, off + 72, none⟩) 32 (c - 72)) rfl rfl (fun w' hw' => Mur.run_from_at 22 (.tmp 46) (.const (vI 72)) rfl 5 Tryz.underlying22 (by kernel_rfl) g off 104 c 72 32 (by kernel_rfl) (by kernel_rfl) (by omega) (by omega) rfl) sS5<|dO 4<|oEx (some 48) _ rfl rfl (by kernel_rfl) (Mur.copy_mid (.tmp 45) (.tmp 47) 22 22 rfl 5 Tryz.underlying22 (by kernel_rfl) w.heap.size 65 32 32 (by kernel_rfl) (some ⟨g, off + 72, none⟩) 32 (c - 72) (by kernel_rfl) 35 (Mur.attC K R (V : Int) Mur.z32) T (qT ch9 hb6) (Mur.byt_chg hb72 (kA (kB kk5 ch8) ch9) (fun g off e hl => trivial)) (by omega) (by omega) (by rw [Mur.attC_length hb0.1 hb32.1 rfl]; omega) _ (Mur.att_sp65 hb0.1 hb32.1 rfl hb72.1)) ?_
 rintro _ W10 ⟨rfl, hb7, ch10⟩
 have zz10 := ch10.size
 have sS6 := kC sS5 ch10
 refine aN sS6<|dN<|sR<|rq 0 49 _ rfl (lA hb7 (Mur.attC_size hb0.1 hb32.1 hb72.1))<|rU 1 rfl (sB (Mur.attC K R (V : Int) T).toArray (Mur.attC_size hb0.1 hb32.1 hb72.1) Mur.attC_all hb7 (Mur.attC_size hb0.1 hb32.1 hb72.1)) fun W11 hb8 ch11 zz11 => rP 2 3 (vI 0)<|eN<|wp_ret<|?_
 exfalso; omega
theorem Read_ok (g off c : Nat) (b K R E T : List UInt8) (V : Nat) (w : World) (hb : Byt w (some ⟨g, off, none⟩) 104 b) (hc : 104 ≤ c) (hK : (b.take 32).drop 0 = K) (hR : (b.take 64).drop 32 = R) (hE : (b.take 72).drop 64 = E) (hT : (b.take 104).drop 72 = T) (hV : Mur.be8 E = V) (hm : 1 ≤ V ∧ V ≤ 5000) : Calls Tryz.prog 95 #[.slice (some ⟨g, off, none⟩) 104 c] w fun e w' => e = .returned (.tuple #[.agg (attC K R (V : Int) T).toArray, vI 0]) ∧ Chg [] w w' := by
 have hb0 : Byt w (some ⟨g, off + 0, none⟩) 32 K := by have := Mur.byt_sub hb 0 32 32 rfl (by omega); rw [hK] at this; exact this
 have hb32 : Byt w (some ⟨g, off + 32, none⟩) 32 R := by have := Mur.byt_sub hb 32 64 32 rfl (by omega); rw [hR] at this; exact this
 have hb64 : Byt w (some ⟨g, off + 64, none⟩) 8 E := by have := Mur.byt_sub hb 64 72 8 rfl (by omega); rw [hE] at this; exact this
 have hb72 : Byt w (some ⟨g, off + 72, none⟩) 32 T := by have := Mur.byt_sub hb 72 104 32 rfl (by omega); rw [hT] at this; exact this
 have hx0_ := (E.getD 0 0).toNat_lt
 have hx1_ := (E.getD 1 0).toNat_lt
 have hx2_ := (E.getD 2 0).toNat_lt
 have hx3_ := (E.getD 3 0).toNat_lt
 have hx4_ := (E.getD 4 0).toNat_lt
 have hx5_ := (E.getD 5 0).toNat_lt
 have hx6_ := (E.getD 6 0).toNat_lt
 have hx7_ := (E.getD 7 0).toNat_lt
 refine calls_of_wp Tryz.func95 rfl ?_
 refine sR<|nW 0 2 (Mur.attC Mur.z32 Mur.z32 0 Mur.z32).toArray 35 fun W1 hb1 ch1 sz1 => rP 1 3 (vI 0)<|eN<|wp_seq<|sR<|rP 0 7 (.slice (some ⟨g, off, none⟩) 104 c)<|rP 1 8 (vI 104)<|nF 2 9 (104 : Int) (104 : Int)<|eN<|cF<|wp_skip<|nxt<|wp_seq<|?_
 refine dReg ([w.heap.size]) (by kernel_rfl) ?_
 intro W2 ch2 sz2
 have zz2 := ch2.size
 have sS1 : Chg ([w.heap.size]) W2 W2 := (Chg.refl _).more (by simp)
 refine dW 0 11 (pw w 0) sS1<|dV 1 12 (.slice (some ⟨w.heap.size, 0, none⟩) 32 32) rfl rfl (fun w' hw' => Mur.arr_slice 28 5 (.tmp 11) 32 rfl Tryz.underlying28 (by kernel_rfl) w.heap.size (by kernel_rfl)) sS1<|dW 2 13 (.slice (some ⟨g, off, none⟩) 104 c) sS1<|dV 3 14 (.slice (some ⟨g, off + 0, none⟩) 32 32) rfl rfl (fun w' hw' => Mur.run_cut3 22 (.tmp 13) none (.const (vI 32)) (.const (vI 32)) rfl 5 Tryz.underlying22 (by kernel_rfl) g off 104 c 0 32 32 32 (by kernel_rfl) (.inr ⟨rfl, rfl⟩) (by kernel_rfl) (by kernel_rfl) rfl rfl (by omega) (by omega)) sS1<|dO 4 ?_
 have kk2 := kA (zA ch1 : Chg [] w W1) ch2
 refine oEx (some 15) _ rfl rfl (by kernel_rfl) (Mur.copy_mid (.tmp 12) (.tmp 14) 22 22 rfl 5 Tryz.underlying22 (by kernel_rfl) w.heap.size 0 32 32 (by kernel_rfl) (some ⟨g, off + 0, none⟩) 32 32 (by kernel_rfl) 35 (Mur.attC Mur.z32 Mur.z32 0 Mur.z32) K (qT ch2 hb1) (Mur.byt_chg hb0 kk2 (fun g off e hl => trivial)) (by omega) (by omega) (by rw [Mur.attC_length rfl rfl rfl]; omega) _ (Mur.att_sp0 rfl hb0.1)) ?_
 rintro _ W3 ⟨rfl, hb2, ch3⟩
 have zz3 := ch3.size
 have sS2 := kC sS1 ch3
 refine aN sS2<|dN<|wp_seq<|?_
 refine dReg ([w.heap.size]) (by kernel_rfl) ?_
 intro W4 ch4 sz3
 have zz4 := ch4.size
 have sS3 : Chg ([w.heap.size]) W4 W4 := (Chg.refl _).more (by simp)
 refine dW 0 16 (pw w 32) sS3<|dV 1 17 (.slice (some ⟨w.heap.size, 32, none⟩) 32 32) rfl rfl (fun w' hw' => Mur.arr_slice_at 28 5 (.tmp 16) 32 rfl Tryz.underlying28 (by kernel_rfl) w.heap.size 32 (by kernel_rfl)) sS3<|dW 2 18 (.slice (some ⟨g, off, none⟩) 104 c) sS3<|dV 3 19 (.slice (some ⟨g, off + 32, none⟩) 32 32) rfl rfl (fun w' hw' => Mur.run_cut3 22 (.tmp 18) (some (.const (vI 32))) (.const (vI 64)) (.const (vI 64)) rfl 5 Tryz.underlying22 (by kernel_rfl) g off 104 c 32 64 64 32 (by kernel_rfl) (.inl (by kernel_rfl)) (by kernel_rfl) (by kernel_rfl) rfl rfl (by omega) (by omega)) sS3<|dO 4 ?_
 have kk4 := kA (kB kk2 ch3) ch4
 refine oEx (some 20) _ rfl rfl (by kernel_rfl) (Mur.copy_mid (.tmp 17) (.tmp 19) 22 22 rfl 5 Tryz.underlying22 (by kernel_rfl) w.heap.size 32 32 32 (by kernel_rfl) (some ⟨g, off + 32, none⟩) 32 32 (by kernel_rfl) 35 (Mur.attC K Mur.z32 0 Mur.z32) R (qT ch4 hb2) (Mur.byt_chg hb32 kk4 (fun g off e hl => trivial)) (by omega) (by omega) (by rw [Mur.attC_length hb0.1 rfl rfl]; omega) _ (Mur.att_sp32 hb0.1 rfl hb32.1)) ?_
 rintro _ W5 ⟨rfl, hb3, ch5⟩
 have zz5 := ch5.size
 have sS4 := kC sS3 ch5
 refine aN sS4<|dN<|sR<|rP 0 4 (vU 0)<|eN<|wp_seq<|sR<|rP 0 21 (.slice (some ⟨g, off, none⟩) 104 c)<|rq 1 22 (.slice (some ⟨g, off + 64, none⟩) 8 8) rfl (Mur.run_cut3 22 (.tmp 21) (some (.const (vI 64))) (.const (vI 72)) (.const (vI 72)) rfl 5 Tryz.underlying22 (by kernel_rfl) g off 104 c 64 72 72 8 (by kernel_rfl) (.inl (by kernel_rfl)) (by kernel_rfl) (by kernel_rfl) rfl rfl (by omega) (by omega))<|rP 2 23 (vI 8)<|rP 3 24 (vI 0)<|eN<|wp_block<|?_
 refine Wk.loopN 9 ?_
 refine Wk.rdS<|sR<|?_
 refine bT 0 25 ((0 : Int) < (8 : Int))<|eN<|wp_seq<|cT<|wp_skip<|nxt<|wp_seq<|wp_block<|sR<|rq 0 26 (pt g (off + 64 + 0 * 1)) rfl (iS 1 g (off + 64) 8 8 0) ?_
 have kk5 := kB kk4 ch5
 refine rq 1 27 _ rfl (ld 5 26 g (off + 64 + 0 * 1) (vB ((E.getD 0 0).toNat : Nat)) (Mur.byt_cell (Mur.byt_chg hb64 kk5 (fun g off e hl => trivial)) 0 (by omega)))<|rP 2 6 (vB ((E.getD 0 0).toNat : Nat))<|eN<|reg<|rP 0 28 (vU 0)<|rq 1 29 (vU (0 * 256 : Nat)) rfl (Mur.shl8_64 23 148 (.tmp 28) (.const (vU 8)) rfl 0 .u64 (by kernel_rfl) (by kernel_rfl) (by omega))<|rP 2 30 (vB ((E.getD 0 0).toNat : Nat))<|rq 3 31 (vU ((E.getD 0 0).toNat : Nat)) rfl (Mur.conv_int 5 23 (.tmp 30) rfl (by kernel_rfl) .u64 Tryz.underlying23 .u8 (((E.getD 0 0).toNat : Nat) : Int) (by kernel_rfl) (Mur.u64_nat (by omega)))<|rq 4 32 (vU (0 * 256 + (E.getD 0 0).toNat : Nat)) rfl (Mur.or64 23 23 (.tmp 29) (.tmp 31) rfl 0 (E.getD 0 0).toNat (by kernel_rfl) (by kernel_rfl) (by omega) (by omega))<|rP 5 4 (vU (0 * 256 + (E.getD 0 0).toNat : Nat))<|rE<|inN<|nxt<|reg<|rI 0 33 (0 + 1) (1)<|rP 1 24 (vI 1)<|eN<|Wk.rdS<|sR<|bT 0 25 ((1 : Int) < (8 : Int))<|eN<|wp_seq<|cT<|wp_skip<|nxt<|wp_seq<|wp_block<|sR<|rq 0 26 (pt g (off + 64 + 1 * 1)) rfl (iS 1 g (off + 64) 8 8 1)<|rq 1 27 _ rfl (ld 5 26 g (off + 64 + 1 * 1) (vB ((E.getD 1 0).toNat : Nat)) (Mur.byt_cell (Mur.byt_chg hb64 kk5 (fun g off e hl => trivial)) 1 (by omega)))<|rP 2 6 (vB ((E.getD 1 0).toNat : Nat))<|eN<|reg<|rP 0 28 (vU (0 * 256 + (E.getD 0 0).toNat : Nat))<|rq 1 29 (vU ((0 * 256 + (E.getD 0 0).toNat) * 256 : Nat)) rfl (Mur.shl8_64 23 148 (.tmp 28) (.const (vU 8)) rfl (0 * 256 + (E.getD 0 0).toNat) .u64 (by kernel_rfl) (by kernel_rfl) (by omega)) ?_
 refine rP 2 30 (vB ((E.getD 1 0).toNat : Nat))<|rq 3 31 (vU ((E.getD 1 0).toNat : Nat)) rfl (Mur.conv_int 5 23 (.tmp 30) rfl (by kernel_rfl) .u64 Tryz.underlying23 .u8 (((E.getD 1 0).toNat : Nat) : Int) (by kernel_rfl) (Mur.u64_nat (by omega)))<|rq 4 32 (vU ((0 * 256 + (E.getD 0 0).toNat) * 256 + (E.getD 1 0).toNat : Nat)) rfl (Mur.or64 23 23 (.tmp 29) (.tmp 31) rfl (0 * 256 + (E.getD 0 0).toNat) (E.getD 1 0).toNat (by kernel_rfl) (by kernel_rfl) (by omega) (by omega))<|rP 5 4 (vU ((0 * 256 + (E.getD 0 0).toNat) * 256 + (E.getD 1 0).toNat : Nat))<|rE<|inN<|nxt<|reg<|rI 0 33 (1 + 1) (2)<|rP 1 24 (vI 2)<|eN<|Wk.rdS<|sR<|bT 0 25 ((2 : Int) < (8 : Int))<|eN<|wp_seq<|cT<|wp_skip<|nxt<|wp_seq<|wp_block<|sR<|rq 0 26 (pt g (off + 64 + 2 * 1)) rfl (iS 1 g (off + 64) 8 8 2)<|rq 1 27 _ rfl (ld 5 26 g (off + 64 + 2 * 1) (vB ((E.getD 2 0).toNat : Nat)) (Mur.byt_cell (Mur.byt_chg hb64 kk5 (fun g off e hl => trivial)) 2 (by omega)))<|rP 2 6 (vB ((E.getD 2 0).toNat : Nat))<|eN<|reg<|rP 0 28 (vU ((0 * 256 + (E.getD 0 0).toNat) * 256 + (E.getD 1 0).toNat : Nat))<|rq 1 29 (vU (((0 * 256 + (E.getD 0 0).toNat) * 256 + (E.getD 1 0).toNat) * 256 : Nat)) rfl (Mur.shl8_64 23 148 (.tmp 28) (.const (vU 8)) rfl ((0 * 256 + (E.getD 0 0).toNat) * 256 + (E.getD 1 0).toNat) .u64 (by kernel_rfl) (by kernel_rfl) (by omega))<|rP 2 30 (vB ((E.getD 2 0).toNat : Nat))<|rq 3 31 (vU ((E.getD 2 0).toNat : Nat)) rfl (Mur.conv_int 5 23 (.tmp 30) rfl (by kernel_rfl) .u64 Tryz.underlying23 .u8 (((E.getD 2 0).toNat : Nat) : Int) (by kernel_rfl) (Mur.u64_nat (by omega))) ?_
 refine rq 4 32 (vU (((0 * 256 + (E.getD 0 0).toNat) * 256 + (E.getD 1 0).toNat) * 256 + (E.getD 2 0).toNat : Nat)) rfl (Mur.or64 23 23 (.tmp 29) (.tmp 31) rfl ((0 * 256 + (E.getD 0 0).toNat) * 256 + (E.getD 1 0).toNat) (E.getD 2 0).toNat (by kernel_rfl) (by kernel_rfl) (by omega) (by omega))<|rP 5 4 (vU (((0 * 256 + (E.getD 0 0).toNat) * 256 + (E.getD 1 0).toNat) * 256 + (E.getD 2 0).toNat : Nat))<|rE<|inN<|nxt<|reg<|rI 0 33 (2 + 1) (3)<|rP 1 24 (vI 3)<|eN<|Wk.rdS<|sR<|bT 0 25 ((3 : Int) < (8 : Int))<|eN<|wp_seq<|cT<|wp_skip<|nxt<|wp_seq<|wp_block<|sR<|rq 0 26 (pt g (off + 64 + 3 * 1)) rfl (iS 1 g (off + 64) 8 8 3)<|rq 1 27 _ rfl (ld 5 26 g (off + 64 + 3 * 1) (vB ((E.getD 3 0).toNat : Nat)) (Mur.byt_cell (Mur.byt_chg hb64 kk5 (fun g off e hl => trivial)) 3 (by omega)))<|rP 2 6 (vB ((E.getD 3 0).toNat : Nat))<|eN<|reg<|rP 0 28 (vU (((0 * 256 + (E.getD 0 0).toNat) * 256 + (E.getD 1 0).toNat) * 256 + (E.getD 2 0).toNat : Nat))<|rq 1 29 (vU ((((0 * 256 + (E.getD 0 0).toNat) * 256 + (E.getD 1 0).toNat) * 256 + (E.getD 2 0).toNat) * 256 : Nat)) rfl (Mur.shl8_64 23 148 (.tmp 28) (.const (vU 8)) rfl (((0 * 256 + (E.getD 0 0).toNat) * 256 + (E.getD 1 0).toNat) * 256 + (E.getD 2 0).toNat) .u64 (by kernel_rfl) (by kernel_rfl) (by omega))<|rP 2 30 (vB ((E.getD 3 0).toNat : Nat))<|rq 3 31 (vU ((E.getD 3 0).toNat : Nat)) rfl (Mur.conv_int 5 23 (.tmp 30) rfl (by kernel_rfl) .u64 Tryz.underlying23 .u8 (((E.getD 3 0).toNat : Nat) : Int) (by kernel_rfl) (Mur.u64_nat (by omega))) ?_
 refine rq 4 32 (vU ((((0 * 256 + (E.getD 0 0).toNat) * 256 + (E.getD 1 0).toNat) * 256 + (E.getD 2 0).toNat) * 256 + (E.getD 3 0).toNat : Nat)) rfl (Mur.or64 23 23 (.tmp 29) (.tmp 31) rfl (((0 * 256 + (E.getD 0 0).toNat) * 256 + (E.getD 1 0).toNat) * 256 + (E.getD 2 0).toNat) (E.getD 3 0).toNat (by kernel_rfl) (by kernel_rfl) (by omega) (by omega))<|rP 5 4 (vU ((((0 * 256 + (E.getD 0 0).toNat) * 256 + (E.getD 1 0).toNat) * 256 + (E.getD 2 0).toNat) * 256 + (E.getD 3 0).toNat : Nat))<|rE<|inN<|nxt<|reg<|rI 0 33 (3 + 1) (4)<|rP 1 24 (vI 4)<|eN<|Wk.rdS<|sR<|bT 0 25 ((4 : Int) < (8 : Int))<|eN<|wp_seq<|cT<|wp_skip<|nxt<|wp_seq<|wp_block<|sR<|rq 0 26 (pt g (off + 64 + 4 * 1)) rfl (iS 1 g (off + 64) 8 8 4)<|rq 1 27 _ rfl (ld 5 26 g (off + 64 + 4 * 1) (vB ((E.getD 4 0).toNat : Nat)) (Mur.byt_cell (Mur.byt_chg hb64 kk5 (fun g off e hl => trivial)) 4 (by omega)))<|rP 2 6 (vB ((E.getD 4 0).toNat : Nat))<|eN<|reg<|rP 0 28 (vU ((((0 * 256 + (E.getD 0 0).toNat) * 256 + (E.getD 1 0).toNat) * 256 + (E.getD 2 0).toNat) * 256 + (E.getD 3 0).toNat : Nat))<|rq 1 29 (vU (((((0 * 256 + (E.getD 0 0).toNat) * 256 + (E.getD 1 0).toNat) * 256 + (E.getD 2 0).toNat) * 256 + (E.getD 3 0).toNat) * 256 : Nat)) rfl (Mur.shl8_64 23 148 (.tmp 28) (.const (vU 8)) rfl ((((0 * 256 + (E.getD 0 0).toNat) * 256 + (E.getD 1 0).toNat) * 256 + (E.getD 2 0).toNat) * 256 + (E.getD 3 0).toNat) .u64 (by kernel_rfl) (by kernel_rfl) (by omega))<|rP 2 30 (vB ((E.getD 4 0).toNat : Nat)) ?_
 refine rq 3 31 (vU ((E.getD 4 0).toNat : Nat)) rfl (Mur.conv_int 5 23 (.tmp 30) rfl (by kernel_rfl) .u64 Tryz.underlying23 .u8 (((E.getD 4 0).toNat : Nat) : Int) (by kernel_rfl) (Mur.u64_nat (by omega)))<|rq 4 32 (vU (((((0 * 256 + (E.getD 0 0).toNat) * 256 + (E.getD 1 0).toNat) * 256 + (E.getD 2 0).toNat) * 256 + (E.getD 3 0).toNat) * 256 + (E.getD 4 0).toNat : Nat)) rfl (Mur.or64 23 23 (.tmp 29) (.tmp 31) rfl ((((0 * 256 + (E.getD 0 0).toNat) * 256 + (E.getD 1 0).toNat) * 256 + (E.getD 2 0).toNat) * 256 + (E.getD 3 0).toNat) (E.getD 4 0).toNat (by kernel_rfl) (by kernel_rfl) (by omega) (by omega))<|rP 5 4 (vU (((((0 * 256 + (E.getD 0 0).toNat) * 256 + (E.getD 1 0).toNat) * 256 + (E.getD 2 0).toNat) * 256 + (E.getD 3 0).toNat) * 256 + (E.getD 4 0).toNat : Nat))<|rE<|inN<|nxt<|reg<|rI 0 33 (4 + 1) (5)<|rP 1 24 (vI 5)<|eN<|Wk.rdS<|sR<|bT 0 25 ((5 : Int) < (8 : Int))<|eN<|wp_seq<|cT<|wp_skip<|nxt<|wp_seq<|wp_block<|sR<|rq 0 26 (pt g (off + 64 + 5 * 1)) rfl (iS 1 g (off + 64) 8 8 5)<|rq 1 27 _ rfl (ld 5 26 g (off + 64 + 5 * 1) (vB ((E.getD 5 0).toNat : Nat)) (Mur.byt_cell (Mur.byt_chg hb64 kk5 (fun g off e hl => trivial)) 5 (by omega)))<|rP 2 6 (vB ((E.getD 5 0).toNat : Nat))<|eN<|reg<|rP 0 28 (vU (((((0 * 256 + (E.getD 0 0).toNat) * 256 + (E.getD 1 0).toNat) * 256 + (E.getD 2 0).toNat) * 256 + (E.getD 3 0).toNat) * 256 + (E.getD 4 0).toNat : Nat))<|rq 1 29 (vU ((((((0 * 256 + (E.getD 0 0).toNat) * 256 + (E.getD 1 0).toNat) * 256 + (E.getD 2 0).toNat) * 256 + (E.getD 3 0).toNat) * 256 + (E.getD 4 0).toNat) * 256 : Nat)) rfl (Mur.shl8_64 23 148 (.tmp 28) (.const (vU 8)) rfl (((((0 * 256 + (E.getD 0 0).toNat) * 256 + (E.getD 1 0).toNat) * 256 + (E.getD 2 0).toNat) * 256 + (E.getD 3 0).toNat) * 256 + (E.getD 4 0).toNat) .u64 (by kernel_rfl) (by kernel_rfl) (by omega)) ?_
 refine rP 2 30 (vB ((E.getD 5 0).toNat : Nat))<|rq 3 31 (vU ((E.getD 5 0).toNat : Nat)) rfl (Mur.conv_int 5 23 (.tmp 30) rfl (by kernel_rfl) .u64 Tryz.underlying23 .u8 (((E.getD 5 0).toNat : Nat) : Int) (by kernel_rfl) (Mur.u64_nat (by omega)))<|rq 4 32 (vU ((((((0 * 256 + (E.getD 0 0).toNat) * 256 + (E.getD 1 0).toNat) * 256 + (E.getD 2 0).toNat) * 256 + (E.getD 3 0).toNat) * 256 + (E.getD 4 0).toNat) * 256 + (E.getD 5 0).toNat : Nat)) rfl (Mur.or64 23 23 (.tmp 29) (.tmp 31) rfl (((((0 * 256 + (E.getD 0 0).toNat) * 256 + (E.getD 1 0).toNat) * 256 + (E.getD 2 0).toNat) * 256 + (E.getD 3 0).toNat) * 256 + (E.getD 4 0).toNat) (E.getD 5 0).toNat (by kernel_rfl) (by kernel_rfl) (by omega) (by omega))<|rP 5 4 (vU ((((((0 * 256 + (E.getD 0 0).toNat) * 256 + (E.getD 1 0).toNat) * 256 + (E.getD 2 0).toNat) * 256 + (E.getD 3 0).toNat) * 256 + (E.getD 4 0).toNat) * 256 + (E.getD 5 0).toNat : Nat))<|rE<|inN<|nxt<|reg<|rI 0 33 (5 + 1) (6)<|rP 1 24 (vI 6)<|eN<|Wk.rdS<|sR<|bT 0 25 ((6 : Int) < (8 : Int))<|eN<|wp_seq<|cT<|wp_skip<|nxt<|wp_seq<|wp_block<|sR<|rq 0 26 (pt g (off + 64 + 6 * 1)) rfl (iS 1 g (off + 64) 8 8 6)<|rq 1 27 _ rfl (ld 5 26 g (off + 64 + 6 * 1) (vB ((E.getD 6 0).toNat : Nat)) (Mur.byt_cell (Mur.byt_chg hb64 kk5 (fun g off e hl => trivial)) 6 (by omega)))<|rP 2 6 (vB ((E.getD 6 0).toNat : Nat))<|eN<|reg<|rP 0 28 (vU ((((((0 * 256 + (E.getD 0 0).toNat) * 256 + (E.getD 1 0).toNat) * 256 + (E.getD 2 0).toNat) * 256 + (E.getD 3 0).toNat) * 256 + (E.getD 4 0).toNat) * 256 + (E.getD 5 0).toNat : Nat)) ?_
 refine rq 1 29 (vU (((((((0 * 256 + (E.getD 0 0).toNat) * 256 + (E.getD 1 0).toNat) * 256 + (E.getD 2 0).toNat) * 256 + (E.getD 3 0).toNat) * 256 + (E.getD 4 0).toNat) * 256 + (E.getD 5 0).toNat) * 256 : Nat)) rfl (Mur.shl8_64 23 148 (.tmp 28) (.const (vU 8)) rfl ((((((0 * 256 + (E.getD 0 0).toNat) * 256 + (E.getD 1 0).toNat) * 256 + (E.getD 2 0).toNat) * 256 + (E.getD 3 0).toNat) * 256 + (E.getD 4 0).toNat) * 256 + (E.getD 5 0).toNat) .u64 (by kernel_rfl) (by kernel_rfl) (by omega))<|rP 2 30 (vB ((E.getD 6 0).toNat : Nat))<|rq 3 31 (vU ((E.getD 6 0).toNat : Nat)) rfl (Mur.conv_int 5 23 (.tmp 30) rfl (by kernel_rfl) .u64 Tryz.underlying23 .u8 (((E.getD 6 0).toNat : Nat) : Int) (by kernel_rfl) (Mur.u64_nat (by omega)))<|rq 4 32 (vU (((((((0 * 256 + (E.getD 0 0).toNat) * 256 + (E.getD 1 0).toNat) * 256 + (E.getD 2 0).toNat) * 256 + (E.getD 3 0).toNat) * 256 + (E.getD 4 0).toNat) * 256 + (E.getD 5 0).toNat) * 256 + (E.getD 6 0).toNat : Nat)) rfl (Mur.or64 23 23 (.tmp 29) (.tmp 31) rfl ((((((0 * 256 + (E.getD 0 0).toNat) * 256 + (E.getD 1 0).toNat) * 256 + (E.getD 2 0).toNat) * 256 + (E.getD 3 0).toNat) * 256 + (E.getD 4 0).toNat) * 256 + (E.getD 5 0).toNat) (E.getD 6 0).toNat (by kernel_rfl) (by kernel_rfl) (by omega) (by omega))<|rP 5 4 (vU (((((((0 * 256 + (E.getD 0 0).toNat) * 256 + (E.getD 1 0).toNat) * 256 + (E.getD 2 0).toNat) * 256 + (E.getD 3 0).toNat) * 256 + (E.getD 4 0).toNat) * 256 + (E.getD 5 0).toNat) * 256 + (E.getD 6 0).toNat : Nat)) ?_
 refine rE<|inN<|nxt<|reg<|rI 0 33 (6 + 1) (7)<|rP 1 24 (vI 7)<|eN<|Wk.rdS<|sR<|bT 0 25 ((7 : Int) < (8 : Int))<|eN<|wp_seq<|cT<|wp_skip<|nxt<|wp_seq<|wp_block<|sR<|rq 0 26 (pt g (off + 64 + 7 * 1)) rfl (iS 1 g (off + 64) 8 8 7)<|rq 1 27 _ rfl (ld 5 26 g (off + 64 + 7 * 1) (vB ((E.getD 7 0).toNat : Nat)) (Mur.byt_cell (Mur.byt_chg hb64 kk5 (fun g off e hl => trivial)) 7 (by omega)))<|rP 2 6 (vB ((E.getD 7 0).toNat : Nat))<|eN<|reg<|rP 0 28 (vU (((((((0 * 256 + (E.getD 0 0).toNat) * 256 + (E.getD 1 0).toNat) * 256 + (E.getD 2 0).toNat) * 256 + (E.getD 3 0).toNat) * 256 + (E.getD 4 0).toNat) * 256 + (E.getD 5 0).toNat) * 256 + (E.getD 6 0).toNat : Nat))<|rq 1 29 (vU ((((((((0 * 256 + (E.getD 0 0).toNat) * 256 + (E.getD 1 0).toNat) * 256 + (E.getD 2 0).toNat) * 256 + (E.getD 3 0).toNat) * 256 + (E.getD 4 0).toNat) * 256 + (E.getD 5 0).toNat) * 256 + (E.getD 6 0).toNat) * 256 : Nat)) rfl (Mur.shl8_64 23 148 (.tmp 28) (.const (vU 8)) rfl (((((((0 * 256 + (E.getD 0 0).toNat) * 256 + (E.getD 1 0).toNat) * 256 + (E.getD 2 0).toNat) * 256 + (E.getD 3 0).toNat) * 256 + (E.getD 4 0).toNat) * 256 + (E.getD 5 0).toNat) * 256 + (E.getD 6 0).toNat) .u64 (by kernel_rfl) (by kernel_rfl) (by omega))<|rP 2 30 (vB ((E.getD 7 0).toNat : Nat))<|rq 3 31 (vU ((E.getD 7 0).toNat : Nat)) rfl (Mur.conv_int 5 23 (.tmp 30) rfl (by kernel_rfl) .u64 Tryz.underlying23 .u8 (((E.getD 7 0).toNat : Nat) : Int) (by kernel_rfl) (Mur.u64_nat (by omega)))<|rq 4 32 (vU ((((((((0 * 256 + (E.getD 0 0).toNat) * 256 + (E.getD 1 0).toNat) * 256 + (E.getD 2 0).toNat) * 256 + (E.getD 3 0).toNat) * 256 + (E.getD 4 0).toNat) * 256 + (E.getD 5 0).toNat) * 256 + (E.getD 6 0).toNat) * 256 + (E.getD 7 0).toNat : Nat)) rfl (Mur.or64 23 23 (.tmp 29) (.tmp 31) rfl (((((((0 * 256 + (E.getD 0 0).toNat) * 256 + (E.getD 1 0).toNat) * 256 + (E.getD 2 0).toNat) * 256 + (E.getD 3 0).toNat) * 256 + (E.getD 4 0).toNat) * 256 + (E.getD 5 0).toNat) * 256 + (E.getD 6 0).toNat) (E.getD 7 0).toNat (by kernel_rfl) (by kernel_rfl) (by omega) (by omega)) ?_
 refine rP 5 4 (vU ((((((((0 * 256 + (E.getD 0 0).toNat) * 256 + (E.getD 1 0).toNat) * 256 + (E.getD 2 0).toNat) * 256 + (E.getD 3 0).toNat) * 256 + (E.getD 4 0).toNat) * 256 + (E.getD 5 0).toNat) * 256 + (E.getD 6 0).toNat) * 256 + (E.getD 7 0).toNat : Nat))<|rE<|inN<|nxt<|reg<|rI 0 33 (7 + 1) (8)<|rP 1 24 (vI 8)<|eN<|Wk.rdS<|sR<|bF 0 25 ((8 : Int) < (8 : Int))<|eN<|wp_seq<|cF<|xX<|nxt<|wp_seq<|sR<|rq 0 34 (vU V) rfl (Wk.val (v := vU ((((((((0 * 256 + (E.getD 0 0).toNat) * 256 + (E.getD 1 0).toNat) * 256 + (E.getD 2 0).toNat) * 256 + (E.getD 3 0).toNat) * 256 + (E.getD 4 0).toNat) * 256 + (E.getD 5 0).toNat) * 256 + (E.getD 6 0).toNat) * 256 + (E.getD 7 0).toNat : Nat)) (congrArg (fun z : Nat => Value.int .u64 (z : Int)) hV) (by kernel_rfl)) ?_
 by_cases hx1 : (V : Int) < (1 : Int)
 ·refine bT 1 35 ((V : Int) < (1 : Int))<|rP 2 36 vT<|rZ 3 37<|rZ 4 38<|rP 5 39 vT<|eN<|cT<|sR<|rP 0 40 (.agg ((Mur.attC Mur.z32 Mur.z32 0 Mur.z32).toArray))<|rU 1 rfl (sB (Mur.attC Mur.z32 Mur.z32 0 Mur.z32).toArray (Mur.attC_size rfl rfl rfl) Mur.attC_all hb3 (Mur.attC_size hb0.1 hb32.1 rfl)) fun W6 hb4 ch6 zz6 => rP 2 3 (vI 5)<|eN<|tR<|?_
  exfalso; omega
 refine bF 1 35 ((V : Int) < (1 : Int))<|rP 2 36 vF<|rq 3 37 (vU V) rfl (Wk.val (v := vU ((((((((0 * 256 + (E.getD 0 0).toNat) * 256 + (E.getD 1 0).toNat) * 256 + (E.getD 2 0).toNat) * 256 + (E.getD 3 0).toNat) * 256 + (E.getD 4 0).toNat) * 256 + (E.getD 5 0).toNat) * 256 + (E.getD 6 0).toNat) * 256 + (E.getD 7 0).toNat : Nat)) (congrArg (fun z : Nat => Value.int .u64 (z : Int)) hV) (by kernel_rfl)) ?_
 by_cases hx2 : (V : Int) > (5000 : Int)
 ·refine bT 4 38 ((V : Int) > (5000 : Int))<|rP 5 39 vT<|eN<|cT<|sR<|rP 0 40 (.agg ((Mur.attC Mur.z32 Mur.z32 0 Mur.z32).toArray))<|rU 1 rfl (sB (Mur.attC Mur.z32 Mur.z32 0 Mur.z32).toArray (Mur.attC_size rfl rfl rfl) Mur.attC_all hb3 (Mur.attC_size hb0.1 hb32.1 rfl)) fun W7 hb5 ch7 zz7 => rP 2 3 (vI 5)<|eN<|tR<|?_
  exfalso; omega
 refine bF 4 38 ((V : Int) > (5000 : Int))<|rP 5 39 vF<|eN<|cF<|wp_skip<|nxt<|sR<|rq 0 41 (vU V) rfl (Wk.val (v := vU ((((((((0 * 256 + (E.getD 0 0).toNat) * 256 + (E.getD 1 0).toNat) * 256 + (E.getD 2 0).toNat) * 256 + (E.getD 3 0).toNat) * 256 + (E.getD 4 0).toNat) * 256 + (E.getD 5 0).toNat) * 256 + (E.getD 6 0).toNat) * 256 + (E.getD 7 0).toNat : Nat)) (congrArg (fun z : Nat => Value.int .u64 (z : Int)) hV) (by kernel_rfl))<|rq 1 42 (vI V) rfl (Mur.conv_int 23 3 (.tmp 41) rfl (by kernel_rfl) .i64 Tryz.underlying3 .u64 (V : Int) (by kernel_rfl) (Mur.i64_nat (by omega)))<|rP 2 43 (pw w 64)<|rU 3 rfl (Mur.store_len 3 (.tmp 43) (.tmp 42) rfl (by kernel_rfl) w.heap.size (by kernel_rfl) (V : Int) (by kernel_rfl) 35 K R Mur.z32 0 hb0.1 hb32.1 rfl hb3) fun W8 hb6 ch8 zz8 => eN<|wp_seq<|?_
 refine dReg ([w.heap.size]) (by kernel_rfl) ?_
 intro W9 ch9 sz4
 have zz9 := ch9.size
 have sS5 : Chg ([w.heap.size]) W9 W9 := (Chg.refl _).more (by simp)
 refine dW 0 44 (pw w 65) sS5<|dV 1 45 (.slice (some ⟨w.heap.size, 65, none⟩) 32 32) rfl rfl (fun w' hw' => Mur.arr_slice_at 28 5 (.tmp 44) 32 rfl Tryz.underlying28 (by kernel_rfl) w.heap.size 65 (by kernel_rfl)) sS5<|dW 2 46 (.slice (some ⟨g, off, none⟩) 104 c) sS5<|dV 3 47 (.slice (some ⟨g, off + 72, none⟩) 32 (c - 72)) rfl rfl (fun w' hw' => Mur.run_from_at 22 (.tmp 46) (.const (vI 72)) rfl 5 Tryz.underlying22 (by kernel_rfl) g off 104 c 72 32 (by kernel_rfl) (by kernel_rfl) (by omega) (by omega) rfl) sS5<|dO 4 ?_
 have kk7 := kA (kB kk5 ch8) ch9
 refine oEx (some 48) _ rfl rfl (by kernel_rfl) (Mur.copy_mid (.tmp 45) (.tmp 47) 22 22 rfl 5 Tryz.underlying22 (by kernel_rfl) w.heap.size 65 32 32 (by kernel_rfl) (some ⟨g, off + 72, none⟩) 32 (c - 72) (by kernel_rfl) 35 (Mur.attC K R (V : Int) Mur.z32) T (qT ch9 hb6) (Mur.byt_chg hb72 kk7 (fun g off e hl => trivial)) (by omega) (by omega) (by rw [Mur.attC_length hb0.1 hb32.1 rfl]; omega) _ (Mur.att_sp65 hb0.1 hb32.1 rfl hb72.1)) ?_
 rintro _ W10 ⟨rfl, hb7, ch10⟩
 have zz10 := ch10.size
 have sS6 := kC sS5 ch10
 exact aN sS6<|dN<|sR<|rq 0 49 _ rfl (lA hb7 (Mur.attC_size hb0.1 hb32.1 hb72.1))<|rU 1 rfl (sB (Mur.attC K R (V : Int) T).toArray (Mur.attC_size hb0.1 hb32.1 hb72.1) Mur.attC_all hb7 (Mur.attC_size hb0.1 hb32.1 hb72.1)) fun W11 hb8 ch11 zz11 => rP 2 3 (vI 0)<|eN<|wp_ret<|Wk.ret (.tuple #[.agg (Mur.attC K R (V : Int) T).toArray, vI 0]) rfl (results_att rfl _ _ w.heap.size (Mur.attC K R (V : Int) T).toArray (0, 0) (vI 0) (by kernel_rfl) hb8 (Mur.attC_size hb0.1 hb32.1 hb72.1) (by kernel_rfl)) ⟨rfl, (kB (kB kk7 ch10) ch11)⟩
end Go.Proofs.YtgbadghjnpbiaaaGreatDoor
namespace Go.Proofs.YtgbadghjnpbiaaaGreatDoor
open Go.RowKit Wk
open Mur (b8s Byt Own8 Seg Segs flat cutA attC)
set_option maxRecDepth 100000
set_option maxHeartbeats 4000000
theorem Bytes_ok (k r t : List UInt8) (n : Int) (hk : k.length = 32) (hr : r.length = 32) (ht : t.length = 32) (w : World) (hm : Mur.may n) : Calls Tryz.prog 23 #[.agg (attC k r n t).toArray] w fun e w' => ∃ q cq B, Hid (B = Mur.rawL k r n t) ∧ e = .returned (.tuple #[.slice (some ⟨q, 0, none⟩) 104 cq, vI 0]) ∧ Byt w' (some ⟨q, 0, none⟩) 104 B ∧ (w.heap.size ≤ q ∧ q < w'.heap.size) ∧ (104 ≤ cq ∧ cq ≤ 9223372036854775807) ∧ Chg [] w w' := by
 refine calls_of_wp Tryz.func23 rfl ?_
 refine sR<|nW 0 1 ((Mur.attC k r n t).toArray) 35 fun W1 hb1 ch1 sz1 => rP 1 2 (.slice none 0 0)<|rP 2 3 (vI 0)<|eN<|wp_seq<|sR<|rq 0 4 _ rfl (lA hb1 (Mur.attC_size hk hr ht))<|rK 1 5 (may_any k r t n hk hr ht W1) ?_
 rw [decide_eq_true (hm : Mur.may n)]
 rintro _ W2 ⟨rfl, ch2⟩
 have zz2 := ch2.size
 refine rP 2 6 vF<|eN<|cF<|wp_skip<|nxt<|sR<|rq 0 7 _ rfl (lA (qT ch2 hb1) (Mur.attC_size hk hr ht))<|rK 1 8 (raw_any k r t n hk hr ht W2) ?_
 rintro _ W3 ⟨qr1, cr1, RB1, hRB1, rfl, hbr1, hq1, hq2, ch3⟩
 have zz3 := ch3.size
 have hBt1 : ∀ g off, (some ⟨qr1, 0, none⟩ : Option Addr) = some ⟨g, off, none⟩ → W2.heap.size ≤ g ∧ g < W3.heap.size := fun g off e => by cases e; exact hq1
 exact rP 2 2 (.slice (some ⟨qr1, 0, none⟩) 104 cr1)<|rP 3 3 (vI 0)<|eN<|wp_ret<|rt (.tuple #[.slice (some ⟨qr1, 0, none⟩) 104 cr1, vI 0]) ⟨_, _, _, hRB1, rfl, hbr1, ⟨by omega, by omega⟩, ⟨by omega, by omega⟩, (kA (kA (zA ch1 : Chg [] w W1) ch2) ch3)⟩
theorem Bytes_no (k r t : List UInt8) (n : Int) (hk : k.length = 32) (hr : r.length = 32) (ht : t.length = 32) (w : World) (hm : ¬ Mur.may n) : Calls Tryz.prog 23 #[.agg (attC k r n t).toArray] w fun e w' => e = .returned (.tuple #[.slice none 0 0, vI 2]) ∧ Chg [] w w' := by
 refine calls_of_wp Tryz.func23 rfl ?_
 refine sR<|nW 0 1 ((Mur.attC k r n t).toArray) 35 fun W1 hb1 ch1 sz1 => rP 1 2 (.slice none 0 0)<|rP 2 3 (vI 0)<|eN<|wp_seq<|sR<|rq 0 4 _ rfl (lA hb1 (Mur.attC_size hk hr ht))<|rK 1 5 (may_any k r t n hk hr ht W1) ?_
 rw [decide_eq_false (hm : ¬ Mur.may n)]
 rintro _ W2 ⟨rfl, ch2⟩
 have zz2 := ch2.size
 exact rP 2 6 vT<|eN<|cT<|sR<|rP 0 2 (.slice none 0 0)<|rP 1 3 (vI 2)<|eN<|tR<|rt (.tuple #[.slice none 0 0, vI 2]) ⟨rfl, (kA (zA ch1 : Chg [] w W1) ch2)⟩
end Go.Proofs.YtgbadghjnpbiaaaGreatDoor
namespace Go.Proofs.YtgbadghjnpbiaaaGreatDoor
open Go.RowKit Wk
open Mur (b8s Byt Own8 Seg Segs flat cutA attC Att SlA OwnA rowA msgC newOr_iff u64n)
set_option maxRecDepth 100000
set_option maxHeartbeats 4000000
theorem Wdigest_any (g base : Nat) (A : Option Addr) (n c : Nat) (b : List UInt8) (x : List UInt8) (w : World) (hg : w.heap[g]? = some (.cells #[.slice A n c] 79 (0, 0))) (hbs : g < base ∧ base ≤ w.heap.size) (ho : Own8 w base 5 A n c b) (hn : n ≤ 3000000) (hx : x.length = 32) : Calls Tryz.prog 46 #[pt g 0, .agg (b8s x).toArray] w fun e w' => ∃ A1 n1 c1, e = .returned (.tuple #[]) ∧ w'.heap[g]? = some (.cells #[.slice A1 n1 c1] 79 (0, 0)) ∧ Own8 w' base 5 A1 n1 c1 (b ++ x) ∧ n1 ≤ n + 32 ∧ Chg ([g] ++ Wk.blk (.slice A n c)) w w' := by
 have hgl_ := (Array.getElem?_eq_some_iff.1 hg).1
 have hon_ := ho.nc
 have hoc_ := ho.cm
 have hol_ := ho.byt.1
 have hn_ := hn
 have hbs_ := hbs
 have holt_ := ho.lt
 refine calls_of_wp Tryz.func46 rfl ?_
 refine sR<|nW 0 3 ((b8s x).toArray) 28 fun W1 hb1 ch1 sz1 => eN<|?_
 refine dReg (([g] ++ Wk.blk (.slice A n c))) (by kernel_rfl) ?_
 intro W2 ch2 sz2
 have zz2 := ch2.size
 have sS1 : Chg (([g] ++ Wk.blk (.slice A n c))) W2 W2 := (Chg.refl _).more (by simp)
 refine dW 0 4 (pt g 0) sS1<|dW 1 5 (pt g 0) sS1<|dW 2 6 (pt g 0) sS1<|dW 3 7 (pt g 0) sS1<|dV 5 9 (.slice (some ⟨w.heap.size, 0, none⟩) 32 32) rfl rfl (fun w' hw' => Mur.arr_slice 28 5 (.tmp 3) 32 rfl Tryz.underlying28 (by kernel_rfl) w.heap.size (by kernel_rfl)) sS1<|dO 4 ?_
 refine Wk.oVal (some 8) (.slice A n c) rfl rfl (by kernel_rfl) (ld 22 7 g 0 (.slice A n c) ((cell_of_row _ _ 0 _ _ _ (qT ch2 (qT ch1 hg))).trans rfl)) ?_
 refine aN sS1<|dO 6<|oEx (some 10) _ rfl rfl (by kernel_rfl) (ap8 32 32 (oA (oA ho ch1) ch2).own (Mur.byt_blk x hx (qT ch2 hb1)) (fun h => by cases h) (n + 32) (b ++ x)) ?_
 rintro _ W3 ⟨AA1, nn1, rfl, ow3, ch3, ha1⟩
 have zz3 := ch3.size
 have hq1 := ow3.nc
 have hq2 := ow3.cm
 have sS2 := Chg.step sS1 ch3 (newOr_iff.2 (fun t ht => .inl (List.mem_append_right _ ht)))
 refine aN sS2<|dW 7 11 (pt g 0) sS2<|dW 8 12 (pt g 0) sS2<|dO 9<|oU rfl (sW 0 (.slice AA1 (n + 32) nn1) (Chg.hp ch3 (qT ch2 (qT ch1 hg)) (off_blk (fun gz hgz => by have := ho.lt gz hgz; omega)))) fun W4 hb2 ch4 _ => ?_
 replace hb2 : W4.heap[g]? = some (.cells #[.slice AA1 (n + 32) nn1] 79 (0, 0)) := hb2
 have zz4 := ch4.size
 have sS3 := kC sS2 ch4
 exact aN sS3<|dE<|Wk.retN (.tuple #[]) rfl (by kernel_rfl) ⟨AA1, n + 32, nn1, rfl, hb2, (oB ow3 ch4 ow3.lt), by omega, (kC (Chg.step (kA (zA ch1 : Chg ([g] ++ Wk.blk (.slice A n c)) (w) W1) ch2) ch3 (newOr_iff.2 (fun t ht => .inl (List.mem_append_right _ ht)))) ch4)⟩
theorem Wattest_any (g base : Nat) (A : Option Addr) (n c : Nat) (b : List UInt8) (x : Att) (w : World) (hg : w.heap[g]? = some (.cells #[.slice A n c] 79 (0, 0))) (hbs : g < base ∧ base ≤ w.heap.size) (ho : Own8 w base 5 A n c b) (hn : n ≤ 3000000) (hm : Mur.may x.n) : Calls Tryz.prog 48 #[pt g 0, .agg (attC x.k x.r x.n x.t).toArray] w fun e w' => ∃ A1 n1 c1, e = .returned (.tuple #[]) ∧ w'.heap[g]? = some (.cells #[.slice A1 n1 c1] 79 (0, 0)) ∧ Own8 w' base 5 A1 n1 c1 (b ++ x.raw) ∧ n1 ≤ n + 104 ∧ Chg ([g] ++ Wk.blk (.slice A n c)) w w' := by
 have hgl_ := (Array.getElem?_eq_some_iff.1 hg).1
 have hon_ := ho.nc
 have hoc_ := ho.cm
 have hol_ := ho.byt.1
 have hn_ := hn
 have hbs_ := hbs
 have holt_ := ho.lt
 refine calls_of_wp Tryz.func48 rfl ?_
 refine sR<|nW 0 3 ((Mur.attC x.k x.r x.n x.t).toArray) 35 fun W1 hb1 ch1 sz1 => eN<|sR<|rq 0 7 _ rfl (lA hb1 (Mur.attC_size x.hk x.hr x.ht))<|rK 1 8 (Bytes_ok x.k x.r x.t x.n x.hk x.hr x.ht W1 hm) ?_
 rintro _ W2 ⟨qr1, cr1, RB1, hRB1, rfl, hbr1, hq1, hq2, ch2⟩
 have zz2 := ch2.size
 have hBt1 : ∀ g off, (some ⟨qr1, 0, none⟩ : Option Addr) = some ⟨g, off, none⟩ → W1.heap.size ≤ g ∧ g < W2.heap.size := fun g off e => by cases e; exact hq1
 refine rP 2 6 (.tuple #[.slice (some ⟨qr1, 0, none⟩) 104 cr1, vI 0])<|rP 3 9 (.slice (some ⟨qr1, 0, none⟩) 104 cr1)<|rP 4 10 (vI 0)<|rP 5 4 (.slice (some ⟨qr1, 0, none⟩) 104 cr1)<|rP 6 5 (vI 0)<|eN<|reg<|rP 0 11 (pt g 0)<|rP 1 12 (pt g 0)<|rP 2 13 (pt g 0)<|rP 3 14 (pt g 0)<|rL 4 15 0 (.slice A n c) (qT ch2 (qT ch1 hg))<|rP 5 16 (.slice (some ⟨qr1, 0, none⟩) 104 cr1)<|rX 6 17 rfl rfl (ap8 104 cr1 (oA (oA ho ch1) ch2).own hbr1 (fun h => by cases h) (n + 104) (b ++ RB1)) ?_
 rintro _ W3 ⟨AA1, nn1, rfl, ow3, ch3, ha1⟩
 have zz3 := ch3.size
 have hq3 := ow3.nc
 have hq4 := ow3.cm
 refine rP 7 18 (pt g 0)<|rP 8 19 (pt g 0)<|rU 9 rfl (sW 0 (.slice AA1 (n + 104) nn1) (Chg.hp ch3 (qT ch2 (qT ch1 hg)) (off_blk (fun gz hgz => by have := ho.lt gz hgz; omega)))) fun W4 hb2 ch4 _ => ?_
 replace hb2 : W4.heap[g]? = some (.cells #[.slice AA1 (n + 104) nn1] 79 (0, 0)) := hb2
 have zz4 := ch4.size
 refine rE<|?_
 have hH_ := (oB ow3 ch4 ow3.lt)
 rw [hRB1.out] at hH_
 exact Wk.retN (.tuple #[]) rfl (by kernel_rfl) ⟨AA1, n + 104, nn1, rfl, hb2, hH_, by omega, (kC (Chg.step (kA (zA ch1 : Chg ([g] ++ Wk.blk (.slice A n c)) (w) W1) ch2) ch3 (newOr_iff.2 (fun t ht => .inl (List.mem_append_right _ ht)))) ch4)⟩
theorem Wupdate_any (g base : Nat) (A : Option Addr) (n c : Nat) (b : List UInt8) (u : Int × UInt8 × Nat) (w : World) (hg : w.heap[g]? = some (.cells #[.slice A n c] 79 (0, 0))) (hbs : g < base ∧ base ≤ w.heap.size) (ho : Own8 w base 5 A n c b) (hn : n ≤ 3000000) (hu : u.2.2 < 18446744073709551616) : Calls Tryz.prog 44 #[pt g 0, .agg (Mur.updC u).toArray] w fun e w' => ∃ A1 n1 c1, e = .returned (.tuple #[]) ∧ w'.heap[g]? = some (.cells #[.slice A1 n1 c1] 79 (0, 0)) ∧ Own8 w' w.heap.size 5 A1 n1 c1 (b ++ Mur.enc3 u) ∧ n1 ≤ n + 27 ∧ Chg [g] w w' := by
 have hgl_ := (Array.getElem?_eq_some_iff.1 hg).1
 have hon_ := ho.nc
 have hoc_ := ho.cm
 have hol_ := ho.byt.1
 have hn_ := hn
 have hbs_ := hbs
 have holt_ := ho.lt
 refine calls_of_wp Tryz.func44 rfl ?_
 have hu8_ := u.2.1.toNat_lt
 refine sR<|nW 0 3 #[vI u.1, vB u.2.1.toNat, vU u.2.2] 61 fun W1 hb1 ch1 sz1 => eN<|reg<|rP 0 4 (pt g 0)<|rP 1 5 (pw w 0)<|rL 2 6 0 (vI u.1) hb1<|rq 3 7 (vU (u64n u.1 : Nat)) rfl (Mur.conv_u64n 3 23 (.tmp 6) rfl (by kernel_rfl) Tryz.underlying23 .i64 u.1 (by kernel_rfl))<|rP 4 8 (pw w 1)<|rL 5 9 1 (vB u.2.1.toNat) hb1<|rq 6 10 (vU u.2.1.toNat) rfl (Mur.conv_int 5 23 (.tmp 9) rfl (by kernel_rfl) .u64 Tryz.underlying23 .u8 (u.2.1.toNat : Int) (by kernel_rfl) (Mur.u64_nat (n := u.2.1.toNat) (by omega)))<|rP 7 11 (pw w 2)<|rL 8 12 2 (vU u.2.2) hb1<|nS 9 13 3 #[vU (u64n u.1 : Nat), vU u.2.1.toNat, vU u.2.2] 23 fun W2 hb2 ch2 sz2 => rK 10 14 (Wuint3_any g base A n c b W1.heap.size (u64n u.1) u.2.1.toNat u.2.2 W2 (qT ch2 (qT ch1 hg)) ⟨by omega, by omega⟩ (oA (oA ho ch1) ch2) (by omega) hb2 (by omega) (Mur.u64n_lt _) (by omega) hu) ?_
 rintro _ W3 ⟨AA1, nn1, cc1, rfl, hgw1, ow3, hle1, ch3⟩
 have zz3 := ch3.size
 have hq1 := ow3.nc
 have hq2 := ow3.cm
 have hq3 := ow3.byt.1
 refine rE<|?_
 have hH_ := ow3
 rw [List.append_assoc, List.append_assoc] at hH_; rw [show Mur.enc3 u = _ from List.append_assoc _ _ _]
 exact Wk.retN (.tuple #[]) rfl (by kernel_rfl) ⟨AA1, nn1, cc1, rfl, hgw1, Mur.own8_low hH_ (by omega), by omega, (kC (kA (zA ch1 : Chg [g] (w) W1) ch2) ch3)⟩
end Go.Proofs.YtgbadghjnpbiaaaGreatDoor
namespace Wk
open Go Go.RowKit
section
variable {P : Program} {w : World} {a : Act} {o : Oper}
theorem run_callm (c : Operand) (f : FuncId) (fst : Array Value) (xs : List Operand) (ts : Array TypeId) (vals : List Value) (ho : o.op = .call { callee := .value c, args := xs.toArray, argTypes := ts }) (hc : a.eval c = .func (.func f) fst #[]) (hv : xs.map a.eval = vals)
  (hrun : (callFunc f (fst ++ vals.toArray)).run P w = .ok (.enter f (fst ++ vals.toArray)) w) : (execOp a.eval o).run P w = .ok (.enter f (fst ++ vals.toArray)) w := by
 obtain ⟨dst, op, ty, pos, after, guard⟩ := o
 simp only at ho
 subst ho
 unfold execOp
 simp only [resolve, hc]
 simp [go_sem, invoke, hv, hrun]
end
section
variable {P : Program} {ops : Array Oper} {Q : Exit → Act → World → Prop} {a : Act} {w : World} {o : Oper}
theorem rCallM (i : Nat) (d : Option Tmp) (c : Operand) (f : FuncId) (fst : Array Value) (xs : List Operand) (ts : Array TypeId) (vals : List Value) (hi : ops[i]? = some o) (hd : o.dst = d) (hw : Region.wanted o (yielded ops a.tmps) = true)
  (ho : o.op = .call { callee := .value c, args := xs.toArray, argTypes := ts }) (hc : a.eval c = .func (.func f) fst #[]) (hv : xs.map a.eval = vals) (hrun : (callFunc f (fst ++ vals.toArray)).run P w = .ok (.enter f (fst ++ vals.toArray)) w)
  (hq : Calls P f (fst ++ vals.toArray) w fun e w' => ∃ v, e = .returned v ∧ From P ops Q (i + 1) (a.put d v) w') : From P ops Q i a w := by
 subst hd
 refine from_step hi ?_
 unfold wpOp
 simp only [hi]
 rw [if_pos hw]
 refine .inl ?_
 unfold Oper.wp
 rw [run_callm c f fst xs ts vals ho hc hv hrun, Oper.upon_enter]
 refine hq.mono ?_
 rintro e w' ⟨v, rfl, h1⟩
 exact h1
end
end Wk
namespace Wk
open Go Go.RowKit
def nf (n : Nat) (kn : List (Nat × Value)) (b : Array Value) : Act := ⟨((List.range n).map fun j => (kn.lookup j).getD (b.getD j undef)).toArray, []⟩
structure Agree (n : Nat) (kn : List (Nat × Value)) (a : Act) : Prop where
 size : a.tmps.size = n
 defers : a.defers = []
 at_ : ∀ d v, kn.lookup d = some v → a.tmps[d]? = some v
theorem Agree.nf {n : Nat} {kn : List (Nat × Value)} {a : Act} (h : Agree n kn a) : a = nf n kn a.tmps := by
 obtain ⟨t, df⟩ := a
 obtain ⟨h1, h2, h3⟩ := h
 simp only at h1 h2 h3
 subst h2
 unfold Wk.nf
 congr 1
 apply Array.ext
 ·simp [h1]
 ·intro i hi hi2
  have hin : i < n := by omega
  simp only [List.getElem_toArray, List.getElem_map, List.getElem_range]
  cases hl : kn.lookup i with
  | none => simp [Array.getD, hi]
  | some v =>
   have := h3 i v hl
   rw [Array.getElem?_eq_getElem hi] at this
   exact Option.some.inj this
theorem lookup_of {α : Type} : ∀ {kn : List (Nat × α)} {d : Nat} {v : α}, kn.lookup d = some v → (d, v) ∈ kn
 | [], _, _, h => by cases h
 | (e, u) :: kn, d, v, h => by
  rw [List.lookup_cons] at h
  by_cases hd : d = e
  ·subst hd
   simp at h
   subst h
   exact List.mem_cons_self
  ·have : (d == e) = false := by simpa using hd
   rw [this] at h
   exact List.mem_cons_of_mem _ (lookup_of h)
theorem Agree.of {n : Nat} {kn : List (Nat × Value)} {a : Act} (h1 : a.tmps.size = n) (h2 : a.defers = []) (h3 : (kn.map fun p => a.tmps[p.1]?) = kn.map fun p => some p.2) : Agree n kn a := ⟨h1, h2, fun d v h => by
 have hm := lookup_of h
 have := List.map_inj_left.1 h3 (d, v) hm
 exact this⟩
theorem norm {P : Program} {ops : Array Oper} {Q : Exit → Act → World → Prop} {i : Nat} {a : Act} {w : World} (n : Nat) (kn : List (Nat × Value)) (h1 : a.tmps.size = n) (h2 : a.defers = []) (h3 : (kn.map fun p => a.tmps[p.1]?) = kn.map fun p => some p.2) (hF : ∀ b, From P ops Q i (nf n kn b) w) : From P ops Q i a w := by
 rw [(Agree.of h1 h2 h3).nf]
 exact hF _
-- many operations passed over, by what is known of few slots
def kget (kn : List (Nat × Value)) : Operand → Option Value
 | .tmp d => kn.lookup d
 | .const v => some v
 | _ => none
def kskip (ops : Array Oper) (kn : List (Nat × Value)) (o : Oper) : Option Bool :=
 match o.guard with
 | none => some false
 | some (j, b) => match (ops[j]?).bind (·.dst) with
  | none => none
  | some d => match kn.lookup d with
   | some v => some (match v with | .bool c => c != b | _ => true)
   | none => none
def kset (n : Nat) (kn : List (Nat × Value)) (d : Option Tmp) (v : Value) : Option (List (Nat × Value)) :=
 match d with
 | none => some kn
 | some d => if d < n then some ((d, v) :: kn) else none
def kstep (n : Nat) (ops : Array Oper) (i : Nat) (kn : List (Nat × Value)) : Option (List (Nat × Value)) :=
 match ops[i]? with
 | none => none
 | some o => match kskip ops kn o with
  | none => none
  | some true => kset n kn o.dst undef
  | some false => match o.op with
   | .move x => (kget kn x).bind fun v => kset n kn o.dst v
   | .pick c x y => match kget kn c with
    | some (.bool true) => (kget kn x).bind fun v => kset n kn o.dst v
    | some (.bool false) => (kget kn y).bind fun v => kset n kn o.dst v
    | _ => none
   | _ => none
def kmany (n : Nat) (ops : Array Oper) : Nat → Nat → List (Nat × Value) → Option (List (Nat × Value))
 | 0, _, kn => some kn
 | k + 1, i, kn => (kstep n ops i kn).bind fun kn' => kmany n ops k (i + 1) kn'
theorem kget_eval {n : Nat} {kn : List (Nat × Value)} {a : Act} (h : Agree n kn a) {x : Operand} {v : Value} (hx : kget kn x = some v) : a.eval x = v := by
 cases x with
 | tmp d =>
  have := h.at_ d v hx
  show a.tmps.getD d undef = v
  rw [Array.getD_eq_getD_getElem?, this]
  rfl
 | const u =>
  cases hx
  rfl
 | _ => cases hx
theorem kset_agree {n : Nat} {kn kn' : List (Nat × Value)} {a : Act} (h : Agree n kn a) {d : Option Tmp} {v : Value} (hs : kset n kn d v = some kn') : Agree n kn' (a.put d v) := by
 unfold kset at hs
 cases d with
 | none =>
  cases hs
  exact h
 | some d =>
  simp only at hs
  split at hs
  ·rename_i hd
   cases hs
   refine ⟨?_, h.defers, fun e u he => ?_⟩
   ·show (a.tmps.setIfInBounds d v).size = n
    rw [Array.size_setIfInBounds, h.size]
   ·show (a.tmps.setIfInBounds d v)[e]? = some u
    rw [List.lookup_cons] at he
    by_cases hde : e = d
    ·subst hde
     simp at he
     subst he
     rw [Array.getElem?_setIfInBounds, if_pos rfl, if_pos (by rw [h.size]; exact hd)]
    ·have : (e == d) = false := by simpa using hde
     rw [this] at he
     rw [Array.getElem?_setIfInBounds, if_neg (fun q => hde q.symm)]
     exact h.at_ e u he
  ·cases hs
theorem kskip_wanted {n : Nat} {ops : Array Oper} {kn : List (Nat × Value)} {a : Act} (h : Agree n kn a) {o : Oper} {t : Bool} (hk : kskip ops kn o = some t) : Region.wanted o (yielded ops a.tmps) = !t := by
 unfold kskip at hk
 unfold Region.wanted
 cases hg : o.guard with
 | none =>
  rw [hg] at hk
  cases hk
  rfl
 | some g =>
  obtain ⟨j, b⟩ := g
  rw [hg] at hk
  simp only at hk ⊢
  unfold yielded
  cases hd : (ops[j]?).bind (·.dst) with
  | none => rw [hd] at hk; cases hk
  | some d =>
   rw [hd] at hk
   simp only at hk
   cases hl : kn.lookup d with
   | none => rw [hl] at hk; cases hk
   | some v =>
    rw [hl] at hk
    simp only at hk
    have := h.at_ d _ hl
    simp only [Option.bind_some, this]
    cases v <;> cases hk <;> first | rfl | (rename_i c; cases c <;> cases b <;> rfl)
theorem kmany_from {P : Program} {n : Nat} {ops : Array Oper} {Q : Exit → Act → World → Prop} {w : World} : ∀ (k i : Nat) (kn kn' : List (Nat × Value)) (a : Act), Agree n kn a → kmany n ops k i kn = some kn' → (∀ a', Agree n kn' a' → From P ops Q (i + k) a' w) → From P ops Q i a w
 | 0, i, kn, kn', a, h, hm, hF => by
  cases hm
  exact hF a h
 | k + 1, i, kn, kn', a, h, hm, hF => by
  unfold kmany at hm
  obtain ⟨kn1, hs, hm⟩ := Option.bind_eq_some_iff.1 hm
  have key : ∀ a1, Agree n kn1 a1 → From P ops Q (i + 1) a1 w := fun a1 h1 => kmany_from k (i + 1) kn1 kn' a1 h1 hm (by rw [show i + 1 + k = i + (k + 1) by omega]; exact hF)
  unfold kstep at hs
  cases ho : ops[i]? with
  | none => rw [ho] at hs; cases hs
  | some o =>
   rw [ho] at hs
   simp only at hs
   cases hk : kskip ops kn o with
   | none => rw [hk] at hs; cases hs
   | some t =>
    rw [hk] at hs
    have hw := kskip_wanted h hk
    cases t with
    | true => exact rPass i o.dst ho rfl hw (key _ (kset_agree h hs))
    | false =>
     simp only at hs
     split at hs
     ·rename_i x hop
      obtain ⟨v, hv, hs⟩ := Option.bind_eq_some_iff.1 hs
      refine rPure i o.dst v ho rfl hw ?_ (key _ (kset_agree h hs))
      unfold execOp
      simp only [hop, kget_eval h hv]
      rfl
     ·rename_i c x y hop
      split at hs
      ·rename_i hc
       obtain ⟨v, hv, hs⟩ := Option.bind_eq_some_iff.1 hs
       refine rPure i o.dst v ho rfl hw ?_ (key _ (kset_agree h hs))
       unfold execOp
       simp only [hop, kget_eval h hc, kget_eval h hv]
       rfl
      ·rename_i hc
       obtain ⟨v, hv, hs⟩ := Option.bind_eq_some_iff.1 hs
       refine rPure i o.dst v ho rfl hw ?_ (key _ (kset_agree h hs))
       unfold execOp
       simp only [hop, kget_eval h hc, kget_eval h hv]
       rfl
      ·cases hs
     ·cases hs
theorem many {P : Program} {ops : Array Oper} {Q : Exit → Act → World → Prop} {a : Act} {w : World} (n k i : Nat) (kn : List (Nat × Value)) (d : Nat) (v : Value) (h1 : a.tmps.size = n) (h2 : a.defers = []) (h3 : (kn.map fun p => a.tmps[p.1]?) = kn.map fun p => some p.2) (hm : (kmany n ops k i kn).bind (fun q => q.lookup d) = some v)
  (hF : ∀ b, From P ops Q (i + k) (nf n [(d, v)] b) w) : From P ops Q i a w := by
 obtain ⟨kn', h4, h5⟩ := Option.bind_eq_some_iff.1 hm
 refine kmany_from k i kn kn' a (Agree.of h1 h2 h3) h4 fun a' ha => ?_
 have hA : Agree n [(d, v)] a' := ⟨ha.size, ha.defers, fun e u he => by
  have := lookup_of he
  simp at this
  obtain ⟨rfl, rfl⟩ := this
  exact ha.at_ _ _ h5⟩
 rw [hA.nf]
 exact hF _
end Wk
namespace Go
open Wk
section
variable {P : Program} {ops : Array Oper} {Q : Exit → Act → World → Prop} {a : Act} {w : World}
theorem mV (n k i : Nat) (kn : List (Nat × Value)) (d : Nat) (v : Value) (hF : ∀ b, From P ops Q (i + k) (nf n [(d, v)] b) w) (h1 : a.tmps.size = n := by kernel_rfl) (h2 : a.defers = [] := by kernel_rfl) (h3 : (kn.map fun p => a.tmps[p.1]?) = kn.map fun p => some p.2 := by kernel_rfl) (hm : (kmany n ops k i kn).bind (fun q => q.lookup d) = some v := by kernel_rfl) : From P ops Q i a w := many n k i kn d v h1 h2 h3 hm hF
theorem mN {i : Nat} (n : Nat) (kn : List (Nat × Value)) (hF : ∀ b, From P ops Q i (nf n kn b) w) (h1 : a.tmps.size = n := by kernel_rfl) (h2 : a.defers = [] := by kernel_rfl) (h3 : (kn.map fun p => a.tmps[p.1]?) = kn.map fun p => some p.2 := by kernel_rfl) : From P ops Q i a w := norm n kn h1 h2 h3 hF
end
end Go
namespace Go.Proofs.YtgbadghjnpbiaaaGreatDoor
open Go.RowKit Wk
open Mur (b8s Byt Own8 Seg Segs flat cutA attC Att SlA OwnA rowA msgC updC formN u64n map_at updC_size flat_sn own8_low u64n_of attL z32 attC_size newOr_own)
set_option maxRecDepth 100000
set_option maxHeartbeats 4000000
def WlU_F1 (b : Array Value) (u2 u13 u14 u15 : Value) : Act := sg 23 [(2, u2), (13, u13), (14, u14), (15, u15)] b
def WlA_F1 (b : Array Value) (u2 u13 u14 u15 : Value) : Act := sg 23 [(2, u2), (13, u13), (14, u14), (15, u15)] b
def WlD_F1 (b : Array Value) (u2 u13 u14 u15 : Value) : Act := sg 23 [(2, u2), (13, u13), (14, u14), (15, u15)] b
theorem WListU_any (g base : Nat) (A : Option Addr) (n c : Nat) (b : List UInt8) (l : List (Int × UInt8 × Nat)) (C : Option Addr) (k d : Nat) (w : World) (hg : w.heap[g]? = some (.cells #[.slice A n c] 79 (0, 0))) (hbs : g < base ∧ base ≤ w.heap.size) (ho : Own8 w base 5 A n c b) (hn : n ≤ 2000000) (hl : Mur.SlR w 3 C k (l.map updC)) (hq : ∀ x, x ∈ l → x.2.2 < 18446744073709551616) (hk : k ≤ 1000) (hCg : ∀ g2 off, C = some ⟨g2, off, none⟩ → 0 < k → g2 ≠ g) : Calls Tryz.prog 43 #[pt g 0, .slice C k d, .func (.func 44) #[pt g 0] #[]] w fun e w' => ∃ A1 n1 c1, e = .returned (.tuple #[]) ∧ w'.heap[g]? = some (.cells #[.slice A1 n1 c1] 79 (0, 0)) ∧ Own8 w' w.heap.size 5 A1 n1 c1 (b ++ (formN l.length ++ (l.map Mur.enc3).flatten)) ∧ n1 ≤ n + 9 + 104 * k ∧ Chg [g] w w' := by
 have hll_ := hl.len
 rw [List.length_map] at hll_
 rw [hll_]
 have hgl_ := (Array.getElem?_eq_some_iff.1 hg).1
 have hon_ := ho.nc
 have hoc_ := ho.cm
 have hol_ := ho.byt.1
 have hn_ := hn
 have hbs_ := hbs
 have holt_ := ho.lt
 refine calls_of_wp Tryz.func43 rfl ?_
 refine sR<|rP 0 8 (pt g 0)<|rP 1 9 (.slice C k d)<|rP 2 10 (vI k)<|nS 3 11 1 #[vI k] 3 fun W1 hb1 ch1 sz1 => rK 4 12 (Wint1_any g base A n c b w.heap.size (k : Int) W1 (qT ch1 hg) ⟨by omega, by omega⟩ (oA ho ch1) (by omega) hb1 (by omega)) ?_
 rintro _ W2 ⟨AA1, nn1, cc1, rfl, hgw1, ow2, hle1, ch2⟩
 have zz2 := ch2.size
 have hq1 := ow2.nc
 have hq2 := ow2.cm
 have hq3 := ow2.byt.1
 refine eN<|sR<|rP 0 13 (.slice C k d)<|rP 1 14 (vI k)<|rP 2 15 (vI 0)<|eN<|wp_block<|?_
 refine Wk.loop (fun m_ a wr => ∃ (i : Nat) (A1 : Option Addr) (N1 : Nat) (c1 : Nat), m_ = k - i ∧ a = WlU_F1 a.tmps (.func (.func 44) #[pt g 0] #[]) (.slice C k d) (vI k) (vI i) ∧ i ≤ k ∧ Own8 wr W1.heap.size 5 A1 N1 c1 (b ++ formN (u64n (k : Int)) ++ ((l.take i).map Mur.enc3).flatten) ∧ wr.heap[g]? = some (.cells #[.slice A1 N1 c1] 79 (0, 0)) ∧ N1 ≤ nn1 + 104 * i ∧ W1.heap.size ≤ wr.heap.size ∧ Chg [g] w wr) (k - 0) ?_ ?_
 ·have kk1 : Chg [g] (w) W1 := zA ch1
  refine ⟨0, AA1, nn1, cc1, rfl, by kernel_rfl, (by omega), (by rw [List.take_zero]; simp only [List.map_nil, List.flatten_nil, List.append_nil]; exact ow2), hgw1, (by omega), (by omega), (kC kk1 ch2)⟩
 rintro mm1 aa1 W3 ⟨i, A1, N1, c1, hmm1, hF1, hi, hO, hgc, hN, hbz, HB⟩
 generalize aa1.tmps = bb1 at hF1
 subst hF1
 have hzB := HB.size
 have hOn := hO.nc
 have hOc := hO.cm
 by_cases hlt : i < k
 ·obtain ⟨x, hx⟩ : ∃ x_, l[i]? = some x_ := ⟨_, List.getElem?_eq_getElem (by omega)⟩
  obtain ⟨g1, o1, hA_, hr1⟩ := hl.row (map_at updC hx) (by decide)
  have hg1_ := hCg g1 o1 hA_ (by omega)
  subst hA_
  have hqx_ := hq x (List.mem_of_getElem? hx)
  refine sR<|bT 0 16 ((i : Int) < (k : Int))<|eN<|wp_seq<|cT<|wp_skip<|nxt<|wp_seq<|wp_block<|sR<|rq 0 17 (pt g1 (o1 + i * 3)) rfl (iS 3 g1 o1 k d i)<|rq 1 18 _ rfl (lR (o1 + i * 3) (updC x) (Chg.range HB hr1 ⟨by omega, trivial⟩))<|nW 2 7 #[vI 0, vB 0, vU 0] 61 fun W4 hb2 ch3 sz2 => rU 3 rfl (sB (updC x).toArray (updC_size x) (Mur.updC_all x) hb2 (by kernel_rfl)) fun W5 hb3 ch4 zz4 => eN<|reg<|rP 0 19 (.func (.func 44) #[pt g 0] #[])<|rq 1 20 _ rfl (lA hb3 (updC_size x)) ?_
  refine Wk.rCallM 2 (some 21) (.tmp 19) 44 #[pt g 0] [.tmp 20] #[61] [.agg ((updC x).toArray)] rfl rfl (by kernel_rfl) rfl (by kernel_rfl) (by kernel_rfl) (by kernel_rfl) ?_
  refine (Wupdate_any g W1.heap.size A1 N1 c1 (b ++ formN (u64n (k : Int)) ++ ((l.take i).map Mur.enc3).flatten) x W5 (qO ch4 (qT ch3 hgc)) ⟨by omega, by omega⟩ (oB (oA hO ch3) ch4 hO.lt) (by omega) hqx_).mono ?_
  rintro _ W6 ⟨AA2, nn2, cc2, rfl, hgw2, ow5, hle2, ch5⟩
  have zz5 := ch5.size
  have hq4 := ow5.nc
  have hq5 := ow5.cm
  have hq6 := ow5.byt.1
  refine ⟨_, rfl, ?_⟩
  refine rE<|inN<|nxt<|reg<|rI 0 22 ((i : Int) + 1) (((i + 1 : Nat) : Int))<|rP 1 15 (vI (i + 1 : Nat))<|eN<|?_
  refine ⟨_, ?_, i + 1, AA2, nn2, cc2, rfl, by kernel_rfl, (by omega), (by rw [flat_sn Mur.enc3 hx, ← List.append_assoc]; exact own8_low ow5 (by omega)), hgw2, (by omega), (by omega), (kC (kB (kA HB ch3) ch4) ch5)⟩
  omega
 refine sR<|bF 0 16 ((i : Int) < (k : Int))<|eN<|wp_seq<|cF<|xX<|?_
 have hH_ := hO
 rw [List.take_of_length_le (show l.length ≤ i by omega), u64n_of (by omega), List.append_assoc] at hH_
 exact Wk.retN (.tuple #[]) rfl (by kernel_rfl) ⟨A1, N1, c1, rfl, hgc, own8_low hH_ (by omega), by omega, HB⟩
theorem WListA_any (g base : Nat) (A : Option Addr) (n c : Nat) (b : List UInt8) (l : List (Att)) (C : Option Addr) (k d : Nat) (w : World) (hg : w.heap[g]? = some (.cells #[.slice A n c] 79 (0, 0))) (hbs : g < base ∧ base ≤ w.heap.size) (ho : Own8 w base 5 A n c b) (hn : n ≤ 2000000) (hl : Mur.SlR w 97 C k (l.map attL)) (hq : ∀ x, x ∈ l → Mur.may x.n) (hk : k ≤ 1000) (hCg : ∀ g2 off, C = some ⟨g2, off, none⟩ → 0 < k → g2 ≠ g) : Calls Tryz.prog 47 #[pt g 0, .slice C k d, .func (.func 48) #[pt g 0] #[]] w fun e w' => ∃ A1 n1 c1, e = .returned (.tuple #[]) ∧ w'.heap[g]? = some (.cells #[.slice A1 n1 c1] 79 (0, 0)) ∧ Own8 w' w.heap.size 5 A1 n1 c1 (b ++ (formN l.length ++ (l.map Att.raw).flatten)) ∧ n1 ≤ n + 9 + 104 * k ∧ Chg [g] w w' := by
 have hll_ := hl.len
 rw [List.length_map] at hll_
 rw [hll_]
 have hgl_ := (Array.getElem?_eq_some_iff.1 hg).1
 have hon_ := ho.nc
 have hoc_ := ho.cm
 have hol_ := ho.byt.1
 have hn_ := hn
 have hbs_ := hbs
 have holt_ := ho.lt
 refine calls_of_wp Tryz.func47 rfl ?_
 refine sR<|rP 0 8 (pt g 0)<|rP 1 9 (.slice C k d)<|rP 2 10 (vI k)<|nS 3 11 1 #[vI k] 3 fun W1 hb1 ch1 sz1 => rK 4 12 (Wint1_any g base A n c b w.heap.size (k : Int) W1 (qT ch1 hg) ⟨by omega, by omega⟩ (oA ho ch1) (by omega) hb1 (by omega)) ?_
 rintro _ W2 ⟨AA1, nn1, cc1, rfl, hgw1, ow2, hle1, ch2⟩
 have zz2 := ch2.size
 have hq1 := ow2.nc
 have hq2 := ow2.cm
 have hq3 := ow2.byt.1
 refine eN<|sR<|rP 0 13 (.slice C k d)<|rP 1 14 (vI k)<|rP 2 15 (vI 0)<|eN<|wp_block<|?_
 refine Wk.loop (fun m_ a wr => ∃ (i : Nat) (A1 : Option Addr) (N1 : Nat) (c1 : Nat), m_ = k - i ∧ a = WlA_F1 a.tmps (.func (.func 48) #[pt g 0] #[]) (.slice C k d) (vI k) (vI i) ∧ i ≤ k ∧ Own8 wr W1.heap.size 5 A1 N1 c1 (b ++ formN (u64n (k : Int)) ++ ((l.take i).map Att.raw).flatten) ∧ wr.heap[g]? = some (.cells #[.slice A1 N1 c1] 79 (0, 0)) ∧ N1 ≤ nn1 + 104 * i ∧ W1.heap.size ≤ wr.heap.size ∧ Chg [g] w wr) (k - 0) ?_ ?_
 ·have kk1 : Chg [g] (w) W1 := zA ch1
  refine ⟨0, AA1, nn1, cc1, rfl, by kernel_rfl, (by omega), (by rw [List.take_zero]; simp only [List.map_nil, List.flatten_nil, List.append_nil]; exact ow2), hgw1, (by omega), (by omega), (kC kk1 ch2)⟩
 rintro mm1 aa1 W3 ⟨i, A1, N1, c1, hmm1, hF1, hi, hO, hgc, hN, hbz, HB⟩
 generalize aa1.tmps = bb1 at hF1
 subst hF1
 have hzB := HB.size
 have hOn := hO.nc
 have hOc := hO.cm
 by_cases hlt : i < k
 ·obtain ⟨x, hx⟩ : ∃ x_, l[i]? = some x_ := ⟨_, List.getElem?_eq_getElem (by omega)⟩
  obtain ⟨g1, o1, hA_, hr1⟩ := hl.row (map_at attL hx) (by decide)
  have hg1_ := hCg g1 o1 hA_ (by omega)
  subst hA_
  have hqx_ := hq x (List.mem_of_getElem? hx)
  refine sR<|bT 0 16 ((i : Int) < (k : Int))<|eN<|wp_seq<|cT<|wp_skip<|nxt<|wp_seq<|wp_block<|sR<|rq 0 17 (pt g1 (o1 + i * 97)) rfl (iS 97 g1 o1 k d i)<|rq 1 18 _ rfl (lR (o1 + i * 97) (Mur.attC x.k x.r x.n x.t) (Chg.range HB hr1 ⟨by omega, trivial⟩) (by rw [Mur.attC_length x.hk x.hr x.ht]; kernel_rfl))<|nW 2 7 (Mur.attC z32 z32 0 z32).toArray 35 fun W4 hb2 ch3 sz2 => rU 3 rfl (sB (Mur.attC x.k x.r x.n x.t).toArray (attC_size x.hk x.hr x.ht) Mur.attC_all hb2 (attC_size rfl rfl rfl)) fun W5 hb3 ch4 zz4 => eN<|reg<|rP 0 19 (.func (.func 48) #[pt g 0] #[])<|rq 1 20 _ rfl (lA hb3 (attC_size x.hk x.hr x.ht)) ?_
  refine Wk.rCallM 2 (some 21) (.tmp 19) 48 #[pt g 0] [.tmp 20] #[35] [.agg ((Mur.attC x.k x.r x.n x.t).toArray)] rfl rfl (by kernel_rfl) rfl (by kernel_rfl) (by kernel_rfl) (by kernel_rfl) ?_
  have ow4 := oB (oA hO ch3) ch4 hO.lt
  refine (Wattest_any g W1.heap.size A1 N1 c1 (b ++ formN (u64n (k : Int)) ++ ((l.take i).map Att.raw).flatten) x W5 (qO ch4 (qT ch3 hgc)) ⟨by omega, by omega⟩ ow4 (by omega) hqx_).mono ?_
  rintro _ W6 ⟨AA2, nn2, cc2, rfl, hgw2, ow5, hle2, ch5⟩
  have lto1 := ow4.lt
  have zz5 := ch5.size
  have hq4 := ow5.nc
  have hq5 := ow5.cm
  have hq6 := ow5.byt.1
  refine ⟨_, rfl, ?_⟩
  refine rE<|inN<|nxt<|reg<|rI 0 22 ((i : Int) + 1) (((i + 1 : Nat) : Int))<|rP 1 15 (vI (i + 1 : Nat))<|eN<|?_
  refine ⟨_, ?_, i + 1, AA2, nn2, cc2, rfl, by kernel_rfl, (by omega), (by rw [flat_sn Att.raw hx, ← List.append_assoc]; exact own8_low ow5 (by omega)), hgw2, (by omega), (by omega), (Chg.step (kB (kA HB ch3) ch4) ch5 (newOr_own (.inl (by simp)) (fun gz hgz => by have := lto1 gz hgz; omega)))⟩
  omega
 refine sR<|bF 0 16 ((i : Int) < (k : Int))<|eN<|wp_seq<|cF<|xX<|?_
 have hH_ := hO
 rw [List.take_of_length_le (show l.length ≤ i by omega), u64n_of (by omega), List.append_assoc] at hH_
 exact Wk.retN (.tuple #[]) rfl (by kernel_rfl) ⟨A1, N1, c1, rfl, hgc, own8_low hH_ (by omega), by omega, HB⟩
theorem WListD_any (g base : Nat) (A : Option Addr) (n c : Nat) (b : List UInt8) (l : List (List UInt8)) (C : Option Addr) (k d : Nat) (w : World) (hg : w.heap[g]? = some (.cells #[.slice A n c] 79 (0, 0))) (hbs : g < base ∧ base ≤ w.heap.size) (ho : Own8 w base 5 A n c b) (hn : n ≤ 2000000) (hl : Mur.SlR w 32 C k (l.map b8s)) (hq : ∀ x, x ∈ l → x.length = 32) (hk : k ≤ 1000) (hCg : ∀ g2 off, C = some ⟨g2, off, none⟩ → 0 < k → g2 ≠ g) : Calls Tryz.prog 50 #[pt g 0, .slice C k d, .func (.func 46) #[pt g 0] #[]] w fun e w' => ∃ A1 n1 c1, e = .returned (.tuple #[]) ∧ w'.heap[g]? = some (.cells #[.slice A1 n1 c1] 79 (0, 0)) ∧ Own8 w' w.heap.size 5 A1 n1 c1 (b ++ (formN l.length ++ (l.map (fun x : List UInt8 => x)).flatten)) ∧ n1 ≤ n + 9 + 104 * k ∧ Chg [g] w w' := by
 have hll_ := hl.len
 rw [List.length_map] at hll_
 rw [hll_]
 have hgl_ := (Array.getElem?_eq_some_iff.1 hg).1
 have hon_ := ho.nc
 have hoc_ := ho.cm
 have hol_ := ho.byt.1
 have hn_ := hn
 have hbs_ := hbs
 have holt_ := ho.lt
 refine calls_of_wp Tryz.func50 rfl ?_
 refine sR<|rP 0 8 (pt g 0)<|rP 1 9 (.slice C k d)<|rP 2 10 (vI k)<|nS 3 11 1 #[vI k] 3 fun W1 hb1 ch1 sz1 => rK 4 12 (Wint1_any g base A n c b w.heap.size (k : Int) W1 (qT ch1 hg) ⟨by omega, by omega⟩ (oA ho ch1) (by omega) hb1 (by omega)) ?_
 rintro _ W2 ⟨AA1, nn1, cc1, rfl, hgw1, ow2, hle1, ch2⟩
 have zz2 := ch2.size
 have hq1 := ow2.nc
 have hq2 := ow2.cm
 have hq3 := ow2.byt.1
 refine eN<|sR<|rP 0 13 (.slice C k d)<|rP 1 14 (vI k)<|rP 2 15 (vI 0)<|eN<|wp_block<|?_
 refine Wk.loop (fun m_ a wr => ∃ (i : Nat) (A1 : Option Addr) (N1 : Nat) (c1 : Nat), m_ = k - i ∧ a = WlD_F1 a.tmps (.func (.func 46) #[pt g 0] #[]) (.slice C k d) (vI k) (vI i) ∧ i ≤ k ∧ Own8 wr W1.heap.size 5 A1 N1 c1 (b ++ formN (u64n (k : Int)) ++ ((l.take i).map (fun x : List UInt8 => x)).flatten) ∧ wr.heap[g]? = some (.cells #[.slice A1 N1 c1] 79 (0, 0)) ∧ N1 ≤ nn1 + 104 * i ∧ W1.heap.size ≤ wr.heap.size ∧ Chg [g] w wr) (k - 0) ?_ ?_
 ·have kk1 : Chg [g] (w) W1 := zA ch1
  refine ⟨0, AA1, nn1, cc1, rfl, by kernel_rfl, (by omega), (by rw [List.take_zero]; simp only [List.map_nil, List.flatten_nil, List.append_nil]; exact ow2), hgw1, (by omega), (by omega), (kC kk1 ch2)⟩
 rintro mm1 aa1 W3 ⟨i, A1, N1, c1, hmm1, hF1, hi, hO, hgc, hN, hbz, HB⟩
 generalize aa1.tmps = bb1 at hF1
 subst hF1
 have hzB := HB.size
 have hOn := hO.nc
 have hOc := hO.cm
 by_cases hlt : i < k
 ·obtain ⟨x, hx⟩ : ∃ x_, l[i]? = some x_ := ⟨_, List.getElem?_eq_getElem (by omega)⟩
  obtain ⟨g1, o1, hA_, hr1⟩ := hl.row (map_at b8s hx) (by decide)
  have hg1_ := hCg g1 o1 hA_ (by omega)
  subst hA_
  have hqx_ := hq x (List.mem_of_getElem? hx)
  refine sR<|bT 0 16 ((i : Int) < (k : Int))<|eN<|wp_seq<|cT<|wp_skip<|nxt<|wp_seq<|wp_block<|sR<|rq 0 17 (pt g1 (o1 + i * 32)) rfl (iS 32 g1 o1 k d i)<|rq 1 18 _ rfl (lR (o1 + i * 32) (b8s x) (Chg.range HB hr1 ⟨by omega, trivial⟩) (by rw [Mur.b8s_length, hqx_]; kernel_rfl))<|nW 2 7 Z32 28 fun W4 hb2 ch3 sz2 => rU 3 rfl (sC x hqx_ hb2) fun W5 hb3 ch4 zz4 => eN<|reg<|rP 0 19 (.func (.func 46) #[pt g 0] #[])<|rq 1 20 _ rfl (lB x hqx_ hb3) ?_
  refine Wk.rCallM 2 (some 21) (.tmp 19) 46 #[pt g 0] [.tmp 20] #[28] [.agg ((b8s x).toArray)] rfl rfl (by kernel_rfl) rfl (by kernel_rfl) (by kernel_rfl) (by kernel_rfl) ?_
  have ow4 := oB (oA hO ch3) ch4 hO.lt
  refine (Wdigest_any g W1.heap.size A1 N1 c1 (b ++ formN (u64n (k : Int)) ++ ((l.take i).map (fun x : List UInt8 => x)).flatten) x W5 (qO ch4 (qT ch3 hgc)) ⟨by omega, by omega⟩ ow4 (by omega) hqx_).mono ?_
  rintro _ W6 ⟨AA2, nn2, cc2, rfl, hgw2, ow5, hle2, ch5⟩
  have lto1 := ow4.lt
  have zz5 := ch5.size
  have hq4 := ow5.nc
  have hq5 := ow5.cm
  have hq6 := ow5.byt.1
  refine ⟨_, rfl, ?_⟩
  refine rE<|inN<|nxt<|reg<|rI 0 22 ((i : Int) + 1) (((i + 1 : Nat) : Int))<|rP 1 15 (vI (i + 1 : Nat))<|eN<|?_
  refine ⟨_, ?_, i + 1, AA2, nn2, cc2, rfl, by kernel_rfl, (by omega), (by rw [flat_sn (fun x : List UInt8 => x) hx, ← List.append_assoc]; exact own8_low ow5 (by omega)), hgw2, (by omega), (by omega), (Chg.step (kB (kA HB ch3) ch4) ch5 (newOr_own (.inl (by simp)) (fun gz hgz => by have := lto1 gz hgz; omega)))⟩
  omega
 refine sR<|bF 0 16 ((i : Int) < (k : Int))<|eN<|wp_seq<|cF<|xX<|?_
 have hH_ := hO
 rw [List.take_of_length_le (show l.length ≤ i by omega), u64n_of (by omega), List.append_assoc] at hH_
 exact Wk.retN (.tuple #[]) rfl (by kernel_rfl) ⟨A1, N1, c1, rfl, hgc, own8_low hH_ (by omega), by omega, HB⟩
end Go.Proofs.YtgbadghjnpbiaaaGreatDoor
namespace Go.Proofs.YtgbadghjnpbiaaaGreatDoor
open Go.RowKit Wk
open Mur (b8s Byt Own8 Seg Segs flat cutA attC Att SlA OwnA rowA msgC run_str updC map_at take_sn attL attL_len b8s_length run_neq_dg)
set_option maxRecDepth 100000
set_option maxHeartbeats 4000000
def EqU_F1 (b : Array Value) (u0 u1 u12 u13 : Value) : Act := sg 26 [(0, u0), (1, u1), (12, u12), (13, u13)] b
def EqA_F1 (b : Array Value) (u0 u1 u12 u13 : Value) : Act := sg 26 [(0, u0), (1, u1), (12, u12), (13, u13)] b
def EqD_F1 (b : Array Value) (u0 u1 u12 u13 : Value) : Act := sg 26 [(0, u0), (1, u1), (12, u12), (13, u13)] b
def IdxU_F1 (b : Array Value) (u0 u1 u7 u8 : Value) : Act := sg 19 [(0, u0), (1, u1), (7, u7), (8, u8)] b
theorem Node_any (n : Int) (w : World) : Calls Tryz.prog 19 #[vI n] w fun e w' => e = .returned (.bool (decide (0 ≤ n ∧ n < 16))) ∧ Chg [] w w' := by
 refine calls_of_wp Tryz.func19 rfl ?_
 refine sR<|rP 0 2 vF<|eN<|sR<|rP 0 3 (vI n) ?_
 by_cases hx1 : n ≥ (0 : Int)
 ·refine bT 1 4 (n ≥ (0 : Int))<|rP 2 5 vT<|rP 3 6 (vI n) ?_
  by_cases hx2 : n < (16 : Int)
  ·exact bT 4 7 (n < (16 : Int))<|rP 5 8 vT<|rP 6 2 vT<|eN<|wp_ret<|rt vT ⟨by rw [decide_eq_true (by omega)], (Chg.refl _)⟩
  exact bF 4 7 (n < (16 : Int))<|rP 5 8 vF<|rP 6 2 vF<|eN<|wp_ret<|rt vF ⟨by rw [decide_eq_false (by omega)], (Chg.refl _)⟩
 exact bF 1 4 (n ≥ (0 : Int))<|rP 2 5 vF<|rZ 3 6<|rZ 4 7<|rP 5 8 vF<|rP 6 2 vF<|eN<|wp_ret<|rt vF ⟨by rw [decide_eq_false (by omega)], (Chg.refl _)⟩
theorem Tagged_any (x : UInt8) (w : World) : Calls Tryz.prog 17 #[vB x.toNat] w fun e w' => e = .returned (.bool (decide (x.toNat ≤ 4))) ∧ Chg [] w w' := by
 refine calls_of_wp Tryz.func17 rfl ?_
 refine sR<|rP 0 2 vF<|eN<|sR<|rP 0 3 (vB x.toNat) ?_
 by_cases hx1 : (x.toNat : Int) ≤ (4 : Int)
 ·exact bT 1 4 ((x.toNat : Int) ≤ (4 : Int))<|rP 2 2 vT<|eN<|wp_ret<|rt vT ⟨by rw [decide_eq_true (by omega)], (Chg.refl _)⟩
 exact bF 1 4 ((x.toNat : Int) ≤ (4 : Int))<|rP 2 2 vF<|eN<|wp_ret<|rt vF ⟨by rw [decide_eq_false (by omega)], (Chg.refl _)⟩
theorem BEqual_any (A : Option Addr) (n c : Nat) (B : Option Addr) (m d : Nat) (l x : List UInt8) (w : World) (hb : Byt w A n l) (hb2 : Byt w B m x) : Calls Tryz.prog 30 #[.slice A n c, .slice B m d] w fun e w' => e = .returned (.bool (decide (l = x))) ∧ Chg [] w w' := by
 refine calls_of_wp Tryz.func30 rfl ?_
 refine sR<|rP 0 4 vF<|eN<|sR<|rP 0 5 (.slice A n c)<|rq 1 6 (.string (Mur.str l)) rfl (run_str 22 9 (.tmp 5) 5 rfl Tryz.underlying22 Tryz.underlying5 Tryz.underlying9 A n c l (by kernel_rfl) hb)<|rP 2 7 (.slice B m d)<|rq 3 8 (.string (Mur.str x)) rfl (run_str 22 9 (.tmp 7) 5 rfl Tryz.underlying22 Tryz.underlying5 Tryz.underlying9 B m d x (by kernel_rfl) hb2) ?_
 by_cases hx1 : l = x
 ·exact rq 4 9 _ rfl (dqT (hx1) (Mur.streq 9 9 (.tmp 6) (.tmp 8) rfl l x (by kernel_rfl) (by kernel_rfl)))<|rP 5 4 vT<|eN<|wp_ret<|rt vT ⟨by rw [decide_eq_true hx1], (Chg.refl _)⟩
 exact rq 4 9 _ rfl (dqF (hx1) (Mur.streq 9 9 (.tmp 6) (.tmp 8) rfl l x (by kernel_rfl) (by kernel_rfl)))<|rP 5 4 vF<|eN<|wp_ret<|rt vF ⟨by rw [decide_eq_false hx1], (Chg.refl _)⟩
theorem EqualU_any (A : Option Addr) (n c : Nat) (B : Option Addr) (m d : Nat) (l l2 : List (Int × UInt8 × Nat)) (w : World) (hl : Mur.SlR w 3 A n (l.map updC)) (hl2 : Mur.SlR w 3 B m (l2.map updC)) (hq : ∀ x, x ∈ l → ((-9223372036854775808 ≤ x.1 ∧ x.1 ≤ 9223372036854775807) ∧ x.2.2 < 18446744073709551616)) (hq2 : ∀ x, x ∈ l2 → ((-9223372036854775808 ≤ x.1 ∧ x.1 ≤ 9223372036854775807) ∧ x.2.2 < 18446744073709551616)) (hn : n ≤ 9223372036854775807) : Calls Tryz.prog 29 #[.slice A n c, .slice B m d] w fun e w' => e = .returned (.bool (decide (l = l2))) ∧ Chg [] w w' := by
 have hll := hl.len
 have hll2 := hl2.len
 rw [List.length_map] at hll hll2
 refine calls_of_wp Tryz.func29 rfl ?_
 refine sR<|rP 0 4 vF<|eN<|wp_seq<|sR<|rP 0 6 (.slice A n c)<|rP 1 7 (vI n)<|rP 2 8 (.slice B m d)<|rP 3 9 (vI m) ?_
 by_cases hx1 : (n : Int) ≠ (m : Int)
 ·exact nT 4 10 (n : Int) (m : Int)<|eN<|cT<|sR<|rP 0 4 vF<|eN<|tR<|rt vF ⟨by rw [decide_eq_false (fun e_ => by have h_ := congrArg List.length e_; omega)], (Chg.refl _)⟩
 refine nF 4 10 (n : Int) (m : Int)<|eN<|cF<|wp_skip<|nxt<|wp_seq<|sR<|rP 0 11 (.slice A n c)<|rP 1 12 (vI n)<|rP 2 13 (vI 0)<|eN<|wp_block<|?_
 refine Wk.loop (fun m_ a wr => ∃ (i : Nat), m_ = n - i ∧ a = EqU_F1 a.tmps (.slice A n c) (.slice B m d) (vI n) (vI i) ∧ i ≤ n ∧ l.take i = l2.take i ∧ Chg [] w wr) (n - 0) ?_ ?_
 ·refine ⟨0, rfl, by kernel_rfl, (by omega), rfl, (Chg.refl _)⟩
 rintro mm1 aa1 W1 ⟨i, hmm1, hF1, hi, htk, HB⟩
 generalize aa1.tmps = bb1 at hF1
 subst hF1
 have hzB := HB.size
 by_cases hlt : i < n
 ·obtain ⟨x, hx⟩ : ∃ x_, l[i]? = some x_ := ⟨_, List.getElem?_eq_getElem (by omega)⟩
  obtain ⟨g1, o1, hA_, hr1⟩ := hl.row (map_at updC hx) (by decide)
  subst hA_
  obtain ⟨y, hy⟩ : ∃ x_, l2[i]? = some x_ := ⟨_, List.getElem?_eq_getElem (by omega)⟩
  obtain ⟨g2, o2, hA_, hr2⟩ := hl2.row (map_at updC hy) (by decide)
  subst hA_
  refine sR<|bT 0 14 ((i : Int) < (n : Int))<|eN<|wp_seq<|cT<|wp_skip<|nxt<|wp_seq<|wp_block<|sR<|rP 0 15 (vI i)<|rP 1 5 (vI i)<|eN<|wp_seq<|?_
  refine dReg ([]) (by kernel_rfl) ?_
  intro W2 ch1 sz1
  have zz1 := ch1.size
  have sS1 : Chg ([]) W2 W2 := (Chg.refl _).more (by simp)
  refine dW 0 16 (.slice (some ⟨g1, o1, none⟩) n c) sS1<|dW 1 17 (vI i) sS1<|dV 2 18 (pt g1 (o1 + i * 3)) rfl rfl (fun w' hw' => iS 3 g1 o1 n c i) sS1 ?_
  have kk1 := kA HB ch1
  refine dV 3 19 _ rfl rfl (fun w' hw' => lR (o1 + i * 3) (updC x) (Chg.range hw' (Chg.range kk1 hr1 trivial) trivial)) sS1<|dW 4 20 (.slice (some ⟨g2, o2, none⟩) m d) sS1<|dW 5 21 (vI i) sS1<|dV 6 22 (pt g2 (o2 + i * 3)) rfl rfl (fun w' hw' => iS 3 g2 o2 m d i) sS1<|dV 7 23 _ rfl rfl (fun w' hw' => lR (o2 + i * 3) (updC y) (Chg.range hw' (Chg.range kk1 hr2 trivial) trivial)) sS1 ?_
  by_cases hxy : x = y
  ·refine dV 8 24 vF rfl rfl (fun w' hw' => nqF (hxy) (run_neq_upd (.tmp 19) (.tmp 23) 61 rfl (wf64 (hq x (List.mem_of_getElem? hx)).1.1 (hq x (List.mem_of_getElem? hx)).1.2) (wf64 (hq2 y (List.mem_of_getElem? hy)).1.1 (hq2 y (List.mem_of_getElem? hy)).1.2) (hq x (List.mem_of_getElem? hx)).2 (hq2 y (List.mem_of_getElem? hy)).2 (by kernel_rfl) (by kernel_rfl))) sS1<|dN<|cF<|wp_skip<|inN<|nxt<|reg<|rI 0 25 ((i : Int) + 1) (((i + 1 : Nat) : Int))<|rP 1 13 (vI (i + 1 : Nat))<|eN<|?_
   refine ⟨_, ?_, i + 1, rfl, by kernel_rfl, (by omega), (by rw [take_sn hx, take_sn hy, htk, hxy]), kk1⟩
   omega
  exact dV 8 24 vT rfl rfl (fun w' hw' => nqT (hxy) (run_neq_upd (.tmp 19) (.tmp 23) 61 rfl (wf64 (hq x (List.mem_of_getElem? hx)).1.1 (hq x (List.mem_of_getElem? hx)).1.2) (wf64 (hq2 y (List.mem_of_getElem? hy)).1.1 (hq2 y (List.mem_of_getElem? hy)).1.2) (hq x (List.mem_of_getElem? hx)).2 (hq2 y (List.mem_of_getElem? hy)).2 (by kernel_rfl) (by kernel_rfl))) sS1<|dN<|cT<|sR<|rP 0 4 vF<|eN<|tI<|thR<|inR<|thR<|rt vF ⟨by rw [decide_eq_false (fun e_ => hxy (Option.some.inj (by rw [← hx, ← hy, e_])))], kk1⟩
 rw [List.take_of_length_le (show l.length ≤ i by omega), List.take_of_length_le (show l2.length ≤ i by omega)] at htk
 exact sR<|bF 0 14 ((i : Int) < (n : Int))<|eN<|wp_seq<|cF<|xX<|nxt<|sR<|rP 0 4 vT<|eN<|wp_ret<|rt vT ⟨by rw [decide_eq_true htk], HB⟩
theorem EqualA_any (A : Option Addr) (n c : Nat) (B : Option Addr) (m d : Nat) (l l2 : List (Att)) (w : World) (hl : Mur.SlR w 97 A n (l.map attL)) (hl2 : Mur.SlR w 97 B m (l2.map attL)) (_hq : ∀ x, x ∈ l → True) (_hq2 : ∀ x, x ∈ l2 → True) (hn : n ≤ 9223372036854775807) : Calls Tryz.prog 31 #[.slice A n c, .slice B m d] w fun e w' => e = .returned (.bool (decide (l = l2))) ∧ Chg [] w w' := by
 have hll := hl.len
 have hll2 := hl2.len
 rw [List.length_map] at hll hll2
 refine calls_of_wp Tryz.func31 rfl ?_
 refine sR<|rP 0 4 vF<|eN<|wp_seq<|sR<|rP 0 6 (.slice A n c)<|rP 1 7 (vI n)<|rP 2 8 (.slice B m d)<|rP 3 9 (vI m) ?_
 by_cases hx1 : (n : Int) ≠ (m : Int)
 ·exact nT 4 10 (n : Int) (m : Int)<|eN<|cT<|sR<|rP 0 4 vF<|eN<|tR<|rt vF ⟨by rw [decide_eq_false (fun e_ => by have h_ := congrArg List.length e_; omega)], (Chg.refl _)⟩
 refine nF 4 10 (n : Int) (m : Int)<|eN<|cF<|wp_skip<|nxt<|wp_seq<|sR<|rP 0 11 (.slice A n c)<|rP 1 12 (vI n)<|rP 2 13 (vI 0)<|eN<|wp_block<|?_
 refine Wk.loop (fun m_ a wr => ∃ (i : Nat), m_ = n - i ∧ a = EqA_F1 a.tmps (.slice A n c) (.slice B m d) (vI n) (vI i) ∧ i ≤ n ∧ l.take i = l2.take i ∧ Chg [] w wr) (n - 0) ?_ ?_
 ·refine ⟨0, rfl, by kernel_rfl, (by omega), rfl, (Chg.refl _)⟩
 rintro mm1 aa1 W1 ⟨i, hmm1, hF1, hi, htk, HB⟩
 generalize aa1.tmps = bb1 at hF1
 subst hF1
 have hzB := HB.size
 by_cases hlt : i < n
 ·obtain ⟨x, hx⟩ : ∃ x_, l[i]? = some x_ := ⟨_, List.getElem?_eq_getElem (by omega)⟩
  obtain ⟨g1, o1, hA_, hr1⟩ := hl.row (map_at attL hx) (by decide)
  subst hA_
  obtain ⟨y, hy⟩ : ∃ x_, l2[i]? = some x_ := ⟨_, List.getElem?_eq_getElem (by omega)⟩
  obtain ⟨g2, o2, hA_, hr2⟩ := hl2.row (map_at attL hy) (by decide)
  subst hA_
  refine sR<|bT 0 14 ((i : Int) < (n : Int))<|eN<|wp_seq<|cT<|wp_skip<|nxt<|wp_seq<|wp_block<|sR<|rP 0 15 (vI i)<|rP 1 5 (vI i)<|eN<|wp_seq<|?_
  refine dReg ([]) (by kernel_rfl) ?_
  intro W2 ch1 sz1
  have zz1 := ch1.size
  have sS1 : Chg ([]) W2 W2 := (Chg.refl _).more (by simp)
  refine dW 0 16 (.slice (some ⟨g1, o1, none⟩) n c) sS1<|dW 1 17 (vI i) sS1<|dV 2 18 (pt g1 (o1 + i * 97)) rfl rfl (fun w' hw' => iS 97 g1 o1 n c i) sS1 ?_
  have kk1 := kA HB ch1
  refine dV 3 19 _ rfl rfl (fun w' hw' => lR (o1 + i * 97) (attL x) (Chg.range hw' (Chg.range kk1 hr1 trivial) trivial) (by rw [attL_len x]; kernel_rfl)) sS1<|dW 4 20 (.slice (some ⟨g2, o2, none⟩) m d) sS1<|dW 5 21 (vI i) sS1<|dV 6 22 (pt g2 (o2 + i * 97)) rfl rfl (fun w' hw' => iS 97 g2 o2 m d i) sS1<|dV 7 23 _ rfl rfl (fun w' hw' => lR (o2 + i * 97) (attL y) (Chg.range hw' (Chg.range kk1 hr2 trivial) trivial) (by rw [attL_len y]; kernel_rfl)) sS1 ?_
  by_cases hxy : x = y
  ·refine dV 8 24 vF rfl rfl (fun w' hw' => nqF ((Mur.Att.eq_iff x y).1 hxy) (run_neq_att (.tmp 19) (.tmp 23) 35 rfl x.hk x.hr x.ht y.hk y.hr y.ht x.hn y.hn (by kernel_rfl) (by kernel_rfl))) sS1<|dN<|cF<|wp_skip<|inN<|nxt<|reg<|rI 0 25 ((i : Int) + 1) (((i + 1 : Nat) : Int))<|rP 1 13 (vI (i + 1 : Nat))<|eN<|?_
   refine ⟨_, ?_, i + 1, rfl, by kernel_rfl, (by omega), (by rw [take_sn hx, take_sn hy, htk, hxy]), kk1⟩
   omega
  exact dV 8 24 vT rfl rfl (fun w' hw' => nqT (fun q_ => hxy ((Mur.Att.eq_iff x y).2 q_)) (run_neq_att (.tmp 19) (.tmp 23) 35 rfl x.hk x.hr x.ht y.hk y.hr y.ht x.hn y.hn (by kernel_rfl) (by kernel_rfl))) sS1<|dN<|cT<|sR<|rP 0 4 vF<|eN<|tI<|thR<|inR<|thR<|rt vF ⟨by rw [decide_eq_false (fun e_ => hxy (Option.some.inj (by rw [← hx, ← hy, e_])))], kk1⟩
 rw [List.take_of_length_le (show l.length ≤ i by omega), List.take_of_length_le (show l2.length ≤ i by omega)] at htk
 exact sR<|bF 0 14 ((i : Int) < (n : Int))<|eN<|wp_seq<|cF<|xX<|nxt<|sR<|rP 0 4 vT<|eN<|wp_ret<|rt vT ⟨by rw [decide_eq_true htk], HB⟩
theorem EqualD_any (A : Option Addr) (n c : Nat) (B : Option Addr) (m d : Nat) (l l2 : List (List UInt8)) (w : World) (hl : Mur.SlR w 32 A n (l.map b8s)) (hl2 : Mur.SlR w 32 B m (l2.map b8s)) (hq : ∀ x, x ∈ l → x.length = 32) (hq2 : ∀ x, x ∈ l2 → x.length = 32) (hn : n ≤ 9223372036854775807) : Calls Tryz.prog 32 #[.slice A n c, .slice B m d] w fun e w' => e = .returned (.bool (decide (l = l2))) ∧ Chg [] w w' := by
 have hll := hl.len
 have hll2 := hl2.len
 rw [List.length_map] at hll hll2
 refine calls_of_wp Tryz.func32 rfl ?_
 refine sR<|rP 0 4 vF<|eN<|wp_seq<|sR<|rP 0 6 (.slice A n c)<|rP 1 7 (vI n)<|rP 2 8 (.slice B m d)<|rP 3 9 (vI m) ?_
 by_cases hx1 : (n : Int) ≠ (m : Int)
 ·exact nT 4 10 (n : Int) (m : Int)<|eN<|cT<|sR<|rP 0 4 vF<|eN<|tR<|rt vF ⟨by rw [decide_eq_false (fun e_ => by have h_ := congrArg List.length e_; omega)], (Chg.refl _)⟩
 refine nF 4 10 (n : Int) (m : Int)<|eN<|cF<|wp_skip<|nxt<|wp_seq<|sR<|rP 0 11 (.slice A n c)<|rP 1 12 (vI n)<|rP 2 13 (vI 0)<|eN<|wp_block<|?_
 refine Wk.loop (fun m_ a wr => ∃ (i : Nat), m_ = n - i ∧ a = EqD_F1 a.tmps (.slice A n c) (.slice B m d) (vI n) (vI i) ∧ i ≤ n ∧ l.take i = l2.take i ∧ Chg [] w wr) (n - 0) ?_ ?_
 ·refine ⟨0, rfl, by kernel_rfl, (by omega), rfl, (Chg.refl _)⟩
 rintro mm1 aa1 W1 ⟨i, hmm1, hF1, hi, htk, HB⟩
 generalize aa1.tmps = bb1 at hF1
 subst hF1
 have hzB := HB.size
 by_cases hlt : i < n
 ·obtain ⟨x, hx⟩ : ∃ x_, l[i]? = some x_ := ⟨_, List.getElem?_eq_getElem (by omega)⟩
  obtain ⟨g1, o1, hA_, hr1⟩ := hl.row (map_at b8s hx) (by decide)
  subst hA_
  obtain ⟨y, hy⟩ : ∃ x_, l2[i]? = some x_ := ⟨_, List.getElem?_eq_getElem (by omega)⟩
  obtain ⟨g2, o2, hA_, hr2⟩ := hl2.row (map_at b8s hy) (by decide)
  subst hA_
  refine sR<|bT 0 14 ((i : Int) < (n : Int))<|eN<|wp_seq<|cT<|wp_skip<|nxt<|wp_seq<|wp_block<|sR<|rP 0 15 (vI i)<|rP 1 5 (vI i)<|eN<|wp_seq<|?_
  refine dReg ([]) (by kernel_rfl) ?_
  intro W2 ch1 sz1
  have zz1 := ch1.size
  have sS1 : Chg ([]) W2 W2 := (Chg.refl _).more (by simp)
  refine dW 0 16 (.slice (some ⟨g1, o1, none⟩) n c) sS1<|dW 1 17 (vI i) sS1<|dV 2 18 (pt g1 (o1 + i * 32)) rfl rfl (fun w' hw' => iS 32 g1 o1 n c i) sS1 ?_
  have kk1 := kA HB ch1
  refine dV 3 19 _ rfl rfl (fun w' hw' => lR (o1 + i * 32) (b8s x) (Chg.range hw' (Chg.range kk1 hr1 trivial) trivial) (by rw [b8s_length, hq x (List.mem_of_getElem? hx)]; kernel_rfl)) sS1<|dW 4 20 (.slice (some ⟨g2, o2, none⟩) m d) sS1<|dW 5 21 (vI i) sS1<|dV 6 22 (pt g2 (o2 + i * 32)) rfl rfl (fun w' hw' => iS 32 g2 o2 m d i) sS1<|dV 7 23 _ rfl rfl (fun w' hw' => lR (o2 + i * 32) (b8s y) (Chg.range hw' (Chg.range kk1 hr2 trivial) trivial) (by rw [b8s_length, hq2 y (List.mem_of_getElem? hy)]; kernel_rfl)) sS1 ?_
  by_cases hxy : x = y
  ·refine dV 8 24 vF rfl rfl (fun w' hw' => nqF (hxy) (run_neq_dg digT x y (hq x (List.mem_of_getElem? hx)) (hq2 y (List.mem_of_getElem? hy)) _ (.tmp 19) (.tmp 23) 28 rfl (by kernel_rfl) (by kernel_rfl))) sS1<|dN<|cF<|wp_skip<|inN<|nxt<|reg<|rI 0 25 ((i : Int) + 1) (((i + 1 : Nat) : Int))<|rP 1 13 (vI (i + 1 : Nat))<|eN<|?_
   refine ⟨_, ?_, i + 1, rfl, by kernel_rfl, (by omega), (by rw [take_sn hx, take_sn hy, htk, hxy]), kk1⟩
   omega
  exact dV 8 24 vT rfl rfl (fun w' hw' => nqT (hxy) (run_neq_dg digT x y (hq x (List.mem_of_getElem? hx)) (hq2 y (List.mem_of_getElem? hy)) _ (.tmp 19) (.tmp 23) 28 rfl (by kernel_rfl) (by kernel_rfl))) sS1<|dN<|cT<|sR<|rP 0 4 vF<|eN<|tI<|thR<|inR<|thR<|rt vF ⟨by rw [decide_eq_false (fun e_ => hxy (Option.some.inj (by rw [← hx, ← hy, e_])))], kk1⟩
 rw [List.take_of_length_le (show l.length ≤ i by omega), List.take_of_length_le (show l2.length ≤ i by omega)] at htk
 exact sR<|bF 0 14 ((i : Int) < (n : Int))<|eN<|wp_seq<|cF<|xX<|nxt<|sR<|rP 0 4 vT<|eN<|wp_ret<|rt vT ⟨by rw [decide_eq_true htk], HB⟩
theorem Prb1_any (u : Int × UInt8 × Nat) (w : World) : Calls Tryz.prog 52 #[.agg (updC u).toArray] w fun e w' => ∃ v, e = .returned (.bool v) ∧ (v = true ↔ ¬ Mur.goodU u) ∧ Chg [] w w' := by
 have hu8_ := u.2.1.toNat_lt
 refine calls_of_wp Tryz.func52 rfl ?_
 refine sR<|nW 0 1 #[vI u.1, vB u.2.1.toNat, vU u.2.2] 61 fun W1 hb1 ch1 sz1 => rP 1 2 vF<|eN<|sR<|rP 0 3 (pw w 0)<|rL 1 4 0 (vI u.1) hb1<|rK 2 5 (Node_any u.1 W1) ?_
 by_cases hpr1 : (0 : Int) ≤ u.1 ∧ u.1 < (16 : Int)
 ·rw [decide_eq_true hpr1]
  rintro _ W2 ⟨rfl, ch2⟩
  have zz2 := ch2.size
  refine rP 3 6 vF<|rP 4 7 vF<|rP 5 8 (pw w 1)<|rL 6 9 1 (vB u.2.1.toNat) (qT ch2 hb1) ?_
  by_cases hx1 : (u.2.1.toNat : Int) < (1 : Int)
  ·exact bT 7 10 ((u.2.1.toNat : Int) < (1 : Int))<|rP 8 11 vT<|rP 9 12 vT<|rZ 10 13<|rZ 11 14<|rZ 12 15<|rP 13 16 vT<|rP 14 17 vT<|rZ 15 18<|rZ 16 19<|rZ 17 20<|rP 18 21 vT<|rP 19 2 vT<|eN<|wp_ret<|rt vT ⟨_, rfl, ⟨fun _ h_ => (by unfold Mur.goodU at h_; omega), fun _ => rfl⟩, (kA (zA ch1 : Chg [] w W1) ch2)⟩
  refine bF 7 10 ((u.2.1.toNat : Int) < (1 : Int))<|rP 8 11 vF<|rP 9 12 vF<|rP 10 13 (pw w 1)<|rL 11 14 1 (vB u.2.1.toNat) (qT ch2 hb1) ?_
  by_cases hx2 : (u.2.1.toNat : Int) > (3 : Int)
  ·exact bT 12 15 ((u.2.1.toNat : Int) > (3 : Int))<|rP 13 16 vT<|rP 14 17 vT<|rZ 15 18<|rZ 16 19<|rZ 17 20<|rP 18 21 vT<|rP 19 2 vT<|eN<|wp_ret<|rt vT ⟨_, rfl, ⟨fun _ h_ => (by unfold Mur.goodU at h_; omega), fun _ => rfl⟩, (kA (zA ch1 : Chg [] w W1) ch2)⟩
  refine bF 12 15 ((u.2.1.toNat : Int) > (3 : Int))<|rP 13 16 vF<|rP 14 17 vF<|rP 15 18 (pw w 2)<|rL 16 19 2 (vU u.2.2) (qT ch2 hb1) ?_
  by_cases hx3 : (u.2.2 : Int) > (1099511627776 : Int)
  ·exact bT 17 20 ((u.2.2 : Int) > (1099511627776 : Int))<|rP 18 21 vT<|rP 19 2 vT<|eN<|wp_ret<|rt vT ⟨_, rfl, ⟨fun _ h_ => (by unfold Mur.goodU at h_; omega), fun _ => rfl⟩, (kA (zA ch1 : Chg [] w W1) ch2)⟩
  exact bF 17 20 ((u.2.2 : Int) > (1099511627776 : Int))<|rP 18 21 vF<|rP 19 2 vF<|eN<|wp_ret<|rt vF (noB (fun h_ => absurd (show Mur.goodU u by unfold Mur.goodU; omega) h_) (kA (zA ch1 : Chg [] w W1) ch2))
 rw [decide_eq_false hpr1]
 rintro _ W3 ⟨rfl, ch3⟩
 have zz3 := ch3.size
 exact rP 3 6 vT<|rP 4 7 vT<|rZ 5 8<|rZ 6 9<|rZ 7 10<|rP 8 11 vT<|rP 9 12 vT<|rZ 10 13<|rZ 11 14<|rZ 12 15<|rP 13 16 vT<|rP 14 17 vT<|rZ 15 18<|rZ 16 19<|rZ 17 20<|rP 18 21 vT<|rP 19 2 vT<|eN<|wp_ret<|rt vT ⟨_, rfl, ⟨fun _ h_ => (by unfold Mur.goodU at h_; omega), fun _ => rfl⟩, (kA (zA ch1 : Chg [] w W1) ch3)⟩
theorem IndexU_any (A : Option Addr) (n c : Nat) (l : List (Int × UInt8 × Nat)) (w : World) (hl : Mur.SlR w 3 A n (l.map updC)) (hn : n ≤ 9223372036854775807) : Calls Tryz.prog 81 #[.slice A n c, .func (.func 52) #[] #[]] w fun e w' => ∃ r : Int, e = .returned (vI r) ∧ (0 ≤ r ↔ ∃ y, y ∈ l ∧ ¬ Mur.goodU y) ∧ Chg [] w w' := by
 have hll := hl.len
 rw [List.length_map] at hll
 refine calls_of_wp Tryz.func81 rfl ?_
 refine sR<|rP 0 4 (vI 0)<|eN<|wp_seq<|sR<|rP 0 6 (.slice A n c)<|rP 1 7 (vI n)<|rP 2 8 (vI 0)<|eN<|wp_block<|?_
 refine Wk.loop (fun m_ a wr => ∃ (i : Nat), m_ = n - i ∧ a = IdxU_F1 a.tmps (.slice A n c) (.func (.func 52) #[] #[]) (vI n) (vI i) ∧ i ≤ n ∧ (∀ y, y ∈ l.take i → Mur.goodU y) ∧ Chg [] w wr) (n - 0) ?_ ?_
 ·refine ⟨0, rfl, by kernel_rfl, (by omega), (by simp), (Chg.refl _)⟩
 rintro mm1 aa1 W1 ⟨i, hmm1, hF1, hi, hall, HB⟩
 generalize aa1.tmps = bb1 at hF1
 subst hF1
 have hzB := HB.size
 by_cases hlt : i < n
 ·obtain ⟨x, hx⟩ : ∃ x_, l[i]? = some x_ := ⟨_, List.getElem?_eq_getElem (by omega)⟩
  obtain ⟨g1, o1, hA_, hr1⟩ := hl.row (map_at updC hx) (by decide)
  subst hA_
  refine sR<|bT 0 9 ((i : Int) < (n : Int))<|eN<|wp_seq<|cT<|wp_skip<|nxt<|wp_seq<|wp_block<|sR<|rP 0 10 (vI i)<|rP 1 5 (vI i)<|eN<|sR<|rP 0 11 (.func (.func 52) #[] #[])<|rP 1 12 (.slice (some ⟨g1, o1, none⟩) n c)<|rP 2 13 (vI i)<|rq 3 14 (pt g1 (o1 + i * 3)) rfl (iS 3 g1 o1 n c i)<|rq 4 15 _ rfl (lR (o1 + i * 3) (updC x) (Chg.range HB hr1 trivial)) ?_
  refine Wk.rCallV 5 (some 16) (.tmp 11) 52 #[] [.tmp 15] #[61] [.agg ((updC x).toArray)] rfl rfl (by kernel_rfl) rfl (by kernel_rfl) (by kernel_rfl) (by kernel_rfl) ?_
  refine (Prb1_any x W1).mono ?_
  rintro _ W2 ⟨bv1, rfl, hif1, ch1⟩
  have zz1 := ch1.size
  cases bv1
  ·refine ⟨_, rfl, ?_⟩
   refine eN<|cF<|wp_skip<|inN<|nxt<|reg<|rI 0 18 ((i : Int) + 1) (((i + 1 : Nat) : Int))<|rP 1 8 (vI (i + 1 : Nat))<|eN<|?_
   refine ⟨_, ?_, i + 1, rfl, by kernel_rfl, (by omega), (fun y_ hy_ => by rw [take_sn hx] at hy_; rcases List.mem_append.1 hy_ with h1_ | h1_ <;> first | exact hall y_ h1_ | (rw [List.mem_singleton.1 h1_]; exact Classical.not_not.1 (fun q_ => Bool.noConfusion (hif1.2 q_)))), (kA HB ch1)⟩
   omega
  refine ⟨_, rfl, ?_⟩
  exact eN<|cT<|sR<|rP 0 17 (vI i)<|rP 1 4 (vI i)<|eN<|tI<|thR<|inR<|thR<|rt (vI i) ⟨_, rfl, ⟨fun _ => ⟨x, List.mem_of_getElem? hx, (hif1.1 rfl)⟩, fun _ => by omega⟩, (kA HB ch1)⟩
 rw [List.take_of_length_le (show l.length ≤ i by omega)] at hall
 exact sR<|bF 0 9 ((i : Int) < (n : Int))<|eN<|wp_seq<|cF<|xX<|nxt<|sR<|rP 0 4 (vI (-1))<|eN<|wp_ret<|rt (vI (-1)) ⟨-1, rfl, ⟨fun h_ => absurd h_ (by decide), fun h_ => (by obtain ⟨y_, h1_, h2_⟩ := h_; exact absurd (hall y_ h1_) h2_)⟩, HB⟩
theorem ContU_any (A : Option Addr) (n c : Nat) (l : List (Int × UInt8 × Nat)) (w : World) (hl : Mur.SlR w 3 A n (l.map updC)) (hn : n ≤ 9223372036854775807) : Calls Tryz.prog 53 #[.slice A n c, .func (.func 52) #[] #[]] w fun e w' => ∃ v, e = .returned (.bool v) ∧ (v = true ↔ ∃ y, y ∈ l ∧ ¬ Mur.goodU y) ∧ Chg [] w w' := by
 have hll := hl.len
 rw [List.length_map] at hll
 refine calls_of_wp Tryz.func53 rfl ?_
 refine sR<|rP 0 4 vF<|eN<|sR<|rP 0 5 (.slice A n c)<|rP 1 6 (.func (.func 52) #[] #[])<|rK 2 7 (IndexU_any A n c l w hl hn) ?_
 rintro _ W1 ⟨ri1, rfl, hri1, ch1⟩
 have zz1 := ch1.size
 by_cases hx1 : ri1 ≥ (0 : Int)
 ·exact bT 3 8 (ri1 ≥ (0 : Int))<|rP 4 4 vT<|eN<|wp_ret<|rt vT (yesB (hri1.1 (by omega)) (zA ch1 : Chg [] w W1))
 exact bF 3 8 (ri1 ≥ (0 : Int))<|rP 4 4 vF<|eN<|wp_ret<|rt vF (noB (fun h_ => absurd (hri1.2 h_) (by omega)) (zA ch1 : Chg [] w W1))
end Go.Proofs.YtgbadghjnpbiaaaGreatDoor
