/- What the row rests on, part 9. -/
import Derived.Test.YtgbadghjnpbiaaaDoorRS5
import Derived.Test.YtgbadghjnpbiaaaDoorRS6
import Derived.Test.YtgbadghjnpbiaaaDoorRS8
import Derived.Test.YtgbadghjnpbiaaaDoorRS7
namespace Go.Proofs.YtgbadghjnpbiaaaDoor
open Go.RowKit Wk
open Mur (b8s Byt Own8 Seg Segs flat cutA attC)
set_option maxRecDepth 100000
set_option maxHeartbeats 4000000
theorem Read_no (g off c : Nat) (b K R E T : List UInt8) (V : Nat) (w : World) (hb : Byt w (some ⟨g, off, none⟩) 104 b) (hc : 104 ≤ c) (hK : (b.take 32).drop 0 = K) (hR : (b.take 64).drop 32 = R) (hE : (b.take 72).drop 64 = E) (hT : (b.take 104).drop 72 = T) (hV : Mur.be8 E = V) (hm : ¬ (1 ≤ V ∧ V ≤ 5000)) : Calls Tryd.prog 68 #[.slice (some ⟨g, off, none⟩) 104 c] w fun e w' => e = .returned (.tuple #[.agg (attC Mur.z32 Mur.z32 0 Mur.z32).toArray, .int .i64 5]) ∧ Chg [] w w' := by
 have hb0 : Byt w (some ⟨g, off + 0, none⟩) 32 K := by have := Mur.byt_sub hb 0 32 32 rfl (by omega); rw [hK] at this; exact this
 have hb32 : Byt w (some ⟨g, off + 32, none⟩) 32 R := by have := Mur.byt_sub hb 32 64 32 rfl (by omega); rw [hR] at this; exact this
 have hb64 : Byt w (some ⟨g, off + 64, none⟩) 8 E := by have := Mur.byt_sub hb 64 72 8 rfl (by omega); rw [hE] at this; exact this
 have hb72 : Byt w (some ⟨g, off + 72, none⟩) 32 T := by have := Mur.byt_sub hb 72 104 32 rfl (by omega); rw [hT] at this; exact this
 have hx0_ := (E.getD 0 0).toNat_lt
 have hx1_ := (E.getD 1 0).toNat_lt
 have hx2_ := (E.getD 2 0).toNat_lt
 have hx3_ := (E.getD 3 0).toNat_lt
 have hx4_ := (E.getD 4 0).toNat_lt
 have hx5_ := (E.getD 5 0).toNat_lt
 have hx6_ := (E.getD 6 0).toNat_lt
 have hx7_ := (E.getD 7 0).toNat_lt
 refine calls_of_wp Tryd.func68 rfl ?_
 refine sR<|nW 0 2 (Mur.attC Mur.z32 Mur.z32 0 Mur.z32).toArray 36 fun W1 hb1 ch1 sz1 => rP 1 3 (.int .i64 0)<|eN<|wp_seq<|sR<|rP 0 7 (.slice (some ⟨g, off, none⟩) 104 c)<|rP 1 8 (.int .i64 104)<|nF 2 9 (104 : Int) (104 : Int)<|eN<|cF<|wp_skip<|nxt<|wp_seq<|?_
 refine dReg ([w.heap.size]) (by kernel_rfl) ?_
 intro W2 ch2 sz2
 have zz2 := ch2.size
 have sS1 : Chg ([w.heap.size]) W2 W2 := (Chg.refl _).more (by simp)
 refine dW 0 11 (pt w.heap.size 0) sS1 ?_
 refine dV 1 12 (.slice (some ⟨w.heap.size, 0, none⟩) 32 32) rfl rfl (fun w' hw' => Mur.arr_slice 29 5 (.tmp 11) 32 rfl Tryd.underlying29 (by kernel_rfl) w.heap.size (by kernel_rfl)) sS1 ?_
 refine dW 2 13 (.slice (some ⟨g, off, none⟩) 104 c) sS1 ?_
 refine dV 3 14 (.slice (some ⟨g, off + 0, none⟩) 32 32) rfl rfl (fun w' hw' => Mur.run_cut3 22 (.tmp 13) none (.const (.int .i64 32)) (.const (.int .i64 32)) rfl 5 Tryd.underlying22 (by kernel_rfl) g off 104 c 0 32 32 32 (by kernel_rfl) (.inr ⟨rfl, rfl⟩) (by kernel_rfl) (by kernel_rfl) rfl rfl (by omega) (by omega)) sS1 ?_
 refine dOp 4 (by kernel_rfl) ?_
 have kk1 : Chg [] w W1 := zA ch1
 have kk2 := kA kk1 ch2
 refine oEx (some 15) _ rfl rfl (by kernel_rfl) (Mur.copy_mid (.tmp 12) (.tmp 14) 22 22 rfl 5 Tryd.underlying22 (by kernel_rfl) w.heap.size 0 32 32 (by kernel_rfl) (some ⟨g, off + 0, none⟩) 32 32 (by kernel_rfl) 36 (Mur.attC Mur.z32 Mur.z32 0 Mur.z32) K (qT ch2 hb1) (Mur.byt_chg hb0 kk2 (fun g off e hl => trivial)) (by omega) (by omega) (by rw [Mur.attC_length rfl rfl rfl]; omega) _ (Mur.att_sp0 rfl hb0.1)) ?_
 rintro _ W3 ⟨rfl, hb2, ch3⟩
 have zz3 := ch3.size
 have sS2 := kC sS1 ch3
 refine ⟨sS2, ?_⟩
 refine dN<|wp_seq<|?_
 refine dReg ([w.heap.size]) (by kernel_rfl) ?_
 intro W4 ch4 sz3
 have zz4 := ch4.size
 have sS3 : Chg ([w.heap.size]) W4 W4 := (Chg.refl _).more (by simp)
 refine dW 0 16 (pt w.heap.size 32) sS3 ?_
 refine dV 1 17 (.slice (some ⟨w.heap.size, 32, none⟩) 32 32) rfl rfl (fun w' hw' => Mur.arr_slice_at 29 5 (.tmp 16) 32 rfl Tryd.underlying29 (by kernel_rfl) w.heap.size 32 (by kernel_rfl)) sS3 ?_
 refine dW 2 18 (.slice (some ⟨g, off, none⟩) 104 c) sS3 ?_
 refine dV 3 19 (.slice (some ⟨g, off + 32, none⟩) 32 32) rfl rfl (fun w' hw' => Mur.run_cut3 22 (.tmp 18) (some (.const (.int .i64 32))) (.const (.int .i64 64)) (.const (.int .i64 64)) rfl 5 Tryd.underlying22 (by kernel_rfl) g off 104 c 32 64 64 32 (by kernel_rfl) (.inl (by kernel_rfl)) (by kernel_rfl) (by kernel_rfl) rfl rfl (by omega) (by omega)) sS3 ?_
 refine dOp 4 (by kernel_rfl) ?_
 have kk3 := kB kk2 ch3
 have kk4 := kA kk3 ch4
 refine oEx (some 20) _ rfl rfl (by kernel_rfl) (Mur.copy_mid (.tmp 17) (.tmp 19) 22 22 rfl 5 Tryd.underlying22 (by kernel_rfl) w.heap.size 32 32 32 (by kernel_rfl) (some ⟨g, off + 32, none⟩) 32 32 (by kernel_rfl) 36 (Mur.attC K Mur.z32 0 Mur.z32) R (qT ch4 hb2) (Mur.byt_chg hb32 kk4 (fun g off e hl => trivial)) (by omega) (by omega) (by rw [Mur.attC_length hb0.1 rfl rfl]; omega) _ (Mur.att_sp32 hb0.1 rfl hb32.1)) ?_
 rintro _ W5 ⟨rfl, hb3, ch5⟩
 have zz5 := ch5.size
 have sS4 := kC sS3 ch5
 refine ⟨sS4, ?_⟩
 refine dN<|sR<|?_
 refine rP 0 4 (.int .u64 0)<|eN<|wp_seq<|sR<|rP 0 21 (.slice (some ⟨g, off, none⟩) 104 c)<|rq 1 22 (.slice (some ⟨g, off + 64, none⟩) 8 8) rfl (Mur.run_cut3 22 (.tmp 21) (some (.const (.int .i64 64))) (.const (.int .i64 72)) (.const (.int .i64 72)) rfl 5 Tryd.underlying22 (by kernel_rfl) g off 104 c 64 72 72 8 (by kernel_rfl) (.inl (by kernel_rfl)) (by kernel_rfl) (by kernel_rfl) rfl rfl (by omega) (by omega))<|rP 2 23 (.int .i64 8)<|rP 3 24 (.int .i64 0)<|eN<|wp_block<|?_
 refine Wk.loopN 9 ?_
 refine Wk.rdS<|sR<|?_
 refine bT 0 25 ((0 : Int) < (8 : Int))<|eN<|wp_seq<|cT<|wp_skip<|nxt<|wp_seq<|wp_block<|sR<|rq 0 26 (pt g (off + 64 + 0 * 1)) rfl (iS 1 g (off + 64) 8 8 0) ?_
 have kk5 := kB kk4 ch5
 refine rq 1 27 _ rfl (ld 5 26 g (off + 64 + 0 * 1) (.int .u8 ((E.getD 0 0).toNat : Nat)) (Mur.byt_cell (Mur.byt_chg hb64 kk5 (fun g off e hl => trivial)) 0 (by omega)))<|rP 2 6 (.int .u8 ((E.getD 0 0).toNat : Nat))<|eN<|reg<|rP 0 28 (.int .u64 0)<|rq 1 29 (.int .u64 (0 * 256 : Nat)) rfl (Mur.shl8_64 24 139 (.tmp 28) (.const (.int .u64 8)) rfl 0 .u64 (by kernel_rfl) (by kernel_rfl) (by omega))<|rP 2 30 (.int .u8 ((E.getD 0 0).toNat : Nat))<|rq 3 31 (.int .u64 ((E.getD 0 0).toNat : Nat)) rfl (Mur.conv_int 5 24 (.tmp 30) rfl (by kernel_rfl) .u64 Tryd.underlying24 .u8 (((E.getD 0 0).toNat : Nat) : Int) (by kernel_rfl) (Mur.u64_nat (by omega)))<|rq 4 32 (.int .u64 (0 * 256 + (E.getD 0 0).toNat : Nat)) rfl (Mur.or64 24 24 (.tmp 29) (.tmp 31) rfl 0 (E.getD 0 0).toNat (by kernel_rfl) (by kernel_rfl) (by omega) (by omega))<|rP 5 4 (.int .u64 (0 * 256 + (E.getD 0 0).toNat : Nat))<|rE<|inN<|nxt<|reg<|rI 0 33 (0 + 1) (1)<|rP 1 24 (.int .i64 1)<|eN<|Wk.rdS<|sR<|bT 0 25 ((1 : Int) < (8 : Int))<|eN<|wp_seq<|cT<|wp_skip<|nxt<|wp_seq<|wp_block<|sR<|rq 0 26 (pt g (off + 64 + 1 * 1)) rfl (iS 1 g (off + 64) 8 8 1)<|rq 1 27 _ rfl (ld 5 26 g (off + 64 + 1 * 1) (.int .u8 ((E.getD 1 0).toNat : Nat)) (Mur.byt_cell (Mur.byt_chg hb64 kk5 (fun g off e hl => trivial)) 1 (by omega)))<|rP 2 6 (.int .u8 ((E.getD 1 0).toNat : Nat))<|eN<|reg<|rP 0 28 (.int .u64 (0 * 256 + (E.getD 0 0).toNat : Nat))<|rq 1 29 (.int .u64 ((0 * 256 + (E.getD 0 0).toNat) * 256 : Nat)) rfl (Mur.shl8_64 24 139 (.tmp 28) (.const (.int .u64 8)) rfl (0 * 256 + (E.getD 0 0).toNat) .u64 (by kernel_rfl) (by kernel_rfl) (by omega)) ?_
 refine rP 2 30 (.int .u8 ((E.getD 1 0).toNat : Nat))<|rq 3 31 (.int .u64 ((E.getD 1 0).toNat : Nat)) rfl (Mur.conv_int 5 24 (.tmp 30) rfl (by kernel_rfl) .u64 Tryd.underlying24 .u8 (((E.getD 1 0).toNat : Nat) : Int) (by kernel_rfl) (Mur.u64_nat (by omega)))<|rq 4 32 (.int .u64 ((0 * 256 + (E.getD 0 0).toNat) * 256 + (E.getD 1 0).toNat : Nat)) rfl (Mur.or64 24 24 (.tmp 29) (.tmp 31) rfl (0 * 256 + (E.getD 0 0).toNat) (E.getD 1 0).toNat (by kernel_rfl) (by kernel_rfl) (by omega) (by omega))<|rP 5 4 (.int .u64 ((0 * 256 + (E.getD 0 0).toNat) * 256 + (E.getD 1 0).toNat : Nat))<|rE<|inN<|nxt<|reg<|rI 0 33 (1 + 1) (2)<|rP 1 24 (.int .i64 2)<|eN<|Wk.rdS<|sR<|bT 0 25 ((2 : Int) < (8 : Int))<|eN<|wp_seq<|cT<|wp_skip<|nxt<|wp_seq<|wp_block<|sR<|rq 0 26 (pt g (off + 64 + 2 * 1)) rfl (iS 1 g (off + 64) 8 8 2)<|rq 1 27 _ rfl (ld 5 26 g (off + 64 + 2 * 1) (.int .u8 ((E.getD 2 0).toNat : Nat)) (Mur.byt_cell (Mur.byt_chg hb64 kk5 (fun g off e hl => trivial)) 2 (by omega)))<|rP 2 6 (.int .u8 ((E.getD 2 0).toNat : Nat))<|eN<|reg<|rP 0 28 (.int .u64 ((0 * 256 + (E.getD 0 0).toNat) * 256 + (E.getD 1 0).toNat : Nat))<|rq 1 29 (.int .u64 (((0 * 256 + (E.getD 0 0).toNat) * 256 + (E.getD 1 0).toNat) * 256 : Nat)) rfl (Mur.shl8_64 24 139 (.tmp 28) (.const (.int .u64 8)) rfl ((0 * 256 + (E.getD 0 0).toNat) * 256 + (E.getD 1 0).toNat) .u64 (by kernel_rfl) (by kernel_rfl) (by omega))<|rP 2 30 (.int .u8 ((E.getD 2 0).toNat : Nat))<|rq 3 31 (.int .u64 ((E.getD 2 0).toNat : Nat)) rfl (Mur.conv_int 5 24 (.tmp 30) rfl (by kernel_rfl) .u64 Tryd.underlying24 .u8 (((E.getD 2 0).toNat : Nat) : Int) (by kernel_rfl) (Mur.u64_nat (by omega))) ?_
 refine rq 4 32 (.int .u64 (((0 * 256 + (E.getD 0 0).toNat) * 256 + (E.getD 1 0).toNat) * 256 + (E.getD 2 0).toNat : Nat)) rfl (Mur.or64 24 24 (.tmp 29) (.tmp 31) rfl ((0 * 256 + (E.getD 0 0).toNat) * 256 + (E.getD 1 0).toNat) (E.getD 2 0).toNat (by kernel_rfl) (by kernel_rfl) (by omega) (by omega))<|rP 5 4 (.int .u64 (((0 * 256 + (E.getD 0 0).toNat) * 256 + (E.getD 1 0).toNat) * 256 + (E.getD 2 0).toNat : Nat))<|rE<|inN<|nxt<|reg<|rI 0 33 (2 + 1) (3)<|rP 1 24 (.int .i64 3)<|eN<|Wk.rdS<|sR<|bT 0 25 ((3 : Int) < (8 : Int))<|eN<|wp_seq<|cT<|wp_skip<|nxt<|wp_seq<|wp_block<|sR<|rq 0 26 (pt g (off + 64 + 3 * 1)) rfl (iS 1 g (off + 64) 8 8 3)<|rq 1 27 _ rfl (ld 5 26 g (off + 64 + 3 * 1) (.int .u8 ((E.getD 3 0).toNat : Nat)) (Mur.byt_cell (Mur.byt_chg hb64 kk5 (fun g off e hl => trivial)) 3 (by omega)))<|rP 2 6 (.int .u8 ((E.getD 3 0).toNat : Nat))<|eN<|reg<|rP 0 28 (.int .u64 (((0 * 256 + (E.getD 0 0).toNat) * 256 + (E.getD 1 0).toNat) * 256 + (E.getD 2 0).toNat : Nat))<|rq 1 29 (.int .u64 ((((0 * 256 + (E.getD 0 0).toNat) * 256 + (E.getD 1 0).toNat) * 256 + (E.getD 2 0).toNat) * 256 : Nat)) rfl (Mur.shl8_64 24 139 (.tmp 28) (.const (.int .u64 8)) rfl (((0 * 256 + (E.getD 0 0).toNat) * 256 + (E.getD 1 0).toNat) * 256 + (E.getD 2 0).toNat) .u64 (by kernel_rfl) (by kernel_rfl) (by omega))<|rP 2 30 (.int .u8 ((E.getD 3 0).toNat : Nat))<|rq 3 31 (.int .u64 ((E.getD 3 0).toNat : Nat)) rfl (Mur.conv_int 5 24 (.tmp 30) rfl (by kernel_rfl) .u64 Tryd.underlying24 .u8 (((E.getD 3 0).toNat : Nat) : Int) (by kernel_rfl) (Mur.u64_nat (by omega))) ?_
 refine rq 4 32 (.int .u64 ((((0 * 256 + (E.getD 0 0).toNat) * 256 + (E.getD 1 0).toNat) * 256 + (E.getD 2 0).toNat) * 256 + (E.getD 3 0).toNat : Nat)) rfl (Mur.or64 24 24 (.tmp 29) (.tmp 31) rfl (((0 * 256 + (E.getD 0 0).toNat) * 256 + (E.getD 1 0).toNat) * 256 + (E.getD 2 0).toNat) (E.getD 3 0).toNat (by kernel_rfl) (by kernel_rfl) (by omega) (by omega))<|rP 5 4 (.int .u64 ((((0 * 256 + (E.getD 0 0).toNat) * 256 + (E.getD 1 0).toNat) * 256 + (E.getD 2 0).toNat) * 256 + (E.getD 3 0).toNat : Nat))<|rE<|inN<|nxt<|reg<|rI 0 33 (3 + 1) (4)<|rP 1 24 (.int .i64 4)<|eN<|Wk.rdS<|sR<|bT 0 25 ((4 : Int) < (8 : Int))<|eN<|wp_seq<|cT<|wp_skip<|nxt<|wp_seq<|wp_block<|sR<|rq 0 26 (pt g (off + 64 + 4 * 1)) rfl (iS 1 g (off + 64) 8 8 4)<|rq 1 27 _ rfl (ld 5 26 g (off + 64 + 4 * 1) (.int .u8 ((E.getD 4 0).toNat : Nat)) (Mur.byt_cell (Mur.byt_chg hb64 kk5 (fun g off e hl => trivial)) 4 (by omega)))<|rP 2 6 (.int .u8 ((E.getD 4 0).toNat : Nat))<|eN<|reg<|rP 0 28 (.int .u64 ((((0 * 256 + (E.getD 0 0).toNat) * 256 + (E.getD 1 0).toNat) * 256 + (E.getD 2 0).toNat) * 256 + (E.getD 3 0).toNat : Nat))<|rq 1 29 (.int .u64 (((((0 * 256 + (E.getD 0 0).toNat) * 256 + (E.getD 1 0).toNat) * 256 + (E.getD 2 0).toNat) * 256 + (E.getD 3 0).toNat) * 256 : Nat)) rfl (Mur.shl8_64 24 139 (.tmp 28) (.const (.int .u64 8)) rfl ((((0 * 256 + (E.getD 0 0).toNat) * 256 + (E.getD 1 0).toNat) * 256 + (E.getD 2 0).toNat) * 256 + (E.getD 3 0).toNat) .u64 (by kernel_rfl) (by kernel_rfl) (by omega))<|rP 2 30 (.int .u8 ((E.getD 4 0).toNat : Nat)) ?_
 refine rq 3 31 (.int .u64 ((E.getD 4 0).toNat : Nat)) rfl (Mur.conv_int 5 24 (.tmp 30) rfl (by kernel_rfl) .u64 Tryd.underlying24 .u8 (((E.getD 4 0).toNat : Nat) : Int) (by kernel_rfl) (Mur.u64_nat (by omega)))<|rq 4 32 (.int .u64 (((((0 * 256 + (E.getD 0 0).toNat) * 256 + (E.getD 1 0).toNat) * 256 + (E.getD 2 0).toNat) * 256 + (E.getD 3 0).toNat) * 256 + (E.getD 4 0).toNat : Nat)) rfl (Mur.or64 24 24 (.tmp 29) (.tmp 31) rfl ((((0 * 256 + (E.getD 0 0).toNat) * 256 + (E.getD 1 0).toNat) * 256 + (E.getD 2 0).toNat) * 256 + (E.getD 3 0).toNat) (E.getD 4 0).toNat (by kernel_rfl) (by kernel_rfl) (by omega) (by omega))<|rP 5 4 (.int .u64 (((((0 * 256 + (E.getD 0 0).toNat) * 256 + (E.getD 1 0).toNat) * 256 + (E.getD 2 0).toNat) * 256 + (E.getD 3 0).toNat) * 256 + (E.getD 4 0).toNat : Nat))<|rE<|inN<|nxt<|reg<|rI 0 33 (4 + 1) (5)<|rP 1 24 (.int .i64 5)<|eN<|Wk.rdS<|sR<|bT 0 25 ((5 : Int) < (8 : Int))<|eN<|wp_seq<|cT<|wp_skip<|nxt<|wp_seq<|wp_block<|sR<|rq 0 26 (pt g (off + 64 + 5 * 1)) rfl (iS 1 g (off + 64) 8 8 5)<|rq 1 27 _ rfl (ld 5 26 g (off + 64 + 5 * 1) (.int .u8 ((E.getD 5 0).toNat : Nat)) (Mur.byt_cell (Mur.byt_chg hb64 kk5 (fun g off e hl => trivial)) 5 (by omega)))<|rP 2 6 (.int .u8 ((E.getD 5 0).toNat : Nat))<|eN<|reg<|rP 0 28 (.int .u64 (((((0 * 256 + (E.getD 0 0).toNat) * 256 + (E.getD 1 0).toNat) * 256 + (E.getD 2 0).toNat) * 256 + (E.getD 3 0).toNat) * 256 + (E.getD 4 0).toNat : Nat))<|rq 1 29 (.int .u64 ((((((0 * 256 + (E.getD 0 0).toNat) * 256 + (E.getD 1 0).toNat) * 256 + (E.getD 2 0).toNat) * 256 + (E.getD 3 0).toNat) * 256 + (E.getD 4 0).toNat) * 256 : Nat)) rfl (Mur.shl8_64 24 139 (.tmp 28) (.const (.int .u64 8)) rfl (((((0 * 256 + (E.getD 0 0).toNat) * 256 + (E.getD 1 0).toNat) * 256 + (E.getD 2 0).toNat) * 256 + (E.getD 3 0).toNat) * 256 + (E.getD 4 0).toNat) .u64 (by kernel_rfl) (by kernel_rfl) (by omega)) ?_
 refine rP 2 30 (.int .u8 ((E.getD 5 0).toNat : Nat))<|rq 3 31 (.int .u64 ((E.getD 5 0).toNat : Nat)) rfl (Mur.conv_int 5 24 (.tmp 30) rfl (by kernel_rfl) .u64 Tryd.underlying24 .u8 (((E.getD 5 0).toNat : Nat) : Int) (by kernel_rfl) (Mur.u64_nat (by omega)))<|rq 4 32 (.int .u64 ((((((0 * 256 + (E.getD 0 0).toNat) * 256 + (E.getD 1 0).toNat) * 256 + (E.getD 2 0).toNat) * 256 + (E.getD 3 0).toNat) * 256 + (E.getD 4 0).toNat) * 256 + (E.getD 5 0).toNat : Nat)) rfl (Mur.or64 24 24 (.tmp 29) (.tmp 31) rfl (((((0 * 256 + (E.getD 0 0).toNat) * 256 + (E.getD 1 0).toNat) * 256 + (E.getD 2 0).toNat) * 256 + (E.getD 3 0).toNat) * 256 + (E.getD 4 0).toNat) (E.getD 5 0).toNat (by kernel_rfl) (by kernel_rfl) (by omega) (by omega))<|rP 5 4 (.int .u64 ((((((0 * 256 + (E.getD 0 0).toNat) * 256 + (E.getD 1 0).toNat) * 256 + (E.getD 2 0).toNat) * 256 + (E.getD 3 0).toNat) * 256 + (E.getD 4 0).toNat) * 256 + (E.getD 5 0).toNat : Nat))<|rE<|inN<|nxt<|reg<|rI 0 33 (5 + 1) (6)<|rP 1 24 (.int .i64 6)<|eN<|Wk.rdS<|sR<|bT 0 25 ((6 : Int) < (8 : Int))<|eN<|wp_seq<|cT<|wp_skip<|nxt<|wp_seq<|wp_block<|sR<|rq 0 26 (pt g (off + 64 + 6 * 1)) rfl (iS 1 g (off + 64) 8 8 6)<|rq 1 27 _ rfl (ld 5 26 g (off + 64 + 6 * 1) (.int .u8 ((E.getD 6 0).toNat : Nat)) (Mur.byt_cell (Mur.byt_chg hb64 kk5 (fun g off e hl => trivial)) 6 (by omega)))<|rP 2 6 (.int .u8 ((E.getD 6 0).toNat : Nat))<|eN<|reg<|rP 0 28 (.int .u64 ((((((0 * 256 + (E.getD 0 0).toNat) * 256 + (E.getD 1 0).toNat) * 256 + (E.getD 2 0).toNat) * 256 + (E.getD 3 0).toNat) * 256 + (E.getD 4 0).toNat) * 256 + (E.getD 5 0).toNat : Nat)) ?_
 refine rq 1 29 (.int .u64 (((((((0 * 256 + (E.getD 0 0).toNat) * 256 + (E.getD 1 0).toNat) * 256 + (E.getD 2 0).toNat) * 256 + (E.getD 3 0).toNat) * 256 + (E.getD 4 0).toNat) * 256 + (E.getD 5 0).toNat) * 256 : Nat)) rfl (Mur.shl8_64 24 139 (.tmp 28) (.const (.int .u64 8)) rfl ((((((0 * 256 + (E.getD 0 0).toNat) * 256 + (E.getD 1 0).toNat) * 256 + (E.getD 2 0).toNat) * 256 + (E.getD 3 0).toNat) * 256 + (E.getD 4 0).toNat) * 256 + (E.getD 5 0).toNat) .u64 (by kernel_rfl) (by kernel_rfl) (by omega))<|rP 2 30 (.int .u8 ((E.getD 6 0).toNat : Nat))<|rq 3 31 (.int .u64 ((E.getD 6 0).toNat : Nat)) rfl (Mur.conv_int 5 24 (.tmp 30) rfl (by kernel_rfl) .u64 Tryd.underlying24 .u8 (((E.getD 6 0).toNat : Nat) : Int) (by kernel_rfl) (Mur.u64_nat (by omega)))<|rq 4 32 (.int .u64 (((((((0 * 256 + (E.getD 0 0).toNat) * 256 + (E.getD 1 0).toNat) * 256 + (E.getD 2 0).toNat) * 256 + (E.getD 3 0).toNat) * 256 + (E.getD 4 0).toNat) * 256 + (E.getD 5 0).toNat) * 256 + (E.getD 6 0).toNat : Nat)) rfl (Mur.or64 24 24 (.tmp 29) (.tmp 31) rfl ((((((0 * 256 + (E.getD 0 0).toNat) * 256 + (E.getD 1 0).toNat) * 256 + (E.getD 2 0).toNat) * 256 + (E.getD 3 0).toNat) * 256 + (E.getD 4 0).toNat) * 256 + (E.getD 5 0).toNat) (E.getD 6 0).toNat (by kernel_rfl) (by kernel_rfl) (by omega) (by omega))<|rP 5 4 (.int .u64 (((((((0 * 256 + (E.getD 0 0).toNat) * 256 + (E.getD 1 0).toNat) * 256 + (E.getD 2 0).toNat) * 256 + (E.getD 3 0).toNat) * 256 + (E.getD 4 0).toNat) * 256 + (E.getD 5 0).toNat) * 256 + (E.getD 6 0).toNat : Nat)) ?_
 refine rE<|inN<|nxt<|reg<|rI 0 33 (6 + 1) (7)<|rP 1 24 (.int .i64 7)<|eN<|Wk.rdS<|sR<|bT 0 25 ((7 : Int) < (8 : Int))<|eN<|wp_seq<|cT<|wp_skip<|nxt<|wp_seq<|wp_block<|sR<|rq 0 26 (pt g (off + 64 + 7 * 1)) rfl (iS 1 g (off + 64) 8 8 7)<|rq 1 27 _ rfl (ld 5 26 g (off + 64 + 7 * 1) (.int .u8 ((E.getD 7 0).toNat : Nat)) (Mur.byt_cell (Mur.byt_chg hb64 kk5 (fun g off e hl => trivial)) 7 (by omega)))<|rP 2 6 (.int .u8 ((E.getD 7 0).toNat : Nat))<|eN<|reg<|rP 0 28 (.int .u64 (((((((0 * 256 + (E.getD 0 0).toNat) * 256 + (E.getD 1 0).toNat) * 256 + (E.getD 2 0).toNat) * 256 + (E.getD 3 0).toNat) * 256 + (E.getD 4 0).toNat) * 256 + (E.getD 5 0).toNat) * 256 + (E.getD 6 0).toNat : Nat))<|rq 1 29 (.int .u64 ((((((((0 * 256 + (E.getD 0 0).toNat) * 256 + (E.getD 1 0).toNat) * 256 + (E.getD 2 0).toNat) * 256 + (E.getD 3 0).toNat) * 256 + (E.getD 4 0).toNat) * 256 + (E.getD 5 0).toNat) * 256 + (E.getD 6 0).toNat) * 256 : Nat)) rfl (Mur.shl8_64 24 139 (.tmp 28) (.const (.int .u64 8)) rfl (((((((0 * 256 + (E.getD 0 0).toNat) * 256 + (E.getD 1 0).toNat) * 256 + (E.getD 2 0).toNat) * 256 + (E.getD 3 0).toNat) * 256 + (E.getD 4 0).toNat) * 256 + (E.getD 5 0).toNat) * 256 + (E.getD 6 0).toNat) .u64 (by kernel_rfl) (by kernel_rfl) (by omega))<|rP 2 30 (.int .u8 ((E.getD 7 0).toNat : Nat))<|rq 3 31 (.int .u64 ((E.getD 7 0).toNat : Nat)) rfl (Mur.conv_int 5 24 (.tmp 30) rfl (by kernel_rfl) .u64 Tryd.underlying24 .u8 (((E.getD 7 0).toNat : Nat) : Int) (by kernel_rfl) (Mur.u64_nat (by omega)))<|rq 4 32 (.int .u64 ((((((((0 * 256 + (E.getD 0 0).toNat) * 256 + (E.getD 1 0).toNat) * 256 + (E.getD 2 0).toNat) * 256 + (E.getD 3 0).toNat) * 256 + (E.getD 4 0).toNat) * 256 + (E.getD 5 0).toNat) * 256 + (E.getD 6 0).toNat) * 256 + (E.getD 7 0).toNat : Nat)) rfl (Mur.or64 24 24 (.tmp 29) (.tmp 31) rfl (((((((0 * 256 + (E.getD 0 0).toNat) * 256 + (E.getD 1 0).toNat) * 256 + (E.getD 2 0).toNat) * 256 + (E.getD 3 0).toNat) * 256 + (E.getD 4 0).toNat) * 256 + (E.getD 5 0).toNat) * 256 + (E.getD 6 0).toNat) (E.getD 7 0).toNat (by kernel_rfl) (by kernel_rfl) (by omega) (by omega)) ?_
 refine rP 5 4 (.int .u64 ((((((((0 * 256 + (E.getD 0 0).toNat) * 256 + (E.getD 1 0).toNat) * 256 + (E.getD 2 0).toNat) * 256 + (E.getD 3 0).toNat) * 256 + (E.getD 4 0).toNat) * 256 + (E.getD 5 0).toNat) * 256 + (E.getD 6 0).toNat) * 256 + (E.getD 7 0).toNat : Nat))<|rE<|inN<|nxt<|reg<|rI 0 33 (7 + 1) (8)<|rP 1 24 (.int .i64 8)<|eN<|Wk.rdS<|sR<|bF 0 25 ((8 : Int) < (8 : Int))<|eN<|wp_seq<|cF<|xX<|nxt<|wp_seq<|sR<|rq 0 34 (.int .u64 V) rfl (Wk.val (v := .int .u64 ((((((((0 * 256 + (E.getD 0 0).toNat) * 256 + (E.getD 1 0).toNat) * 256 + (E.getD 2 0).toNat) * 256 + (E.getD 3 0).toNat) * 256 + (E.getD 4 0).toNat) * 256 + (E.getD 5 0).toNat) * 256 + (E.getD 6 0).toNat) * 256 + (E.getD 7 0).toNat : Nat)) (congrArg (fun z : Nat => Value.int .u64 (z : Int)) hV) (by kernel_rfl)) ?_
 by_cases hx1 : (V : Int) < (1 : Int)
 ·refine bT 1 35 ((V : Int) < (1 : Int))<|rP 2 36 (.bool true)<|rZ 3 37<|rZ 4 38<|rP 5 39 (.bool true)<|eN<|cT<|sR<|rP 0 40 (.agg ((Mur.attC Mur.z32 Mur.z32 0 Mur.z32).toArray))<|rU 1 rfl (sB (Mur.attC Mur.z32 Mur.z32 0 Mur.z32).toArray (Mur.attC_size rfl rfl rfl) Mur.attC_all hb3 (Mur.attC_size hb0.1 hb32.1 rfl)) fun W6 hb4 ch6 zz6 => rP 2 3 (.int .i64 5)<|eN<|tR<|?_
  have kk6 := kB kk5 ch6
  refine Wk.ret (.tuple #[.agg (Mur.attC Mur.z32 Mur.z32 0 Mur.z32).toArray, .int .i64 5]) rfl (results_att rfl _ _ w.heap.size (Mur.attC Mur.z32 Mur.z32 0 Mur.z32).toArray (0, 0) (.int .i64 5) (by kernel_rfl) hb4 (Mur.attC_size rfl rfl rfl) (by kernel_rfl)) ?_
  exact ⟨rfl, kk6⟩
 refine bF 1 35 ((V : Int) < (1 : Int))<|rP 2 36 (.bool false)<|rq 3 37 (.int .u64 V) rfl (Wk.val (v := .int .u64 ((((((((0 * 256 + (E.getD 0 0).toNat) * 256 + (E.getD 1 0).toNat) * 256 + (E.getD 2 0).toNat) * 256 + (E.getD 3 0).toNat) * 256 + (E.getD 4 0).toNat) * 256 + (E.getD 5 0).toNat) * 256 + (E.getD 6 0).toNat) * 256 + (E.getD 7 0).toNat : Nat)) (congrArg (fun z : Nat => Value.int .u64 (z : Int)) hV) (by kernel_rfl)) ?_
 by_cases hx2 : (V : Int) > (5000 : Int)
 ·refine bT 4 38 ((V : Int) > (5000 : Int))<|rP 5 39 (.bool true)<|eN<|cT<|sR<|rP 0 40 (.agg ((Mur.attC Mur.z32 Mur.z32 0 Mur.z32).toArray))<|rU 1 rfl (sB (Mur.attC Mur.z32 Mur.z32 0 Mur.z32).toArray (Mur.attC_size rfl rfl rfl) Mur.attC_all hb3 (Mur.attC_size hb0.1 hb32.1 rfl)) fun W7 hb5 ch7 zz7 => rP 2 3 (.int .i64 5)<|eN<|tR<|?_
  have kk7 := kB kk5 ch7
  refine Wk.ret (.tuple #[.agg (Mur.attC Mur.z32 Mur.z32 0 Mur.z32).toArray, .int .i64 5]) rfl (results_att rfl _ _ w.heap.size (Mur.attC Mur.z32 Mur.z32 0 Mur.z32).toArray (0, 0) (.int .i64 5) (by kernel_rfl) hb5 (Mur.attC_size rfl rfl rfl) (by kernel_rfl)) ?_
  exact ⟨rfl, kk7⟩
 refine bF 4 38 ((V : Int) > (5000 : Int))<|rP 5 39 (.bool false)<|eN<|cF<|wp_skip<|nxt<|sR<|rq 0 41 (.int .u64 V) rfl (Wk.val (v := .int .u64 ((((((((0 * 256 + (E.getD 0 0).toNat) * 256 + (E.getD 1 0).toNat) * 256 + (E.getD 2 0).toNat) * 256 + (E.getD 3 0).toNat) * 256 + (E.getD 4 0).toNat) * 256 + (E.getD 5 0).toNat) * 256 + (E.getD 6 0).toNat) * 256 + (E.getD 7 0).toNat : Nat)) (congrArg (fun z : Nat => Value.int .u64 (z : Int)) hV) (by kernel_rfl))<|rq 1 42 (.int .i64 V) rfl (Mur.conv_int 24 3 (.tmp 41) rfl (by kernel_rfl) .i64 Tryd.underlying3 .u64 (V : Int) (by kernel_rfl) (Mur.i64_nat (by omega)))<|rP 2 43 (pt w.heap.size 64)<|rU 3 rfl (Mur.store_len 3 (.tmp 43) (.tmp 42) rfl (by kernel_rfl) w.heap.size (by kernel_rfl) (V : Int) (by kernel_rfl) 36 K R Mur.z32 0 hb0.1 hb32.1 rfl hb3) fun W8 hb6 ch8 zz8 => eN<|wp_seq<|?_
 refine dReg ([w.heap.size]) (by kernel_rfl) ?_
 intro W9 ch9 sz4
 have zz9 := ch9.size
 have sS5 : Chg ([w.heap.size]) W9 W9 := (Chg.refl _).more (by simp)
 refine dW 0 44 (pt w.heap.size 65) sS5 ?_
 refine dV 1 45 (.slice (some ⟨w.heap.size, 65, none⟩) 32 32) rfl rfl (fun w' hw' => Mur.arr_slice_at 29 5 (.tmp 44) 32 rfl Tryd.underlying29 (by kernel_rfl) w.heap.size 65 (by kernel_rfl)) sS5 ?_
 refine dW 2 46 (.slice (some ⟨g, off, none⟩) 104 c) sS5 ?_
 refine dV 3 47 (.slice (some ⟨g, off + 72, none⟩) 32 (c - 72)) rfl rfl (fun w' hw' => Mur.run_from_at 22 (.tmp 46) (.const (.int .i64 72)) rfl 5 Tryd.underlying22 (by kernel_rfl) g off 104 c 72 32 (by kernel_rfl) (by kernel_rfl) (by omega) (by omega) rfl) sS5 ?_
 refine dOp 4 (by kernel_rfl) ?_
 have kk8 := kB kk5 ch8
 have kk9 := kA kk8 ch9
 refine oEx (some 48) _ rfl rfl (by kernel_rfl) (Mur.copy_mid (.tmp 45) (.tmp 47) 22 22 rfl 5 Tryd.underlying22 (by kernel_rfl) w.heap.size 65 32 32 (by kernel_rfl) (some ⟨g, off + 72, none⟩) 32 (c - 72) (by kernel_rfl) 36 (Mur.attC K R (V : Int) Mur.z32) T (qT ch9 hb6) (Mur.byt_chg hb72 kk9 (fun g off e hl => trivial)) (by omega) (by omega) (by rw [Mur.attC_length hb0.1 hb32.1 rfl]; omega) _ (Mur.att_sp65 hb0.1 hb32.1 rfl hb72.1)) ?_
 rintro _ W10 ⟨rfl, hb7, ch10⟩
 have zz10 := ch10.size
 have sS6 := kC sS5 ch10
 refine ⟨sS6, ?_⟩
 refine dN<|sR<|?_
 refine rq 0 49 (.agg ((Mur.attC K R (V : Int) T).toArray)) rfl (lA hb7 (Mur.attC_size hb0.1 hb32.1 hb72.1))<|rU 1 rfl (sB (Mur.attC K R (V : Int) T).toArray (Mur.attC_size hb0.1 hb32.1 hb72.1) Mur.attC_all hb7 (Mur.attC_size hb0.1 hb32.1 hb72.1)) fun W11 hb8 ch11 zz11 => rP 2 3 (.int .i64 0)<|eN<|wp_ret<|?_
 exfalso; omega
theorem Read_ok (g off c : Nat) (b K R E T : List UInt8) (V : Nat) (w : World) (hb : Byt w (some ⟨g, off, none⟩) 104 b) (hc : 104 ≤ c) (hK : (b.take 32).drop 0 = K) (hR : (b.take 64).drop 32 = R) (hE : (b.take 72).drop 64 = E) (hT : (b.take 104).drop 72 = T) (hV : Mur.be8 E = V) (hm : 1 ≤ V ∧ V ≤ 5000) : Calls Tryd.prog 68 #[.slice (some ⟨g, off, none⟩) 104 c] w fun e w' => e = .returned (.tuple #[.agg (attC K R (V : Int) T).toArray, .int .i64 0]) ∧ Chg [] w w' := by
 have hb0 : Byt w (some ⟨g, off + 0, none⟩) 32 K := by have := Mur.byt_sub hb 0 32 32 rfl (by omega); rw [hK] at this; exact this
 have hb32 : Byt w (some ⟨g, off + 32, none⟩) 32 R := by have := Mur.byt_sub hb 32 64 32 rfl (by omega); rw [hR] at this; exact this
 have hb64 : Byt w (some ⟨g, off + 64, none⟩) 8 E := by have := Mur.byt_sub hb 64 72 8 rfl (by omega); rw [hE] at this; exact this
 have hb72 : Byt w (some ⟨g, off + 72, none⟩) 32 T := by have := Mur.byt_sub hb 72 104 32 rfl (by omega); rw [hT] at this; exact this
 have hx0_ := (E.getD 0 0).toNat_lt
 have hx1_ := (E.getD 1 0).toNat_lt
 have hx2_ := (E.getD 2 0).toNat_lt
 have hx3_ := (E.getD 3 0).toNat_lt
 have hx4_ := (E.getD 4 0).toNat_lt
 have hx5_ := (E.getD 5 0).toNat_lt
 have hx6_ := (E.getD 6 0).toNat_lt
 have hx7_ := (E.getD 7 0).toNat_lt
 refine calls_of_wp Tryd.func68 rfl ?_
 refine sR<|nW 0 2 (Mur.attC Mur.z32 Mur.z32 0 Mur.z32).toArray 36 fun W1 hb1 ch1 sz1 => rP 1 3 (.int .i64 0)<|eN<|wp_seq<|sR<|rP 0 7 (.slice (some ⟨g, off, none⟩) 104 c)<|rP 1 8 (.int .i64 104)<|nF 2 9 (104 : Int) (104 : Int)<|eN<|cF<|wp_skip<|nxt<|wp_seq<|?_
 refine dReg ([w.heap.size]) (by kernel_rfl) ?_
 intro W2 ch2 sz2
 have zz2 := ch2.size
 have sS1 : Chg ([w.heap.size]) W2 W2 := (Chg.refl _).more (by simp)
 refine dW 0 11 (pt w.heap.size 0) sS1 ?_
 refine dV 1 12 (.slice (some ⟨w.heap.size, 0, none⟩) 32 32) rfl rfl (fun w' hw' => Mur.arr_slice 29 5 (.tmp 11) 32 rfl Tryd.underlying29 (by kernel_rfl) w.heap.size (by kernel_rfl)) sS1 ?_
 refine dW 2 13 (.slice (some ⟨g, off, none⟩) 104 c) sS1 ?_
 refine dV 3 14 (.slice (some ⟨g, off + 0, none⟩) 32 32) rfl rfl (fun w' hw' => Mur.run_cut3 22 (.tmp 13) none (.const (.int .i64 32)) (.const (.int .i64 32)) rfl 5 Tryd.underlying22 (by kernel_rfl) g off 104 c 0 32 32 32 (by kernel_rfl) (.inr ⟨rfl, rfl⟩) (by kernel_rfl) (by kernel_rfl) rfl rfl (by omega) (by omega)) sS1 ?_
 refine dOp 4 (by kernel_rfl) ?_
 have kk1 : Chg [] w W1 := zA ch1
 have kk2 := kA kk1 ch2
 refine oEx (some 15) _ rfl rfl (by kernel_rfl) (Mur.copy_mid (.tmp 12) (.tmp 14) 22 22 rfl 5 Tryd.underlying22 (by kernel_rfl) w.heap.size 0 32 32 (by kernel_rfl) (some ⟨g, off + 0, none⟩) 32 32 (by kernel_rfl) 36 (Mur.attC Mur.z32 Mur.z32 0 Mur.z32) K (qT ch2 hb1) (Mur.byt_chg hb0 kk2 (fun g off e hl => trivial)) (by omega) (by omega) (by rw [Mur.attC_length rfl rfl rfl]; omega) _ (Mur.att_sp0 rfl hb0.1)) ?_
 rintro _ W3 ⟨rfl, hb2, ch3⟩
 have zz3 := ch3.size
 have sS2 := kC sS1 ch3
 refine ⟨sS2, ?_⟩
 refine dN<|wp_seq<|?_
 refine dReg ([w.heap.size]) (by kernel_rfl) ?_
 intro W4 ch4 sz3
 have zz4 := ch4.size
 have sS3 : Chg ([w.heap.size]) W4 W4 := (Chg.refl _).more (by simp)
 refine dW 0 16 (pt w.heap.size 32) sS3 ?_
 refine dV 1 17 (.slice (some ⟨w.heap.size, 32, none⟩) 32 32) rfl rfl (fun w' hw' => Mur.arr_slice_at 29 5 (.tmp 16) 32 rfl Tryd.underlying29 (by kernel_rfl) w.heap.size 32 (by kernel_rfl)) sS3 ?_
 refine dW 2 18 (.slice (some ⟨g, off, none⟩) 104 c) sS3 ?_
 refine dV 3 19 (.slice (some ⟨g, off + 32, none⟩) 32 32) rfl rfl (fun w' hw' => Mur.run_cut3 22 (.tmp 18) (some (.const (.int .i64 32))) (.const (.int .i64 64)) (.const (.int .i64 64)) rfl 5 Tryd.underlying22 (by kernel_rfl) g off 104 c 32 64 64 32 (by kernel_rfl) (.inl (by kernel_rfl)) (by kernel_rfl) (by kernel_rfl) rfl rfl (by omega) (by omega)) sS3 ?_
 refine dOp 4 (by kernel_rfl) ?_
 have kk3 := kB kk2 ch3
 have kk4 := kA kk3 ch4
 refine oEx (some 20) _ rfl rfl (by kernel_rfl) (Mur.copy_mid (.tmp 17) (.tmp 19) 22 22 rfl 5 Tryd.underlying22 (by kernel_rfl) w.heap.size 32 32 32 (by kernel_rfl) (some ⟨g, off + 32, none⟩) 32 32 (by kernel_rfl) 36 (Mur.attC K Mur.z32 0 Mur.z32) R (qT ch4 hb2) (Mur.byt_chg hb32 kk4 (fun g off e hl => trivial)) (by omega) (by omega) (by rw [Mur.attC_length hb0.1 rfl rfl]; omega) _ (Mur.att_sp32 hb0.1 rfl hb32.1)) ?_
 rintro _ W5 ⟨rfl, hb3, ch5⟩
 have zz5 := ch5.size
 have sS4 := kC sS3 ch5
 refine ⟨sS4, ?_⟩
 refine dN<|sR<|?_
 refine rP 0 4 (.int .u64 0)<|eN<|wp_seq<|sR<|rP 0 21 (.slice (some ⟨g, off, none⟩) 104 c)<|rq 1 22 (.slice (some ⟨g, off + 64, none⟩) 8 8) rfl (Mur.run_cut3 22 (.tmp 21) (some (.const (.int .i64 64))) (.const (.int .i64 72)) (.const (.int .i64 72)) rfl 5 Tryd.underlying22 (by kernel_rfl) g off 104 c 64 72 72 8 (by kernel_rfl) (.inl (by kernel_rfl)) (by kernel_rfl) (by kernel_rfl) rfl rfl (by omega) (by omega))<|rP 2 23 (.int .i64 8)<|rP 3 24 (.int .i64 0)<|eN<|wp_block<|?_
 refine Wk.loopN 9 ?_
 refine Wk.rdS<|sR<|?_
 refine bT 0 25 ((0 : Int) < (8 : Int))<|eN<|wp_seq<|cT<|wp_skip<|nxt<|wp_seq<|wp_block<|sR<|rq 0 26 (pt g (off + 64 + 0 * 1)) rfl (iS 1 g (off + 64) 8 8 0) ?_
 have kk5 := kB kk4 ch5
 refine rq 1 27 _ rfl (ld 5 26 g (off + 64 + 0 * 1) (.int .u8 ((E.getD 0 0).toNat : Nat)) (Mur.byt_cell (Mur.byt_chg hb64 kk5 (fun g off e hl => trivial)) 0 (by omega)))<|rP 2 6 (.int .u8 ((E.getD 0 0).toNat : Nat))<|eN<|reg<|rP 0 28 (.int .u64 0)<|rq 1 29 (.int .u64 (0 * 256 : Nat)) rfl (Mur.shl8_64 24 139 (.tmp 28) (.const (.int .u64 8)) rfl 0 .u64 (by kernel_rfl) (by kernel_rfl) (by omega))<|rP 2 30 (.int .u8 ((E.getD 0 0).toNat : Nat))<|rq 3 31 (.int .u64 ((E.getD 0 0).toNat : Nat)) rfl (Mur.conv_int 5 24 (.tmp 30) rfl (by kernel_rfl) .u64 Tryd.underlying24 .u8 (((E.getD 0 0).toNat : Nat) : Int) (by kernel_rfl) (Mur.u64_nat (by omega)))<|rq 4 32 (.int .u64 (0 * 256 + (E.getD 0 0).toNat : Nat)) rfl (Mur.or64 24 24 (.tmp 29) (.tmp 31) rfl 0 (E.getD 0 0).toNat (by kernel_rfl) (by kernel_rfl) (by omega) (by omega))<|rP 5 4 (.int .u64 (0 * 256 + (E.getD 0 0).toNat : Nat))<|rE<|inN<|nxt<|reg<|rI 0 33 (0 + 1) (1)<|rP 1 24 (.int .i64 1)<|eN<|Wk.rdS<|sR<|bT 0 25 ((1 : Int) < (8 : Int))<|eN<|wp_seq<|cT<|wp_skip<|nxt<|wp_seq<|wp_block<|sR<|rq 0 26 (pt g (off + 64 + 1 * 1)) rfl (iS 1 g (off + 64) 8 8 1)<|rq 1 27 _ rfl (ld 5 26 g (off + 64 + 1 * 1) (.int .u8 ((E.getD 1 0).toNat : Nat)) (Mur.byt_cell (Mur.byt_chg hb64 kk5 (fun g off e hl => trivial)) 1 (by omega)))<|rP 2 6 (.int .u8 ((E.getD 1 0).toNat : Nat))<|eN<|reg<|rP 0 28 (.int .u64 (0 * 256 + (E.getD 0 0).toNat : Nat))<|rq 1 29 (.int .u64 ((0 * 256 + (E.getD 0 0).toNat) * 256 : Nat)) rfl (Mur.shl8_64 24 139 (.tmp 28) (.const (.int .u64 8)) rfl (0 * 256 + (E.getD 0 0).toNat) .u64 (by kernel_rfl) (by kernel_rfl) (by omega)) ?_
 refine rP 2 30 (.int .u8 ((E.getD 1 0).toNat : Nat))<|rq 3 31 (.int .u64 ((E.getD 1 0).toNat : Nat)) rfl (Mur.conv_int 5 24 (.tmp 30) rfl (by kernel_rfl) .u64 Tryd.underlying24 .u8 (((E.getD 1 0).toNat : Nat) : Int) (by kernel_rfl) (Mur.u64_nat (by omega)))<|rq 4 32 (.int .u64 ((0 * 256 + (E.getD 0 0).toNat) * 256 + (E.getD 1 0).toNat : Nat)) rfl (Mur.or64 24 24 (.tmp 29) (.tmp 31) rfl (0 * 256 + (E.getD 0 0).toNat) (E.getD 1 0).toNat (by kernel_rfl) (by kernel_rfl) (by omega) (by omega))<|rP 5 4 (.int .u64 ((0 * 256 + (E.getD 0 0).toNat) * 256 + (E.getD 1 0).toNat : Nat))<|rE<|inN<|nxt<|reg<|rI 0 33 (1 + 1) (2)<|rP 1 24 (.int .i64 2)<|eN<|Wk.rdS<|sR<|bT 0 25 ((2 : Int) < (8 : Int))<|eN<|wp_seq<|cT<|wp_skip<|nxt<|wp_seq<|wp_block<|sR<|rq 0 26 (pt g (off + 64 + 2 * 1)) rfl (iS 1 g (off + 64) 8 8 2)<|rq 1 27 _ rfl (ld 5 26 g (off + 64 + 2 * 1) (.int .u8 ((E.getD 2 0).toNat : Nat)) (Mur.byt_cell (Mur.byt_chg hb64 kk5 (fun g off e hl => trivial)) 2 (by omega)))<|rP 2 6 (.int .u8 ((E.getD 2 0).toNat : Nat))<|eN<|reg<|rP 0 28 (.int .u64 ((0 * 256 + (E.getD 0 0).toNat) * 256 + (E.getD 1 0).toNat : Nat))<|rq 1 29 (.int .u64 (((0 * 256 + (E.getD 0 0).toNat) * 256 + (E.getD 1 0).toNat) * 256 : Nat)) rfl (Mur.shl8_64 24 139 (.tmp 28) (.const (.int .u64 8)) rfl ((0 * 256 + (E.getD 0 0).toNat) * 256 + (E.getD 1 0).toNat) .u64 (by kernel_rfl) (by kernel_rfl) (by omega))<|rP 2 30 (.int .u8 ((E.getD 2 0).toNat : Nat))<|rq 3 31 (.int .u64 ((E.getD 2 0).toNat : Nat)) rfl (Mur.conv_int 5 24 (.tmp 30) rfl (by kernel_rfl) .u64 Tryd.underlying24 .u8 (((E.getD 2 0).toNat : Nat) : Int) (by kernel_rfl) (Mur.u64_nat (by omega))) ?_
 refine rq 4 32 (.int .u64 (((0 * 256 + (E.getD 0 0).toNat) * 256 + (E.getD 1 0).toNat) * 256 + (E.getD 2 0).toNat : Nat)) rfl (Mur.or64 24 24 (.tmp 29) (.tmp 31) rfl ((0 * 256 + (E.getD 0 0).toNat) * 256 + (E.getD 1 0).toNat) (E.getD 2 0).toNat (by kernel_rfl) (by kernel_rfl) (by omega) (by omega))<|rP 5 4 (.int .u64 (((0 * 256 + (E.getD 0 0).toNat) * 256 + (E.getD 1 0).toNat) * 256 + (E.getD 2 0).toNat : Nat))<|rE<|inN<|nxt<|reg<|rI 0 33 (2 + 1) (3)<|rP 1 24 (.int .i64 3)<|eN<|Wk.rdS<|sR<|bT 0 25 ((3 : Int) < (8 : Int))<|eN<|wp_seq<|cT<|wp_skip<|nxt<|wp_seq<|wp_block<|sR<|rq 0 26 (pt g (off + 64 + 3 * 1)) rfl (iS 1 g (off + 64) 8 8 3)<|rq 1 27 _ rfl (ld 5 26 g (off + 64 + 3 * 1) (.int .u8 ((E.getD 3 0).toNat : Nat)) (Mur.byt_cell (Mur.byt_chg hb64 kk5 (fun g off e hl => trivial)) 3 (by omega)))<|rP 2 6 (.int .u8 ((E.getD 3 0).toNat : Nat))<|eN<|reg<|rP 0 28 (.int .u64 (((0 * 256 + (E.getD 0 0).toNat) * 256 + (E.getD 1 0).toNat) * 256 + (E.getD 2 0).toNat : Nat))<|rq 1 29 (.int .u64 ((((0 * 256 + (E.getD 0 0).toNat) * 256 + (E.getD 1 0).toNat) * 256 + (E.getD 2 0).toNat) * 256 : Nat)) rfl (Mur.shl8_64 24 139 (.tmp 28) (.const (.int .u64 8)) rfl (((0 * 256 + (E.getD 0 0).toNat) * 256 + (E.getD 1 0).toNat) * 256 + (E.getD 2 0).toNat) .u64 (by kernel_rfl) (by kernel_rfl) (by omega))<|rP 2 30 (.int .u8 ((E.getD 3 0).toNat : Nat))<|rq 3 31 (.int .u64 ((E.getD 3 0).toNat : Nat)) rfl (Mur.conv_int 5 24 (.tmp 30) rfl (by kernel_rfl) .u64 Tryd.underlying24 .u8 (((E.getD 3 0).toNat : Nat) : Int) (by kernel_rfl) (Mur.u64_nat (by omega))) ?_
 refine rq 4 32 (.int .u64 ((((0 * 256 + (E.getD 0 0).toNat) * 256 + (E.getD 1 0).toNat) * 256 + (E.getD 2 0).toNat) * 256 + (E.getD 3 0).toNat : Nat)) rfl (Mur.or64 24 24 (.tmp 29) (.tmp 31) rfl (((0 * 256 + (E.getD 0 0).toNat) * 256 + (E.getD 1 0).toNat) * 256 + (E.getD 2 0).toNat) (E.getD 3 0).toNat (by kernel_rfl) (by kernel_rfl) (by omega) (by omega))<|rP 5 4 (.int .u64 ((((0 * 256 + (E.getD 0 0).toNat) * 256 + (E.getD 1 0).toNat) * 256 + (E.getD 2 0).toNat) * 256 + (E.getD 3 0).toNat : Nat))<|rE<|inN<|nxt<|reg<|rI 0 33 (3 + 1) (4)<|rP 1 24 (.int .i64 4)<|eN<|Wk.rdS<|sR<|bT 0 25 ((4 : Int) < (8 : Int))<|eN<|wp_seq<|cT<|wp_skip<|nxt<|wp_seq<|wp_block<|sR<|rq 0 26 (pt g (off + 64 + 4 * 1)) rfl (iS 1 g (off + 64) 8 8 4)<|rq 1 27 _ rfl (ld 5 26 g (off + 64 + 4 * 1) (.int .u8 ((E.getD 4 0).toNat : Nat)) (Mur.byt_cell (Mur.byt_chg hb64 kk5 (fun g off e hl => trivial)) 4 (by omega)))<|rP 2 6 (.int .u8 ((E.getD 4 0).toNat : Nat))<|eN<|reg<|rP 0 28 (.int .u64 ((((0 * 256 + (E.getD 0 0).toNat) * 256 + (E.getD 1 0).toNat) * 256 + (E.getD 2 0).toNat) * 256 + (E.getD 3 0).toNat : Nat))<|rq 1 29 (.int .u64 (((((0 * 256 + (E.getD 0 0).toNat) * 256 + (E.getD 1 0).toNat) * 256 + (E.getD 2 0).toNat) * 256 + (E.getD 3 0).toNat) * 256 : Nat)) rfl (Mur.shl8_64 24 139 (.tmp 28) (.const (.int .u64 8)) rfl ((((0 * 256 + (E.getD 0 0).toNat) * 256 + (E.getD 1 0).toNat) * 256 + (E.getD 2 0).toNat) * 256 + (E.getD 3 0).toNat) .u64 (by kernel_rfl) (by kernel_rfl) (by omega))<|rP 2 30 (.int .u8 ((E.getD 4 0).toNat : Nat)) ?_
 refine rq 3 31 (.int .u64 ((E.getD 4 0).toNat : Nat)) rfl (Mur.conv_int 5 24 (.tmp 30) rfl (by kernel_rfl) .u64 Tryd.underlying24 .u8 (((E.getD 4 0).toNat : Nat) : Int) (by kernel_rfl) (Mur.u64_nat (by omega)))<|rq 4 32 (.int .u64 (((((0 * 256 + (E.getD 0 0).toNat) * 256 + (E.getD 1 0).toNat) * 256 + (E.getD 2 0).toNat) * 256 + (E.getD 3 0).toNat) * 256 + (E.getD 4 0).toNat : Nat)) rfl (Mur.or64 24 24 (.tmp 29) (.tmp 31) rfl ((((0 * 256 + (E.getD 0 0).toNat) * 256 + (E.getD 1 0).toNat) * 256 + (E.getD 2 0).toNat) * 256 + (E.getD 3 0).toNat) (E.getD 4 0).toNat (by kernel_rfl) (by kernel_rfl) (by omega) (by omega))<|rP 5 4 (.int .u64 (((((0 * 256 + (E.getD 0 0).toNat) * 256 + (E.getD 1 0).toNat) * 256 + (E.getD 2 0).toNat) * 256 + (E.getD 3 0).toNat) * 256 + (E.getD 4 0).toNat : Nat))<|rE<|inN<|nxt<|reg<|rI 0 33 (4 + 1) (5)<|rP 1 24 (.int .i64 5)<|eN<|Wk.rdS<|sR<|bT 0 25 ((5 : Int) < (8 : Int))<|eN<|wp_seq<|cT<|wp_skip<|nxt<|wp_seq<|wp_block<|sR<|rq 0 26 (pt g (off + 64 + 5 * 1)) rfl (iS 1 g (off + 64) 8 8 5)<|rq 1 27 _ rfl (ld 5 26 g (off + 64 + 5 * 1) (.int .u8 ((E.getD 5 0).toNat : Nat)) (Mur.byt_cell (Mur.byt_chg hb64 kk5 (fun g off e hl => trivial)) 5 (by omega)))<|rP 2 6 (.int .u8 ((E.getD 5 0).toNat : Nat))<|eN<|reg<|rP 0 28 (.int .u64 (((((0 * 256 + (E.getD 0 0).toNat) * 256 + (E.getD 1 0).toNat) * 256 + (E.getD 2 0).toNat) * 256 + (E.getD 3 0).toNat) * 256 + (E.getD 4 0).toNat : Nat))<|rq 1 29 (.int .u64 ((((((0 * 256 + (E.getD 0 0).toNat) * 256 + (E.getD 1 0).toNat) * 256 + (E.getD 2 0).toNat) * 256 + (E.getD 3 0).toNat) * 256 + (E.getD 4 0).toNat) * 256 : Nat)) rfl (Mur.shl8_64 24 139 (.tmp 28) (.const (.int .u64 8)) rfl (((((0 * 256 + (E.getD 0 0).toNat) * 256 + (E.getD 1 0).toNat) * 256 + (E.getD 2 0).toNat) * 256 + (E.getD 3 0).toNat) * 256 + (E.getD 4 0).toNat) .u64 (by kernel_rfl) (by kernel_rfl) (by omega)) ?_
 refine rP 2 30 (.int .u8 ((E.getD 5 0).toNat : Nat))<|rq 3 31 (.int .u64 ((E.getD 5 0).toNat : Nat)) rfl (Mur.conv_int 5 24 (.tmp 30) rfl (by kernel_rfl) .u64 Tryd.underlying24 .u8 (((E.getD 5 0).toNat : Nat) : Int) (by kernel_rfl) (Mur.u64_nat (by omega)))<|rq 4 32 (.int .u64 ((((((0 * 256 + (E.getD 0 0).toNat) * 256 + (E.getD 1 0).toNat) * 256 + (E.getD 2 0).toNat) * 256 + (E.getD 3 0).toNat) * 256 + (E.getD 4 0).toNat) * 256 + (E.getD 5 0).toNat : Nat)) rfl (Mur.or64 24 24 (.tmp 29) (.tmp 31) rfl (((((0 * 256 + (E.getD 0 0).toNat) * 256 + (E.getD 1 0).toNat) * 256 + (E.getD 2 0).toNat) * 256 + (E.getD 3 0).toNat) * 256 + (E.getD 4 0).toNat) (E.getD 5 0).toNat (by kernel_rfl) (by kernel_rfl) (by omega) (by omega))<|rP 5 4 (.int .u64 ((((((0 * 256 + (E.getD 0 0).toNat) * 256 + (E.getD 1 0).toNat) * 256 + (E.getD 2 0).toNat) * 256 + (E.getD 3 0).toNat) * 256 + (E.getD 4 0).toNat) * 256 + (E.getD 5 0).toNat : Nat))<|rE<|inN<|nxt<|reg<|rI 0 33 (5 + 1) (6)<|rP 1 24 (.int .i64 6)<|eN<|Wk.rdS<|sR<|bT 0 25 ((6 : Int) < (8 : Int))<|eN<|wp_seq<|cT<|wp_skip<|nxt<|wp_seq<|wp_block<|sR<|rq 0 26 (pt g (off + 64 + 6 * 1)) rfl (iS 1 g (off + 64) 8 8 6)<|rq 1 27 _ rfl (ld 5 26 g (off + 64 + 6 * 1) (.int .u8 ((E.getD 6 0).toNat : Nat)) (Mur.byt_cell (Mur.byt_chg hb64 kk5 (fun g off e hl => trivial)) 6 (by omega)))<|rP 2 6 (.int .u8 ((E.getD 6 0).toNat : Nat))<|eN<|reg<|rP 0 28 (.int .u64 ((((((0 * 256 + (E.getD 0 0).toNat) * 256 + (E.getD 1 0).toNat) * 256 + (E.getD 2 0).toNat) * 256 + (E.getD 3 0).toNat) * 256 + (E.getD 4 0).toNat) * 256 + (E.getD 5 0).toNat : Nat)) ?_
 refine rq 1 29 (.int .u64 (((((((0 * 256 + (E.getD 0 0).toNat) * 256 + (E.getD 1 0).toNat) * 256 + (E.getD 2 0).toNat) * 256 + (E.getD 3 0).toNat) * 256 + (E.getD 4 0).toNat) * 256 + (E.getD 5 0).toNat) * 256 : Nat)) rfl (Mur.shl8_64 24 139 (.tmp 28) (.const (.int .u64 8)) rfl ((((((0 * 256 + (E.getD 0 0).toNat) * 256 + (E.getD 1 0).toNat) * 256 + (E.getD 2 0).toNat) * 256 + (E.getD 3 0).toNat) * 256 + (E.getD 4 0).toNat) * 256 + (E.getD 5 0).toNat) .u64 (by kernel_rfl) (by kernel_rfl) (by omega))<|rP 2 30 (.int .u8 ((E.getD 6 0).toNat : Nat))<|rq 3 31 (.int .u64 ((E.getD 6 0).toNat : Nat)) rfl (Mur.conv_int 5 24 (.tmp 30) rfl (by kernel_rfl) .u64 Tryd.underlying24 .u8 (((E.getD 6 0).toNat : Nat) : Int) (by kernel_rfl) (Mur.u64_nat (by omega)))<|rq 4 32 (.int .u64 (((((((0 * 256 + (E.getD 0 0).toNat) * 256 + (E.getD 1 0).toNat) * 256 + (E.getD 2 0).toNat) * 256 + (E.getD 3 0).toNat) * 256 + (E.getD 4 0).toNat) * 256 + (E.getD 5 0).toNat) * 256 + (E.getD 6 0).toNat : Nat)) rfl (Mur.or64 24 24 (.tmp 29) (.tmp 31) rfl ((((((0 * 256 + (E.getD 0 0).toNat) * 256 + (E.getD 1 0).toNat) * 256 + (E.getD 2 0).toNat) * 256 + (E.getD 3 0).toNat) * 256 + (E.getD 4 0).toNat) * 256 + (E.getD 5 0).toNat) (E.getD 6 0).toNat (by kernel_rfl) (by kernel_rfl) (by omega) (by omega))<|rP 5 4 (.int .u64 (((((((0 * 256 + (E.getD 0 0).toNat) * 256 + (E.getD 1 0).toNat) * 256 + (E.getD 2 0).toNat) * 256 + (E.getD 3 0).toNat) * 256 + (E.getD 4 0).toNat) * 256 + (E.getD 5 0).toNat) * 256 + (E.getD 6 0).toNat : Nat)) ?_
 refine rE<|inN<|nxt<|reg<|rI 0 33 (6 + 1) (7)<|rP 1 24 (.int .i64 7)<|eN<|Wk.rdS<|sR<|bT 0 25 ((7 : Int) < (8 : Int))<|eN<|wp_seq<|cT<|wp_skip<|nxt<|wp_seq<|wp_block<|sR<|rq 0 26 (pt g (off + 64 + 7 * 1)) rfl (iS 1 g (off + 64) 8 8 7)<|rq 1 27 _ rfl (ld 5 26 g (off + 64 + 7 * 1) (.int .u8 ((E.getD 7 0).toNat : Nat)) (Mur.byt_cell (Mur.byt_chg hb64 kk5 (fun g off e hl => trivial)) 7 (by omega)))<|rP 2 6 (.int .u8 ((E.getD 7 0).toNat : Nat))<|eN<|reg<|rP 0 28 (.int .u64 (((((((0 * 256 + (E.getD 0 0).toNat) * 256 + (E.getD 1 0).toNat) * 256 + (E.getD 2 0).toNat) * 256 + (E.getD 3 0).toNat) * 256 + (E.getD 4 0).toNat) * 256 + (E.getD 5 0).toNat) * 256 + (E.getD 6 0).toNat : Nat))<|rq 1 29 (.int .u64 ((((((((0 * 256 + (E.getD 0 0).toNat) * 256 + (E.getD 1 0).toNat) * 256 + (E.getD 2 0).toNat) * 256 + (E.getD 3 0).toNat) * 256 + (E.getD 4 0).toNat) * 256 + (E.getD 5 0).toNat) * 256 + (E.getD 6 0).toNat) * 256 : Nat)) rfl (Mur.shl8_64 24 139 (.tmp 28) (.const (.int .u64 8)) rfl (((((((0 * 256 + (E.getD 0 0).toNat) * 256 + (E.getD 1 0).toNat) * 256 + (E.getD 2 0).toNat) * 256 + (E.getD 3 0).toNat) * 256 + (E.getD 4 0).toNat) * 256 + (E.getD 5 0).toNat) * 256 + (E.getD 6 0).toNat) .u64 (by kernel_rfl) (by kernel_rfl) (by omega))<|rP 2 30 (.int .u8 ((E.getD 7 0).toNat : Nat))<|rq 3 31 (.int .u64 ((E.getD 7 0).toNat : Nat)) rfl (Mur.conv_int 5 24 (.tmp 30) rfl (by kernel_rfl) .u64 Tryd.underlying24 .u8 (((E.getD 7 0).toNat : Nat) : Int) (by kernel_rfl) (Mur.u64_nat (by omega)))<|rq 4 32 (.int .u64 ((((((((0 * 256 + (E.getD 0 0).toNat) * 256 + (E.getD 1 0).toNat) * 256 + (E.getD 2 0).toNat) * 256 + (E.getD 3 0).toNat) * 256 + (E.getD 4 0).toNat) * 256 + (E.getD 5 0).toNat) * 256 + (E.getD 6 0).toNat) * 256 + (E.getD 7 0).toNat : Nat)) rfl (Mur.or64 24 24 (.tmp 29) (.tmp 31) rfl (((((((0 * 256 + (E.getD 0 0).toNat) * 256 + (E.getD 1 0).toNat) * 256 + (E.getD 2 0).toNat) * 256 + (E.getD 3 0).toNat) * 256 + (E.getD 4 0).toNat) * 256 + (E.getD 5 0).toNat) * 256 + (E.getD 6 0).toNat) (E.getD 7 0).toNat (by kernel_rfl) (by kernel_rfl) (by omega) (by omega)) ?_
 refine rP 5 4 (.int .u64 ((((((((0 * 256 + (E.getD 0 0).toNat) * 256 + (E.getD 1 0).toNat) * 256 + (E.getD 2 0).toNat) * 256 + (E.getD 3 0).toNat) * 256 + (E.getD 4 0).toNat) * 256 + (E.getD 5 0).toNat) * 256 + (E.getD 6 0).toNat) * 256 + (E.getD 7 0).toNat : Nat))<|rE<|inN<|nxt<|reg<|rI 0 33 (7 + 1) (8)<|rP 1 24 (.int .i64 8)<|eN<|Wk.rdS<|sR<|bF 0 25 ((8 : Int) < (8 : Int))<|eN<|wp_seq<|cF<|xX<|nxt<|wp_seq<|sR<|rq 0 34 (.int .u64 V) rfl (Wk.val (v := .int .u64 ((((((((0 * 256 + (E.getD 0 0).toNat) * 256 + (E.getD 1 0).toNat) * 256 + (E.getD 2 0).toNat) * 256 + (E.getD 3 0).toNat) * 256 + (E.getD 4 0).toNat) * 256 + (E.getD 5 0).toNat) * 256 + (E.getD 6 0).toNat) * 256 + (E.getD 7 0).toNat : Nat)) (congrArg (fun z : Nat => Value.int .u64 (z : Int)) hV) (by kernel_rfl)) ?_
 by_cases hx1 : (V : Int) < (1 : Int)
 ·refine bT 1 35 ((V : Int) < (1 : Int))<|rP 2 36 (.bool true)<|rZ 3 37<|rZ 4 38<|rP 5 39 (.bool true)<|eN<|cT<|sR<|rP 0 40 (.agg ((Mur.attC Mur.z32 Mur.z32 0 Mur.z32).toArray))<|rU 1 rfl (sB (Mur.attC Mur.z32 Mur.z32 0 Mur.z32).toArray (Mur.attC_size rfl rfl rfl) Mur.attC_all hb3 (Mur.attC_size hb0.1 hb32.1 rfl)) fun W6 hb4 ch6 zz6 => rP 2 3 (.int .i64 5)<|eN<|tR<|?_
  exfalso; omega
 refine bF 1 35 ((V : Int) < (1 : Int))<|rP 2 36 (.bool false)<|rq 3 37 (.int .u64 V) rfl (Wk.val (v := .int .u64 ((((((((0 * 256 + (E.getD 0 0).toNat) * 256 + (E.getD 1 0).toNat) * 256 + (E.getD 2 0).toNat) * 256 + (E.getD 3 0).toNat) * 256 + (E.getD 4 0).toNat) * 256 + (E.getD 5 0).toNat) * 256 + (E.getD 6 0).toNat) * 256 + (E.getD 7 0).toNat : Nat)) (congrArg (fun z : Nat => Value.int .u64 (z : Int)) hV) (by kernel_rfl)) ?_
 by_cases hx2 : (V : Int) > (5000 : Int)
 ·refine bT 4 38 ((V : Int) > (5000 : Int))<|rP 5 39 (.bool true)<|eN<|cT<|sR<|rP 0 40 (.agg ((Mur.attC Mur.z32 Mur.z32 0 Mur.z32).toArray))<|rU 1 rfl (sB (Mur.attC Mur.z32 Mur.z32 0 Mur.z32).toArray (Mur.attC_size rfl rfl rfl) Mur.attC_all hb3 (Mur.attC_size hb0.1 hb32.1 rfl)) fun W7 hb5 ch7 zz7 => rP 2 3 (.int .i64 5)<|eN<|tR<|?_
  exfalso; omega
 refine bF 4 38 ((V : Int) > (5000 : Int))<|rP 5 39 (.bool false)<|eN<|cF<|wp_skip<|nxt<|sR<|rq 0 41 (.int .u64 V) rfl (Wk.val (v := .int .u64 ((((((((0 * 256 + (E.getD 0 0).toNat) * 256 + (E.getD 1 0).toNat) * 256 + (E.getD 2 0).toNat) * 256 + (E.getD 3 0).toNat) * 256 + (E.getD 4 0).toNat) * 256 + (E.getD 5 0).toNat) * 256 + (E.getD 6 0).toNat) * 256 + (E.getD 7 0).toNat : Nat)) (congrArg (fun z : Nat => Value.int .u64 (z : Int)) hV) (by kernel_rfl))<|rq 1 42 (.int .i64 V) rfl (Mur.conv_int 24 3 (.tmp 41) rfl (by kernel_rfl) .i64 Tryd.underlying3 .u64 (V : Int) (by kernel_rfl) (Mur.i64_nat (by omega)))<|rP 2 43 (pt w.heap.size 64)<|rU 3 rfl (Mur.store_len 3 (.tmp 43) (.tmp 42) rfl (by kernel_rfl) w.heap.size (by kernel_rfl) (V : Int) (by kernel_rfl) 36 K R Mur.z32 0 hb0.1 hb32.1 rfl hb3) fun W8 hb6 ch8 zz8 => eN<|wp_seq<|?_
 refine dReg ([w.heap.size]) (by kernel_rfl) ?_
 intro W9 ch9 sz4
 have zz9 := ch9.size
 have sS5 : Chg ([w.heap.size]) W9 W9 := (Chg.refl _).more (by simp)
 refine dW 0 44 (pt w.heap.size 65) sS5 ?_
 refine dV 1 45 (.slice (some ⟨w.heap.size, 65, none⟩) 32 32) rfl rfl (fun w' hw' => Mur.arr_slice_at 29 5 (.tmp 44) 32 rfl Tryd.underlying29 (by kernel_rfl) w.heap.size 65 (by kernel_rfl)) sS5 ?_
 refine dW 2 46 (.slice (some ⟨g, off, none⟩) 104 c) sS5 ?_
 refine dV 3 47 (.slice (some ⟨g, off + 72, none⟩) 32 (c - 72)) rfl rfl (fun w' hw' => Mur.run_from_at 22 (.tmp 46) (.const (.int .i64 72)) rfl 5 Tryd.underlying22 (by kernel_rfl) g off 104 c 72 32 (by kernel_rfl) (by kernel_rfl) (by omega) (by omega) rfl) sS5 ?_
 refine dOp 4 (by kernel_rfl) ?_
 have kk6 := kB kk5 ch8
 have kk7 := kA kk6 ch9
 refine oEx (some 48) _ rfl rfl (by kernel_rfl) (Mur.copy_mid (.tmp 45) (.tmp 47) 22 22 rfl 5 Tryd.underlying22 (by kernel_rfl) w.heap.size 65 32 32 (by kernel_rfl) (some ⟨g, off + 72, none⟩) 32 (c - 72) (by kernel_rfl) 36 (Mur.attC K R (V : Int) Mur.z32) T (qT ch9 hb6) (Mur.byt_chg hb72 kk7 (fun g off e hl => trivial)) (by omega) (by omega) (by rw [Mur.attC_length hb0.1 hb32.1 rfl]; omega) _ (Mur.att_sp65 hb0.1 hb32.1 rfl hb72.1)) ?_
 rintro _ W10 ⟨rfl, hb7, ch10⟩
 have zz10 := ch10.size
 have sS6 := kC sS5 ch10
 refine ⟨sS6, ?_⟩
 refine dN<|sR<|?_
 refine rq 0 49 (.agg ((Mur.attC K R (V : Int) T).toArray)) rfl (lA hb7 (Mur.attC_size hb0.1 hb32.1 hb72.1))<|rU 1 rfl (sB (Mur.attC K R (V : Int) T).toArray (Mur.attC_size hb0.1 hb32.1 hb72.1) Mur.attC_all hb7 (Mur.attC_size hb0.1 hb32.1 hb72.1)) fun W11 hb8 ch11 zz11 => rP 2 3 (.int .i64 0)<|eN<|wp_ret<|?_
 have kk8 := kB kk7 ch10
 have kk9 := kB kk8 ch11
 refine Wk.ret (.tuple #[.agg (Mur.attC K R (V : Int) T).toArray, .int .i64 0]) rfl (results_att rfl _ _ w.heap.size (Mur.attC K R (V : Int) T).toArray (0, 0) (.int .i64 0) (by kernel_rfl) hb8 (Mur.attC_size hb0.1 hb32.1 hb72.1) (by kernel_rfl)) ?_
 exact ⟨rfl, kk9⟩
end Go.Proofs.YtgbadghjnpbiaaaDoor
namespace Go.Proofs.YtgbadghjnpbiaaaDoor
open Go.RowKit Wk
open Mur (b8s Byt Own8 Seg Segs flat cutA attC)
set_option maxRecDepth 100000
set_option maxHeartbeats 4000000
theorem Bytes_ok (k r t : List UInt8) (n : Int) (hk : k.length = 32) (hr : r.length = 32) (ht : t.length = 32) (w : World) (hm : Mur.may n) : Calls Tryd.prog 47 #[.agg (attC k r n t).toArray] w fun e w' => ∃ q cq B, Hid (B = Mur.rawL k r n t) ∧ e = .returned (.tuple #[.slice (some ⟨q, 0, none⟩) 104 cq, .int .i64 0]) ∧ Byt w' (some ⟨q, 0, none⟩) 104 B ∧ (w.heap.size ≤ q ∧ q < w'.heap.size) ∧ (104 ≤ cq ∧ cq ≤ 9223372036854775807) ∧ Chg [] w w' := by
 refine calls_of_wp Tryd.func47 rfl ?_
 refine sR<|nW 0 1 ((Mur.attC k r n t).toArray) 36 fun W1 hb1 ch1 sz1 => rP 1 2 (.slice none 0 0)<|rP 2 3 (.int .i64 0)<|eN<|wp_seq<|sR<|rq 0 4 (.agg ((Mur.attC k r n t).toArray)) rfl (lA hb1 (Mur.attC_size hk hr ht))<|rK 1 5 (may_any k r t n hk hr ht W1) ?_
 rw [decide_eq_true (hm : Mur.may n)]
 rintro _ W2 ⟨rfl, ch2⟩
 have zz2 := ch2.size
 refine rP 2 6 (.bool false)<|eN<|cF<|wp_skip<|nxt<|sR<|rq 0 7 (.agg ((Mur.attC k r n t).toArray)) rfl (lA (qT ch2 hb1) (Mur.attC_size hk hr ht))<|rK 1 8 (raw_any k r t n hk hr ht W2) ?_
 rintro _ W3 ⟨qr1, cr1, RB1, hRB1, rfl, hbr1, hq1, hq2, ch3⟩
 have zz3 := ch3.size
 have hBt1 : ∀ g off, (some ⟨qr1, 0, none⟩ : Option Addr) = some ⟨g, off, none⟩ → W2.heap.size ≤ g ∧ g < W3.heap.size := fun g off e => by cases e; exact hq1
 refine rP 2 2 (.slice (some ⟨qr1, 0, none⟩) 104 cr1)<|rP 3 3 (.int .i64 0)<|eN<|wp_ret<|?_
 have kk1 : Chg [] w W1 := zA ch1
 have kk2 := kA kk1 ch2
 have kk3 := kA kk2 ch3
 refine rt (.tuple #[.slice (some ⟨qr1, 0, none⟩) 104 cr1, .int .i64 0]) ?_
 exact ⟨_, _, _, hRB1, rfl, hbr1, ⟨by omega, by omega⟩, ⟨by omega, by omega⟩, kk3⟩
theorem Bytes_no (k r t : List UInt8) (n : Int) (hk : k.length = 32) (hr : r.length = 32) (ht : t.length = 32) (w : World) (hm : ¬ Mur.may n) : Calls Tryd.prog 47 #[.agg (attC k r n t).toArray] w fun e w' => e = .returned (.tuple #[.slice none 0 0, .int .i64 2]) ∧ Chg [] w w' := by
 refine calls_of_wp Tryd.func47 rfl ?_
 refine sR<|nW 0 1 ((Mur.attC k r n t).toArray) 36 fun W1 hb1 ch1 sz1 => rP 1 2 (.slice none 0 0)<|rP 2 3 (.int .i64 0)<|eN<|wp_seq<|sR<|rq 0 4 (.agg ((Mur.attC k r n t).toArray)) rfl (lA hb1 (Mur.attC_size hk hr ht))<|rK 1 5 (may_any k r t n hk hr ht W1) ?_
 rw [decide_eq_false (hm : ¬ Mur.may n)]
 rintro _ W2 ⟨rfl, ch2⟩
 have zz2 := ch2.size
 refine rP 2 6 (.bool true)<|eN<|cT<|sR<|rP 0 2 (.slice none 0 0)<|rP 1 3 (.int .i64 2)<|eN<|tR<|?_
 have kk1 : Chg [] w W1 := zA ch1
 have kk2 := kA kk1 ch2
 refine rt (.tuple #[.slice none 0 0, .int .i64 2]) ?_
 exact ⟨rfl, kk2⟩
end Go.Proofs.YtgbadghjnpbiaaaDoor
namespace Go.Proofs.YtgbadghjnpbiaaaDoor
open Go.RowKit Wk
open Mur (b8s Byt Own8 Seg Segs flat cutA attC Att SlA OwnA rowA msgC newOr_iff u64n)
set_option maxRecDepth 100000
set_option maxHeartbeats 4000000
theorem Wdigest_any (g base : Nat) (A : Option Addr) (n c : Nat) (b : List UInt8) (x : List UInt8) (w : World) (hg : w.heap[g]? = some (.cells #[.slice A n c] 97 (0, 0))) (hbs : g < base ∧ base ≤ w.heap.size) (ho : Own8 w base 5 A n c b) (hn : n ≤ 3000000) (hx : x.length = 32) : Calls Tryd.prog 54 #[pt g 0, .agg (b8s x).toArray] w fun e w' => ∃ A1 n1 c1, e = .returned (.tuple #[]) ∧ w'.heap[g]? = some (.cells #[.slice A1 n1 c1] 97 (0, 0)) ∧ Own8 w' base 5 A1 n1 c1 (b ++ x) ∧ n1 ≤ n + 32 ∧ Chg ([g] ++ Wk.blk (.slice A n c)) w w' := by
 have hgl_ := (Array.getElem?_eq_some_iff.1 hg).1
 have hon_ := ho.nc
 have hoc_ := ho.cm
 have hol_ := ho.byt.1
 have hn_ := hn
 have hbs_ := hbs
 have holt_ := ho.lt
 refine calls_of_wp Tryd.func54 rfl ?_
 refine sR<|nW 0 3 ((b8s x).toArray) 29 fun W1 hb1 ch1 sz1 => eN<|?_
 refine dReg (([g] ++ Wk.blk (.slice A n c))) (by kernel_rfl) ?_
 intro W2 ch2 sz2
 have zz2 := ch2.size
 have sS1 : Chg (([g] ++ Wk.blk (.slice A n c))) W2 W2 := (Chg.refl _).more (by simp)
 refine dW 0 4 (pt g 0) sS1<|dW 1 5 (pt g 0) sS1<|dW 2 6 (pt g 0) sS1<|dW 3 7 (pt g 0) sS1 ?_
 refine dV 5 9 (.slice (some ⟨w.heap.size, 0, none⟩) 32 32) rfl rfl (fun w' hw' => Mur.arr_slice 29 5 (.tmp 3) 32 rfl Tryd.underlying29 (by kernel_rfl) w.heap.size (by kernel_rfl)) sS1 ?_
 refine dOp 4 (by kernel_rfl) ?_
 refine Wk.oVal (some 8) (.slice A n c) rfl rfl (by kernel_rfl) (ld 22 7 g 0 (.slice A n c) ((cell_of_row _ _ 0 _ _ _ (qT ch2 (qT ch1 hg))).trans rfl)) ?_
 refine ⟨sS1, ?_⟩
 refine dOp 6 (by kernel_rfl) ?_
 have ow1 := Mur.own8 (own_chg ho.own ch1 (fun q e _ _ => trivial))
 have ow2 := Mur.own8 (own_chg ow1.own ch2 (fun q e _ _ => trivial))
 refine oEx (some 10) _ rfl rfl (by kernel_rfl) (Mur.append8 (.tmp 8) (.tmp 9) 22 5 rfl Tryd.underlying22 (by kernel_rfl) base A n c b (some ⟨w.heap.size, 0, none⟩) 32 32 x (by kernel_rfl) (by kernel_rfl) ow2.own (Mur.byt_blk x hx (qT ch2 hb1)) (fun h => by cases h) (by omega) (by omega) (n + 32) (by omega) (b ++ x) rfl) ?_
 rintro _ W3 ⟨AA1, nn1, rfl, ow3, ch3, ha1⟩
 have zz3 := ch3.size
 have hq1 := ow3.nc
 have hq2 := ow3.cm
 have sS2 := Chg.step sS1 ch3 (newOr_iff.2 (fun t ht => .inl (List.mem_append_right _ ht)))
 refine ⟨sS2, ?_⟩
 refine dW 7 11 (pt g 0) sS2<|dW 8 12 (pt g 0) sS2 ?_
 refine dOp 9 (by kernel_rfl) ?_
 refine oU rfl (sW 0 (.slice AA1 (n + 32) nn1) (Chg.hp ch3 (qT ch2 (qT ch1 hg)) (off_blk (fun gz hgz => by have := ho.lt gz hgz; omega)))) fun W4 hb2 ch4 _ => ?_
 replace hb2 : W4.heap[g]? = some (.cells #[.slice AA1 (n + 32) nn1] 97 (0, 0)) := hb2
 have zz4 := ch4.size
 have sS3 := kC sS2 ch4
 refine ⟨sS3, ?_⟩
 refine dE<|?_
 have ow4 := Mur.own8 (own_chg ow3.own ch4 (fun q e _ _ => ⟨by have := ow3.lt q e; omega, trivial⟩))
 have kk1 : Chg ([g] ++ Wk.blk (.slice A n c)) (w) W1 := zA ch1
 have kk2 := kA kk1 ch2
 have kk3 := Chg.step kk2 ch3 (newOr_iff.2 (fun t ht => .inl (List.mem_append_right _ ht)))
 have kk4 := kC kk3 ch4
 refine Wk.retN (.tuple #[]) rfl (by kernel_rfl) ?_
 exact ⟨AA1, n + 32, nn1, rfl, hb2, ow4, by omega, kk4⟩
theorem Wattest_any (g base : Nat) (A : Option Addr) (n c : Nat) (b : List UInt8) (x : Att) (w : World) (hg : w.heap[g]? = some (.cells #[.slice A n c] 97 (0, 0))) (hbs : g < base ∧ base ≤ w.heap.size) (ho : Own8 w base 5 A n c b) (hn : n ≤ 3000000) (hm : Mur.may x.n) : Calls Tryd.prog 56 #[pt g 0, .agg (attC x.k x.r x.n x.t).toArray] w fun e w' => ∃ A1 n1 c1, e = .returned (.tuple #[]) ∧ w'.heap[g]? = some (.cells #[.slice A1 n1 c1] 97 (0, 0)) ∧ Own8 w' base 5 A1 n1 c1 (b ++ x.raw) ∧ n1 ≤ n + 104 ∧ Chg ([g] ++ Wk.blk (.slice A n c)) w w' := by
 have hgl_ := (Array.getElem?_eq_some_iff.1 hg).1
 have hon_ := ho.nc
 have hoc_ := ho.cm
 have hol_ := ho.byt.1
 have hn_ := hn
 have hbs_ := hbs
 have holt_ := ho.lt
 refine calls_of_wp Tryd.func56 rfl ?_
 refine sR<|nW 0 3 ((Mur.attC x.k x.r x.n x.t).toArray) 36 fun W1 hb1 ch1 sz1 => eN<|sR<|rq 0 7 (.agg ((Mur.attC x.k x.r x.n x.t).toArray)) rfl (lA hb1 (Mur.attC_size x.hk x.hr x.ht))<|rK 1 8 (Bytes_ok x.k x.r x.t x.n x.hk x.hr x.ht W1 hm) ?_
 rintro _ W2 ⟨qr1, cr1, RB1, hRB1, rfl, hbr1, hq1, hq2, ch2⟩
 have zz2 := ch2.size
 have hBt1 : ∀ g off, (some ⟨qr1, 0, none⟩ : Option Addr) = some ⟨g, off, none⟩ → W1.heap.size ≤ g ∧ g < W2.heap.size := fun g off e => by cases e; exact hq1
 refine rP 2 6 (.tuple #[.slice (some ⟨qr1, 0, none⟩) 104 cr1, .int .i64 0])<|rP 3 9 (.slice (some ⟨qr1, 0, none⟩) 104 cr1)<|rP 4 10 (.int .i64 0)<|rP 5 4 (.slice (some ⟨qr1, 0, none⟩) 104 cr1)<|rP 6 5 (.int .i64 0)<|eN<|reg<|rP 0 11 (pt g 0)<|rP 1 12 (pt g 0)<|rP 2 13 (pt g 0)<|rP 3 14 (pt g 0)<|rL 4 15 0 (.slice A n c) (qT ch2 (qT ch1 hg))<|rP 5 16 (.slice (some ⟨qr1, 0, none⟩) 104 cr1) ?_
 have ow1 := Mur.own8 (own_chg ho.own ch1 (fun q e _ _ => trivial))
 have ow2 := Mur.own8 (own_chg ow1.own ch2 (fun q e _ _ => trivial))
 refine rX 6 17 rfl rfl (Mur.append8 (.tmp 15) (.tmp 16) 22 5 rfl Tryd.underlying22 (by kernel_rfl) base A n c b (some ⟨qr1, 0, none⟩) 104 cr1 RB1 (by kernel_rfl) (by kernel_rfl) ow2.own hbr1 (fun h => by cases h) (by omega) (by omega) (n + 104) (by omega) (b ++ RB1) rfl) ?_
 rintro _ W3 ⟨AA1, nn1, rfl, ow3, ch3, ha1⟩
 have zz3 := ch3.size
 have hq3 := ow3.nc
 have hq4 := ow3.cm
 refine rP 7 18 (pt g 0)<|rP 8 19 (pt g 0)<|rU 9 rfl (sW 0 (.slice AA1 (n + 104) nn1) (Chg.hp ch3 (qT ch2 (qT ch1 hg)) (off_blk (fun gz hgz => by have := ho.lt gz hgz; omega)))) fun W4 hb2 ch4 _ => ?_
 replace hb2 : W4.heap[g]? = some (.cells #[.slice AA1 (n + 104) nn1] 97 (0, 0)) := hb2
 have zz4 := ch4.size
 refine rE<|?_
 have ow4 := Mur.own8 (own_chg ow3.own ch4 (fun q e _ _ => ⟨by have := ow3.lt q e; omega, trivial⟩))
 have kk1 : Chg ([g] ++ Wk.blk (.slice A n c)) (w) W1 := zA ch1
 have kk2 := kA kk1 ch2
 have kk3 := Chg.step kk2 ch3 (newOr_iff.2 (fun t ht => .inl (List.mem_append_right _ ht)))
 have kk4 := kC kk3 ch4
 have hH_ := ow4
 rw [hRB1.out] at hH_
 refine Wk.retN (.tuple #[]) rfl (by kernel_rfl) ?_
 exact ⟨AA1, n + 104, nn1, rfl, hb2, hH_, by omega, kk4⟩
theorem Wupdate_any (g base : Nat) (A : Option Addr) (n c : Nat) (b : List UInt8) (u : Int × UInt8 × Nat) (w : World) (hg : w.heap[g]? = some (.cells #[.slice A n c] 97 (0, 0))) (hbs : g < base ∧ base ≤ w.heap.size) (ho : Own8 w base 5 A n c b) (hn : n ≤ 3000000) (hu : u.2.2 < 18446744073709551616) : Calls Tryd.prog 52 #[pt g 0, .agg (Mur.updC u).toArray] w fun e w' => ∃ A1 n1 c1, e = .returned (.tuple #[]) ∧ w'.heap[g]? = some (.cells #[.slice A1 n1 c1] 97 (0, 0)) ∧ Own8 w' w.heap.size 5 A1 n1 c1 (b ++ Mur.enc3 u) ∧ n1 ≤ n + 27 ∧ Chg [g] w w' := by
 have hgl_ := (Array.getElem?_eq_some_iff.1 hg).1
 have hon_ := ho.nc
 have hoc_ := ho.cm
 have hol_ := ho.byt.1
 have hn_ := hn
 have hbs_ := hbs
 have holt_ := ho.lt
 refine calls_of_wp Tryd.func52 rfl ?_
 have hu8_ := u.2.1.toNat_lt
 refine sR<|nW 0 3 #[.int .i64 u.1, .int .u8 u.2.1.toNat, .int .u64 u.2.2] 66 fun W1 hb1 ch1 sz1 => eN<|reg<|rP 0 4 (pt g 0)<|rP 1 5 (pt w.heap.size 0)<|rL 2 6 0 (.int .i64 u.1) hb1<|rq 3 7 (.int .u64 (u64n u.1 : Nat)) rfl (Mur.conv_u64n 3 24 (.tmp 6) rfl (by kernel_rfl) Tryd.underlying24 .i64 u.1 (by kernel_rfl))<|rP 4 8 (pt w.heap.size 1)<|rL 5 9 1 (.int .u8 u.2.1.toNat) hb1<|rq 6 10 (.int .u64 u.2.1.toNat) rfl (Mur.conv_int 5 24 (.tmp 9) rfl (by kernel_rfl) .u64 Tryd.underlying24 .u8 (u.2.1.toNat : Int) (by kernel_rfl) (Mur.u64_nat (n := u.2.1.toNat) (by omega)))<|rP 7 11 (pt w.heap.size 2)<|rL 8 12 2 (.int .u64 u.2.2) hb1<|rX 9 13 rfl rfl (new_ex (.slice (some ⟨W1.heap.size, 0, none⟩) 3 3) #[.int .u64 (u64n u.1 : Nat), .int .u64 u.2.1.toNat, .int .u64 u.2.2] 24 (by kernel_rfl)) ?_
 rintro _ W2 ⟨rfl, hb2, ch2, sz2⟩
 have zz2 := ch2.size
 have ow1 := Mur.own8 (own_chg ho.own ch1 (fun q e _ _ => trivial))
 have ow2 := Mur.own8 (own_chg ow1.own ch2 (fun q e _ _ => trivial))
 refine rK 10 14 (Wuint3_any g base A n c b W1.heap.size (u64n u.1) u.2.1.toNat u.2.2 W2 (qT ch2 (qT ch1 hg)) ⟨by omega, by omega⟩ ow2 (by omega) hb2 (by omega) (Mur.u64n_lt _) (by omega) hu) ?_
 rintro _ W3 ⟨AA1, nn1, cc1, rfl, hgw1, ow3, hle1, ch3⟩
 have zz3 := ch3.size
 have hq1 := ow3.nc
 have hq2 := ow3.cm
 have hq3 := ow3.byt.1
 refine rE<|?_
 have kk1 : Chg [g] (w) W1 := zA ch1
 have kk2 := kA kk1 ch2
 have kk3 := kC kk2 ch3
 have hH_ := ow3
 rw [List.append_assoc, List.append_assoc] at hH_; rw [show Mur.enc3 u = _ from List.append_assoc _ _ _]
 refine Wk.retN (.tuple #[]) rfl (by kernel_rfl) ?_
 exact ⟨AA1, nn1, cc1, rfl, hgw1, Mur.own8_low hH_ (by omega), by omega, kk3⟩
end Go.Proofs.YtgbadghjnpbiaaaDoor
namespace Wk
open Go Go.RowKit
section
variable {P : Program} {w : World} {a : Act} {o : Oper}
theorem run_callm (c : Operand) (f : FuncId) (fst : Array Value) (xs : List Operand) (ts : Array TypeId) (vals : List Value) (ho : o.op = .call { callee := .value c, args := xs.toArray, argTypes := ts }) (hc : a.eval c = .func (.func f) fst #[]) (hv : xs.map a.eval = vals)
    (hrun : (callFunc f (fst ++ vals.toArray)).run P w = .ok (.enter f (fst ++ vals.toArray)) w) : (execOp a.eval o).run P w = .ok (.enter f (fst ++ vals.toArray)) w := by
  obtain ⟨dst, op, ty, pos, after, guard⟩ := o
  simp only at ho
  subst ho
  unfold execOp
  simp only [resolve, hc]
  simp [go_sem, invoke, hv, hrun]
end
section
variable {P : Program} {ops : Array Oper} {Q : Exit → Act → World → Prop} {a : Act} {w : World} {o : Oper}
theorem rCallM (i : Nat) (d : Option Tmp) (c : Operand) (f : FuncId) (fst : Array Value) (xs : List Operand) (ts : Array TypeId) (vals : List Value) (hi : ops[i]? = some o) (hd : o.dst = d) (hw : Region.wanted o (yielded ops a.tmps) = true)
    (ho : o.op = .call { callee := .value c, args := xs.toArray, argTypes := ts }) (hc : a.eval c = .func (.func f) fst #[]) (hv : xs.map a.eval = vals) (hrun : (callFunc f (fst ++ vals.toArray)).run P w = .ok (.enter f (fst ++ vals.toArray)) w)
    (hq : Calls P f (fst ++ vals.toArray) w fun e w' => ∃ v, e = .returned v ∧ From P ops Q (i + 1) (a.put d v) w') : From P ops Q i a w := by
  subst hd
  refine from_step hi ?_
  unfold wpOp
  simp only [hi]
  rw [if_pos hw]
  refine .inl ?_
  unfold Oper.wp
  rw [run_callm c f fst xs ts vals ho hc hv hrun, Oper.upon_enter]
  refine hq.mono ?_
  rintro e w' ⟨v, rfl, h1⟩
  exact h1
end
end Wk
namespace Wk
open Go Go.RowKit
def nf (n : Nat) (kn : List (Nat × Value)) (b : Array Value) : Act := ⟨((List.range n).map fun j => (kn.lookup j).getD (b.getD j undef)).toArray, []⟩
structure Agree (n : Nat) (kn : List (Nat × Value)) (a : Act) : Prop where
  size : a.tmps.size = n
  defers : a.defers = []
  at_ : ∀ d v, kn.lookup d = some v → a.tmps[d]? = some v
theorem Agree.nf {n : Nat} {kn : List (Nat × Value)} {a : Act} (h : Agree n kn a) : a = nf n kn a.tmps := by
  obtain ⟨t, df⟩ := a
  obtain ⟨h1, h2, h3⟩ := h
  simp only at h1 h2 h3
  subst h2
  unfold Wk.nf
  congr 1
  apply Array.ext
  · simp [h1]
  · intro i hi hi2
    have hin : i < n := by omega
    simp only [List.getElem_toArray, List.getElem_map, List.getElem_range]
    cases hl : kn.lookup i with
    | none => simp [Array.getD, hi]
    | some v =>
      have := h3 i v hl
      rw [Array.getElem?_eq_getElem hi] at this
      exact Option.some.inj this
theorem lookup_of {α : Type} : ∀ {kn : List (Nat × α)} {d : Nat} {v : α}, kn.lookup d = some v → (d, v) ∈ kn
  | [], _, _, h => by cases h
  | (e, u) :: kn, d, v, h => by
    rw [List.lookup_cons] at h
    by_cases hd : d = e
    · subst hd
      simp at h
      subst h
      exact List.mem_cons_self
    · have : (d == e) = false := by simpa using hd
      rw [this] at h
      exact List.mem_cons_of_mem _ (lookup_of h)
theorem Agree.of {n : Nat} {kn : List (Nat × Value)} {a : Act} (h1 : a.tmps.size = n) (h2 : a.defers = []) (h3 : (kn.map fun p => a.tmps[p.1]?) = kn.map fun p => some p.2) : Agree n kn a := ⟨h1, h2, fun d v h => by
  have hm := lookup_of h
  have := List.map_inj_left.1 h3 (d, v) hm
  exact this⟩
theorem norm {P : Program} {ops : Array Oper} {Q : Exit → Act → World → Prop} {i : Nat} {a : Act} {w : World} (n : Nat) (kn : List (Nat × Value)) (h1 : a.tmps.size = n) (h2 : a.defers = []) (h3 : (kn.map fun p => a.tmps[p.1]?) = kn.map fun p => some p.2) (hF : ∀ b, From P ops Q i (nf n kn b) w) : From P ops Q i a w := by
  rw [(Agree.of h1 h2 h3).nf]
  exact hF _
-- many operations passed over, by what is known of few slots
def kget (kn : List (Nat × Value)) : Operand → Option Value
  | .tmp d => kn.lookup d
  | .const v => some v
  | _ => none
def kskip (ops : Array Oper) (kn : List (Nat × Value)) (o : Oper) : Option Bool :=
  match o.guard with
  | none => some false
  | some (j, b) => match (ops[j]?).bind (·.dst) with
    | none => none
    | some d => match kn.lookup d with
      | some (.bool c) => some (c != b)
      | _ => none
def kset (n : Nat) (kn : List (Nat × Value)) (d : Option Tmp) (v : Value) : Option (List (Nat × Value)) :=
  match d with
  | none => some kn
  | some d => if d < n then some ((d, v) :: kn) else none
def kstep (n : Nat) (ops : Array Oper) (i : Nat) (kn : List (Nat × Value)) : Option (List (Nat × Value)) :=
  match ops[i]? with
  | none => none
  | some o => match kskip ops kn o with
    | none => none
    | some true => kset n kn o.dst undef
    | some false => match o.op with
      | .move x => (kget kn x).bind fun v => kset n kn o.dst v
      | .pick c x y => match kget kn c with
        | some (.bool true) => (kget kn x).bind fun v => kset n kn o.dst v
        | some (.bool false) => (kget kn y).bind fun v => kset n kn o.dst v
        | _ => none
      | _ => none
def kmany (n : Nat) (ops : Array Oper) : Nat → Nat → List (Nat × Value) → Option (List (Nat × Value))
  | 0, _, kn => some kn
  | k + 1, i, kn => (kstep n ops i kn).bind fun kn' => kmany n ops k (i + 1) kn'
theorem kget_eval {n : Nat} {kn : List (Nat × Value)} {a : Act} (h : Agree n kn a) {x : Operand} {v : Value} (hx : kget kn x = some v) : a.eval x = v := by
  cases x with
  | tmp d =>
    have := h.at_ d v hx
    show a.tmps.getD d undef = v
    rw [Array.getD_eq_getD_getElem?, this]
    rfl
  | const u =>
    cases hx
    rfl
  | _ => cases hx
theorem kset_agree {n : Nat} {kn kn' : List (Nat × Value)} {a : Act} (h : Agree n kn a) {d : Option Tmp} {v : Value} (hs : kset n kn d v = some kn') : Agree n kn' (a.put d v) := by
  unfold kset at hs
  cases d with
  | none =>
    cases hs
    exact h
  | some d =>
    simp only at hs
    split at hs
    · rename_i hd
      cases hs
      refine ⟨?_, h.defers, fun e u he => ?_⟩
      · show (a.tmps.setIfInBounds d v).size = n
        rw [Array.size_setIfInBounds, h.size]
      · show (a.tmps.setIfInBounds d v)[e]? = some u
        rw [List.lookup_cons] at he
        by_cases hde : e = d
        · subst hde
          simp at he
          subst he
          rw [Array.getElem?_setIfInBounds, if_pos rfl, if_pos (by rw [h.size]; exact hd)]
        · have : (e == d) = false := by simpa using hde
          rw [this] at he
          rw [Array.getElem?_setIfInBounds, if_neg (fun q => hde q.symm)]
          exact h.at_ e u he
    · cases hs
theorem kskip_wanted {n : Nat} {ops : Array Oper} {kn : List (Nat × Value)} {a : Act} (h : Agree n kn a) {o : Oper} {t : Bool} (hk : kskip ops kn o = some t) : Region.wanted o (yielded ops a.tmps) = !t := by
  unfold kskip at hk
  unfold Region.wanted
  cases hg : o.guard with
  | none =>
    rw [hg] at hk
    cases hk
    rfl
  | some g =>
    obtain ⟨j, b⟩ := g
    rw [hg] at hk
    simp only at hk ⊢
    unfold yielded
    cases hd : (ops[j]?).bind (·.dst) with
    | none => rw [hd] at hk; cases hk
    | some d =>
      rw [hd] at hk
      simp only at hk
      split at hk
      · rename_i c hc
        cases hk
        have := h.at_ d _ hc
        simp only [Option.bind_some, this]
        cases c <;> cases b <;> rfl
      · cases hk
theorem kmany_from {P : Program} {n : Nat} {ops : Array Oper} {Q : Exit → Act → World → Prop} {w : World} : ∀ (k i : Nat) (kn kn' : List (Nat × Value)) (a : Act), Agree n kn a → kmany n ops k i kn = some kn' → (∀ a', Agree n kn' a' → From P ops Q (i + k) a' w) → From P ops Q i a w
  | 0, i, kn, kn', a, h, hm, hF => by
    cases hm
    exact hF a h
  | k + 1, i, kn, kn', a, h, hm, hF => by
    unfold kmany at hm
    obtain ⟨kn1, hs, hm⟩ := Option.bind_eq_some_iff.1 hm
    have key : ∀ a1, Agree n kn1 a1 → From P ops Q (i + 1) a1 w := fun a1 h1 => kmany_from k (i + 1) kn1 kn' a1 h1 hm (by rw [show i + 1 + k = i + (k + 1) by omega]; exact hF)
    unfold kstep at hs
    cases ho : ops[i]? with
    | none => rw [ho] at hs; cases hs
    | some o =>
      rw [ho] at hs
      simp only at hs
      cases hk : kskip ops kn o with
      | none => rw [hk] at hs; cases hs
      | some t =>
        rw [hk] at hs
        have hw := kskip_wanted h hk
        cases t with
        | true => exact rPass i o.dst ho rfl hw (key _ (kset_agree h hs))
        | false =>
          simp only at hs
          split at hs
          · rename_i x hop
            obtain ⟨v, hv, hs⟩ := Option.bind_eq_some_iff.1 hs
            refine rPure i o.dst v ho rfl hw ?_ (key _ (kset_agree h hs))
            unfold execOp
            simp only [hop, kget_eval h hv]
            rfl
          · rename_i c x y hop
            split at hs
            · rename_i hc
              obtain ⟨v, hv, hs⟩ := Option.bind_eq_some_iff.1 hs
              refine rPure i o.dst v ho rfl hw ?_ (key _ (kset_agree h hs))
              unfold execOp
              simp only [hop, kget_eval h hc, kget_eval h hv]
              rfl
            · rename_i hc
              obtain ⟨v, hv, hs⟩ := Option.bind_eq_some_iff.1 hs
              refine rPure i o.dst v ho rfl hw ?_ (key _ (kset_agree h hs))
              unfold execOp
              simp only [hop, kget_eval h hc, kget_eval h hv]
              rfl
            · cases hs
          · cases hs
theorem many {P : Program} {ops : Array Oper} {Q : Exit → Act → World → Prop} {a : Act} {w : World} (n k i : Nat) (kn : List (Nat × Value)) (d : Nat) (v : Value) (h1 : a.tmps.size = n) (h2 : a.defers = []) (h3 : (kn.map fun p => a.tmps[p.1]?) = kn.map fun p => some p.2) (hm : (kmany n ops k i kn).bind (fun q => q.lookup d) = some v)
    (hF : ∀ b, From P ops Q (i + k) (nf n [(d, v)] b) w) : From P ops Q i a w := by
  obtain ⟨kn', h4, h5⟩ := Option.bind_eq_some_iff.1 hm
  refine kmany_from k i kn kn' a (Agree.of h1 h2 h3) h4 fun a' ha => ?_
  have hA : Agree n [(d, v)] a' := ⟨ha.size, ha.defers, fun e u he => by
    have := lookup_of he
    simp at this
    obtain ⟨rfl, rfl⟩ := this
    exact ha.at_ _ _ h5⟩
  rw [hA.nf]
  exact hF _
end Wk
namespace Go.Proofs.YtgbadghjnpbiaaaDoor
open Go.RowKit Wk
open Mur (b8s Byt Own8 Seg Segs flat cutA attC Att SlA OwnA rowA msgC updC formN u64n map_at updC_size flat_sn own8_low u64n_of attL z32 attC_size newOr_own)
set_option maxRecDepth 100000
set_option maxHeartbeats 4000000
def WlU_F1 (b : Array Value) (u2 : Value) (u13 : Value) (u14 : Value) (u15 : Value) : Act := ⟨#[gd b 0, gd b 1, u2, gd b 3, gd b 4, gd b 5, gd b 6, gd b 7, gd b 8, gd b 9, gd b 10, gd b 11, gd b 12, u13, u14, u15, gd b 16, gd b 17, gd b 18, gd b 19, gd b 20, gd b 21, gd b 22], []⟩
def WlA_F1 (b : Array Value) (u2 : Value) (u13 : Value) (u14 : Value) (u15 : Value) : Act := ⟨#[gd b 0, gd b 1, u2, gd b 3, gd b 4, gd b 5, gd b 6, gd b 7, gd b 8, gd b 9, gd b 10, gd b 11, gd b 12, u13, u14, u15, gd b 16, gd b 17, gd b 18, gd b 19, gd b 20, gd b 21, gd b 22], []⟩
def WlD_F1 (b : Array Value) (u2 : Value) (u13 : Value) (u14 : Value) (u15 : Value) : Act := ⟨#[gd b 0, gd b 1, u2, gd b 3, gd b 4, gd b 5, gd b 6, gd b 7, gd b 8, gd b 9, gd b 10, gd b 11, gd b 12, u13, u14, u15, gd b 16, gd b 17, gd b 18, gd b 19, gd b 20, gd b 21, gd b 22], []⟩
theorem WListU_any (g base : Nat) (A : Option Addr) (n c : Nat) (b : List UInt8) (l : List (Int × UInt8 × Nat)) (C : Option Addr) (k d : Nat) (w : World) (hg : w.heap[g]? = some (.cells #[.slice A n c] 97 (0, 0))) (hbs : g < base ∧ base ≤ w.heap.size) (ho : Own8 w base 5 A n c b) (hn : n ≤ 2000000) (hl : Mur.SlR w 3 C k (l.map updC)) (hq : ∀ x, x ∈ l → x.2.2 < 18446744073709551616) (hk : k ≤ 1000) (hCg : ∀ g2 off, C = some ⟨g2, off, none⟩ → 0 < k → g2 ≠ g) : Calls Tryd.prog 51 #[pt g 0, .slice C k d, .func (.func 52) #[pt g 0] #[]] w fun e w' => ∃ A1 n1 c1, e = .returned (.tuple #[]) ∧ w'.heap[g]? = some (.cells #[.slice A1 n1 c1] 97 (0, 0)) ∧ Own8 w' w.heap.size 5 A1 n1 c1 (b ++ (formN l.length ++ (l.map Mur.enc3).flatten)) ∧ n1 ≤ n + 9 + 104 * k ∧ Chg [g] w w' := by
 have hll_ := hl.len
 rw [List.length_map] at hll_
 rw [hll_]
 have hgl_ := (Array.getElem?_eq_some_iff.1 hg).1
 have hon_ := ho.nc
 have hoc_ := ho.cm
 have hol_ := ho.byt.1
 have hn_ := hn
 have hbs_ := hbs
 have holt_ := ho.lt
 refine calls_of_wp Tryd.func51 rfl ?_
 refine sR<|rP 0 8 (pt g 0)<|rP 1 9 (.slice C k d)<|rP 2 10 (.int .i64 k)<|rX 3 11 rfl rfl (new_ex (.slice (some ⟨w.heap.size, 0, none⟩) 1 1) #[.int .i64 k] 3 (by kernel_rfl)) ?_
 rintro _ W1 ⟨rfl, hb1, ch1, sz1⟩
 have zz1 := ch1.size
 have ow1 := Mur.own8 (own_chg ho.own ch1 (fun q e _ _ => trivial))
 refine rK 4 12 (Wint1_any g base A n c b w.heap.size (k : Int) W1 (qT ch1 hg) ⟨by omega, by omega⟩ ow1 (by omega) hb1 (by omega)) ?_
 rintro _ W2 ⟨AA1, nn1, cc1, rfl, hgw1, ow2, hle1, ch2⟩
 have zz2 := ch2.size
 have hq1 := ow2.nc
 have hq2 := ow2.cm
 have hq3 := ow2.byt.1
 refine eN<|sR<|rP 0 13 (.slice C k d)<|rP 1 14 (.int .i64 k)<|rP 2 15 (.int .i64 0)<|eN<|wp_block<|?_
 refine Wk.loop (fun m_ a wr => ∃ (i : Nat) (A1 : Option Addr) (N1 : Nat) (c1 : Nat), m_ = k - i ∧ a = WlU_F1 a.tmps (.func (.func 52) #[pt g 0] #[]) (.slice C k d) (.int .i64 k) (.int .i64 i) ∧ i ≤ k ∧ Own8 wr W1.heap.size 5 A1 N1 c1 (b ++ formN (u64n (k : Int)) ++ ((l.take i).map Mur.enc3).flatten) ∧ wr.heap[g]? = some (.cells #[.slice A1 N1 c1] 97 (0, 0)) ∧ N1 ≤ nn1 + 104 * i ∧ W1.heap.size ≤ wr.heap.size ∧ Chg [g] w wr) (k - 0) ?_ ?_
 ·have kk1 : Chg [g] (w) W1 := zA ch1
  have kk2 := kC kk1 ch2
  refine ⟨0, AA1, nn1, cc1, rfl, by kernel_rfl, (by omega), (by rw [List.take_zero]; simp only [List.map_nil, List.flatten_nil, List.append_nil]; exact ow2), hgw1, (by omega), (by omega), kk2⟩
 rintro mm1 aa1 W3 ⟨i, A1, N1, c1, hmm1, hF1, hi, hO, hgc, hN, hbz, HB⟩
 generalize aa1.tmps = bb1 at hF1
 subst hF1
 have hzB := HB.size
 have hOn := hO.nc
 have hOc := hO.cm
 by_cases hlt : i < k
 ·obtain ⟨x, hx⟩ : ∃ x_, l[i]? = some x_ := ⟨_, List.getElem?_eq_getElem (by omega)⟩
  obtain ⟨g1, o1, hA_, hr1⟩ := hl.row (map_at updC hx) (by decide)
  have hg1_ := hCg g1 o1 hA_ (by omega)
  subst hA_
  have hqx_ := hq x (List.mem_of_getElem? hx)
  refine sR<|bT 0 16 ((i : Int) < (k : Int))<|eN<|wp_seq<|cT<|wp_skip<|nxt<|wp_seq<|wp_block<|sR<|rq 0 17 (pt g1 (o1 + i * 3)) rfl (iS 3 g1 o1 k d i)<|rq 1 18 (.agg ((updC x).toArray)) rfl (lR (o1 + i * 3) (updC x) (Chg.range HB hr1 ⟨by omega, trivial⟩))<|nW 2 7 #[.int .i64 0, .int .u8 0, .int .u64 0] 66 fun W4 hb2 ch3 sz2 => rU 3 rfl (sB (updC x).toArray (updC_size x) (Mur.updC_all x) hb2 (by kernel_rfl)) fun W5 hb3 ch4 zz4 => eN<|reg<|rP 0 19 (.func (.func 52) #[pt g 0] #[])<|rq 1 20 (.agg ((updC x).toArray)) rfl (lA hb3 (updC_size x)) ?_
  refine Wk.rCallM 2 (some 21) (.tmp 19) 52 #[pt g 0] [.tmp 20] #[66] [.agg ((updC x).toArray)] rfl rfl (by kernel_rfl) rfl (by kernel_rfl) (by kernel_rfl) (by kernel_rfl) ?_
  have ow3 := Mur.own8 (own_chg hO.own ch3 (fun q e _ _ => trivial))
  have ow4 := Mur.own8 (own_chg ow3.own ch4 (fun q e _ _ => ⟨by have := hO.lt q e; omega, trivial⟩))
  refine (Wupdate_any g W1.heap.size A1 N1 c1 (b ++ formN (u64n (k : Int)) ++ ((l.take i).map Mur.enc3).flatten) x W5 (qO ch4 (qT ch3 hgc)) ⟨by omega, by omega⟩ ow4 (by omega) hqx_).mono ?_
  rintro _ W6 ⟨AA2, nn2, cc2, rfl, hgw2, ow5, hle2, ch5⟩
  have zz5 := ch5.size
  have hq4 := ow5.nc
  have hq5 := ow5.cm
  have hq6 := ow5.byt.1
  refine ⟨_, rfl, ?_⟩
  refine rE<|inN<|nxt<|reg<|rI 0 22 ((i : Int) + 1) (((i + 1 : Nat) : Int))<|rP 1 15 (.int .i64 (i + 1 : Nat))<|eN<|?_
  have kk3 := kA HB ch3
  have kk4 := kB kk3 ch4
  have kk5 := kC kk4 ch5
  refine ⟨_, ?_, i + 1, AA2, nn2, cc2, rfl, by kernel_rfl, (by omega), (by rw [flat_sn Mur.enc3 hx, ← List.append_assoc]; exact own8_low ow5 (by omega)), hgw2, (by omega), (by omega), kk5⟩
  omega
 refine sR<|bF 0 16 ((i : Int) < (k : Int))<|eN<|wp_seq<|cF<|xX<|?_
 have hH_ := hO
 rw [List.take_of_length_le (show l.length ≤ i by omega), u64n_of (by omega), List.append_assoc] at hH_
 refine Wk.retN (.tuple #[]) rfl (by kernel_rfl) ?_
 exact ⟨A1, N1, c1, rfl, hgc, own8_low hH_ (by omega), by omega, HB⟩
theorem WListA_any (g base : Nat) (A : Option Addr) (n c : Nat) (b : List UInt8) (l : List (Att)) (C : Option Addr) (k d : Nat) (w : World) (hg : w.heap[g]? = some (.cells #[.slice A n c] 97 (0, 0))) (hbs : g < base ∧ base ≤ w.heap.size) (ho : Own8 w base 5 A n c b) (hn : n ≤ 2000000) (hl : Mur.SlR w 97 C k (l.map attL)) (hq : ∀ x, x ∈ l → Mur.may x.n) (hk : k ≤ 1000) (hCg : ∀ g2 off, C = some ⟨g2, off, none⟩ → 0 < k → g2 ≠ g) : Calls Tryd.prog 55 #[pt g 0, .slice C k d, .func (.func 56) #[pt g 0] #[]] w fun e w' => ∃ A1 n1 c1, e = .returned (.tuple #[]) ∧ w'.heap[g]? = some (.cells #[.slice A1 n1 c1] 97 (0, 0)) ∧ Own8 w' w.heap.size 5 A1 n1 c1 (b ++ (formN l.length ++ (l.map Att.raw).flatten)) ∧ n1 ≤ n + 9 + 104 * k ∧ Chg [g] w w' := by
 have hll_ := hl.len
 rw [List.length_map] at hll_
 rw [hll_]
 have hgl_ := (Array.getElem?_eq_some_iff.1 hg).1
 have hon_ := ho.nc
 have hoc_ := ho.cm
 have hol_ := ho.byt.1
 have hn_ := hn
 have hbs_ := hbs
 have holt_ := ho.lt
 refine calls_of_wp Tryd.func55 rfl ?_
 refine sR<|rP 0 8 (pt g 0)<|rP 1 9 (.slice C k d)<|rP 2 10 (.int .i64 k)<|rX 3 11 rfl rfl (new_ex (.slice (some ⟨w.heap.size, 0, none⟩) 1 1) #[.int .i64 k] 3 (by kernel_rfl)) ?_
 rintro _ W1 ⟨rfl, hb1, ch1, sz1⟩
 have zz1 := ch1.size
 have ow1 := Mur.own8 (own_chg ho.own ch1 (fun q e _ _ => trivial))
 refine rK 4 12 (Wint1_any g base A n c b w.heap.size (k : Int) W1 (qT ch1 hg) ⟨by omega, by omega⟩ ow1 (by omega) hb1 (by omega)) ?_
 rintro _ W2 ⟨AA1, nn1, cc1, rfl, hgw1, ow2, hle1, ch2⟩
 have zz2 := ch2.size
 have hq1 := ow2.nc
 have hq2 := ow2.cm
 have hq3 := ow2.byt.1
 refine eN<|sR<|rP 0 13 (.slice C k d)<|rP 1 14 (.int .i64 k)<|rP 2 15 (.int .i64 0)<|eN<|wp_block<|?_
 refine Wk.loop (fun m_ a wr => ∃ (i : Nat) (A1 : Option Addr) (N1 : Nat) (c1 : Nat), m_ = k - i ∧ a = WlA_F1 a.tmps (.func (.func 56) #[pt g 0] #[]) (.slice C k d) (.int .i64 k) (.int .i64 i) ∧ i ≤ k ∧ Own8 wr W1.heap.size 5 A1 N1 c1 (b ++ formN (u64n (k : Int)) ++ ((l.take i).map Att.raw).flatten) ∧ wr.heap[g]? = some (.cells #[.slice A1 N1 c1] 97 (0, 0)) ∧ N1 ≤ nn1 + 104 * i ∧ W1.heap.size ≤ wr.heap.size ∧ Chg [g] w wr) (k - 0) ?_ ?_
 ·have kk1 : Chg [g] (w) W1 := zA ch1
  have kk2 := kC kk1 ch2
  refine ⟨0, AA1, nn1, cc1, rfl, by kernel_rfl, (by omega), (by rw [List.take_zero]; simp only [List.map_nil, List.flatten_nil, List.append_nil]; exact ow2), hgw1, (by omega), (by omega), kk2⟩
 rintro mm1 aa1 W3 ⟨i, A1, N1, c1, hmm1, hF1, hi, hO, hgc, hN, hbz, HB⟩
 generalize aa1.tmps = bb1 at hF1
 subst hF1
 have hzB := HB.size
 have hOn := hO.nc
 have hOc := hO.cm
 by_cases hlt : i < k
 ·obtain ⟨x, hx⟩ : ∃ x_, l[i]? = some x_ := ⟨_, List.getElem?_eq_getElem (by omega)⟩
  obtain ⟨g1, o1, hA_, hr1⟩ := hl.row (map_at attL hx) (by decide)
  have hg1_ := hCg g1 o1 hA_ (by omega)
  subst hA_
  have hqx_ := hq x (List.mem_of_getElem? hx)
  refine sR<|bT 0 16 ((i : Int) < (k : Int))<|eN<|wp_seq<|cT<|wp_skip<|nxt<|wp_seq<|wp_block<|sR<|rq 0 17 (pt g1 (o1 + i * 97)) rfl (iS 97 g1 o1 k d i)<|rq 1 18 (.agg ((Mur.attC x.k x.r x.n x.t).toArray)) rfl (lR (o1 + i * 97) (Mur.attC x.k x.r x.n x.t) (Chg.range HB hr1 ⟨by omega, trivial⟩) (by rw [Mur.attC_length x.hk x.hr x.ht]; kernel_rfl))<|nW 2 7 (Mur.attC z32 z32 0 z32).toArray 36 fun W4 hb2 ch3 sz2 => rU 3 rfl (sB (Mur.attC x.k x.r x.n x.t).toArray (attC_size x.hk x.hr x.ht) Mur.attC_all hb2 (attC_size rfl rfl rfl)) fun W5 hb3 ch4 zz4 => eN<|reg<|rP 0 19 (.func (.func 56) #[pt g 0] #[])<|rq 1 20 (.agg ((Mur.attC x.k x.r x.n x.t).toArray)) rfl (lA hb3 (attC_size x.hk x.hr x.ht)) ?_
  refine Wk.rCallM 2 (some 21) (.tmp 19) 56 #[pt g 0] [.tmp 20] #[36] [.agg ((Mur.attC x.k x.r x.n x.t).toArray)] rfl rfl (by kernel_rfl) rfl (by kernel_rfl) (by kernel_rfl) (by kernel_rfl) ?_
  have ow3 := Mur.own8 (own_chg hO.own ch3 (fun q e _ _ => trivial))
  have ow4 := Mur.own8 (own_chg ow3.own ch4 (fun q e _ _ => ⟨by have := hO.lt q e; omega, trivial⟩))
  refine (Wattest_any g W1.heap.size A1 N1 c1 (b ++ formN (u64n (k : Int)) ++ ((l.take i).map Att.raw).flatten) x W5 (qO ch4 (qT ch3 hgc)) ⟨by omega, by omega⟩ ow4 (by omega) hqx_).mono ?_
  rintro _ W6 ⟨AA2, nn2, cc2, rfl, hgw2, ow5, hle2, ch5⟩
  have lto1 := ow4.lt
  have zz5 := ch5.size
  have hq4 := ow5.nc
  have hq5 := ow5.cm
  have hq6 := ow5.byt.1
  refine ⟨_, rfl, ?_⟩
  refine rE<|inN<|nxt<|reg<|rI 0 22 ((i : Int) + 1) (((i + 1 : Nat) : Int))<|rP 1 15 (.int .i64 (i + 1 : Nat))<|eN<|?_
  have kk3 := kA HB ch3
  have kk4 := kB kk3 ch4
  have kk5 := Chg.step kk4 ch5 (newOr_own (.inl (by simp)) (fun gz hgz => by have := lto1 gz hgz; omega))
  refine ⟨_, ?_, i + 1, AA2, nn2, cc2, rfl, by kernel_rfl, (by omega), (by rw [flat_sn Att.raw hx, ← List.append_assoc]; exact own8_low ow5 (by omega)), hgw2, (by omega), (by omega), kk5⟩
  omega
 refine sR<|bF 0 16 ((i : Int) < (k : Int))<|eN<|wp_seq<|cF<|xX<|?_
 have hH_ := hO
 rw [List.take_of_length_le (show l.length ≤ i by omega), u64n_of (by omega), List.append_assoc] at hH_
 refine Wk.retN (.tuple #[]) rfl (by kernel_rfl) ?_
 exact ⟨A1, N1, c1, rfl, hgc, own8_low hH_ (by omega), by omega, HB⟩
theorem WListD_any (g base : Nat) (A : Option Addr) (n c : Nat) (b : List UInt8) (l : List (List UInt8)) (C : Option Addr) (k d : Nat) (w : World) (hg : w.heap[g]? = some (.cells #[.slice A n c] 97 (0, 0))) (hbs : g < base ∧ base ≤ w.heap.size) (ho : Own8 w base 5 A n c b) (hn : n ≤ 2000000) (hl : Mur.SlR w 32 C k (l.map b8s)) (hq : ∀ x, x ∈ l → x.length = 32) (hk : k ≤ 1000) (hCg : ∀ g2 off, C = some ⟨g2, off, none⟩ → 0 < k → g2 ≠ g) : Calls Tryd.prog 58 #[pt g 0, .slice C k d, .func (.func 54) #[pt g 0] #[]] w fun e w' => ∃ A1 n1 c1, e = .returned (.tuple #[]) ∧ w'.heap[g]? = some (.cells #[.slice A1 n1 c1] 97 (0, 0)) ∧ Own8 w' w.heap.size 5 A1 n1 c1 (b ++ (formN l.length ++ (l.map (fun x : List UInt8 => x)).flatten)) ∧ n1 ≤ n + 9 + 104 * k ∧ Chg [g] w w' := by
 have hll_ := hl.len
 rw [List.length_map] at hll_
 rw [hll_]
 have hgl_ := (Array.getElem?_eq_some_iff.1 hg).1
 have hon_ := ho.nc
 have hoc_ := ho.cm
 have hol_ := ho.byt.1
 have hn_ := hn
 have hbs_ := hbs
 have holt_ := ho.lt
 refine calls_of_wp Tryd.func58 rfl ?_
 refine sR<|rP 0 8 (pt g 0)<|rP 1 9 (.slice C k d)<|rP 2 10 (.int .i64 k)<|rX 3 11 rfl rfl (new_ex (.slice (some ⟨w.heap.size, 0, none⟩) 1 1) #[.int .i64 k] 3 (by kernel_rfl)) ?_
 rintro _ W1 ⟨rfl, hb1, ch1, sz1⟩
 have zz1 := ch1.size
 have ow1 := Mur.own8 (own_chg ho.own ch1 (fun q e _ _ => trivial))
 refine rK 4 12 (Wint1_any g base A n c b w.heap.size (k : Int) W1 (qT ch1 hg) ⟨by omega, by omega⟩ ow1 (by omega) hb1 (by omega)) ?_
 rintro _ W2 ⟨AA1, nn1, cc1, rfl, hgw1, ow2, hle1, ch2⟩
 have zz2 := ch2.size
 have hq1 := ow2.nc
 have hq2 := ow2.cm
 have hq3 := ow2.byt.1
 refine eN<|sR<|rP 0 13 (.slice C k d)<|rP 1 14 (.int .i64 k)<|rP 2 15 (.int .i64 0)<|eN<|wp_block<|?_
 refine Wk.loop (fun m_ a wr => ∃ (i : Nat) (A1 : Option Addr) (N1 : Nat) (c1 : Nat), m_ = k - i ∧ a = WlD_F1 a.tmps (.func (.func 54) #[pt g 0] #[]) (.slice C k d) (.int .i64 k) (.int .i64 i) ∧ i ≤ k ∧ Own8 wr W1.heap.size 5 A1 N1 c1 (b ++ formN (u64n (k : Int)) ++ ((l.take i).map (fun x : List UInt8 => x)).flatten) ∧ wr.heap[g]? = some (.cells #[.slice A1 N1 c1] 97 (0, 0)) ∧ N1 ≤ nn1 + 104 * i ∧ W1.heap.size ≤ wr.heap.size ∧ Chg [g] w wr) (k - 0) ?_ ?_
 ·have kk1 : Chg [g] (w) W1 := zA ch1
  have kk2 := kC kk1 ch2
  refine ⟨0, AA1, nn1, cc1, rfl, by kernel_rfl, (by omega), (by rw [List.take_zero]; simp only [List.map_nil, List.flatten_nil, List.append_nil]; exact ow2), hgw1, (by omega), (by omega), kk2⟩
 rintro mm1 aa1 W3 ⟨i, A1, N1, c1, hmm1, hF1, hi, hO, hgc, hN, hbz, HB⟩
 generalize aa1.tmps = bb1 at hF1
 subst hF1
 have hzB := HB.size
 have hOn := hO.nc
 have hOc := hO.cm
 by_cases hlt : i < k
 ·obtain ⟨x, hx⟩ : ∃ x_, l[i]? = some x_ := ⟨_, List.getElem?_eq_getElem (by omega)⟩
  obtain ⟨g1, o1, hA_, hr1⟩ := hl.row (map_at b8s hx) (by decide)
  have hg1_ := hCg g1 o1 hA_ (by omega)
  subst hA_
  have hqx_ := hq x (List.mem_of_getElem? hx)
  refine sR<|bT 0 16 ((i : Int) < (k : Int))<|eN<|wp_seq<|cT<|wp_skip<|nxt<|wp_seq<|wp_block<|sR<|rq 0 17 (pt g1 (o1 + i * 32)) rfl (iS 32 g1 o1 k d i)<|rq 1 18 (.agg ((b8s x).toArray)) rfl (lR (o1 + i * 32) (b8s x) (Chg.range HB hr1 ⟨by omega, trivial⟩) (by rw [Mur.b8s_length, hqx_]; kernel_rfl))<|nW 2 7 Z32 29 fun W4 hb2 ch3 sz2 => rU 3 rfl (sC x hqx_ hb2) fun W5 hb3 ch4 zz4 => eN<|reg<|rP 0 19 (.func (.func 54) #[pt g 0] #[])<|rq 1 20 (.agg ((b8s x).toArray)) rfl (lB x hqx_ hb3) ?_
  refine Wk.rCallM 2 (some 21) (.tmp 19) 54 #[pt g 0] [.tmp 20] #[29] [.agg ((b8s x).toArray)] rfl rfl (by kernel_rfl) rfl (by kernel_rfl) (by kernel_rfl) (by kernel_rfl) ?_
  have ow3 := Mur.own8 (own_chg hO.own ch3 (fun q e _ _ => trivial))
  have ow4 := Mur.own8 (own_chg ow3.own ch4 (fun q e _ _ => ⟨by have := hO.lt q e; omega, trivial⟩))
  refine (Wdigest_any g W1.heap.size A1 N1 c1 (b ++ formN (u64n (k : Int)) ++ ((l.take i).map (fun x : List UInt8 => x)).flatten) x W5 (qO ch4 (qT ch3 hgc)) ⟨by omega, by omega⟩ ow4 (by omega) hqx_).mono ?_
  rintro _ W6 ⟨AA2, nn2, cc2, rfl, hgw2, ow5, hle2, ch5⟩
  have lto1 := ow4.lt
  have zz5 := ch5.size
  have hq4 := ow5.nc
  have hq5 := ow5.cm
  have hq6 := ow5.byt.1
  refine ⟨_, rfl, ?_⟩
  refine rE<|inN<|nxt<|reg<|rI 0 22 ((i : Int) + 1) (((i + 1 : Nat) : Int))<|rP 1 15 (.int .i64 (i + 1 : Nat))<|eN<|?_
  have kk3 := kA HB ch3
  have kk4 := kB kk3 ch4
  have kk5 := Chg.step kk4 ch5 (newOr_own (.inl (by simp)) (fun gz hgz => by have := lto1 gz hgz; omega))
  refine ⟨_, ?_, i + 1, AA2, nn2, cc2, rfl, by kernel_rfl, (by omega), (by rw [flat_sn (fun x : List UInt8 => x) hx, ← List.append_assoc]; exact own8_low ow5 (by omega)), hgw2, (by omega), (by omega), kk5⟩
  omega
 refine sR<|bF 0 16 ((i : Int) < (k : Int))<|eN<|wp_seq<|cF<|xX<|?_
 have hH_ := hO
 rw [List.take_of_length_le (show l.length ≤ i by omega), u64n_of (by omega), List.append_assoc] at hH_
 refine Wk.retN (.tuple #[]) rfl (by kernel_rfl) ?_
 exact ⟨A1, N1, c1, rfl, hgc, own8_low hH_ (by omega), by omega, HB⟩
end Go.Proofs.YtgbadghjnpbiaaaDoor
