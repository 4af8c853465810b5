/- What the row rests on, part 8. -/
import Derived.Test.YtgbadghjnpbiaaaGreatDoorRR6
import Derived.Test.YtgbadghjnpbiaaaGreatDoorRR5
import Derived.Test.YtgbadghjnpbiaaaGreatDoorRR7
import Derived.Test.YtgbadghjnpbiaaaGreatDoorRR4
namespace Go.Proofs.YtgbadghjnpbiaaaGreatDoor
open Go.RowKit Wk
open Mur (b8s Byt Own8 Seg Segs flat cutA attC Att SlA OwnA rowA msgC conv_u8o flat_all)
set_option maxRecDepth 100000
set_option maxHeartbeats 4000000
def Form_F1 (b : Array Value) (u0 u3 u4 : Value) : Act := sg 24 [(0, u0), (3, u3), (4, u4)] b
def Behind_F1 (b : Array Value) (u0 u3 u9 u10 u11 : Value) : Act := sg 33 [(0, u0), (3, u3), (9, u9), (10, u10), (11, u11)] b
def Behind_F2 (b : Array Value) (u6 u22 u23 u24 : Value) : Act := sg 33 [(6, u6), (22, u22), (23, u23), (24, u24)] b
theorem form_any (N : Nat) (hN : N < 18446744073709551616) (w : World) : Calls Tryz.prog 97 #[vU N] w fun e w' => ∃ q o n, e = .returned (.slice (some ⟨q, o, none⟩) n n) ∧ Byt w' (some ⟨q, o, none⟩) n (Mur.formN N) ∧ (w.heap.size ≤ q ∧ q < w'.heap.size) ∧ n ≤ 9 ∧ Chg [] w w' := by
 refine calls_of_wp Tryz.func97 rfl ?_
 refine sR<|rP 0 2 (.slice none 0 0)<|eN<|?_
 refine wp_scope_straight ?_
 refine sR<|nW 0 3 #[vB 0, vB 0, vB 0, vB 0, vB 0, vB 0, vB 0, vB 0, vB 0] 149 fun W1 hb1 ch1 sz1 => eN<|sR<|rP 0 4 (vI 9)<|eN<|wp_seq<|wp_label<|nxt<|wp_seq<|wp_block<|?_
 refine Wk.loop (fun m_ a wr => ∃ (m : Nat) (j : Nat) (tl : List UInt8), m_ = j ∧ a = Form_F1 a.tmps (vU m) (pw w 0) (vI j) ∧ j ≤ 9 ∧ Mur.FormAt N m (9 - j) tl ∧ wr.heap[w.heap.size]? = some (.cells (b8s (Mur.nineF (9 - j) tl)).toArray 149 (0, 0)) ∧ Chg [] w wr) (9) ?_ ?_
 ·have kk1 : Chg [] w W1 := zA ch1
  refine ⟨N, 9, [], rfl, by kernel_rfl, (by omega), Mur.formAt_zero N, hb1, kk1⟩
 rintro mm1 aa1 W2 ⟨m, j, tl, hmm1, hF1, hj, hF, hX, HB⟩
 generalize aa1.tmps = bb1 at hF1
 subst hF1
 have hzB := HB.size
 have hxl_ := (Array.getElem?_eq_some_iff.1 hX).1
 have hnl : (Mur.nineF (9 - j) tl).length = 9 := Mur.nineF_len hF.2 (by omega)
 have hle := Mur.formAt_le hF hN
 have hj1 : 1 ≤ j := by have := hle.1; omega
 by_cases hm0 : m = 0
 ·subst hm0
  refine wp_block<|wp_seq<|sR<|?_
  refine rP 0 5 (vU ((0 : Nat) : Int))<|rq 1 6 _ rfl (qboolT (b := (((0 : Nat) : Int) == (0 : Int))) (beq_iff_eq.2 (rfl))) ?_
  refine rEnd 2 rfl (nxt (wp_cond_true (by kernel_rfl) (wp_exit (thX (inY (by decide) (thX (inX (nxt (wp_seq (reg ?_))))))))))
  refine rP 0 15 (vI j)<|rI 1 16 ((j : Int) - 1) (((j - 1 : Nat) : Int))<|rP 2 4 (vI (j - 1 : Nat))<|eN<|sR<|rP 0 17 (vI (j - 1 : Nat))<|rP 1 18 (vI (j - 1 : Nat))<|rI 2 19 (8 - ((j - 1 : Nat) : Int)) (((9 - j : Nat) : Int))<|rq 3 20 (vB ((UInt8.ofNat (9 - j)).toNat : Nat)) rfl (conv_u8o 3 5 (.tmp 19) rfl (by kernel_rfl) Tryz.underlying5 .i64 (9 - j) (by kernel_rfl))<|rq 4 21 (.pointer (some ⟨w.heap.size, 0 + (j - 1) * 1, none⟩)) rfl (Wk.index_arr 149 5 (.tmp 3) (.tmp 17) rfl 9 Tryz.underlying149 1 (by kernel_rfl) w.heap.size 0 (j - 1) .i64 (by kernel_rfl) (by kernel_rfl) (by omega))<|rU 5 rfl (Mur.store8 5 (.tmp 21) (.tmp 20) rfl (by kernel_rfl) w.heap.size (j - 1) (by kernel_rfl) (UInt8.ofNat (9 - j)) (by kernel_rfl) 149 (Mur.nineF (9 - j) tl) hX (by rw [hnl]; omega)) fun W3 hb2 ch2 zz2 => eN<|sR<|rP 0 22 (vI (j - 1 : Nat))<|rq 1 23 (.slice (some ⟨w.heap.size, j - 1, none⟩) (9 - (j - 1)) (9 - (j - 1))) rfl (Mur.arr_slice_from 149 5 (.tmp 3) (.tmp 22) 9 (j - 1) rfl Tryz.underlying149 (by kernel_rfl) w.heap.size (by kernel_rfl) (by kernel_rfl) (by omega))<|rP 2 2 (.slice (some ⟨w.heap.size, j - 1, none⟩) (9 - (j - 1)) (9 - (j - 1)))<|eN<|wp_ret<|?_
  refine Wk.ngR ?_
  exact rt (.slice (some ⟨w.heap.size, j - 1, none⟩) (9 - (j - 1)) (9 - (j - 1))) ⟨_, _, _, rfl, Mur.form_byt hF ⟨hj1, hj⟩ hb2, ⟨by omega, by omega⟩, by omega, (kB HB ch2)⟩
 have hj2 := hle.2 hm0
 refine wp_block<|wp_seq<|sR<|?_
 refine rP 0 5 (vU m)<|eF 1 6 (m : Int) (0 : Int)<|eN<|cF<|wp_skip<|nxt<|sR<|rP 0 7 (vI j)<|rI 1 8 ((j : Int) - 1) (((j - 1 : Nat) : Int))<|rP 2 4 (vI (j - 1 : Nat))<|eN<|reg<|rP 0 9 (vI (j - 1 : Nat))<|rP 1 10 (vU m)<|rq 2 11 (vB ((UInt8.ofNat (m % 256)).toNat : Nat)) rfl (by rw [Mur.ofNat_mod2]; exact conv_u8o 23 5 (.tmp 10) rfl (by kernel_rfl) Tryz.underlying5 .u64 m (by kernel_rfl))<|rP 3 12 (vU m)<|rq 4 13 (vU (m / 256 : Nat)) rfl (Mur.shr64 23 148 (.tmp 12) (.const (vU 8)) rfl m 8 .u64 (by kernel_rfl) (by kernel_rfl) (by omega) 256 rfl)<|rq 5 14 (.pointer (some ⟨w.heap.size, 0 + (j - 1) * 1, none⟩)) rfl (Wk.index_arr 149 5 (.tmp 3) (.tmp 9) rfl 9 Tryz.underlying149 1 (by kernel_rfl) w.heap.size 0 (j - 1) .i64 (by kernel_rfl) (by kernel_rfl) (by omega))<|rU 6 rfl (Mur.store8 5 (.tmp 14) (.tmp 11) rfl (by kernel_rfl) w.heap.size (j - 1) (by kernel_rfl) (UInt8.ofNat (m % 256)) (by kernel_rfl) 149 (Mur.nineF (9 - j) tl) hX (by rw [hnl]; omega)) fun W4 hb3 ch3 zz3 => rP 7 0 (vU (m / 256 : Nat))<|rE<|inN<|nxt<|?_
 refine ⟨_, ?_, m / 256, j - 1, UInt8.ofNat (m % 256) :: tl, rfl, by kernel_rfl, (by omega), (by have h_ := Mur.formAt_step hF hm0; rw [show 9 - (j - 1) = 9 - j + 1 by omega]; exact h_), (by have h_ := hb3; rw [show (9 : Nat) - (j - 1) = 9 - j + 1 by omega, ← Mur.nineF_set _ (show 9 - j < 9 by omega), show 9 - (9 - j + 1) = j - 1 by omega]; exact h_), (kB HB ch3)⟩
 omega
theorem behind_any (L : List Seg) (PA : Option Addr) (pn pc : Nat) (w : World) (hl : Segs w PA pn L) (hpn : pn ≤ 9223372036854775807) (hf : (flat L).length ≤ 140737488351000) : Calls Tryz.prog 96 #[.slice PA pn pc] w fun e w' => ∃ A1 n1 c1, e = .returned (.slice A1 n1 c1) ∧ Own8 w' w.heap.size 5 A1 n1 c1 (flat L) ∧ Chg [] w w' := by
 have HL := Go.Lib.hid hl
 clear hl
 refine calls_of_wp Tryz.func96 rfl ?_
 refine sR<|rP 0 2 (.slice none 0 0)<|eN<|sR<|rP 0 3 (vI 0)<|eN<|wp_seq<|sR<|rP 0 9 (.slice PA pn pc)<|rP 1 10 (vI pn)<|rP 2 11 (vI 0)<|eN<|wp_block<|?_
 refine Wk.loop (fun m_ a wr => ∃ (k : Nat) (N : Nat), m_ = pn - k ∧ a = Behind_F1 a.tmps (.slice PA pn pc) (vI N) (.slice PA pn pc) (vI pn) (vI k) ∧ k ≤ pn ∧ N = (flat (L.take k)).length ∧ Chg [] w wr) (pn - 0) ?_ ?_
 ·refine ⟨0, 0, rfl, by kernel_rfl, by omega, by rw [List.take_zero]; rfl, (Chg.refl _)⟩
 rintro mm1 aa1 W1 ⟨k, N, hmm1, hF1, hi, hN, HB⟩
 generalize aa1.tmps = bb1 at hF1
 subst hF1
 have hzB := HB.size
 by_cases hlt : k < pn
 ·obtain ⟨g, off, As, ns, cs, ls, rfl, hg, hcell, hby, hsn, hsc, hsnil, hfl, hfle⟩ := HL.out.at hlt
  have hsl_ := hby.1
  have hfl_ := congrArg List.length hfl
  rw [List.length_append] at hfl_
  refine sR<|bT 0 12 ((k : Int) < (pn : Int))<|eN<|wp_seq<|cT<|wp_skip<|nxt<|wp_seq<|wp_block<|sR<|rq 0 13 (pt g (off + k * 1)) rfl (iS 1 g off pn pc k)<|rq 1 14 _ rfl (ld 22 13 g (off + k * 1) (.slice As ns cs) (Chg.cell HB hcell trivial))<|rP 2 5 (.slice As ns cs)<|eN<|reg<|rP 0 15 (vI N)<|rP 1 16 (.slice As ns cs)<|rP 2 17 (vI ns)<|rI 3 18 ((N : Int) + (ns : Int)) (((N + ns : Nat) : Int))<|rP 4 3 (vI (N + ns : Nat))<|rE<|inN<|nxt<|reg<|rI 0 19 ((k : Int) + 1) (((k + 1 : Nat) : Int))<|rP 1 11 (vI (k + 1 : Nat))<|eN<|?_
  refine ⟨_, ?_, k + 1, N + ns, rfl, by kernel_rfl, (by omega), (by omega), HB⟩
  omega
 have hfa : flat (L.take k) = flat L := by rw [show k = pn by omega]; exact flat_all HL.out.len
 rw [hfa] at hN
 refine sR<|bF 0 12 ((k : Int) < (pn : Int))<|eN<|wp_seq<|cF<|xX<|nxt<|sR<|rP 0 20 (vI N)<|rX 1 21 rfl rfl (Mur.make0 22 5 (.const (vI 0)) (.tmp 20) rfl Tryz.underlying22 (by kernel_rfl) N (by omega) (by kernel_rfl) (by kernel_rfl)) ?_
 rintro _ W2 ⟨rfl, ow1, ch1, sz1⟩
 have zz1 := ch1.size
 refine rP 2 6 (.slice (some ⟨W1.heap.size, 0, none⟩) 0 N)<|eN<|wp_seq<|sR<|rP 0 22 (.slice PA pn pc)<|rP 1 23 (vI pn)<|rP 2 24 (vI 0)<|eN<|wp_block<|?_
 refine Wk.loop (fun m_ a wr => ∃ (k2 : Nat) (A1 : Option Addr) (N2 : Nat) (c1 : Nat), m_ = pn - k2 ∧ a = Behind_F2 a.tmps (.slice A1 N2 c1) (.slice PA pn pc) (vI pn) (vI k2) ∧ k2 ≤ pn ∧ Own8 wr w.heap.size 5 A1 N2 c1 (flat (L.take k2)) ∧ Chg [] w wr) (pn - 0) ?_ ?_
 ·have kk1 := kA HB ch1
  refine ⟨0, some ⟨W1.heap.size, 0, none⟩, 0, N, rfl, by kernel_rfl, by omega, (by rw [List.take_zero]; exact Mur.own8_low ow1 (by omega)), kk1⟩
 rintro mm2 aa2 W3 ⟨k2, A1, N2, c1, hmm2, hF2, hi, hO, HB⟩
 generalize aa2.tmps = bb2 at hF2
 subst hF2
 have hzB := HB.size
 have hqn := hO.nc
 have hqm := hO.cm
 have hol := hO.byt.1
 by_cases hlt : k2 < pn
 ·obtain ⟨g, off, As, ns, cs, ls, rfl, hg, hcell, hby, hsn, hsc, hsnil, hfl, hfle⟩ := HL.out.at hlt
  have hsl_ := hby.1
  have hfl_ := congrArg List.length hfl
  rw [List.length_append] at hfl_
  refine sR<|bT 0 25 ((k2 : Int) < (pn : Int))<|eN<|wp_seq<|cT<|wp_skip<|nxt<|wp_seq<|wp_block<|sR<|rq 0 26 (pt g (off + k2 * 1)) rfl (iS 1 g off pn pc k2)<|rq 1 27 _ rfl (ld 22 26 g (off + k2 * 1) (.slice As ns cs) (Chg.cell HB hcell trivial))<|rP 2 8 (.slice As ns cs)<|eN<|reg<|rP 0 28 (.slice A1 N2 c1)<|rP 1 29 (.slice As ns cs)<|rX 2 30 rfl rfl (ap8 ns cs hO.own (Mur.byt_chg hby HB (fun g off e hl => trivial)) hsnil (N2 + ns) ((flat (L.take k2)) ++ ls)) ?_
  rintro _ W4 ⟨AA1, nn1, rfl, ow2, ch2, ha1⟩
  have zz2 := ch2.size
  have hq1 := ow2.nc
  have hq2 := ow2.cm
  refine rP 3 6 (.slice AA1 (N2 + ns) nn1)<|rE<|inN<|nxt<|reg<|rI 0 31 ((k2 : Int) + 1) (((k2 + 1 : Nat) : Int))<|rP 1 24 (vI (k2 + 1 : Nat))<|eN<|?_
  refine ⟨_, ?_, k2 + 1, AA1, N2 + ns, nn1, rfl, by kernel_rfl, (by omega), (by rw [hfl]; exact ow2), (Chg.step HB ch2 (newOr_blk (fun g hg => by have := hO.lt g hg; omega)))⟩
  omega
 have hfa2 : flat (L.take k2) = flat L := by rw [show k2 = pn by omega]; exact flat_all HL.out.len
 rw [hfa2] at hO
 exact sR<|bF 0 25 ((k2 : Int) < (pn : Int))<|eN<|wp_seq<|cF<|xX<|nxt<|sR<|rP 0 32 (.slice A1 N2 c1)<|rP 1 2 (.slice A1 N2 c1)<|eN<|wp_ret<|rt (.slice A1 N2 c1) ⟨_, _, _, rfl, hO, HB⟩
end Go.Proofs.YtgbadghjnpbiaaaGreatDoor
namespace Go.Proofs.YtgbadghjnpbiaaaGreatDoor
open Go.RowKit Wk
open Mur (b8s Byt Own8 Seg Segs flat cutA attC Att SlA OwnA rowA msgC formN byt_chg ok_cons byt_from run_op_from readN_nil readN_short byt_cell conv_int readN_big readN_zero byt_to run_op_cut_to beN_lt56 shl8_64 u64_nat add_u64 beN_more beN_lt64 readN_ok)
set_option maxRecDepth 100000
set_option maxHeartbeats 4000000
def UintW_F1 (b : Array Value) (u1 u4 u8 u54 u55 u56 : Value) : Act := sg 71 [(1, u1), (4, u4), (8, u8), (54, u54), (55, u55), (56, u56)] b
def UintW_F2 (b : Array Value) (u1 u4 u8 u54 u55 u56 : Value) : Act := sg 71 [(1, u1), (4, u4), (8, u8), (54, u54), (55, u55), (56, u56)] b
def UintW_F3 (b : Array Value) (u1 u4 u8 u54 u55 u56 : Value) : Act := sg 71 [(1, u1), (4, u4), (8, u8), (54, u54), (55, u55), (56, u56)] b
theorem AppendUint_any (b : List UInt8) (A : Option Addr) (n c : Nat) (N : Nat) (w : World) (hb : Byt w A n b) (hnc : n ≤ c ∧ c ≤ Go.maxLen) (hnil : A = none → c = 0) (hn : n ≤ 140737488350000) (hN : N < 18446744073709551616) : Calls Tryz.prog 77 #[.slice A n c, vU N] w fun e w' => ∃ A1 n1 c1, e = .returned (.slice A1 n1 c1) ∧ Own8 w' w.heap.size 5 A1 n1 c1 (b ++ formN N) ∧ Chg [] w w' := by
 have hbl_ := hb.1
 refine calls_of_wp Tryz.func77 rfl ?_
 refine sR<|rP 0 4 (.slice none 0 0)<|eN<|sR<|rP 0 5 (.slice A n c)<|rP 1 6 (vU N)<|rK 2 7 (form_any N (by omega) w) ?_
 rintro _ W1 ⟨qf1, of1, nf1, rfl, hbf1, hqf1, hnf1, ch1⟩
 have zz1 := ch1.size
 have hlt1 : ∀ g off, (some ⟨qf1, of1, none⟩ : Option Addr) = some ⟨g, off, none⟩ → w.heap.size ≤ g ∧ g < W1.heap.size := fun g off e => by cases e; exact hqf1
 refine nS 3 8 2 #[.slice A n c, .slice (some ⟨qf1, of1, none⟩) nf1 nf1] 22 fun W2 hb1 ch2 sz1 => ?_
 have kk2 := kA (zA ch1 : Chg [] w W1) ch2
 have hby1 := (byt_chg hb kk2 (fun g off e hl => trivial))
 have hby2 := (byt_chg hbf1 ch2 (fun g off e hl => trivial))
 refine rK 4 9 (behind_any ([⟨A, n, c, b⟩, ⟨(some ⟨qf1, of1, none⟩), nf1, nf1, (formN N)⟩]) (some ⟨W1.heap.size, 0, none⟩) 2 2 W2 (Mur.segs_lit [⟨A, n, c, b⟩, ⟨(some ⟨qf1, of1, none⟩), nf1, nf1, (formN N)⟩] 2 hb1 (ok_cons ⟨(show n ≤ c by omega), hnil, hby1, (show c ≤ Go.maxLen by first | omega | (unfold Go.maxLen; omega))⟩ (ok_cons ⟨(show nf1 ≤ nf1 by omega), (fun h => by cases h), hby2, (show nf1 ≤ Go.maxLen by first | omega | (unfold Go.maxLen; omega))⟩ Mur.ok_nil)) rfl) (by omega) (by show (b ++ ((formN N) ++ [])).length ≤ _; simp only [List.length_append, List.length_nil]; have hl0 := hby1.1; have hl1 := hby2.1; omega)) ?_
 rintro _ W3 ⟨AA1, nn1, nn2, rfl, ow1, ch3⟩
 have zz3 := ch3.size
 rw [show Mur.flat ([⟨A, n, c, b⟩, ⟨(some ⟨qf1, of1, none⟩), nf1, nf1, (formN N)⟩]) = b ++ formN N from by simp [Mur.flat]] at ow1
 have hq1 := ow1.nc
 have hq2 := ow1.cm
 exact rP 5 4 (.slice AA1 nn1 nn2)<|eN<|wp_ret<|rt (.slice AA1 nn1 nn2) ⟨_, _, _, rfl, Mur.own8_low ow1 (by omega), (kA kk2 ch3)⟩
theorem Uint_any (b : List UInt8) (A : Option Addr) (n c : Nat) (at_ : Nat) (w : World) (hb : Byt w A n b) (hnc : n ≤ c ∧ c ≤ 9223372036854775807) (hat : at_ ≤ n) : Calls Tryz.prog 93 #[.slice A n c, vI at_] w fun e w' => ∃ v nx er : Nat, e = .returned (.tuple #[vU v, vI nx, vI er]) ∧ ((er = 0 ∧ v < 18446744073709551616 ∧ (at_ < nx ∧ nx ≤ n) ∧ Mur.readN (b.drop at_) = some (v, b.drop nx)) ∨ (er ≠ 0 ∧ v = 0 ∧ nx = 0 ∧ Mur.readN (b.drop at_) = none)) ∧ w = w' := by
 have hbl_ := hb.1
 refine calls_of_wp Tryz.func93 rfl ?_
 refine sR<|rP 0 4 (vU 0)<|rP 1 5 (vI 0)<|rP 2 6 (vI 0)<|eN<|wp_seq<|sR<|rP 0 11 (vI at_)<|bF 1 12 ((at_ : Int) < (0 : Int))<|rP 2 13 vF<|rP 3 14 (vI at_)<|rP 4 15 (.slice A n c)<|rP 5 16 (vI n)<|bF 6 17 ((at_ : Int) > (n : Int))<|rP 7 18 vF<|eN<|cF<|wp_skip<|nxt<|sR<|rP 0 19 (.slice A n c)<|rP 1 20 (vI at_) ?_
 obtain ⟨Ac1, hAc1⟩ : ∃ x_, x_ = Mur.cutA A c at_ := ⟨_, rfl⟩
 have hbc1 : Byt w Ac1 (n - at_) (b.drop at_) := by rw [hAc1]; exact byt_from hb at_ (by omega) (by omega)
 refine rq 2 21 (.slice Ac1 (n - at_) (c - at_)) rfl (by rw [hAc1]; exact run_op_from 22 (.tmp 19) (.tmp 20) rfl 5 Tryz.underlying22 (by kernel_rfl) A n c at_ (by kernel_rfl) (by kernel_rfl) (by omega) (by omega))<|rP 3 7 (.slice Ac1 (n - at_) (c - at_))<|eN<|wp_seq<|sR<|rP 0 22 (.slice Ac1 (n - at_) (c - at_))<|rP 1 23 (vI (n - at_ : Nat)) ?_
 by_cases hx1 : ((n - at_ : Nat) : Int) = (0 : Int)
 ·exact eT 2 24 ((n - at_ : Nat) : Int) (0 : Int)<|eN<|cT<|sR<|rP 0 4 (vU 0)<|rP 1 5 (vI 0)<|rP 2 6 (vI 4)<|eN<|tR<|rt (.tuple #[vU 0, vI 0, vI 4]) ⟨0, 0, _, rfl, .inr ⟨by decide, rfl, rfl, (by first | exact readN_nil (by omega) | exact readN_short hsr (by omega))⟩, rfl⟩
 refine eF 2 24 ((n - at_ : Nat) : Int) (0 : Int)<|eN<|cF<|wp_skip<|nxt<|sR<|rP 0 25 (.slice Ac1 (n - at_) (c - at_)) ?_
 obtain ⟨q1, o1, hq_, _⟩ := hbc1.2 (by omega)
 subst hq_
 obtain ⟨s0, r0, hsr⟩ := Mur.drop_cons (p := at_) (b := b) (by omega)
 rw [hsr] at hbc1
 have hr0 := hbc1.1
 rw [List.length_cons] at hr0
 have hs0 := s0.toNat_lt
 refine rq 1 26 (pt q1 (o1 + 0 * 1)) rfl (iS 1 q1 o1 (n - at_) (c - at_) 0)<|rq 2 27 _ rfl (ld 5 26 q1 (o1 + 0 * 1) (vB s0.toNat) (show _ from byt_cell hbc1 0 (by omega)))<|rq 3 28 (vI s0.toNat) rfl (conv_int 5 3 (.tmp 27) rfl (by kernel_rfl) .i64 Tryz.underlying3 .u8 (s0.toNat : Int) (by kernel_rfl) (Mur.i64_nat (by omega)))<|rP 4 8 (vI s0.toNat)<|eN<|wp_seq<|sR<|rP 0 29 (.slice (some ⟨q1, o1, none⟩) (n - at_) (c - at_)) ?_
 obtain ⟨Ac2, hAc2⟩ : ∃ x_, x_ = Mur.cutA (some ⟨q1, o1, none⟩) (c - at_) 1 := ⟨_, rfl⟩
 have hbc2 : Byt w Ac2 (n - at_ - 1) r0 := by rw [hAc2]; exact byt_from hbc1 1 (by omega) (by omega)
 refine rq 1 30 (.slice Ac2 (n - at_ - 1) (c - at_ - 1)) rfl (by rw [hAc2]; exact run_op_from 22 (.tmp 29) (.const (vI 1)) rfl 5 Tryz.underlying22 (by kernel_rfl) (some ⟨q1, o1, none⟩) (n - at_) (c - at_) 1 (by kernel_rfl) (by kernel_rfl) (by omega) (by omega))<|rP 2 7 (.slice Ac2 (n - at_ - 1) (c - at_ - 1))<|eN<|wp_block<|wp_seq<|sR<|rP 0 32 (vI s0.toNat) ?_
 by_cases hx2 : (s0.toNat : Int) > (8 : Int)
 ·exact bT 1 33 ((s0.toNat : Int) > (8 : Int))<|rP 2 31 vT<|eN<|cT<|wp_skip<|nxt<|cT<|sR<|rP 0 4 (vU 0)<|rP 1 5 (vI 0)<|rP 2 6 (vI 5)<|eN<|tI<|rt (.tuple #[vU 0, vI 0, vI 5]) ⟨0, 0, _, rfl, .inr ⟨by decide, rfl, rfl, (by first | exact readN_big hsr (by omega) | exact readN_zero hsr (by omega) (by omega) (by omega))⟩, rfl⟩
 refine bF 1 33 ((s0.toNat : Int) > (8 : Int))<|rP 2 31 vF<|eN<|cF<|reg<|rP 0 34 (vI s0.toNat) ?_
 by_cases hx3 : (s0.toNat : Int) > (0 : Int)
 ·refine bT 1 35 ((s0.toNat : Int) > (0 : Int))<|rP 2 36 vT<|rP 3 37 (.slice Ac2 (n - at_ - 1) (c - at_ - 1))<|rP 4 38 (vI (n - at_ - 1 : Nat)) ?_
  by_cases hx4 : ((n - at_ - 1 : Nat) : Int) > (0 : Int)
  ·refine bT 5 39 (((n - at_ - 1 : Nat) : Int) > (0 : Int))<|rP 6 40 vT<|rP 7 41 vT<|rP 8 42 (.slice Ac2 (n - at_ - 1) (c - at_ - 1)) ?_
   obtain ⟨q2, o2, hq_, _⟩ := hbc2.2 (by omega)
   subst hq_
   refine rq 9 43 (pt q2 (o2 + 0 * 1)) rfl (iS 1 q2 o2 (n - at_ - 1) (c - at_ - 1) 0)<|rq 10 44 _ rfl (ld 5 43 q2 (o2 + 0 * 1) (vB ((r0.getD 0 0).toNat : Nat)) (byt_cell hbc2 0 (by omega))) ?_
   by_cases hx5 : (((r0.getD 0 0).toNat : Nat) : Int) = (0 : Int)
   ·exact eT 11 45 (((r0.getD 0 0).toNat : Nat) : Int) (0 : Int)<|rP 12 46 vT<|rP 13 31 vT<|eN<|cT<|sR<|rP 0 4 (vU 0)<|rP 1 5 (vI 0)<|rP 2 6 (vI 5)<|eN<|tI<|rt (.tuple #[vU 0, vI 0, vI 5]) ⟨0, 0, _, rfl, .inr ⟨by decide, rfl, rfl, (by first | exact readN_big hsr (by omega) | exact readN_zero hsr (by omega) (by omega) (by omega))⟩, rfl⟩
   refine eF 11 45 (((r0.getD 0 0).toNat : Nat) : Int) (0 : Int)<|rP 12 46 vF<|rP 13 31 vF<|eN<|cF<|sR<|rP 0 48 (.slice (some ⟨q2, o2, none⟩) (n - at_ - 1) (c - at_ - 1))<|rP 1 49 (vI (n - at_ - 1 : Nat))<|rP 2 50 (vI s0.toNat) ?_
   by_cases hx6 : ((n - at_ - 1 : Nat) : Int) < (s0.toNat : Int)
   ·exact bT 3 51 (((n - at_ - 1 : Nat) : Int) < (s0.toNat : Int))<|rP 4 47 vT<|eN<|cT<|sR<|rP 0 4 (vU 0)<|rP 1 5 (vI 0)<|rP 2 6 (vI 4)<|eN<|tI<|rt (.tuple #[vU 0, vI 0, vI 4]) ⟨0, 0, _, rfl, .inr ⟨by decide, rfl, rfl, (by first | exact readN_nil (by omega) | exact readN_short hsr (by omega))⟩, rfl⟩
   refine bF 3 51 (((n - at_ - 1 : Nat) : Int) < (s0.toNat : Int))<|rP 4 47 vF<|eN<|cF<|wp_skip<|inN<|nxt<|wp_seq<|sR<|rP 0 52 (.slice (some ⟨q2, o2, none⟩) (n - at_ - 1) (c - at_ - 1))<|rP 1 53 (vI s0.toNat) ?_
   obtain ⟨Ac3, hAc3⟩ : ∃ x_, x_ = Mur.cutA (some ⟨q2, o2, none⟩) (c - at_ - 1) 0 := ⟨_, rfl⟩
   have hbc3 : Byt w Ac3 s0.toNat (r0.take s0.toNat) := by rw [hAc3]; exact byt_to hbc2 s0.toNat (by omega) (by omega)
   refine rq 2 54 (.slice Ac3 s0.toNat (c - at_ - 1)) rfl (by rw [hAc3]; exact run_op_cut_to 22 (.tmp 52) (.tmp 53) rfl 5 Tryz.underlying22 (by kernel_rfl) (some ⟨q2, o2, none⟩) (n - at_ - 1) (c - at_ - 1) s0.toNat (by kernel_rfl) (by kernel_rfl) (by omega) (by omega)) ?_
   obtain ⟨L3, hL3⟩ : ∃ x_, x_ = r0.take s0.toNat := ⟨_, rfl⟩
   have hb3 := hbc3
   rw [← hL3] at hb3
   have hl3 := hb3.1
   refine rP 3 55 (vI s0.toNat)<|rP 4 56 (vI 0)<|eN<|wp_block<|?_
   refine Wk.loop (fun m_ a wr => ∃ (i : Nat), m_ = s0.toNat - i ∧ a = UintW_F1 a.tmps (vI at_) (vU (Mur.beN (L3.take i) : Nat)) (vI s0.toNat) (.slice Ac3 s0.toNat (c - at_ - 1)) (vI s0.toNat) (vI i) ∧ i ≤ s0.toNat ∧ wr = w) (s0.toNat - 0) ?_ ?_
   ·refine ⟨0, rfl, by kernel_rfl, (by omega), rfl⟩
   rintro mm1 aa1 W1 ⟨i, hmm1, hF1, hi, hw⟩
   generalize aa1.tmps = bb1 at hF1
   subst hF1
   subst hw
   by_cases hlt : i < s0.toNat
   ·obtain ⟨q3, o3, hq_, _⟩ := hb3.2 (by omega)
    subst hq_
    have h56 : Mur.beN (L3.take i) < 72057594037927936 := beN_lt56 (by omega)
    have h256 := (L3.getD i 0).toNat_lt
    refine sR<|bT 0 57 ((i : Int) < (s0.toNat : Int))<|eN<|wp_seq<|cT<|wp_skip<|nxt<|wp_seq<|wp_block<|sR<|rq 0 58 (pt q3 (o3 + i * 1)) rfl (iS 1 q3 o3 s0.toNat (c - at_ - 1) i)<|rq 1 59 _ rfl (ld 5 58 q3 (o3 + i * 1) (vB ((L3.getD i 0).toNat : Nat)) (byt_cell hb3 i (by omega)))<|rP 2 10 (vB ((L3.getD i 0).toNat : Nat))<|eN<|reg<|rP 0 60 (vU (Mur.beN (L3.take i) : Nat))<|rq 1 61 (vU ((Mur.beN (L3.take i)) * 256 : Nat)) rfl (shl8_64 23 148 (.tmp 60) (.const (vU 8)) rfl (Mur.beN (L3.take i)) .u64 (by kernel_rfl) (by kernel_rfl) (by omega))<|rP 2 62 (vB ((L3.getD i 0).toNat : Nat))<|rq 3 63 (vU ((L3.getD i 0).toNat : Nat)) rfl (conv_int 5 23 (.tmp 62) rfl (by kernel_rfl) .u64 Tryz.underlying23 .u8 (((L3.getD i 0).toNat : Nat) : Int) (by kernel_rfl) (u64_nat (by omega)))<|rq 4 64 (vU (Mur.beN (L3.take (i + 1)) : Nat)) rfl (add_u64 23 23 (.tmp 61) (.tmp 63) rfl (Mur.beN (L3.take i) * 256) (L3.getD i 0).toNat (Mur.beN (L3.take (i + 1))) (by kernel_rfl) (by kernel_rfl) (beN_more (by omega)) (beN_lt64 (by rw [List.length_take]; omega)))<|rP 5 4 (vU (Mur.beN (L3.take (i + 1)) : Nat))<|rE<|inN<|nxt<|reg<|rI 0 65 ((i : Int) + 1) (((i + 1 : Nat) : Int))<|rP 1 56 (vI (i + 1 : Nat))<|eN<|?_
    refine ⟨_, ?_, i + 1, rfl, by kernel_rfl, (by omega), rfl⟩
    omega
   have hL4 : L3.take i = r0.take s0.toNat := by rw [List.take_of_length_le (by omega), hL3]
   have h64 := beN_lt64 (l := L3.take i) (by rw [List.length_take]; omega)
   refine sR<|bF 0 57 ((i : Int) < (s0.toNat : Int))<|eN<|wp_seq<|cF<|xX<|nxt<|sR<|rP 0 66 (vU (Mur.beN (L3.take i) : Nat))<|rP 1 67 (vI at_)<|rI 2 68 ((at_ : Int) + 1) (((at_ + 1 : Nat) : Int))<|rP 3 69 (vI s0.toNat)<|rI 4 70 (((at_ + 1 : Nat) : Int) + (s0.toNat : Int)) (((at_ + 1 + s0.toNat : Nat) : Int))<|rP 5 4 (vU (Mur.beN (L3.take i) : Nat))<|rP 6 5 (vI (at_ + 1 + s0.toNat : Nat))<|rP 7 6 (vI 0)<|eN<|wp_ret<|?_
   have hok := readN_ok hsr (by omega) (by omega) (by omega)
   rw [← hL4] at hok
   exact rt (.tuple #[vU (Mur.beN (L3.take i) : Nat), vI (at_ + 1 + s0.toNat : Nat), vI 0]) ⟨_, _, _, rfl, .inl ⟨rfl, by omega, ⟨by omega, by omega⟩, hok⟩, rfl⟩
  refine bF 5 39 (((n - at_ - 1 : Nat) : Int) > (0 : Int))<|rP 6 40 vF<|rP 7 41 vF<|rZ 8 42<|rZ 9 43<|rZ 10 44<|rZ 11 45<|rP 12 46 vF<|rP 13 31 vF<|eN<|cF<|sR<|rP 0 48 (.slice Ac2 (n - at_ - 1) (c - at_ - 1))<|rP 1 49 (vI (n - at_ - 1 : Nat))<|rP 2 50 (vI s0.toNat) ?_
  by_cases hx7 : ((n - at_ - 1 : Nat) : Int) < (s0.toNat : Int)
  ·exact bT 3 51 (((n - at_ - 1 : Nat) : Int) < (s0.toNat : Int))<|rP 4 47 vT<|eN<|cT<|sR<|rP 0 4 (vU 0)<|rP 1 5 (vI 0)<|rP 2 6 (vI 4)<|eN<|tI<|rt (.tuple #[vU 0, vI 0, vI 4]) ⟨0, 0, _, rfl, .inr ⟨by decide, rfl, rfl, (by first | exact readN_nil (by omega) | exact readN_short hsr (by omega))⟩, rfl⟩
  refine bF 3 51 (((n - at_ - 1 : Nat) : Int) < (s0.toNat : Int))<|rP 4 47 vF<|eN<|cF<|wp_skip<|inN<|nxt<|wp_seq<|sR<|rP 0 52 (.slice Ac2 (n - at_ - 1) (c - at_ - 1))<|rP 1 53 (vI s0.toNat) ?_
  obtain ⟨Ac4, hAc4⟩ : ∃ x_, x_ = Mur.cutA Ac2 (c - at_ - 1) 0 := ⟨_, rfl⟩
  have hbc4 : Byt w Ac4 s0.toNat (r0.take s0.toNat) := by rw [hAc4]; exact byt_to hbc2 s0.toNat (by omega) (by omega)
  refine rq 2 54 (.slice Ac4 s0.toNat (c - at_ - 1)) rfl (by rw [hAc4]; exact run_op_cut_to 22 (.tmp 52) (.tmp 53) rfl 5 Tryz.underlying22 (by kernel_rfl) Ac2 (n - at_ - 1) (c - at_ - 1) s0.toNat (by kernel_rfl) (by kernel_rfl) (by omega) (by omega)) ?_
  obtain ⟨L3, hL3⟩ : ∃ x_, x_ = r0.take s0.toNat := ⟨_, rfl⟩
  have hb3 := hbc4
  rw [← hL3] at hb3
  have hl3 := hb3.1
  refine rP 3 55 (vI s0.toNat)<|rP 4 56 (vI 0)<|eN<|wp_block<|?_
  refine Wk.loop (fun m_ a wr => ∃ (i : Nat), m_ = s0.toNat - i ∧ a = UintW_F2 a.tmps (vI at_) (vU (Mur.beN (L3.take i) : Nat)) (vI s0.toNat) (.slice Ac4 s0.toNat (c - at_ - 1)) (vI s0.toNat) (vI i) ∧ i ≤ s0.toNat ∧ wr = w) (s0.toNat - 0) ?_ ?_
  ·refine ⟨0, rfl, by kernel_rfl, (by omega), rfl⟩
  rintro mm2 aa2 W2 ⟨i, hmm2, hF2, hi, hw⟩
  generalize aa2.tmps = bb2 at hF2
  subst hF2
  subst hw
  by_cases hlt : i < s0.toNat
  ·obtain ⟨q3, o3, hq_, _⟩ := hb3.2 (by omega)
   subst hq_
   have h56 : Mur.beN (L3.take i) < 72057594037927936 := beN_lt56 (by omega)
   have h256 := (L3.getD i 0).toNat_lt
   refine sR<|bT 0 57 ((i : Int) < (s0.toNat : Int))<|eN<|wp_seq<|cT<|wp_skip<|nxt<|wp_seq<|wp_block<|sR<|rq 0 58 (pt q3 (o3 + i * 1)) rfl (iS 1 q3 o3 s0.toNat (c - at_ - 1) i)<|rq 1 59 _ rfl (ld 5 58 q3 (o3 + i * 1) (vB ((L3.getD i 0).toNat : Nat)) (byt_cell hb3 i (by omega)))<|rP 2 10 (vB ((L3.getD i 0).toNat : Nat))<|eN<|reg<|rP 0 60 (vU (Mur.beN (L3.take i) : Nat))<|rq 1 61 (vU ((Mur.beN (L3.take i)) * 256 : Nat)) rfl (shl8_64 23 148 (.tmp 60) (.const (vU 8)) rfl (Mur.beN (L3.take i)) .u64 (by kernel_rfl) (by kernel_rfl) (by omega))<|rP 2 62 (vB ((L3.getD i 0).toNat : Nat))<|rq 3 63 (vU ((L3.getD i 0).toNat : Nat)) rfl (conv_int 5 23 (.tmp 62) rfl (by kernel_rfl) .u64 Tryz.underlying23 .u8 (((L3.getD i 0).toNat : Nat) : Int) (by kernel_rfl) (u64_nat (by omega)))<|rq 4 64 (vU (Mur.beN (L3.take (i + 1)) : Nat)) rfl (add_u64 23 23 (.tmp 61) (.tmp 63) rfl (Mur.beN (L3.take i) * 256) (L3.getD i 0).toNat (Mur.beN (L3.take (i + 1))) (by kernel_rfl) (by kernel_rfl) (beN_more (by omega)) (beN_lt64 (by rw [List.length_take]; omega)))<|rP 5 4 (vU (Mur.beN (L3.take (i + 1)) : Nat))<|rE<|inN<|nxt<|reg<|rI 0 65 ((i : Int) + 1) (((i + 1 : Nat) : Int))<|rP 1 56 (vI (i + 1 : Nat))<|eN<|?_
   refine ⟨_, ?_, i + 1, rfl, by kernel_rfl, (by omega), rfl⟩
   omega
  have hL4 : L3.take i = r0.take s0.toNat := by rw [List.take_of_length_le (by omega), hL3]
  have h64 := beN_lt64 (l := L3.take i) (by rw [List.length_take]; omega)
  refine sR<|bF 0 57 ((i : Int) < (s0.toNat : Int))<|eN<|wp_seq<|cF<|xX<|nxt<|sR<|rP 0 66 (vU (Mur.beN (L3.take i) : Nat))<|rP 1 67 (vI at_)<|rI 2 68 ((at_ : Int) + 1) (((at_ + 1 : Nat) : Int))<|rP 3 69 (vI s0.toNat)<|rI 4 70 (((at_ + 1 : Nat) : Int) + (s0.toNat : Int)) (((at_ + 1 + s0.toNat : Nat) : Int))<|rP 5 4 (vU (Mur.beN (L3.take i) : Nat))<|rP 6 5 (vI (at_ + 1 + s0.toNat : Nat))<|rP 7 6 (vI 0)<|eN<|wp_ret<|?_
  have hok := readN_ok hsr (by omega) (by omega) (by omega)
  rw [← hL4] at hok
  exact rt (.tuple #[vU (Mur.beN (L3.take i) : Nat), vI (at_ + 1 + s0.toNat : Nat), vI 0]) ⟨_, _, _, rfl, .inl ⟨rfl, by omega, ⟨by omega, by omega⟩, hok⟩, rfl⟩
 refine bF 1 35 ((s0.toNat : Int) > (0 : Int))<|rP 2 36 vF<|rZ 3 37<|rZ 4 38<|rZ 5 39<|rP 6 40 vF<|rP 7 41 vF<|rZ 8 42<|rZ 9 43<|rZ 10 44<|rZ 11 45<|rP 12 46 vF<|rP 13 31 vF<|eN<|cF<|sR<|rP 0 48 (.slice Ac2 (n - at_ - 1) (c - at_ - 1))<|rP 1 49 (vI (n - at_ - 1 : Nat))<|rP 2 50 (vI s0.toNat) ?_
 by_cases hx8 : ((n - at_ - 1 : Nat) : Int) < (s0.toNat : Int)
 ·exact bT 3 51 (((n - at_ - 1 : Nat) : Int) < (s0.toNat : Int))<|rP 4 47 vT<|eN<|cT<|sR<|rP 0 4 (vU 0)<|rP 1 5 (vI 0)<|rP 2 6 (vI 4)<|eN<|tI<|rt (.tuple #[vU 0, vI 0, vI 4]) ⟨0, 0, _, rfl, .inr ⟨by decide, rfl, rfl, (by first | exact readN_nil (by omega) | exact readN_short hsr (by omega))⟩, rfl⟩
 refine bF 3 51 (((n - at_ - 1 : Nat) : Int) < (s0.toNat : Int))<|rP 4 47 vF<|eN<|cF<|wp_skip<|inN<|nxt<|wp_seq<|sR<|rP 0 52 (.slice Ac2 (n - at_ - 1) (c - at_ - 1))<|rP 1 53 (vI s0.toNat) ?_
 obtain ⟨Ac5, hAc5⟩ : ∃ x_, x_ = Mur.cutA Ac2 (c - at_ - 1) 0 := ⟨_, rfl⟩
 have hbc5 : Byt w Ac5 s0.toNat (r0.take s0.toNat) := by rw [hAc5]; exact byt_to hbc2 s0.toNat (by omega) (by omega)
 refine rq 2 54 (.slice Ac5 s0.toNat (c - at_ - 1)) rfl (by rw [hAc5]; exact run_op_cut_to 22 (.tmp 52) (.tmp 53) rfl 5 Tryz.underlying22 (by kernel_rfl) Ac2 (n - at_ - 1) (c - at_ - 1) s0.toNat (by kernel_rfl) (by kernel_rfl) (by omega) (by omega)) ?_
 obtain ⟨L3, hL3⟩ : ∃ x_, x_ = r0.take s0.toNat := ⟨_, rfl⟩
 have hb3 := hbc5
 rw [← hL3] at hb3
 have hl3 := hb3.1
 refine rP 3 55 (vI s0.toNat)<|rP 4 56 (vI 0)<|eN<|wp_block<|?_
 refine Wk.loop (fun m_ a wr => ∃ (i : Nat), m_ = s0.toNat - i ∧ a = UintW_F3 a.tmps (vI at_) (vU (Mur.beN (L3.take i) : Nat)) (vI s0.toNat) (.slice Ac5 s0.toNat (c - at_ - 1)) (vI s0.toNat) (vI i) ∧ i ≤ s0.toNat ∧ wr = w) (s0.toNat - 0) ?_ ?_
 ·refine ⟨0, rfl, by kernel_rfl, (by omega), rfl⟩
 rintro mm3 aa3 W3 ⟨i, hmm3, hF3, hi, hw⟩
 generalize aa3.tmps = bb3 at hF3
 subst hF3
 subst hw
 by_cases hlt : i < s0.toNat
 ·obtain ⟨q3, o3, hq_, _⟩ := hb3.2 (by omega)
  subst hq_
  have h56 : Mur.beN (L3.take i) < 72057594037927936 := beN_lt56 (by omega)
  have h256 := (L3.getD i 0).toNat_lt
  refine sR<|bT 0 57 ((i : Int) < (s0.toNat : Int))<|eN<|wp_seq<|cT<|wp_skip<|nxt<|wp_seq<|wp_block<|sR<|rq 0 58 (pt q3 (o3 + i * 1)) rfl (iS 1 q3 o3 s0.toNat (c - at_ - 1) i)<|rq 1 59 _ rfl (ld 5 58 q3 (o3 + i * 1) (vB ((L3.getD i 0).toNat : Nat)) (byt_cell hb3 i (by omega)))<|rP 2 10 (vB ((L3.getD i 0).toNat : Nat))<|eN<|reg<|rP 0 60 (vU (Mur.beN (L3.take i) : Nat))<|rq 1 61 (vU ((Mur.beN (L3.take i)) * 256 : Nat)) rfl (shl8_64 23 148 (.tmp 60) (.const (vU 8)) rfl (Mur.beN (L3.take i)) .u64 (by kernel_rfl) (by kernel_rfl) (by omega))<|rP 2 62 (vB ((L3.getD i 0).toNat : Nat))<|rq 3 63 (vU ((L3.getD i 0).toNat : Nat)) rfl (conv_int 5 23 (.tmp 62) rfl (by kernel_rfl) .u64 Tryz.underlying23 .u8 (((L3.getD i 0).toNat : Nat) : Int) (by kernel_rfl) (u64_nat (by omega)))<|rq 4 64 (vU (Mur.beN (L3.take (i + 1)) : Nat)) rfl (add_u64 23 23 (.tmp 61) (.tmp 63) rfl (Mur.beN (L3.take i) * 256) (L3.getD i 0).toNat (Mur.beN (L3.take (i + 1))) (by kernel_rfl) (by kernel_rfl) (beN_more (by omega)) (beN_lt64 (by rw [List.length_take]; omega)))<|rP 5 4 (vU (Mur.beN (L3.take (i + 1)) : Nat))<|rE<|inN<|nxt<|reg<|rI 0 65 ((i : Int) + 1) (((i + 1 : Nat) : Int))<|rP 1 56 (vI (i + 1 : Nat))<|eN<|?_
  refine ⟨_, ?_, i + 1, rfl, by kernel_rfl, (by omega), rfl⟩
  omega
 have hL4 : L3.take i = r0.take s0.toNat := by rw [List.take_of_length_le (by omega), hL3]
 have h64 := beN_lt64 (l := L3.take i) (by rw [List.length_take]; omega)
 refine sR<|bF 0 57 ((i : Int) < (s0.toNat : Int))<|eN<|wp_seq<|cF<|xX<|nxt<|sR<|rP 0 66 (vU (Mur.beN (L3.take i) : Nat))<|rP 1 67 (vI at_)<|rI 2 68 ((at_ : Int) + 1) (((at_ + 1 : Nat) : Int))<|rP 3 69 (vI s0.toNat)<|rI 4 70 (((at_ + 1 : Nat) : Int) + (s0.toNat : Int)) (((at_ + 1 + s0.toNat : Nat) : Int))<|rP 5 4 (vU (Mur.beN (L3.take i) : Nat))<|rP 6 5 (vI (at_ + 1 + s0.toNat : Nat))<|rP 7 6 (vI 0)<|eN<|wp_ret<|?_
 have hok := readN_ok hsr (by omega) (by omega) (by omega)
 rw [← hL4] at hok
 exact rt (.tuple #[vU (Mur.beN (L3.take i) : Nat), vI (at_ + 1 + s0.toNat : Nat), vI 0]) ⟨_, _, _, rfl, .inl ⟨rfl, by omega, ⟨by omega, by omega⟩, hok⟩, rfl⟩
end Go.Proofs.YtgbadghjnpbiaaaGreatDoor
namespace Go.Proofs.YtgbadghjnpbiaaaGreatDoor
open Go.RowKit Wk
open Mur (b8s Byt Own8 Seg Segs flat cutA attC Att SlA OwnA rowA msgC formN formN_len own8_low u64n conv_u64n u64n_lt byt_chgp)
set_option maxRecDepth 100000
set_option maxHeartbeats 4000000
theorem Wuint1_any (g base : Nat) (A : Option Addr) (n c : Nat) (b : List UInt8) (q N1 : Nat) (w : World) (hg : w.heap[g]? = some (.cells #[.slice A n c] 79 (0, 0))) (hbs : g < base ∧ base ≤ w.heap.size) (ho : Own8 w base 5 A n c b) (hn : n ≤ 5000000) (hq : w.heap[q]? = some (.cells #[vU N1] 23 (0, 0))) (hqg : q ≠ g) (hN1 : N1 < 18446744073709551616) : Calls Tryz.prog 42 #[pt g 0, .slice (some ⟨q, 0, none⟩) 1 1] w fun e w' => ∃ A1 n1 c1, e = .returned (.tuple #[]) ∧ w'.heap[g]? = some (.cells #[.slice A1 n1 c1] 79 (0, 0)) ∧ Own8 w' w.heap.size 5 A1 n1 c1 (b ++ formN N1) ∧ n1 ≤ n + 9 ∧ Chg [g] w w' := by
 have hql_ := (Array.getElem?_eq_some_iff.1 hq).1
 have hqg_ := hqg
 have hgl_ := (Array.getElem?_eq_some_iff.1 hg).1
 have hon_ := ho.nc
 have hoc_ := ho.cm
 have hol_ := ho.byt.1
 have hn_ := hn
 have hbs_ := hbs
 have holt_ := ho.lt
 refine calls_of_wp Tryz.func42 rfl ?_
 refine sR<|rP 0 6 (.slice (some ⟨q, 0, none⟩) 1 1)<|rP 1 7 (vI 1)<|rP 2 8 (vI 0)<|eN<|wp_block<|?_
 refine Wk.loopN 2 ?_
 refine Wk.rdS<|sR<|?_
 refine bT 0 9 ((0 : Int) < (1 : Int))<|eN<|wp_seq<|cT<|wp_skip<|nxt<|wp_seq<|wp_block<|sR<|rq 0 10 (pt q 0) rfl (iS 1 q 0 1 1 0)<|rL 1 11 0 (vU N1) hq<|rP 2 5 (vU N1)<|eN<|reg<|rP 0 12 (pt g 0)<|rP 1 13 (pt g 0)<|rP 2 14 (pt g 0)<|rP 3 15 (pt g 0)<|rL 4 16 0 (.slice A n c) hg<|rP 5 17 (vU N1)<|rK 6 18 (AppendUint_any b A n c N1 w ho.byt ⟨by omega, by omega⟩ ho.nil (by omega) hN1) ?_
 rintro _ W1 ⟨AA1, nn1, cc1, rfl, ow1, ch1⟩
 have zz1 := ch1.size
 have hfl1 := formN_len hN1
 have hq1 := ow1.nc
 have hq2 := ow1.cm
 have hq3 := ow1.byt.1
 have hqx1 : (b ++ formN N1).length = (b).length + (formN N1).length := List.length_append
 refine rP 7 19 (pt g 0)<|rP 8 20 (pt g 0)<|rU 9 rfl (sW 0 (.slice AA1 nn1 cc1) (qT ch1 hg)) fun W2 hb1 ch2 _ => ?_
 replace hb1 : W2.heap[g]? = some (.cells #[.slice AA1 nn1 cc1] 79 (0, 0)) := hb1
 have zz2 := ch2.size
 exact rE<|inN<|nxt<|reg<|rI 0 21 (0 + 1) (1)<|rP 1 8 (vI 1)<|eN<|Wk.rdS<|sR<|bF 0 9 ((1 : Int) < (1 : Int))<|eN<|wp_seq<|cF<|xX<|Wk.retN (.tuple #[]) rfl (by kernel_rfl) ⟨AA1, nn1, cc1, rfl, hb1, own8_low (oB ow1 ch2 ow1.lt) (by omega), by omega, (kC (zA ch1 : Chg [g] (w) W1) ch2)⟩
theorem Wuint2_any (g base : Nat) (A : Option Addr) (n c : Nat) (b : List UInt8) (q N1 N2 : Nat) (w : World) (hg : w.heap[g]? = some (.cells #[.slice A n c] 79 (0, 0))) (hbs : g < base ∧ base ≤ w.heap.size) (ho : Own8 w base 5 A n c b) (hn : n ≤ 5000000) (hq : w.heap[q]? = some (.cells #[vU N1, vU N2] 23 (0, 0))) (hqg : q ≠ g) (hN1 : N1 < 18446744073709551616) (hN2 : N2 < 18446744073709551616) : Calls Tryz.prog 42 #[pt g 0, .slice (some ⟨q, 0, none⟩) 2 2] w fun e w' => ∃ A1 n1 c1, e = .returned (.tuple #[]) ∧ w'.heap[g]? = some (.cells #[.slice A1 n1 c1] 79 (0, 0)) ∧ Own8 w' w.heap.size 5 A1 n1 c1 (b ++ formN N1 ++ formN N2) ∧ n1 ≤ n + 18 ∧ Chg [g] w w' := by
 have hql_ := (Array.getElem?_eq_some_iff.1 hq).1
 have hqg_ := hqg
 have hgl_ := (Array.getElem?_eq_some_iff.1 hg).1
 have hon_ := ho.nc
 have hoc_ := ho.cm
 have hol_ := ho.byt.1
 have hn_ := hn
 have hbs_ := hbs
 have holt_ := ho.lt
 refine calls_of_wp Tryz.func42 rfl ?_
 refine sR<|rP 0 6 (.slice (some ⟨q, 0, none⟩) 2 2)<|rP 1 7 (vI 2)<|rP 2 8 (vI 0)<|eN<|wp_block<|?_
 refine Wk.loopN 3 ?_
 refine Wk.rdS<|sR<|?_
 refine bT 0 9 ((0 : Int) < (2 : Int))<|eN<|wp_seq<|cT<|wp_skip<|nxt<|wp_seq<|wp_block<|sR<|rq 0 10 (pt q 0) rfl (iS 1 q 0 2 2 0)<|rL 1 11 0 (vU N1) hq<|rP 2 5 (vU N1)<|eN<|reg<|rP 0 12 (pt g 0)<|rP 1 13 (pt g 0)<|rP 2 14 (pt g 0)<|rP 3 15 (pt g 0)<|rL 4 16 0 (.slice A n c) hg<|rP 5 17 (vU N1)<|rK 6 18 (AppendUint_any b A n c N1 w ho.byt ⟨by omega, by omega⟩ ho.nil (by omega) hN1) ?_
 rintro _ W1 ⟨AA1, nn1, cc1, rfl, ow1, ch1⟩
 have zz1 := ch1.size
 have hfl1 := formN_len hN1
 have hq1 := ow1.nc
 have hq2 := ow1.cm
 have hq3 := ow1.byt.1
 have hqx1 : (b ++ formN N1).length = (b).length + (formN N1).length := List.length_append
 refine rP 7 19 (pt g 0)<|rP 8 20 (pt g 0)<|rU 9 rfl (sW 0 (.slice AA1 nn1 cc1) (qT ch1 hg)) fun W2 hb1 ch2 _ => ?_
 replace hb1 : W2.heap[g]? = some (.cells #[.slice AA1 nn1 cc1] 79 (0, 0)) := hb1
 have zz2 := ch2.size
 refine rE<|inN<|nxt<|reg<|rI 0 21 (0 + 1) (1)<|rP 1 8 (vI 1)<|eN<|Wk.rdS<|sR<|bT 0 9 ((1 : Int) < (2 : Int))<|eN<|wp_seq<|cT<|wp_skip<|nxt<|wp_seq<|wp_block<|sR<|rq 0 10 (pt q 1) rfl (iS 1 q 0 2 2 1)<|rL 1 11 1 (vU N2) (qO ch2 (qT ch1 hq))<|rP 2 5 (vU N2)<|eN<|reg<|rP 0 12 (pt g 0)<|rP 1 13 (pt g 0)<|rP 2 14 (pt g 0)<|rP 3 15 (pt g 0)<|rL 4 16 0 (.slice AA1 nn1 cc1) hb1<|rP 5 17 (vU N2) ?_
 have ow2 := oB ow1 ch2 ow1.lt
 refine rK 6 18 (AppendUint_any (b ++ formN N1) AA1 nn1 cc1 N2 W2 ow2.byt ⟨by omega, by omega⟩ ow2.nil (by omega) hN2) ?_
 rintro _ W3 ⟨AA2, nn2, cc2, rfl, ow3, ch3⟩
 have zz3 := ch3.size
 have hfl2 := formN_len hN2
 have hq4 := ow3.nc
 have hq5 := ow3.cm
 have hq6 := ow3.byt.1
 have hqx2 : (b ++ formN N1 ++ formN N2).length = (b ++ formN N1).length + (formN N2).length := List.length_append
 refine rP 7 19 (pt g 0)<|rP 8 20 (pt g 0)<|rU 9 rfl (sW 0 (.slice AA2 nn2 cc2) (qT ch3 hb1)) fun W4 hb2 ch4 _ => ?_
 replace hb2 : W4.heap[g]? = some (.cells #[.slice AA2 nn2 cc2] 79 (0, 0)) := hb2
 have zz4 := ch4.size
 exact rE<|inN<|nxt<|reg<|rI 0 21 (1 + 1) (2)<|rP 1 8 (vI 2)<|eN<|Wk.rdS<|sR<|bF 0 9 ((2 : Int) < (2 : Int))<|eN<|wp_seq<|cF<|xX<|Wk.retN (.tuple #[]) rfl (by kernel_rfl) ⟨AA2, nn2, cc2, rfl, hb2, own8_low (oB ow3 ch4 ow3.lt) (by omega), by omega, (kC (kA (kC (zA ch1 : Chg [g] (w) W1) ch2) ch3) ch4)⟩
theorem Wuint3_any (g base : Nat) (A : Option Addr) (n c : Nat) (b : List UInt8) (q N1 N2 N3 : Nat) (w : World) (hg : w.heap[g]? = some (.cells #[.slice A n c] 79 (0, 0))) (hbs : g < base ∧ base ≤ w.heap.size) (ho : Own8 w base 5 A n c b) (hn : n ≤ 5000000) (hq : w.heap[q]? = some (.cells #[vU N1, vU N2, vU N3] 23 (0, 0))) (hqg : q ≠ g) (hN1 : N1 < 18446744073709551616) (hN2 : N2 < 18446744073709551616) (hN3 : N3 < 18446744073709551616) : Calls Tryz.prog 42 #[pt g 0, .slice (some ⟨q, 0, none⟩) 3 3] w fun e w' => ∃ A1 n1 c1, e = .returned (.tuple #[]) ∧ w'.heap[g]? = some (.cells #[.slice A1 n1 c1] 79 (0, 0)) ∧ Own8 w' w.heap.size 5 A1 n1 c1 (b ++ formN N1 ++ formN N2 ++ formN N3) ∧ n1 ≤ n + 27 ∧ Chg [g] w w' := by
 have hql_ := (Array.getElem?_eq_some_iff.1 hq).1
 have hqg_ := hqg
 have hgl_ := (Array.getElem?_eq_some_iff.1 hg).1
 have hon_ := ho.nc
 have hoc_ := ho.cm
 have hol_ := ho.byt.1
 have hn_ := hn
 have hbs_ := hbs
 have holt_ := ho.lt
 refine calls_of_wp Tryz.func42 rfl ?_
 refine sR<|rP 0 6 (.slice (some ⟨q, 0, none⟩) 3 3)<|rP 1 7 (vI 3)<|rP 2 8 (vI 0)<|eN<|wp_block<|?_
 refine Wk.loopN 4 ?_
 refine Wk.rdS<|sR<|?_
 refine bT 0 9 ((0 : Int) < (3 : Int))<|eN<|wp_seq<|cT<|wp_skip<|nxt<|wp_seq<|wp_block<|sR<|rq 0 10 (pt q 0) rfl (iS 1 q 0 3 3 0)<|rL 1 11 0 (vU N1) hq<|rP 2 5 (vU N1)<|eN<|reg<|rP 0 12 (pt g 0)<|rP 1 13 (pt g 0)<|rP 2 14 (pt g 0)<|rP 3 15 (pt g 0)<|rL 4 16 0 (.slice A n c) hg<|rP 5 17 (vU N1)<|rK 6 18 (AppendUint_any b A n c N1 w ho.byt ⟨by omega, by omega⟩ ho.nil (by omega) hN1) ?_
 rintro _ W1 ⟨AA1, nn1, cc1, rfl, ow1, ch1⟩
 have zz1 := ch1.size
 have hfl1 := formN_len hN1
 have hq1 := ow1.nc
 have hq2 := ow1.cm
 have hq3 := ow1.byt.1
 have hqx1 : (b ++ formN N1).length = (b).length + (formN N1).length := List.length_append
 refine rP 7 19 (pt g 0)<|rP 8 20 (pt g 0)<|rU 9 rfl (sW 0 (.slice AA1 nn1 cc1) (qT ch1 hg)) fun W2 hb1 ch2 _ => ?_
 replace hb1 : W2.heap[g]? = some (.cells #[.slice AA1 nn1 cc1] 79 (0, 0)) := hb1
 have zz2 := ch2.size
 refine rE<|inN<|nxt<|reg<|rI 0 21 (0 + 1) (1)<|rP 1 8 (vI 1)<|eN<|Wk.rdS<|sR<|bT 0 9 ((1 : Int) < (3 : Int))<|eN<|wp_seq<|cT<|wp_skip<|nxt<|wp_seq<|wp_block<|sR<|rq 0 10 (pt q 1) rfl (iS 1 q 0 3 3 1)<|rL 1 11 1 (vU N2) (qO ch2 (qT ch1 hq))<|rP 2 5 (vU N2)<|eN<|reg<|rP 0 12 (pt g 0)<|rP 1 13 (pt g 0)<|rP 2 14 (pt g 0)<|rP 3 15 (pt g 0)<|rL 4 16 0 (.slice AA1 nn1 cc1) hb1<|rP 5 17 (vU N2) ?_
 have ow2 := oB ow1 ch2 ow1.lt
 refine rK 6 18 (AppendUint_any (b ++ formN N1) AA1 nn1 cc1 N2 W2 ow2.byt ⟨by omega, by omega⟩ ow2.nil (by omega) hN2) ?_
 rintro _ W3 ⟨AA2, nn2, cc2, rfl, ow3, ch3⟩
 have zz3 := ch3.size
 have hfl2 := formN_len hN2
 have hq4 := ow3.nc
 have hq5 := ow3.cm
 have hq6 := ow3.byt.1
 have hqx2 : (b ++ formN N1 ++ formN N2).length = (b ++ formN N1).length + (formN N2).length := List.length_append
 refine rP 7 19 (pt g 0)<|rP 8 20 (pt g 0)<|rU 9 rfl (sW 0 (.slice AA2 nn2 cc2) (qT ch3 hb1)) fun W4 hb2 ch4 _ => ?_
 replace hb2 : W4.heap[g]? = some (.cells #[.slice AA2 nn2 cc2] 79 (0, 0)) := hb2
 have zz4 := ch4.size
 refine rE<|inN<|nxt<|reg<|rI 0 21 (1 + 1) (2)<|rP 1 8 (vI 2)<|eN<|Wk.rdS<|sR<|bT 0 9 ((2 : Int) < (3 : Int))<|eN<|wp_seq<|cT<|wp_skip<|nxt<|wp_seq<|wp_block<|sR<|rq 0 10 (pt q 2) rfl (iS 1 q 0 3 3 2)<|rL 1 11 2 (vU N3) (qO ch4 (qT ch3 (qO ch2 (qT ch1 hq))))<|rP 2 5 (vU N3)<|eN<|reg<|rP 0 12 (pt g 0)<|rP 1 13 (pt g 0)<|rP 2 14 (pt g 0)<|rP 3 15 (pt g 0)<|rL 4 16 0 (.slice AA2 nn2 cc2) hb2<|rP 5 17 (vU N3) ?_
 have ow4 := oB ow3 ch4 ow3.lt
 refine rK 6 18 (AppendUint_any (b ++ formN N1 ++ formN N2) AA2 nn2 cc2 N3 W4 ow4.byt ⟨by omega, by omega⟩ ow4.nil (by omega) hN3) ?_
 rintro _ W5 ⟨AA3, nn3, cc3, rfl, ow5, ch5⟩
 have zz5 := ch5.size
 have hfl3 := formN_len hN3
 have hq7 := ow5.nc
 have hq8 := ow5.cm
 have hq9 := ow5.byt.1
 have hqx3 : (b ++ formN N1 ++ formN N2 ++ formN N3).length = (b ++ formN N1 ++ formN N2).length + (formN N3).length := List.length_append
 refine rP 7 19 (pt g 0)<|rP 8 20 (pt g 0)<|rU 9 rfl (sW 0 (.slice AA3 nn3 cc3) (qT ch5 hb2)) fun W6 hb3 ch6 _ => ?_
 replace hb3 : W6.heap[g]? = some (.cells #[.slice AA3 nn3 cc3] 79 (0, 0)) := hb3
 have zz6 := ch6.size
 exact rE<|inN<|nxt<|reg<|rI 0 21 (2 + 1) (3)<|rP 1 8 (vI 3)<|eN<|Wk.rdS<|sR<|bF 0 9 ((3 : Int) < (3 : Int))<|eN<|wp_seq<|cF<|xX<|Wk.retN (.tuple #[]) rfl (by kernel_rfl) ⟨AA3, nn3, cc3, rfl, hb3, own8_low (oB ow5 ch6 ow5.lt) (by omega), by omega, (kC (kA (kC (kA (kC (zA ch1 : Chg [g] (w) W1) ch2) ch3) ch4) ch5) ch6)⟩
theorem Wint1_any (g base : Nat) (A : Option Addr) (n c : Nat) (b : List UInt8) (q : Nat) (i1 : Int) (w : World) (hg : w.heap[g]? = some (.cells #[.slice A n c] 79 (0, 0))) (hbs : g < base ∧ base ≤ w.heap.size) (ho : Own8 w base 5 A n c b) (hn : n ≤ 4000000) (hq : w.heap[q]? = some (.cells #[vI i1] 3 (0, 0))) (hqg : q ≠ g) : Calls Tryz.prog 41 #[pt g 0, .slice (some ⟨q, 0, none⟩) 1 1] w fun e w' => ∃ A1 n1 c1, e = .returned (.tuple #[]) ∧ w'.heap[g]? = some (.cells #[.slice A1 n1 c1] 79 (0, 0)) ∧ Own8 w' w.heap.size 5 A1 n1 c1 (b ++ formN (u64n i1)) ∧ n1 ≤ n + 9 ∧ Chg [g] w w' := by
 have hql_ := (Array.getElem?_eq_some_iff.1 hq).1
 have hqg_ := hqg
 have hgl_ := (Array.getElem?_eq_some_iff.1 hg).1
 have hon_ := ho.nc
 have hoc_ := ho.cm
 have hol_ := ho.byt.1
 have hn_ := hn
 have hbs_ := hbs
 have holt_ := ho.lt
 refine calls_of_wp Tryz.func41 rfl ?_
 refine sR<|rP 0 6 (.slice (some ⟨q, 0, none⟩) 1 1)<|rP 1 7 (vI 1)<|rP 2 8 (vI 0)<|eN<|wp_block<|?_
 refine Wk.loopN 2 ?_
 refine Wk.rdS<|sR<|?_
 refine bT 0 9 ((0 : Int) < (1 : Int))<|eN<|wp_seq<|cT<|wp_skip<|nxt<|wp_seq<|wp_block<|sR<|rq 0 10 (pt q 0) rfl (iS 1 q 0 1 1 0)<|rL 1 11 0 (vI i1) hq<|rP 2 5 (vI i1)<|eN<|reg<|rP 0 12 (pt g 0)<|rP 1 13 (vI i1)<|rq 2 14 (vU (u64n i1 : Nat)) rfl (conv_u64n 3 23 (.tmp 13) rfl (by kernel_rfl) Tryz.underlying23 .i64 i1 (by kernel_rfl))<|nS 3 15 1 #[vU (u64n i1 : Nat)] 23 fun W1 hb1 ch1 sz1 => rK 4 16 (Wuint1_any g base A n c b w.heap.size (u64n i1) W1 (qT ch1 hg) ⟨by omega, by omega⟩ (oA ho ch1) (by omega) hb1 (by omega) (u64n_lt _)) ?_
 rintro _ W2 ⟨AA1, nn1, cc1, rfl, hgw1, ow2, hle1, ch2⟩
 have zz2 := ch2.size
 have hq1 := ow2.nc
 have hq2 := ow2.cm
 have hq3 := ow2.byt.1
 exact rE<|inN<|nxt<|reg<|rI 0 17 (0 + 1) (1)<|rP 1 8 (vI 1)<|eN<|Wk.rdS<|sR<|bF 0 9 ((1 : Int) < (1 : Int))<|eN<|wp_seq<|cF<|xX<|Wk.retN (.tuple #[]) rfl (by kernel_rfl) ⟨AA1, nn1, cc1, rfl, hgw1, own8_low ow2 (by omega), by omega, (kC (zA ch1 : Chg [g] (w) W1) ch2)⟩
theorem Wint3_any (g base : Nat) (A : Option Addr) (n c : Nat) (b : List UInt8) (q : Nat) (i1 i2 i3 : Int) (w : World) (hg : w.heap[g]? = some (.cells #[.slice A n c] 79 (0, 0))) (hbs : g < base ∧ base ≤ w.heap.size) (ho : Own8 w base 5 A n c b) (hn : n ≤ 4000000) (hq : w.heap[q]? = some (.cells #[vI i1, vI i2, vI i3] 3 (0, 0))) (hqg : q ≠ g) : Calls Tryz.prog 41 #[pt g 0, .slice (some ⟨q, 0, none⟩) 3 3] w fun e w' => ∃ A1 n1 c1, e = .returned (.tuple #[]) ∧ w'.heap[g]? = some (.cells #[.slice A1 n1 c1] 79 (0, 0)) ∧ Own8 w' w.heap.size 5 A1 n1 c1 (b ++ formN (u64n i1) ++ formN (u64n i2) ++ formN (u64n i3)) ∧ n1 ≤ n + 27 ∧ Chg [g] w w' := by
 have hql_ := (Array.getElem?_eq_some_iff.1 hq).1
 have hqg_ := hqg
 have hgl_ := (Array.getElem?_eq_some_iff.1 hg).1
 have hon_ := ho.nc
 have hoc_ := ho.cm
 have hol_ := ho.byt.1
 have hn_ := hn
 have hbs_ := hbs
 have holt_ := ho.lt
 refine calls_of_wp Tryz.func41 rfl ?_
 refine sR<|rP 0 6 (.slice (some ⟨q, 0, none⟩) 3 3)<|rP 1 7 (vI 3)<|rP 2 8 (vI 0)<|eN<|wp_block<|?_
 refine Wk.loopN 4 ?_
 refine Wk.rdS<|sR<|?_
 refine bT 0 9 ((0 : Int) < (3 : Int))<|eN<|wp_seq<|cT<|wp_skip<|nxt<|wp_seq<|wp_block<|sR<|rq 0 10 (pt q 0) rfl (iS 1 q 0 3 3 0)<|rL 1 11 0 (vI i1) hq<|rP 2 5 (vI i1)<|eN<|reg<|rP 0 12 (pt g 0)<|rP 1 13 (vI i1)<|rq 2 14 (vU (u64n i1 : Nat)) rfl (conv_u64n 3 23 (.tmp 13) rfl (by kernel_rfl) Tryz.underlying23 .i64 i1 (by kernel_rfl))<|nS 3 15 1 #[vU (u64n i1 : Nat)] 23 fun W1 hb1 ch1 sz1 => rK 4 16 (Wuint1_any g base A n c b w.heap.size (u64n i1) W1 (qT ch1 hg) ⟨by omega, by omega⟩ (oA ho ch1) (by omega) hb1 (by omega) (u64n_lt _)) ?_
 rintro _ W2 ⟨AA1, nn1, cc1, rfl, hgw1, ow2, hle1, ch2⟩
 have zz2 := ch2.size
 have hq1 := ow2.nc
 have hq2 := ow2.cm
 have hq3 := ow2.byt.1
 refine rE<|inN<|nxt<|reg<|rI 0 17 (0 + 1) (1)<|rP 1 8 (vI 1)<|eN<|Wk.rdS<|sR<|bT 0 9 ((1 : Int) < (3 : Int))<|eN<|wp_seq<|cT<|wp_skip<|nxt<|wp_seq<|wp_block<|sR<|rq 0 10 (pt q 1) rfl (iS 1 q 0 3 3 1)<|rL 1 11 1 (vI i2) (qO ch2 (qT ch1 hq))<|rP 2 5 (vI i2)<|eN<|reg<|rP 0 12 (pt g 0)<|rP 1 13 (vI i2)<|rq 2 14 (vU (u64n i2 : Nat)) rfl (conv_u64n 3 23 (.tmp 13) rfl (by kernel_rfl) Tryz.underlying23 .i64 i2 (by kernel_rfl))<|nS 3 15 1 #[vU (u64n i2 : Nat)] 23 fun W3 hb2 ch3 sz2 => rK 4 16 (Wuint1_any g W1.heap.size AA1 nn1 cc1 (b ++ formN (u64n i1)) W2.heap.size (u64n i2) W3 (qT ch3 hgw1) ⟨by omega, by omega⟩ (oA ow2 ch3) (by omega) hb2 (by omega) (u64n_lt _)) ?_
 rintro _ W4 ⟨AA2, nn2, cc2, rfl, hgw2, ow4, hle2, ch4⟩
 have zz4 := ch4.size
 have hq4 := ow4.nc
 have hq5 := ow4.cm
 have hq6 := ow4.byt.1
 refine rE<|inN<|nxt<|reg<|rI 0 17 (1 + 1) (2)<|rP 1 8 (vI 2)<|eN<|Wk.rdS<|sR<|bT 0 9 ((2 : Int) < (3 : Int))<|eN<|wp_seq<|cT<|wp_skip<|nxt<|wp_seq<|wp_block<|sR<|rq 0 10 (pt q 2) rfl (iS 1 q 0 3 3 2)<|rL 1 11 2 (vI i3) (qO ch4 (qT ch3 (qO ch2 (qT ch1 hq))))<|rP 2 5 (vI i3)<|eN<|reg<|rP 0 12 (pt g 0)<|rP 1 13 (vI i3)<|rq 2 14 (vU (u64n i3 : Nat)) rfl (conv_u64n 3 23 (.tmp 13) rfl (by kernel_rfl) Tryz.underlying23 .i64 i3 (by kernel_rfl))<|nS 3 15 1 #[vU (u64n i3 : Nat)] 23 fun W5 hb3 ch5 sz3 => rK 4 16 (Wuint1_any g W3.heap.size AA2 nn2 cc2 (b ++ formN (u64n i1) ++ formN (u64n i2)) W4.heap.size (u64n i3) W5 (qT ch5 hgw2) ⟨by omega, by omega⟩ (oA ow4 ch5) (by omega) hb3 (by omega) (u64n_lt _)) ?_
 rintro _ W6 ⟨AA3, nn3, cc3, rfl, hgw3, ow6, hle3, ch6⟩
 have zz6 := ch6.size
 have hq7 := ow6.nc
 have hq8 := ow6.cm
 have hq9 := ow6.byt.1
 exact rE<|inN<|nxt<|reg<|rI 0 17 (2 + 1) (3)<|rP 1 8 (vI 3)<|eN<|Wk.rdS<|sR<|bF 0 9 ((3 : Int) < (3 : Int))<|eN<|wp_seq<|cF<|xX<|Wk.retN (.tuple #[]) rfl (by kernel_rfl) ⟨AA3, nn3, cc3, rfl, hgw3, own8_low ow6 (by omega), by omega, (kC (kA (kC (kA (kC (zA ch1 : Chg [g] (w) W1) ch2) ch3) ch4) ch5) ch6)⟩
theorem Wflag_any (g base : Nat) (A : Option Addr) (n c : Nat) (b : List UInt8) (fl : Bool) (w : World) (hg : w.heap[g]? = some (.cells #[.slice A n c] 79 (0, 0))) (hbs : g < base ∧ base ≤ w.heap.size) (ho : Own8 w base 5 A n c b) (hn : n ≤ 3000000) : Calls Tryz.prog 49 #[pt g 0, .bool fl] w fun e w' => ∃ A1 n1 c1, e = .returned (.tuple #[]) ∧ w'.heap[g]? = some (.cells #[.slice A1 n1 c1] 79 (0, 0)) ∧ Own8 w' w.heap.size 5 A1 n1 c1 (b ++ formN (Mur.flagN fl)) ∧ n1 ≤ n + 9 ∧ Chg [g] w w' := by
 have hgl_ := (Array.getElem?_eq_some_iff.1 hg).1
 have hon_ := ho.nc
 have hoc_ := ho.cm
 have hol_ := ho.byt.1
 have hn_ := hn
 have hbs_ := hbs
 have holt_ := ho.lt
 refine calls_of_wp Tryz.func49 rfl ?_
 refine sR<|rP 0 4 (.bool fl)<|eN<|?_
 cases fl
 ·refine cF<|reg<|rP 0 8 (pt g 0)<|nS 1 9 1 #[vI 0] 3 fun W1 hb1 ch1 sz1 => rK 2 10 (Wint1_any g base A n c b w.heap.size 0 W1 (qT ch1 hg) ⟨by omega, by omega⟩ (oA ho ch1) (by omega) hb1 (by omega)) ?_
  rintro _ W2 ⟨AA1, nn1, cc1, rfl, hgw1, ow2, hle1, ch2⟩
  have zz2 := ch2.size
  have hq1 := ow2.nc
  have hq2 := ow2.cm
  have hq3 := ow2.byt.1
  exact rE<|Wk.retN (.tuple #[]) rfl (by kernel_rfl) ⟨AA1, nn1, cc1, rfl, hgw1, own8_low ow2 (by omega), by omega, (kC (zA ch1 : Chg [g] (w) W1) ch2)⟩
 refine cT<|reg<|rP 0 5 (pt g 0)<|nS 1 6 1 #[vI 1] 3 fun W3 hb2 ch3 sz2 => rK 2 7 (Wint1_any g base A n c b w.heap.size 1 W3 (qT ch3 hg) ⟨by omega, by omega⟩ (oA ho ch3) (by omega) hb2 (by omega)) ?_
 rintro _ W4 ⟨AA2, nn2, cc2, rfl, hgw2, ow4, hle2, ch4⟩
 have zz4 := ch4.size
 have hq4 := ow4.nc
 have hq5 := ow4.cm
 have hq6 := ow4.byt.1
 exact rE<|Wk.retN (.tuple #[]) rfl (by kernel_rfl) ⟨AA2, nn2, cc2, rfl, hgw2, own8_low ow4 (by omega), by omega, (kC (zA ch3 : Chg [g] (w) W3) ch4)⟩
theorem Wbytes_any (g base : Nat) (A : Option Addr) (n c : Nat) (b : List UInt8) (x : List UInt8) (B : Option Addr) (m d : Nat) (w : World) (hg : w.heap[g]? = some (.cells #[.slice A n c] 79 (0, 0))) (hbs : g < base ∧ base ≤ w.heap.size) (ho : Own8 w base 5 A n c b) (hn : n ≤ 3000000) (hx : Byt w B m x) (hmd : m ≤ d ∧ d ≤ 9223372036854775807) (hnil : B = none → d = 0) (hm : m ≤ 100000) (hbB : ∀ g2 off, B = some ⟨g2, off, none⟩ → 0 < m → g2 ≠ g) : Calls Tryz.prog 45 #[pt g 0, .slice B m d] w fun e w' => ∃ A1 n1 c1, e = .returned (.tuple #[]) ∧ w'.heap[g]? = some (.cells #[.slice A1 n1 c1] 79 (0, 0)) ∧ Own8 w' w.heap.size 5 A1 n1 c1 (b ++ (formN x.length ++ x)) ∧ n1 ≤ n + 9 + m ∧ Chg [g] w w' := by
 have hmd_ := hmd
 have hxl_ := hx.1
 rw [hxl_]
 have hgl_ := (Array.getElem?_eq_some_iff.1 hg).1
 have hon_ := ho.nc
 have hoc_ := ho.cm
 have hol_ := ho.byt.1
 have hn_ := hn
 have hbs_ := hbs
 have holt_ := ho.lt
 refine calls_of_wp Tryz.func45 rfl ?_
 refine sR<|rP 0 4 (pt g 0)<|rP 1 5 (.slice B m d)<|rP 2 6 (vI m)<|nS 3 7 1 #[vI m] 3 fun W1 hb1 ch1 sz1 => rK 4 8 (Wint1_any g base A n c b w.heap.size (m : Int) W1 (qT ch1 hg) ⟨by omega, by omega⟩ (oA ho ch1) (by omega) hb1 (by omega)) ?_
 rintro _ W2 ⟨AA1, nn1, cc1, rfl, hgw1, ow2, hle1, ch2⟩
 have zz2 := ch2.size
 have hq1 := ow2.nc
 have hq2 := ow2.cm
 have hq3 := ow2.byt.1
 refine eN<|reg<|rP 0 9 (pt g 0)<|rP 1 10 (pt g 0)<|rP 2 11 (pt g 0)<|rP 3 12 (pt g 0)<|rL 4 13 0 (.slice AA1 nn1 cc1) hgw1<|rP 5 14 (.slice B m d)<|rX 6 15 rfl rfl (ap8 m d ow2.own (byt_chgp (byt_chgp hx ch1 (fun g off e hn hl => trivial)) ch2 (fun g off e hn hl => ⟨by have := hbB g off e hn; omega, trivial⟩)) hnil (nn1 + m) ((b ++ formN (u64n (m : Int))) ++ x)) ?_
 rintro _ W3 ⟨AA2, nn2, rfl, ow3, ch3, ha1⟩
 have zz3 := ch3.size
 have hq4 := ow3.nc
 have hq5 := ow3.cm
 refine rP 7 16 (pt g 0)<|rP 8 17 (pt g 0)<|rU 9 rfl (sW 0 (.slice AA2 (nn1 + m) nn2) (Chg.hp ch3 hgw1 (off_blk (fun gz hgz => by have := ow2.lt gz hgz; omega)))) fun W4 hb2 ch4 _ => ?_
 replace hb2 : W4.heap[g]? = some (.cells #[.slice AA2 (nn1 + m) nn2] 79 (0, 0)) := hb2
 have zz4 := ch4.size
 refine rE<|?_
 have hH_ := (oB ow3 ch4 ow3.lt)
 rw [Mur.u64n_of (by omega), List.append_assoc] at hH_
 exact Wk.retN (.tuple #[]) rfl (by kernel_rfl) ⟨AA2, nn1 + m, nn2, rfl, hb2, own8_low hH_ (by omega), by omega, (kC (Chg.step (kC (zA ch1 : Chg [g] (w) W1) ch2) ch3 (newOr_blk (fun g hg => by have := ow2.lt g hg; omega))) ch4)⟩
end Go.Proofs.YtgbadghjnpbiaaaGreatDoor
namespace Go.Proofs.YtgbadghjnpbiaaaGreatDoor
open Go.RowKit Wk
open Mur (b8s Byt Own8 Seg Segs flat cutA attC)
set_option maxRecDepth 100000
set_option maxHeartbeats 4000000
theorem Read_no (g off c : Nat) (b K R E T : List UInt8) (V : Nat) (w : World) (hb : Byt w (some ⟨g, off, none⟩) 104 b) (hc : 104 ≤ c) (hK : (b.take 32).drop 0 = K) (hR : (b.take 64).drop 32 = R) (hE : (b.take 72).drop 64 = E) (hT : (b.take 104).drop 72 = T) (hV : Mur.be8 E = V) (hm : ¬ (1 ≤ V ∧ V ≤ 5000)) : Calls Tryz.prog 95 #[.slice (some ⟨g, off, none⟩) 104 c] w fun e w' => e = .returned (.tuple #[.agg (attC Mur.z32 Mur.z32 0 Mur.z32).toArray, vI 5]) ∧ Chg [] w w' := by
 have hb0 : Byt w (some ⟨g, off + 0, none⟩) 32 K := by have := Mur.byt_sub hb 0 32 32 rfl (by omega); rw [hK] at this; exact this
 have hb32 : Byt w (some ⟨g, off + 32, none⟩) 32 R := by have := Mur.byt_sub hb 32 64 32 rfl (by omega); rw [hR] at this; exact this
 have hb64 : Byt w (some ⟨g, off + 64, none⟩) 8 E := by have := Mur.byt_sub hb 64 72 8 rfl (by omega); rw [hE] at this; exact this
 have hb72 : Byt w (some ⟨g, off + 72, none⟩) 32 T := by have := Mur.byt_sub hb 72 104 32 rfl (by omega); rw [hT] at this; exact this
 have hx0_ := (E.getD 0 0).toNat_lt
 have hx1_ := (E.getD 1 0).toNat_lt
 have hx2_ := (E.getD 2 0).toNat_lt
 have hx3_ := (E.getD 3 0).toNat_lt
 have hx4_ := (E.getD 4 0).toNat_lt
 have hx5_ := (E.getD 5 0).toNat_lt
 have hx6_ := (E.getD 6 0).toNat_lt
 have hx7_ := (E.getD 7 0).toNat_lt
 refine calls_of_wp Tryz.func95 rfl ?_
 refine sR<|nW 0 2 (Mur.attC Mur.z32 Mur.z32 0 Mur.z32).toArray 35 fun W1 hb1 ch1 sz1 => rP 1 3 (vI 0)<|eN<|wp_seq<|sR<|rP 0 7 (.slice (some ⟨g, off, none⟩) 104 c)<|rP 1 8 (vI 104)<|nF 2 9 (104 : Int) (104 : Int)<|eN<|cF<|wp_skip<|nxt<|wp_seq<|?_
 refine dReg ([w.heap.size]) (by kernel_rfl) ?_
 intro W2 ch2 sz2
 have zz2 := ch2.size
 have sS1 : Chg ([w.heap.size]) W2 W2 := (Chg.refl _).more (by simp)
 refine dW 0 11 (pw w 0) sS1<|dV 1 12 (.slice (some ⟨w.heap.size, 0, none⟩) 32 32) rfl rfl (fun w' hw' => Mur.arr_slice 28 5 (.tmp 11) 32 rfl Tryz.underlying28 (by kernel_rfl) w.heap.size (by kernel_rfl)) sS1<|dW 2 13 (.slice (some ⟨g, off, none⟩) 104 c) sS1<|dV 3 14 (.slice (some ⟨g, off + 0, none⟩) 32 32) rfl rfl (fun w' hw' => Mur.run_cut3 22 (.tmp 13) none (.const (vI 32)) (.const (vI 32)) rfl 5 Tryz.underlying22 (by kernel_rfl) g off 104 c 0 32 32 32 (by kernel_rfl) (.inr ⟨rfl, rfl⟩) (by kernel_rfl) (by kernel_rfl) rfl rfl (by omega) (by omega)) sS1<|dO 4 ?_
 have kk2 := kA (zA ch1 : Chg [] w W1) ch2
 refine oEx (some 15) _ rfl rfl (by kernel_rfl) (Mur.copy_mid (.tmp 12) (.tmp 14) 22 22 rfl 5 Tryz.underlying22 (by kernel_rfl) w.heap.size 0 32 32 (by kernel_rfl) (some ⟨g, off + 0, none⟩) 32 32 (by kernel_rfl) 35 (Mur.attC Mur.z32 Mur.z32 0 Mur.z32) K (qT ch2 hb1) (Mur.byt_chg hb0 kk2 (fun g off e hl => trivial)) (by omega) (by omega) (by rw [Mur.attC_length rfl rfl rfl]; omega) _ (Mur.att_sp0 rfl hb0.1)) ?_
 rintro _ W3 ⟨rfl, hb2, ch3⟩
 have zz3 := ch3.size
 have sS2 := kC sS1 ch3
 refine aN sS2<|dN<|wp_seq<|?_
 refine dReg ([w.heap.size]) (by kernel_rfl) ?_
 intro W4 ch4 sz3
 have zz4 := ch4.size
 have sS3 : Chg ([w.heap.size]) W4 W4 := (Chg.refl _).more (by simp)
 refine dW 0 16 (pw w 32) sS3<|dV 1 17 (.slice (some ⟨w.heap.size, 32, none⟩) 32 32) rfl rfl (fun w' hw' => Mur.arr_slice_at 28 5 (.tmp 16) 32 rfl Tryz.underlying28 (by kernel_rfl) w.heap.size 32 (by kernel_rfl)) sS3<|dW 2 18 (.slice (some ⟨g, off, none⟩) 104 c) sS3<|dV 3 19 (.slice (some ⟨g, off + 32, none⟩) 32 32) rfl rfl (fun w' hw' => Mur.run_cut3 22 (.tmp 18) (some (.const (vI 32))) (.const (vI 64)) (.const (vI 64)) rfl 5 Tryz.underlying22 (by kernel_rfl) g off 104 c 32 64 64 32 (by kernel_rfl) (.inl (by kernel_rfl)) (by kernel_rfl) (by kernel_rfl) rfl rfl (by omega) (by omega)) sS3<|dO 4 ?_
 have kk4 := kA (kB kk2 ch3) ch4
 refine oEx (some 20) _ rfl rfl (by kernel_rfl) (Mur.copy_mid (.tmp 17) (.tmp 19) 22 22 rfl 5 Tryz.underlying22 (by kernel_rfl) w.heap.size 32 32 32 (by kernel_rfl) (some ⟨g, off + 32, none⟩) 32 32 (by kernel_rfl) 35 (Mur.attC K Mur.z32 0 Mur.z32) R (qT ch4 hb2) (Mur.byt_chg hb32 kk4 (fun g off e hl => trivial)) (by omega) (by omega) (by rw [Mur.attC_length hb0.1 rfl rfl]; omega) _ (Mur.att_sp32 hb0.1 rfl hb32.1)) ?_
 rintro _ W5 ⟨rfl, hb3, ch5⟩
 have zz5 := ch5.size
 have sS4 := kC sS3 ch5
 refine aN sS4<|dN<|sR<|rP 0 4 (vU 0)<|eN<|wp_seq<|sR<|rP 0 21 (.slice (some ⟨g, off, none⟩) 104 c)<|rq 1 22 (.slice (some ⟨g, off + 64, none⟩) 8 8) rfl (Mur.run_cut3 22 (.tmp 21) (some (.const (vI 64))) (.const (vI 72)) (.const (vI 72)) rfl 5 Tryz.underlying22 (by kernel_rfl) g off 104 c 64 72 72 8 (by kernel_rfl) (.inl (by kernel_rfl)) (by kernel_rfl) (by kernel_rfl) rfl rfl (by omega) (by omega))<|rP 2 23 (vI 8)<|rP 3 24 (vI 0)<|eN<|wp_block<|?_
 refine Wk.loopN 9 ?_
 refine Wk.rdS<|sR<|?_
 refine bT 0 25 ((0 : Int) < (8 : Int))<|eN<|wp_seq<|cT<|wp_skip<|nxt<|wp_seq<|wp_block<|sR<|rq 0 26 (pt g (off + 64 + 0 * 1)) rfl (iS 1 g (off + 64) 8 8 0) ?_
 have kk5 := kB kk4 ch5
 refine rq 1 27 _ rfl (ld 5 26 g (off + 64 + 0 * 1) (vB ((E.getD 0 0).toNat : Nat)) (Mur.byt_cell (Mur.byt_chg hb64 kk5 (fun g off e hl => trivial)) 0 (by omega)))<|rP 2 6 (vB ((E.getD 0 0).toNat : Nat))<|eN<|reg<|rP 0 28 (vU 0)<|rq 1 29 (vU (0 * 256 : Nat)) rfl (Mur.shl8_64 23 148 (.tmp 28) (.const (vU 8)) rfl 0 .u64 (by kernel_rfl) (by kernel_rfl) (by omega))<|rP 2 30 (vB ((E.getD 0 0).toNat : Nat))<|rq 3 31 (vU ((E.getD 0 0).toNat : Nat)) rfl (Mur.conv_int 5 23 (.tmp 30) rfl (by kernel_rfl) .u64 Tryz.underlying23 .u8 (((E.getD 0 0).toNat : Nat) : Int) (by kernel_rfl) (Mur.u64_nat (by omega)))<|rq 4 32 (vU (0 * 256 + (E.getD 0 0).toNat : Nat)) rfl (Mur.or64 23 23 (.tmp 29) (.tmp 31) rfl 0 (E.getD 0 0).toNat (by kernel_rfl) (by kernel_rfl) (by omega) (by omega))<|rP 5 4 (vU (0 * 256 + (E.getD 0 0).toNat : Nat))<|rE<|inN<|nxt<|reg<|rI 0 33 (0 + 1) (1)<|rP 1 24 (vI 1)<|eN<|Wk.rdS<|sR<|bT 0 25 ((1 : Int) < (8 : Int))<|eN<|wp_seq<|cT<|wp_skip<|nxt<|wp_seq<|wp_block<|sR<|rq 0 26 (pt g (off + 64 + 1 * 1)) rfl (iS 1 g (off + 64) 8 8 1)<|rq 1 27 _ rfl (ld 5 26 g (off + 64 + 1 * 1) (vB ((E.getD 1 0).toNat : Nat)) (Mur.byt_cell (Mur.byt_chg hb64 kk5 (fun g off e hl => trivial)) 1 (by omega)))<|rP 2 6 (vB ((E.getD 1 0).toNat : Nat))<|eN<|reg<|rP 0 28 (vU (0 * 256 + (E.getD 0 0).toNat : Nat))<|rq 1 29 (vU ((0 * 256 + (E.getD 0 0).toNat) * 256 : Nat)) rfl (Mur.shl8_64 23 148 (.tmp 28) (.const (vU 8)) rfl (0 * 256 + (E.getD 0 0).toNat) .u64 (by kernel_rfl) (by kernel_rfl) (by omega)) ?_
 refine rP 2 30 (vB ((E.getD 1 0).toNat : Nat))<|rq 3 31 (vU ((E.getD 1 0).toNat : Nat)) rfl (Mur.conv_int 5 23 (.tmp 30) rfl (by kernel_rfl) .u64 Tryz.underlying23 .u8 (((E.getD 1 0).toNat : Nat) : Int) (by kernel_rfl) (Mur.u64_nat (by omega)))<|rq 4 32 (vU ((0 * 256 + (E.getD 0 0).toNat) * 256 + (E.getD 1 0).toNat : Nat)) rfl (Mur.or64 23 23 (.tmp 29) (.tmp 31) rfl (0 * 256 + (E.getD 0 0).toNat) (E.getD 1 0).toNat (by kernel_rfl) (by kernel_rfl) (by omega) (by omega))<|rP 5 4 (vU ((0 * 256 + (E.getD 0 0).toNat) * 256 + (E.getD 1 0).toNat : Nat))<|rE<|inN<|nxt<|reg<|rI 0 33 (1 + 1) (2)<|rP 1 24 (vI 2)<|eN<|Wk.rdS<|sR<|bT 0 25 ((2 : Int) < (8 : Int))<|eN<|wp_seq<|cT<|wp_skip<|nxt<|wp_seq<|wp_block<|sR<|rq 0 26 (pt g (off + 64 + 2 * 1)) rfl (iS 1 g (off + 64) 8 8 2)<|rq 1 27 _ rfl (ld 5 26 g (off + 64 + 2 * 1) (vB ((E.getD 2 0).toNat : Nat)) (Mur.byt_cell (Mur.byt_chg hb64 kk5 (fun g off e hl => trivial)) 2 (by omega)))<|rP 2 6 (vB ((E.getD 2 0).toNat : Nat))<|eN<|reg<|rP 0 28 (vU ((0 * 256 + (E.getD 0 0).toNat) * 256 + (E.getD 1 0).toNat : Nat))<|rq 1 29 (vU (((0 * 256 + (E.getD 0 0).toNat) * 256 + (E.getD 1 0).toNat) * 256 : Nat)) rfl (Mur.shl8_64 23 148 (.tmp 28) (.const (vU 8)) rfl ((0 * 256 + (E.getD 0 0).toNat) * 256 + (E.getD 1 0).toNat) .u64 (by kernel_rfl) (by kernel_rfl) (by omega))<|rP 2 30 (vB ((E.getD 2 0).toNat : Nat))<|rq 3 31 (vU ((E.getD 2 0).toNat : Nat)) rfl (Mur.conv_int 5 23 (.tmp 30) rfl (by kernel_rfl) .u64 Tryz.underlying23 .u8 (((E.getD 2 0).toNat : Nat) : Int) (by kernel_rfl) (Mur.u64_nat (by omega))) ?_
 refine rq 4 32 (vU (((0 * 256 + (E.getD 0 0).toNat) * 256 + (E.getD 1 0).toNat) * 256 + (E.getD 2 0).toNat : Nat)) rfl (Mur.or64 23 23 (.tmp 29) (.tmp 31) rfl ((0 * 256 + (E.getD 0 0).toNat) * 256 + (E.getD 1 0).toNat) (E.getD 2 0).toNat (by kernel_rfl) (by kernel_rfl) (by omega) (by omega))<|rP 5 4 (vU (((0 * 256 + (E.getD 0 0).toNat) * 256 + (E.getD 1 0).toNat) * 256 + (E.getD 2 0).toNat : Nat))<|rE<|inN<|nxt<|reg<|rI 0 33 (2 + 1) (3)<|rP 1 24 (vI 3)<|eN<|Wk.rdS<|sR<|bT 0 25 ((3 : Int) < (8 : Int))<|eN<|wp_seq<|cT<|wp_skip<|nxt<|wp_seq<|wp_block<|sR<|rq 0 26 (pt g (off + 64 + 3 * 1)) rfl (iS 1 g (off + 64) 8 8 3)<|rq 1 27 _ rfl (ld 5 26 g (off + 64 + 3 * 1) (vB ((E.getD 3 0).toNat : Nat)) (Mur.byt_cell (Mur.byt_chg hb64 kk5 (fun g off e hl => trivial)) 3 (by omega)))<|rP 2 6 (vB ((E.getD 3 0).toNat : Nat))<|eN<|reg<|rP 0 28 (vU (((0 * 256 + (E.getD 0 0).toNat) * 256 + (E.getD 1 0).toNat) * 256 + (E.getD 2 0).toNat : Nat))<|rq 1 29 (vU ((((0 * 256 + (E.getD 0 0).toNat) * 256 + (E.getD 1 0).toNat) * 256 + (E.getD 2 0).toNat) * 256 : Nat)) rfl (Mur.shl8_64 23 148 (.tmp 28) (.const (vU 8)) rfl (((0 * 256 + (E.getD 0 0).toNat) * 256 + (E.getD 1 0).toNat) * 256 + (E.getD 2 0).toNat) .u64 (by kernel_rfl) (by kernel_rfl) (by omega))<|rP 2 30 (vB ((E.getD 3 0).toNat : Nat))<|rq 3 31 (vU ((E.getD 3 0).toNat : Nat)) rfl (Mur.conv_int 5 23 (.tmp 30) rfl (by kernel_rfl) .u64 Tryz.underlying23 .u8 (((E.getD 3 0).toNat : Nat) : Int) (by kernel_rfl) (Mur.u64_nat (by omega))) ?_
 refine rq 4 32 (vU ((((0 * 256 + (E.getD 0 0).toNat) * 256 + (E.getD 1 0).toNat) * 256 + (E.getD 2 0).toNat) * 256 + (E.getD 3 0).toNat : Nat)) rfl (Mur.or64 23 23 (.tmp 29) (.tmp 31) rfl (((0 * 256 + (E.getD 0 0).toNat) * 256 + (E.getD 1 0).toNat) * 256 + (E.getD 2 0).toNat) (E.getD 3 0).toNat (by kernel_rfl) (by kernel_rfl) (by omega) (by omega))<|rP 5 4 (vU ((((0 * 256 + (E.getD 0 0).toNat) * 256 + (E.getD 1 0).toNat) * 256 + (E.getD 2 0).toNat) * 256 + (E.getD 3 0).toNat : Nat))<|rE<|inN<|nxt<|reg<|rI 0 33 (3 + 1) (4)<|rP 1 24 (vI 4)<|eN<|Wk.rdS<|sR<|bT 0 25 ((4 : Int) < (8 : Int))<|eN<|wp_seq<|cT<|wp_skip<|nxt<|wp_seq<|wp_block<|sR<|rq 0 26 (pt g (off + 64 + 4 * 1)) rfl (iS 1 g (off + 64) 8 8 4)<|rq 1 27 _ rfl (ld 5 26 g (off + 64 + 4 * 1) (vB ((E.getD 4 0).toNat : Nat)) (Mur.byt_cell (Mur.byt_chg hb64 kk5 (fun g off e hl => trivial)) 4 (by omega)))<|rP 2 6 (vB ((E.getD 4 0).toNat : Nat))<|eN<|reg<|rP 0 28 (vU ((((0 * 256 + (E.getD 0 0).toNat) * 256 + (E.getD 1 0).toNat) * 256 + (E.getD 2 0).toNat) * 256 + (E.getD 3 0).toNat : Nat))<|rq 1 29 (vU (((((0 * 256 + (E.getD 0 0).toNat) * 256 + (E.getD 1 0).toNat) * 256 + (E.getD 2 0).toNat) * 256 + (E.getD 3 0).toNat) * 256 : Nat)) rfl (Mur.shl8_64 23 148 (.tmp 28) (.const (vU 8)) rfl ((((0 * 256 + (E.getD 0 0).toNat) * 256 + (E.getD 1 0).toNat) * 256 + (E.getD 2 0).toNat) * 256 + (E.getD 3 0).toNat) .u64 (by kernel_rfl) (by kernel_rfl) (by omega))<|rP 2 30 (vB ((E.getD 4 0).toNat : Nat)) ?_
 refine rq 3 31 (vU ((E.getD 4 0).toNat : Nat)) rfl (Mur.conv_int 5 23 (.tmp 30) rfl (by kernel_rfl) .u64 Tryz.underlying23 .u8 (((E.getD 4 0).toNat : Nat) : Int) (by kernel_rfl) (Mur.u64_nat (by omega)))<|rq 4 32 (vU (((((0 * 256 + (E.getD 0 0).toNat) * 256 + (E.getD 1 0).toNat) * 256 + (E.getD 2 0).toNat) * 256 + (E.getD 3 0).toNat) * 256 + (E.getD 4 0).toNat : Nat)) rfl (Mur.or64 23 23 (.tmp 29) (.tmp 31) rfl ((((0 * 256 + (E.getD 0 0).toNat) * 256 + (E.getD 1 0).toNat) * 256 + (E.getD 2 0).toNat) * 256 + (E.getD 3 0).toNat) (E.getD 4 0).toNat (by kernel_rfl) (by kernel_rfl) (by omega) (by omega))<|rP 5 4 (vU (((((0 * 256 + (E.getD 0 0).toNat) * 256 + (E.getD 1 0).toNat) * 256 + (E.getD 2 0).toNat) * 256 + (E.getD 3 0).toNat) * 256 + (E.getD 4 0).toNat : Nat))<|rE<|inN<|nxt<|reg<|rI 0 33 (4 + 1) (5)<|rP 1 24 (vI 5)<|eN<|Wk.rdS<|sR<|bT 0 25 ((5 : Int) < (8 : Int))<|eN<|wp_seq<|cT<|wp_skip<|nxt<|wp_seq<|wp_block<|sR<|rq 0 26 (pt g (off + 64 + 5 * 1)) rfl (iS 1 g (off + 64) 8 8 5)<|rq 1 27 _ rfl (ld 5 26 g (off + 64 + 5 * 1) (vB ((E.getD 5 0).toNat : Nat)) (Mur.byt_cell (Mur.byt_chg hb64 kk5 (fun g off e hl => trivial)) 5 (by omega)))<|rP 2 6 (vB ((E.getD 5 0).toNat : Nat))<|eN<|reg<|rP 0 28 (vU (((((0 * 256 + (E.getD 0 0).toNat) * 256 + (E.getD 1 0).toNat) * 256 + (E.getD 2 0).toNat) * 256 + (E.getD 3 0).toNat) * 256 + (E.getD 4 0).toNat : Nat))<|rq 1 29 (vU ((((((0 * 256 + (E.getD 0 0).toNat) * 256 + (E.getD 1 0).toNat) * 256 + (E.getD 2 0).toNat) * 256 + (E.getD 3 0).toNat) * 256 + (E.getD 4 0).toNat) * 256 : Nat)) rfl (Mur.shl8_64 23 148 (.tmp 28) (.const (vU 8)) rfl (((((0 * 256 + (E.getD 0 0).toNat) * 256 + (E.getD 1 0).toNat) * 256 + (E.getD 2 0).toNat) * 256 + (E.getD 3 0).toNat) * 256 + (E.getD 4 0).toNat) .u64 (by kernel_rfl) (by kernel_rfl) (by omega)) ?_
 refine rP 2 30 (vB ((E.getD 5 0).toNat : Nat))<|rq 3 31 (vU ((E.getD 5 0).toNat : Nat)) rfl (Mur.conv_int 5 23 (.tmp 30) rfl (by kernel_rfl) .u64 Tryz.underlying23 .u8 (((E.getD 5 0).toNat : Nat) : Int) (by kernel_rfl) (Mur.u64_nat (by omega)))<|rq 4 32 (vU ((((((0 * 256 + (E.getD 0 0).toNat) * 256 + (E.getD 1 0).toNat) * 256 + (E.getD 2 0).toNat) * 256 + (E.getD 3 0).toNat) * 256 + (E.getD 4 0).toNat) * 256 + (E.getD 5 0).toNat : Nat)) rfl (Mur.or64 23 23 (.tmp 29) (.tmp 31) rfl (((((0 * 256 + (E.getD 0 0).toNat) * 256 + (E.getD 1 0).toNat) * 256 + (E.getD 2 0).toNat) * 256 + (E.getD 3 0).toNat) * 256 + (E.getD 4 0).toNat) (E.getD 5 0).toNat (by kernel_rfl) (by kernel_rfl) (by omega) (by omega))<|rP 5 4 (vU ((((((0 * 256 + (E.getD 0 0).toNat) * 256 + (E.getD 1 0).toNat) * 256 + (E.getD 2 0).toNat) * 256 + (E.getD 3 0).toNat) * 256 + (E.getD 4 0).toNat) * 256 + (E.getD 5 0).toNat : Nat))<|rE<|inN<|nxt<|reg<|rI 0 33 (5 + 1) (6)<|rP 1 24 (vI 6)<|eN<|Wk.rdS<|sR<|bT 0 25 ((6 : Int) < (8 : Int))<|eN<|wp_seq<|cT<|wp_skip<|nxt<|wp_seq<|wp_block<|sR<|rq 0 26 (pt g (off + 64 + 6 * 1)) rfl (iS 1 g (off + 64) 8 8 6)<|rq 1 27 _ rfl (ld 5 26 g (off + 64 + 6 * 1) (vB ((E.getD 6 0).toNat : Nat)) (Mur.byt_cell (Mur.byt_chg hb64 kk5 (fun g off e hl => trivial)) 6 (by omega)))<|rP 2 6 (vB ((E.getD 6 0).toNat : Nat))<|eN<|reg<|rP 0 28 (vU ((((((0 * 256 + (E.getD 0 0).toNat) * 256 + (E.getD 1 0).toNat) * 256 + (E.getD 2 0).toNat) * 256 + (E.getD 3 0).toNat) * 256 + (E.getD 4 0).toNat) * 256 + (E.getD 5 0).toNat : Nat)) ?_
 refine rq 1 29 (vU (((((((0 * 256 + (E.getD 0 0).toNat) * 256 + (E.getD 1 0).toNat) * 256 + (E.getD 2 0).toNat) * 256 + (E.getD 3 0).toNat) * 256 + (E.getD 4 0).toNat) * 256 + (E.getD 5 0).toNat) * 256 : Nat)) rfl (Mur.shl8_64 23 148 (.tmp 28) (.const (vU 8)) rfl ((((((0 * 256 + (E.getD 0 0).toNat) * 256 + (E.getD 1 0).toNat) * 256 + (E.getD 2 0).toNat) * 256 + (E.getD 3 0).toNat) * 256 + (E.getD 4 0).toNat) * 256 + (E.getD 5 0).toNat) .u64 (by kernel_rfl) (by kernel_rfl) (by omega))<|rP 2 30 (vB ((E.getD 6 0).toNat : Nat))<|rq 3 31 (vU ((E.getD 6 0).toNat : Nat)) rfl (Mur.conv_int 5 23 (.tmp 30) rfl (by kernel_rfl) .u64 Tryz.underlying23 .u8 (((E.getD 6 0).toNat : Nat) : Int) (by kernel_rfl) (Mur.u64_nat (by omega)))<|rq 4 32 (vU (((((((0 * 256 + (E.getD 0 0).toNat) * 256 + (E.getD 1 0).toNat) * 256 + (E.getD 2 0).toNat) * 256 + (E.getD 3 0).toNat) * 256 + (E.getD 4 0).toNat) * 256 + (E.getD 5 0).toNat) * 256 + (E.getD 6 0).toNat : Nat)) rfl (Mur.or64 23 23 (.tmp 29) (.tmp 31) rfl ((((((0 * 256 + (E.getD 0 0).toNat) * 256 + (E.getD 1 0).toNat) * 256 + (E.getD 2 0).toNat) * 256 + (E.getD 3 0).toNat) * 256 + (E.getD 4 0).toNat) * 256 + (E.getD 5 0).toNat) (E.getD 6 0).toNat (by kernel_rfl) (by kernel_rfl) (by omega) (by omega))<|rP 5 4 (vU (((((((0 * 256 + (E.getD 0 0).toNat) * 256 + (E.getD 1 0).toNat) * 256 + (E.getD 2 0).toNat) * 256 + (E.getD 3 0).toNat) * 256 + (E.getD 4 0).toNat) * 256 + (E.getD 5 0).toNat) * 256 + (E.getD 6 0).toNat : Nat)) ?_
 refine rE<|inN<|nxt<|reg<|rI 0 33 (6 + 1) (7)<|rP 1 24 (vI 7)<|eN<|Wk.rdS<|sR<|bT 0 25 ((7 : Int) < (8 : Int))<|eN<|wp_seq<|cT<|wp_skip<|nxt<|wp_seq<|wp_block<|sR<|rq 0 26 (pt g (off + 64 + 7 * 1)) rfl (iS 1 g (off + 64) 8 8 7)<|rq 1 27 _ rfl (ld 5 26 g (off + 64 + 7 * 1) (vB ((E.getD 7 0).toNat : Nat)) (Mur.byt_cell (Mur.byt_chg hb64 kk5 (fun g off e hl => trivial)) 7 (by omega)))<|rP 2 6 (vB ((E.getD 7 0).toNat : Nat))<|eN<|reg<|rP 0 28 (vU (((((((0 * 256 + (E.getD 0 0).toNat) * 256 + (E.getD 1 0).toNat) * 256 + (E.getD 2 0).toNat) * 256 + (E.getD 3 0).toNat) * 256 + (E.getD 4 0).toNat) * 256 + (E.getD 5 0).toNat) * 256 + (E.getD 6 0).toNat : Nat))<|rq 1 29 (vU ((((((((0 * 256 + (E.getD 0 0).toNat) * 256 + (E.getD 1 0).toNat) * 256 + (E.getD 2 0).toNat) * 256 + (E.getD 3 0).toNat) * 256 + (E.getD 4 0).toNat) * 256 + (E.getD 5 0).toNat) * 256 + (E.getD 6 0).toNat) * 256 : Nat)) rfl (Mur.shl8_64 23 148 (.tmp 28) (.const (vU 8)) rfl (((((((0 * 256 + (E.getD 0 0).toNat) * 256 + (E.getD 1 0).toNat) * 256 + (E.getD 2 0).toNat) * 256 + (E.getD 3 0).toNat) * 256 + (E.getD 4 0).toNat) * 256 + (E.getD 5 0).toNat) * 256 + (E.getD 6 0).toNat) .u64 (by kernel_rfl) (by kernel_rfl) (by omega))<|rP 2 30 (vB ((E.getD 7 0).toNat : Nat))<|rq 3 31 (vU ((E.getD 7 0).toNat : Nat)) rfl (Mur.conv_int 5 23 (.tmp 30) rfl (by kernel_rfl) .u64 Tryz.underlying23 .u8 (((E.getD 7 0).toNat : Nat) : Int) (by kernel_rfl) (Mur.u64_nat (by omega)))<|rq 4 32 (vU ((((((((0 * 256 + (E.getD 0 0).toNat) * 256 + (E.getD 1 0).toNat) * 256 + (E.getD 2 0).toNat) * 256 + (E.getD 3 0).toNat) * 256 + (E.getD 4 0).toNat) * 256 + (E.getD 5 0).toNat) * 256 + (E.getD 6 0).toNat) * 256 + (E.getD 7 0).toNat : Nat)) rfl (Mur.or64 23 23 (.tmp 29) (.tmp 31) rfl (((((((0 * 256 + (E.getD 0 0).toNat) * 256 + (E.getD 1 0).toNat) * 256 + (E.getD 2 0).toNat) * 256 + (E.getD 3 0).toNat) * 256 + (E.getD 4 0).toNat) * 256 + (E.getD 5 0).toNat) * 256 + (E.getD 6 0).toNat) (E.getD 7 0).toNat (by kernel_rfl) (by kernel_rfl) (by omega) (by omega)) ?_
 refine rP 5 4 (vU ((((((((0 * 256 + (E.getD 0 0).toNat) * 256 + (E.getD 1 0).toNat) * 256 + (E.getD 2 0).toNat) * 256 + (E.getD 3 0).toNat) * 256 + (E.getD 4 0).toNat) * 256 + (E.getD 5 0).toNat) * 256 + (E.getD 6 0).toNat) * 256 + (E.getD 7 0).toNat : Nat))<|rE<|inN<|nxt<|reg<|rI 0 33 (7 + 1) (8)<|rP 1 24 (vI 8)<|eN<|Wk.rdS<|sR<|bF 0 25 ((8 : Int) < (8 : Int))<|eN<|wp_seq<|cF<|xX<|nxt<|wp_seq<|sR<|rq 0 34 (vU V) rfl (Wk.val (v := vU ((((((((0 * 256 + (E.getD 0 0).toNat) * 256 + (E.getD 1 0).toNat) * 256 + (E.getD 2 0).toNat) * 256 + (E.getD 3 0).toNat) * 256 + (E.getD 4 0).toNat) * 256 + (E.getD 5 0).toNat) * 256 + (E.getD 6 0).toNat) * 256 + (E.getD 7 0).toNat : Nat)) (congrArg (fun z : Nat => Value.int .u64 (z : Int)) hV) (by kernel_rfl)) ?_
 by_cases hx1 : (V : Int) < (1 : Int)
 ·exact bT 1 35 ((V : Int) < (1 : Int))<|rP 2 36 vT<|rZ 3 37<|rZ 4 38<|rP 5 39 vT<|eN<|cT<|sR<|rP 0 40 (.agg ((Mur.attC Mur.z32 Mur.z32 0 Mur.z32).toArray))<|rU 1 rfl (sB (Mur.attC Mur.z32 Mur.z32 0 Mur.z32).toArray (Mur.attC_size rfl rfl rfl) Mur.attC_all hb3 (Mur.attC_size hb0.1 hb32.1 rfl)) fun W6 hb4 ch6 zz6 => rP 2 3 (vI 5)<|eN<|tR<|Wk.ret (.tuple #[.agg (Mur.attC Mur.z32 Mur.z32 0 Mur.z32).toArray, vI 5]) rfl (results_att rfl _ _ w.heap.size (Mur.attC Mur.z32 Mur.z32 0 Mur.z32).toArray (0, 0) (vI 5) (by kernel_rfl) hb4 (Mur.attC_size rfl rfl rfl) (by kernel_rfl)) ⟨rfl, (kB kk5 ch6)⟩
 refine bF 1 35 ((V : Int) < (1 : Int))<|rP 2 36 vF<|rq 3 37 (vU V) rfl (Wk.val (v := vU ((((((((0 * 256 + (E.getD 0 0).toNat) * 256 + (E.getD 1 0).toNat) * 256 + (E.getD 2 0).toNat) * 256 + (E.getD 3 0).toNat) * 256 + (E.getD 4 0).toNat) * 256 + (E.getD 5 0).toNat) * 256 + (E.getD 6 0).toNat) * 256 + (E.getD 7 0).toNat : Nat)) (congrArg (fun z : Nat => Value.int .u64 (z : Int)) hV) (by kernel_rfl)) ?_
 by_cases hx2 : (V : Int) > (5000 : Int)
 ·exact bT 4 38 ((V : Int) > (5000 : Int))<|rP 5 39 vT<|eN<|cT<|sR<|rP 0 40 (.agg ((Mur.attC Mur.z32 Mur.z32 0 Mur.z32).toArray))<|rU 1 rfl (sB (Mur.attC Mur.z32 Mur.z32 0 Mur.z32).toArray (Mur.attC_size rfl rfl rfl) Mur.attC_all hb3 (Mur.attC_size hb0.1 hb32.1 rfl)) fun W7 hb5 ch7 zz7 => rP 2 3 (vI 5)<|eN<|tR<|Wk.ret (.tuple #[.agg (Mur.attC Mur.z32 Mur.z32 0 Mur.z32).toArray, vI 5]) rfl (results_att rfl _ _ w.heap.size (Mur.attC Mur.z32 Mur.z32 0 Mur.z32).toArray (0, 0) (vI 5) (by kernel_rfl) hb5 (Mur.attC_size rfl rfl rfl) (by kernel_rfl)) ⟨rfl, (kB kk5 ch7)⟩
 refine bF 4 38 ((V : Int) > (5000 : Int))<|rP 5 39 vF<|eN<|cF<|wp_skip<|nxt<|sR<|rq 0 41 (vU V) rfl (Wk.val (v := vU ((((((((0 * 256 + (E.getD 0 0).toNat) * 256 + (E.getD 1 0).toNat) * 256 + (E.getD 2 0).toNat) * 256 + (E.getD 3 0).toNat) * 256 + (E.getD 4 0).toNat) * 256 + (E.getD 5 0).toNat) * 256 + (E.getD 6 0).toNat) * 256 + (E.getD 7 0).toNat : Nat)) (congrArg (fun z : Nat => Value.int .u64 (z : Int)) hV) (by kernel_rfl))<|rq 1 42 (vI V) rfl (Mur.conv_int 23 3 (.tmp 41) rfl (by kernel_rfl) .i64 Tryz.underlying3 .u64 (V : Int) (by kernel_rfl) (Mur.i64_nat (by omega)))<|rP 2 43 (pw w 64)<|rU 3 rfl (Mur.store_len 3 (.tmp 43) (.tmp 42) rfl (by kernel_rfl) w.heap.size (by kernel_rfl) (V : Int) (by kernel_rfl) 35 K R Mur.z32 0 hb0.1 hb32.1 rfl hb3) fun W8 hb6 ch8 zz8 => eN<|wp_seq<|?_
 refine dReg ([w.heap.size]) (by kernel_rfl) ?_
 intro W9 ch9 sz4
 have zz9 := ch9.size
 have sS5 : Chg ([w.heap.size]) W9 W9 := (Chg.refl _).more (by simp)
 refine dW 0 44 (pw w 65) sS5<|dV 1 45 (.slice (some ⟨w.heap.size, 65, none⟩) 32 32) rfl rfl (fun w' hw' => Mur.arr_slice_at 28 5 (.tmp 44) 32 rfl Tryz.underlying28 (by kernel_rfl) w.heap.size 65 (by kernel_rfl)) sS5<|dW 2 46 (.slice (some ⟨g, off, none⟩) 104 c) sS5<|dV 3 47 (.slice (some ⟨g, off + 72, none⟩) 32 (c - 72)) rfl rfl (fun w' hw' => Mur.run_from_at 22 (.tmp 46) (.const (vI 72)) rfl 5 Tryz.underlying22 (by kernel_rfl) g off 104 c 72 32 (by kernel_rfl) (by kernel_rfl) (by omega) (by omega) rfl) sS5<|dO 4<|oEx (some 48) _ rfl rfl (by kernel_rfl) (Mur.copy_mid (.tmp 45) (.tmp 47) 22 22 rfl 5 Tryz.underlying22 (by kernel_rfl) w.heap.size 65 32 32 (by kernel_rfl) (some ⟨g, off + 72, none⟩) 32 (c - 72) (by kernel_rfl) 35 (Mur.attC K R (V : Int) Mur.z32) T (qT ch9 hb6) (Mur.byt_chg hb72 (kA (kB kk5 ch8) ch9) (fun g off e hl => trivial)) (by omega) (by omega) (by rw [Mur.attC_length hb0.1 hb32.1 rfl]; omega) _ (Mur.att_sp65 hb0.1 hb32.1 rfl hb72.1)) ?_
 rintro _ W10 ⟨rfl, hb7, ch10⟩
 have zz10 := ch10.size
 have sS6 := kC sS5 ch10
 refine aN sS6<|dN<|sR<|rq 0 49 _ rfl (lA hb7 (Mur.attC_size hb0.1 hb32.1 hb72.1))<|rU 1 rfl (sB (Mur.attC K R (V : Int) T).toArray (Mur.attC_size hb0.1 hb32.1 hb72.1) Mur.attC_all hb7 (Mur.attC_size hb0.1 hb32.1 hb72.1)) fun W11 hb8 ch11 zz11 => rP 2 3 (vI 0)<|eN<|wp_ret<|?_
 exfalso; omega
theorem Read_ok (g off c : Nat) (b K R E T : List UInt8) (V : Nat) (w : World) (hb : Byt w (some ⟨g, off, none⟩) 104 b) (hc : 104 ≤ c) (hK : (b.take 32).drop 0 = K) (hR : (b.take 64).drop 32 = R) (hE : (b.take 72).drop 64 = E) (hT : (b.take 104).drop 72 = T) (hV : Mur.be8 E = V) (hm : 1 ≤ V ∧ V ≤ 5000) : Calls Tryz.prog 95 #[.slice (some ⟨g, off, none⟩) 104 c] w fun e w' => e = .returned (.tuple #[.agg (attC K R (V : Int) T).toArray, vI 0]) ∧ Chg [] w w' := by
 have hb0 : Byt w (some ⟨g, off + 0, none⟩) 32 K := by have := Mur.byt_sub hb 0 32 32 rfl (by omega); rw [hK] at this; exact this
 have hb32 : Byt w (some ⟨g, off + 32, none⟩) 32 R := by have := Mur.byt_sub hb 32 64 32 rfl (by omega); rw [hR] at this; exact this
 have hb64 : Byt w (some ⟨g, off + 64, none⟩) 8 E := by have := Mur.byt_sub hb 64 72 8 rfl (by omega); rw [hE] at this; exact this
 have hb72 : Byt w (some ⟨g, off + 72, none⟩) 32 T := by have := Mur.byt_sub hb 72 104 32 rfl (by omega); rw [hT] at this; exact this
 have hx0_ := (E.getD 0 0).toNat_lt
 have hx1_ := (E.getD 1 0).toNat_lt
 have hx2_ := (E.getD 2 0).toNat_lt
 have hx3_ := (E.getD 3 0).toNat_lt
 have hx4_ := (E.getD 4 0).toNat_lt
 have hx5_ := (E.getD 5 0).toNat_lt
 have hx6_ := (E.getD 6 0).toNat_lt
 have hx7_ := (E.getD 7 0).toNat_lt
 refine calls_of_wp Tryz.func95 rfl ?_
 refine sR<|nW 0 2 (Mur.attC Mur.z32 Mur.z32 0 Mur.z32).toArray 35 fun W1 hb1 ch1 sz1 => rP 1 3 (vI 0)<|eN<|wp_seq<|sR<|rP 0 7 (.slice (some ⟨g, off, none⟩) 104 c)<|rP 1 8 (vI 104)<|nF 2 9 (104 : Int) (104 : Int)<|eN<|cF<|wp_skip<|nxt<|wp_seq<|?_
 refine dReg ([w.heap.size]) (by kernel_rfl) ?_
 intro W2 ch2 sz2
 have zz2 := ch2.size
 have sS1 : Chg ([w.heap.size]) W2 W2 := (Chg.refl _).more (by simp)
 refine dW 0 11 (pw w 0) sS1<|dV 1 12 (.slice (some ⟨w.heap.size, 0, none⟩) 32 32) rfl rfl (fun w' hw' => Mur.arr_slice 28 5 (.tmp 11) 32 rfl Tryz.underlying28 (by kernel_rfl) w.heap.size (by kernel_rfl)) sS1<|dW 2 13 (.slice (some ⟨g, off, none⟩) 104 c) sS1<|dV 3 14 (.slice (some ⟨g, off + 0, none⟩) 32 32) rfl rfl (fun w' hw' => Mur.run_cut3 22 (.tmp 13) none (.const (vI 32)) (.const (vI 32)) rfl 5 Tryz.underlying22 (by kernel_rfl) g off 104 c 0 32 32 32 (by kernel_rfl) (.inr ⟨rfl, rfl⟩) (by kernel_rfl) (by kernel_rfl) rfl rfl (by omega) (by omega)) sS1<|dO 4 ?_
 have kk2 := kA (zA ch1 : Chg [] w W1) ch2
 refine oEx (some 15) _ rfl rfl (by kernel_rfl) (Mur.copy_mid (.tmp 12) (.tmp 14) 22 22 rfl 5 Tryz.underlying22 (by kernel_rfl) w.heap.size 0 32 32 (by kernel_rfl) (some ⟨g, off + 0, none⟩) 32 32 (by kernel_rfl) 35 (Mur.attC Mur.z32 Mur.z32 0 Mur.z32) K (qT ch2 hb1) (Mur.byt_chg hb0 kk2 (fun g off e hl => trivial)) (by omega) (by omega) (by rw [Mur.attC_length rfl rfl rfl]; omega) _ (Mur.att_sp0 rfl hb0.1)) ?_
 rintro _ W3 ⟨rfl, hb2, ch3⟩
 have zz3 := ch3.size
 have sS2 := kC sS1 ch3
 refine aN sS2<|dN<|wp_seq<|?_
 refine dReg ([w.heap.size]) (by kernel_rfl) ?_
 intro W4 ch4 sz3
 have zz4 := ch4.size
 have sS3 : Chg ([w.heap.size]) W4 W4 := (Chg.refl _).more (by simp)
 refine dW 0 16 (pw w 32) sS3<|dV 1 17 (.slice (some ⟨w.heap.size, 32, none⟩) 32 32) rfl rfl (fun w' hw' => Mur.arr_slice_at 28 5 (.tmp 16) 32 rfl Tryz.underlying28 (by kernel_rfl) w.heap.size 32 (by kernel_rfl)) sS3<|dW 2 18 (.slice (some ⟨g, off, none⟩) 104 c) sS3<|dV 3 19 (.slice (some ⟨g, off + 32, none⟩) 32 32) rfl rfl (fun w' hw' => Mur.run_cut3 22 (.tmp 18) (some (.const (vI 32))) (.const (vI 64)) (.const (vI 64)) rfl 5 Tryz.underlying22 (by kernel_rfl) g off 104 c 32 64 64 32 (by kernel_rfl) (.inl (by kernel_rfl)) (by kernel_rfl) (by kernel_rfl) rfl rfl (by omega) (by omega)) sS3<|dO 4 ?_
 have kk4 := kA (kB kk2 ch3) ch4
 refine oEx (some 20) _ rfl rfl (by kernel_rfl) (Mur.copy_mid (.tmp 17) (.tmp 19) 22 22 rfl 5 Tryz.underlying22 (by kernel_rfl) w.heap.size 32 32 32 (by kernel_rfl) (some ⟨g, off + 32, none⟩) 32 32 (by kernel_rfl) 35 (Mur.attC K Mur.z32 0 Mur.z32) R (qT ch4 hb2) (Mur.byt_chg hb32 kk4 (fun g off e hl => trivial)) (by omega) (by omega) (by rw [Mur.attC_length hb0.1 rfl rfl]; omega) _ (Mur.att_sp32 hb0.1 rfl hb32.1)) ?_
 rintro _ W5 ⟨rfl, hb3, ch5⟩
 have zz5 := ch5.size
 have sS4 := kC sS3 ch5
 refine aN sS4<|dN<|sR<|rP 0 4 (vU 0)<|eN<|wp_seq<|sR<|rP 0 21 (.slice (some ⟨g, off, none⟩) 104 c)<|rq 1 22 (.slice (some ⟨g, off + 64, none⟩) 8 8) rfl (Mur.run_cut3 22 (.tmp 21) (some (.const (vI 64))) (.const (vI 72)) (.const (vI 72)) rfl 5 Tryz.underlying22 (by kernel_rfl) g off 104 c 64 72 72 8 (by kernel_rfl) (.inl (by kernel_rfl)) (by kernel_rfl) (by kernel_rfl) rfl rfl (by omega) (by omega))<|rP 2 23 (vI 8)<|rP 3 24 (vI 0)<|eN<|wp_block<|?_
 refine Wk.loopN 9 ?_
 refine Wk.rdS<|sR<|?_
 refine bT 0 25 ((0 : Int) < (8 : Int))<|eN<|wp_seq<|cT<|wp_skip<|nxt<|wp_seq<|wp_block<|sR<|rq 0 26 (pt g (off + 64 + 0 * 1)) rfl (iS 1 g (off + 64) 8 8 0) ?_
 have kk5 := kB kk4 ch5
 refine rq 1 27 _ rfl (ld 5 26 g (off + 64 + 0 * 1) (vB ((E.getD 0 0).toNat : Nat)) (Mur.byt_cell (Mur.byt_chg hb64 kk5 (fun g off e hl => trivial)) 0 (by omega)))<|rP 2 6 (vB ((E.getD 0 0).toNat : Nat))<|eN<|reg<|rP 0 28 (vU 0)<|rq 1 29 (vU (0 * 256 : Nat)) rfl (Mur.shl8_64 23 148 (.tmp 28) (.const (vU 8)) rfl 0 .u64 (by kernel_rfl) (by kernel_rfl) (by omega))<|rP 2 30 (vB ((E.getD 0 0).toNat : Nat))<|rq 3 31 (vU ((E.getD 0 0).toNat : Nat)) rfl (Mur.conv_int 5 23 (.tmp 30) rfl (by kernel_rfl) .u64 Tryz.underlying23 .u8 (((E.getD 0 0).toNat : Nat) : Int) (by kernel_rfl) (Mur.u64_nat (by omega)))<|rq 4 32 (vU (0 * 256 + (E.getD 0 0).toNat : Nat)) rfl (Mur.or64 23 23 (.tmp 29) (.tmp 31) rfl 0 (E.getD 0 0).toNat (by kernel_rfl) (by kernel_rfl) (by omega) (by omega))<|rP 5 4 (vU (0 * 256 + (E.getD 0 0).toNat : Nat))<|rE<|inN<|nxt<|reg<|rI 0 33 (0 + 1) (1)<|rP 1 24 (vI 1)<|eN<|Wk.rdS<|sR<|bT 0 25 ((1 : Int) < (8 : Int))<|eN<|wp_seq<|cT<|wp_skip<|nxt<|wp_seq<|wp_block<|sR<|rq 0 26 (pt g (off + 64 + 1 * 1)) rfl (iS 1 g (off + 64) 8 8 1)<|rq 1 27 _ rfl (ld 5 26 g (off + 64 + 1 * 1) (vB ((E.getD 1 0).toNat : Nat)) (Mur.byt_cell (Mur.byt_chg hb64 kk5 (fun g off e hl => trivial)) 1 (by omega)))<|rP 2 6 (vB ((E.getD 1 0).toNat : Nat))<|eN<|reg<|rP 0 28 (vU (0 * 256 + (E.getD 0 0).toNat : Nat))<|rq 1 29 (vU ((0 * 256 + (E.getD 0 0).toNat) * 256 : Nat)) rfl (Mur.shl8_64 23 148 (.tmp 28) (.const (vU 8)) rfl (0 * 256 + (E.getD 0 0).toNat) .u64 (by kernel_rfl) (by kernel_rfl) (by omega)) ?_
 refine rP 2 30 (vB ((E.getD 1 0).toNat : Nat))<|rq 3 31 (vU ((E.getD 1 0).toNat : Nat)) rfl (Mur.conv_int 5 23 (.tmp 30) rfl (by kernel_rfl) .u64 Tryz.underlying23 .u8 (((E.getD 1 0).toNat : Nat) : Int) (by kernel_rfl) (Mur.u64_nat (by omega)))<|rq 4 32 (vU ((0 * 256 + (E.getD 0 0).toNat) * 256 + (E.getD 1 0).toNat : Nat)) rfl (Mur.or64 23 23 (.tmp 29) (.tmp 31) rfl (0 * 256 + (E.getD 0 0).toNat) (E.getD 1 0).toNat (by kernel_rfl) (by kernel_rfl) (by omega) (by omega))<|rP 5 4 (vU ((0 * 256 + (E.getD 0 0).toNat) * 256 + (E.getD 1 0).toNat : Nat))<|rE<|inN<|nxt<|reg<|rI 0 33 (1 + 1) (2)<|rP 1 24 (vI 2)<|eN<|Wk.rdS<|sR<|bT 0 25 ((2 : Int) < (8 : Int))<|eN<|wp_seq<|cT<|wp_skip<|nxt<|wp_seq<|wp_block<|sR<|rq 0 26 (pt g (off + 64 + 2 * 1)) rfl (iS 1 g (off + 64) 8 8 2)<|rq 1 27 _ rfl (ld 5 26 g (off + 64 + 2 * 1) (vB ((E.getD 2 0).toNat : Nat)) (Mur.byt_cell (Mur.byt_chg hb64 kk5 (fun g off e hl => trivial)) 2 (by omega)))<|rP 2 6 (vB ((E.getD 2 0).toNat : Nat))<|eN<|reg<|rP 0 28 (vU ((0 * 256 + (E.getD 0 0).toNat) * 256 + (E.getD 1 0).toNat : Nat))<|rq 1 29 (vU (((0 * 256 + (E.getD 0 0).toNat) * 256 + (E.getD 1 0).toNat) * 256 : Nat)) rfl (Mur.shl8_64 23 148 (.tmp 28) (.const (vU 8)) rfl ((0 * 256 + (E.getD 0 0).toNat) * 256 + (E.getD 1 0).toNat) .u64 (by kernel_rfl) (by kernel_rfl) (by omega))<|rP 2 30 (vB ((E.getD 2 0).toNat : Nat))<|rq 3 31 (vU ((E.getD 2 0).toNat : Nat)) rfl (Mur.conv_int 5 23 (.tmp 30) rfl (by kernel_rfl) .u64 Tryz.underlying23 .u8 (((E.getD 2 0).toNat : Nat) : Int) (by kernel_rfl) (Mur.u64_nat (by omega))) ?_
 refine rq 4 32 (vU (((0 * 256 + (E.getD 0 0).toNat) * 256 + (E.getD 1 0).toNat) * 256 + (E.getD 2 0).toNat : Nat)) rfl (Mur.or64 23 23 (.tmp 29) (.tmp 31) rfl ((0 * 256 + (E.getD 0 0).toNat) * 256 + (E.getD 1 0).toNat) (E.getD 2 0).toNat (by kernel_rfl) (by kernel_rfl) (by omega) (by omega))<|rP 5 4 (vU (((0 * 256 + (E.getD 0 0).toNat) * 256 + (E.getD 1 0).toNat) * 256 + (E.getD 2 0).toNat : Nat))<|rE<|inN<|nxt<|reg<|rI 0 33 (2 + 1) (3)<|rP 1 24 (vI 3)<|eN<|Wk.rdS<|sR<|bT 0 25 ((3 : Int) < (8 : Int))<|eN<|wp_seq<|cT<|wp_skip<|nxt<|wp_seq<|wp_block<|sR<|rq 0 26 (pt g (off + 64 + 3 * 1)) rfl (iS 1 g (off + 64) 8 8 3)<|rq 1 27 _ rfl (ld 5 26 g (off + 64 + 3 * 1) (vB ((E.getD 3 0).toNat : Nat)) (Mur.byt_cell (Mur.byt_chg hb64 kk5 (fun g off e hl => trivial)) 3 (by omega)))<|rP 2 6 (vB ((E.getD 3 0).toNat : Nat))<|eN<|reg<|rP 0 28 (vU (((0 * 256 + (E.getD 0 0).toNat) * 256 + (E.getD 1 0).toNat) * 256 + (E.getD 2 0).toNat : Nat))<|rq 1 29 (vU ((((0 * 256 + (E.getD 0 0).toNat) * 256 + (E.getD 1 0).toNat) * 256 + (E.getD 2 0).toNat) * 256 : Nat)) rfl (Mur.shl8_64 23 148 (.tmp 28) (.const (vU 8)) rfl (((0 * 256 + (E.getD 0 0).toNat) * 256 + (E.getD 1 0).toNat) * 256 + (E.getD 2 0).toNat) .u64 (by kernel_rfl) (by kernel_rfl) (by omega))<|rP 2 30 (vB ((E.getD 3 0).toNat : Nat))<|rq 3 31 (vU ((E.getD 3 0).toNat : Nat)) rfl (Mur.conv_int 5 23 (.tmp 30) rfl (by kernel_rfl) .u64 Tryz.underlying23 .u8 (((E.getD 3 0).toNat : Nat) : Int) (by kernel_rfl) (Mur.u64_nat (by omega))) ?_
 refine rq 4 32 (vU ((((0 * 256 + (E.getD 0 0).toNat) * 256 + (E.getD 1 0).toNat) * 256 + (E.getD 2 0).toNat) * 256 + (E.getD 3 0).toNat : Nat)) rfl (Mur.or64 23 23 (.tmp 29) (.tmp 31) rfl (((0 * 256 + (E.getD 0 0).toNat) * 256 + (E.getD 1 0).toNat) * 256 + (E.getD 2 0).toNat) (E.getD 3 0).toNat (by kernel_rfl) (by kernel_rfl) (by omega) (by omega))<|rP 5 4 (vU ((((0 * 256 + (E.getD 0 0).toNat) * 256 + (E.getD 1 0).toNat) * 256 + (E.getD 2 0).toNat) * 256 + (E.getD 3 0).toNat : Nat))<|rE<|inN<|nxt<|reg<|rI 0 33 (3 + 1) (4)<|rP 1 24 (vI 4)<|eN<|Wk.rdS<|sR<|bT 0 25 ((4 : Int) < (8 : Int))<|eN<|wp_seq<|cT<|wp_skip<|nxt<|wp_seq<|wp_block<|sR<|rq 0 26 (pt g (off + 64 + 4 * 1)) rfl (iS 1 g (off + 64) 8 8 4)<|rq 1 27 _ rfl (ld 5 26 g (off + 64 + 4 * 1) (vB ((E.getD 4 0).toNat : Nat)) (Mur.byt_cell (Mur.byt_chg hb64 kk5 (fun g off e hl => trivial)) 4 (by omega)))<|rP 2 6 (vB ((E.getD 4 0).toNat : Nat))<|eN<|reg<|rP 0 28 (vU ((((0 * 256 + (E.getD 0 0).toNat) * 256 + (E.getD 1 0).toNat) * 256 + (E.getD 2 0).toNat) * 256 + (E.getD 3 0).toNat : Nat))<|rq 1 29 (vU (((((0 * 256 + (E.getD 0 0).toNat) * 256 + (E.getD 1 0).toNat) * 256 + (E.getD 2 0).toNat) * 256 + (E.getD 3 0).toNat) * 256 : Nat)) rfl (Mur.shl8_64 23 148 (.tmp 28) (.const (vU 8)) rfl ((((0 * 256 + (E.getD 0 0).toNat) * 256 + (E.getD 1 0).toNat) * 256 + (E.getD 2 0).toNat) * 256 + (E.getD 3 0).toNat) .u64 (by kernel_rfl) (by kernel_rfl) (by omega))<|rP 2 30 (vB ((E.getD 4 0).toNat : Nat)) ?_
 refine rq 3 31 (vU ((E.getD 4 0).toNat : Nat)) rfl (Mur.conv_int 5 23 (.tmp 30) rfl (by kernel_rfl) .u64 Tryz.underlying23 .u8 (((E.getD 4 0).toNat : Nat) : Int) (by kernel_rfl) (Mur.u64_nat (by omega)))<|rq 4 32 (vU (((((0 * 256 + (E.getD 0 0).toNat) * 256 + (E.getD 1 0).toNat) * 256 + (E.getD 2 0).toNat) * 256 + (E.getD 3 0).toNat) * 256 + (E.getD 4 0).toNat : Nat)) rfl (Mur.or64 23 23 (.tmp 29) (.tmp 31) rfl ((((0 * 256 + (E.getD 0 0).toNat) * 256 + (E.getD 1 0).toNat) * 256 + (E.getD 2 0).toNat) * 256 + (E.getD 3 0).toNat) (E.getD 4 0).toNat (by kernel_rfl) (by kernel_rfl) (by omega) (by omega))<|rP 5 4 (vU (((((0 * 256 + (E.getD 0 0).toNat) * 256 + (E.getD 1 0).toNat) * 256 + (E.getD 2 0).toNat) * 256 + (E.getD 3 0).toNat) * 256 + (E.getD 4 0).toNat : Nat))<|rE<|inN<|nxt<|reg<|rI 0 33 (4 + 1) (5)<|rP 1 24 (vI 5)<|eN<|Wk.rdS<|sR<|bT 0 25 ((5 : Int) < (8 : Int))<|eN<|wp_seq<|cT<|wp_skip<|nxt<|wp_seq<|wp_block<|sR<|rq 0 26 (pt g (off + 64 + 5 * 1)) rfl (iS 1 g (off + 64) 8 8 5)<|rq 1 27 _ rfl (ld 5 26 g (off + 64 + 5 * 1) (vB ((E.getD 5 0).toNat : Nat)) (Mur.byt_cell (Mur.byt_chg hb64 kk5 (fun g off e hl => trivial)) 5 (by omega)))<|rP 2 6 (vB ((E.getD 5 0).toNat : Nat))<|eN<|reg<|rP 0 28 (vU (((((0 * 256 + (E.getD 0 0).toNat) * 256 + (E.getD 1 0).toNat) * 256 + (E.getD 2 0).toNat) * 256 + (E.getD 3 0).toNat) * 256 + (E.getD 4 0).toNat : Nat))<|rq 1 29 (vU ((((((0 * 256 + (E.getD 0 0).toNat) * 256 + (E.getD 1 0).toNat) * 256 + (E.getD 2 0).toNat) * 256 + (E.getD 3 0).toNat) * 256 + (E.getD 4 0).toNat) * 256 : Nat)) rfl (Mur.shl8_64 23 148 (.tmp 28) (.const (vU 8)) rfl (((((0 * 256 + (E.getD 0 0).toNat) * 256 + (E.getD 1 0).toNat) * 256 + (E.getD 2 0).toNat) * 256 + (E.getD 3 0).toNat) * 256 + (E.getD 4 0).toNat) .u64 (by kernel_rfl) (by kernel_rfl) (by omega)) ?_
 refine rP 2 30 (vB ((E.getD 5 0).toNat : Nat))<|rq 3 31 (vU ((E.getD 5 0).toNat : Nat)) rfl (Mur.conv_int 5 23 (.tmp 30) rfl (by kernel_rfl) .u64 Tryz.underlying23 .u8 (((E.getD 5 0).toNat : Nat) : Int) (by kernel_rfl) (Mur.u64_nat (by omega)))<|rq 4 32 (vU ((((((0 * 256 + (E.getD 0 0).toNat) * 256 + (E.getD 1 0).toNat) * 256 + (E.getD 2 0).toNat) * 256 + (E.getD 3 0).toNat) * 256 + (E.getD 4 0).toNat) * 256 + (E.getD 5 0).toNat : Nat)) rfl (Mur.or64 23 23 (.tmp 29) (.tmp 31) rfl (((((0 * 256 + (E.getD 0 0).toNat) * 256 + (E.getD 1 0).toNat) * 256 + (E.getD 2 0).toNat) * 256 + (E.getD 3 0).toNat) * 256 + (E.getD 4 0).toNat) (E.getD 5 0).toNat (by kernel_rfl) (by kernel_rfl) (by omega) (by omega))<|rP 5 4 (vU ((((((0 * 256 + (E.getD 0 0).toNat) * 256 + (E.getD 1 0).toNat) * 256 + (E.getD 2 0).toNat) * 256 + (E.getD 3 0).toNat) * 256 + (E.getD 4 0).toNat) * 256 + (E.getD 5 0).toNat : Nat))<|rE<|inN<|nxt<|reg<|rI 0 33 (5 + 1) (6)<|rP 1 24 (vI 6)<|eN<|Wk.rdS<|sR<|bT 0 25 ((6 : Int) < (8 : Int))<|eN<|wp_seq<|cT<|wp_skip<|nxt<|wp_seq<|wp_block<|sR<|rq 0 26 (pt g (off + 64 + 6 * 1)) rfl (iS 1 g (off + 64) 8 8 6)<|rq 1 27 _ rfl (ld 5 26 g (off + 64 + 6 * 1) (vB ((E.getD 6 0).toNat : Nat)) (Mur.byt_cell (Mur.byt_chg hb64 kk5 (fun g off e hl => trivial)) 6 (by omega)))<|rP 2 6 (vB ((E.getD 6 0).toNat : Nat))<|eN<|reg<|rP 0 28 (vU ((((((0 * 256 + (E.getD 0 0).toNat) * 256 + (E.getD 1 0).toNat) * 256 + (E.getD 2 0).toNat) * 256 + (E.getD 3 0).toNat) * 256 + (E.getD 4 0).toNat) * 256 + (E.getD 5 0).toNat : Nat)) ?_
 refine rq 1 29 (vU (((((((0 * 256 + (E.getD 0 0).toNat) * 256 + (E.getD 1 0).toNat) * 256 + (E.getD 2 0).toNat) * 256 + (E.getD 3 0).toNat) * 256 + (E.getD 4 0).toNat) * 256 + (E.getD 5 0).toNat) * 256 : Nat)) rfl (Mur.shl8_64 23 148 (.tmp 28) (.const (vU 8)) rfl ((((((0 * 256 + (E.getD 0 0).toNat) * 256 + (E.getD 1 0).toNat) * 256 + (E.getD 2 0).toNat) * 256 + (E.getD 3 0).toNat) * 256 + (E.getD 4 0).toNat) * 256 + (E.getD 5 0).toNat) .u64 (by kernel_rfl) (by kernel_rfl) (by omega))<|rP 2 30 (vB ((E.getD 6 0).toNat : Nat))<|rq 3 31 (vU ((E.getD 6 0).toNat : Nat)) rfl (Mur.conv_int 5 23 (.tmp 30) rfl (by kernel_rfl) .u64 Tryz.underlying23 .u8 (((E.getD 6 0).toNat : Nat) : Int) (by kernel_rfl) (Mur.u64_nat (by omega)))<|rq 4 32 (vU (((((((0 * 256 + (E.getD 0 0).toNat) * 256 + (E.getD 1 0).toNat) * 256 + (E.getD 2 0).toNat) * 256 + (E.getD 3 0).toNat) * 256 + (E.getD 4 0).toNat) * 256 + (E.getD 5 0).toNat) * 256 + (E.getD 6 0).toNat : Nat)) rfl (Mur.or64 23 23 (.tmp 29) (.tmp 31) rfl ((((((0 * 256 + (E.getD 0 0).toNat) * 256 + (E.getD 1 0).toNat) * 256 + (E.getD 2 0).toNat) * 256 + (E.getD 3 0).toNat) * 256 + (E.getD 4 0).toNat) * 256 + (E.getD 5 0).toNat) (E.getD 6 0).toNat (by kernel_rfl) (by kernel_rfl) (by omega) (by omega))<|rP 5 4 (vU (((((((0 * 256 + (E.getD 0 0).toNat) * 256 + (E.getD 1 0).toNat) * 256 + (E.getD 2 0).toNat) * 256 + (E.getD 3 0).toNat) * 256 + (E.getD 4 0).toNat) * 256 + (E.getD 5 0).toNat) * 256 + (E.getD 6 0).toNat : Nat)) ?_
 refine rE<|inN<|nxt<|reg<|rI 0 33 (6 + 1) (7)<|rP 1 24 (vI 7)<|eN<|Wk.rdS<|sR<|bT 0 25 ((7 : Int) < (8 : Int))<|eN<|wp_seq<|cT<|wp_skip<|nxt<|wp_seq<|wp_block<|sR<|rq 0 26 (pt g (off + 64 + 7 * 1)) rfl (iS 1 g (off + 64) 8 8 7)<|rq 1 27 _ rfl (ld 5 26 g (off + 64 + 7 * 1) (vB ((E.getD 7 0).toNat : Nat)) (Mur.byt_cell (Mur.byt_chg hb64 kk5 (fun g off e hl => trivial)) 7 (by omega)))<|rP 2 6 (vB ((E.getD 7 0).toNat : Nat))<|eN<|reg<|rP 0 28 (vU (((((((0 * 256 + (E.getD 0 0).toNat) * 256 + (E.getD 1 0).toNat) * 256 + (E.getD 2 0).toNat) * 256 + (E.getD 3 0).toNat) * 256 + (E.getD 4 0).toNat) * 256 + (E.getD 5 0).toNat) * 256 + (E.getD 6 0).toNat : Nat))<|rq 1 29 (vU ((((((((0 * 256 + (E.getD 0 0).toNat) * 256 + (E.getD 1 0).toNat) * 256 + (E.getD 2 0).toNat) * 256 + (E.getD 3 0).toNat) * 256 + (E.getD 4 0).toNat) * 256 + (E.getD 5 0).toNat) * 256 + (E.getD 6 0).toNat) * 256 : Nat)) rfl (Mur.shl8_64 23 148 (.tmp 28) (.const (vU 8)) rfl (((((((0 * 256 + (E.getD 0 0).toNat) * 256 + (E.getD 1 0).toNat) * 256 + (E.getD 2 0).toNat) * 256 + (E.getD 3 0).toNat) * 256 + (E.getD 4 0).toNat) * 256 + (E.getD 5 0).toNat) * 256 + (E.getD 6 0).toNat) .u64 (by kernel_rfl) (by kernel_rfl) (by omega))<|rP 2 30 (vB ((E.getD 7 0).toNat : Nat))<|rq 3 31 (vU ((E.getD 7 0).toNat : Nat)) rfl (Mur.conv_int 5 23 (.tmp 30) rfl (by kernel_rfl) .u64 Tryz.underlying23 .u8 (((E.getD 7 0).toNat : Nat) : Int) (by kernel_rfl) (Mur.u64_nat (by omega)))<|rq 4 32 (vU ((((((((0 * 256 + (E.getD 0 0).toNat) * 256 + (E.getD 1 0).toNat) * 256 + (E.getD 2 0).toNat) * 256 + (E.getD 3 0).toNat) * 256 + (E.getD 4 0).toNat) * 256 + (E.getD 5 0).toNat) * 256 + (E.getD 6 0).toNat) * 256 + (E.getD 7 0).toNat : Nat)) rfl (Mur.or64 23 23 (.tmp 29) (.tmp 31) rfl (((((((0 * 256 + (E.getD 0 0).toNat) * 256 + (E.getD 1 0).toNat) * 256 + (E.getD 2 0).toNat) * 256 + (E.getD 3 0).toNat) * 256 + (E.getD 4 0).toNat) * 256 + (E.getD 5 0).toNat) * 256 + (E.getD 6 0).toNat) (E.getD 7 0).toNat (by kernel_rfl) (by kernel_rfl) (by omega) (by omega)) ?_
 refine rP 5 4 (vU ((((((((0 * 256 + (E.getD 0 0).toNat) * 256 + (E.getD 1 0).toNat) * 256 + (E.getD 2 0).toNat) * 256 + (E.getD 3 0).toNat) * 256 + (E.getD 4 0).toNat) * 256 + (E.getD 5 0).toNat) * 256 + (E.getD 6 0).toNat) * 256 + (E.getD 7 0).toNat : Nat))<|rE<|inN<|nxt<|reg<|rI 0 33 (7 + 1) (8)<|rP 1 24 (vI 8)<|eN<|Wk.rdS<|sR<|bF 0 25 ((8 : Int) < (8 : Int))<|eN<|wp_seq<|cF<|xX<|nxt<|wp_seq<|sR<|rq 0 34 (vU V) rfl (Wk.val (v := vU ((((((((0 * 256 + (E.getD 0 0).toNat) * 256 + (E.getD 1 0).toNat) * 256 + (E.getD 2 0).toNat) * 256 + (E.getD 3 0).toNat) * 256 + (E.getD 4 0).toNat) * 256 + (E.getD 5 0).toNat) * 256 + (E.getD 6 0).toNat) * 256 + (E.getD 7 0).toNat : Nat)) (congrArg (fun z : Nat => Value.int .u64 (z : Int)) hV) (by kernel_rfl)) ?_
 by_cases hx1 : (V : Int) < (1 : Int)
 ·refine bT 1 35 ((V : Int) < (1 : Int))<|rP 2 36 vT<|rZ 3 37<|rZ 4 38<|rP 5 39 vT<|eN<|cT<|sR<|rP 0 40 (.agg ((Mur.attC Mur.z32 Mur.z32 0 Mur.z32).toArray))<|rU 1 rfl (sB (Mur.attC Mur.z32 Mur.z32 0 Mur.z32).toArray (Mur.attC_size rfl rfl rfl) Mur.attC_all hb3 (Mur.attC_size hb0.1 hb32.1 rfl)) fun W6 hb4 ch6 zz6 => rP 2 3 (vI 5)<|eN<|tR<|?_
  exfalso; omega
 refine bF 1 35 ((V : Int) < (1 : Int))<|rP 2 36 vF<|rq 3 37 (vU V) rfl (Wk.val (v := vU ((((((((0 * 256 + (E.getD 0 0).toNat) * 256 + (E.getD 1 0).toNat) * 256 + (E.getD 2 0).toNat) * 256 + (E.getD 3 0).toNat) * 256 + (E.getD 4 0).toNat) * 256 + (E.getD 5 0).toNat) * 256 + (E.getD 6 0).toNat) * 256 + (E.getD 7 0).toNat : Nat)) (congrArg (fun z : Nat => Value.int .u64 (z : Int)) hV) (by kernel_rfl)) ?_
 by_cases hx2 : (V : Int) > (5000 : Int)
 ·refine bT 4 38 ((V : Int) > (5000 : Int))<|rP 5 39 vT<|eN<|cT<|sR<|rP 0 40 (.agg ((Mur.attC Mur.z32 Mur.z32 0 Mur.z32).toArray))<|rU 1 rfl (sB (Mur.attC Mur.z32 Mur.z32 0 Mur.z32).toArray (Mur.attC_size rfl rfl rfl) Mur.attC_all hb3 (Mur.attC_size hb0.1 hb32.1 rfl)) fun W7 hb5 ch7 zz7 => rP 2 3 (vI 5)<|eN<|tR<|?_
  exfalso; omega
 refine bF 4 38 ((V : Int) > (5000 : Int))<|rP 5 39 vF<|eN<|cF<|wp_skip<|nxt<|sR<|rq 0 41 (vU V) rfl (Wk.val (v := vU ((((((((0 * 256 + (E.getD 0 0).toNat) * 256 + (E.getD 1 0).toNat) * 256 + (E.getD 2 0).toNat) * 256 + (E.getD 3 0).toNat) * 256 + (E.getD 4 0).toNat) * 256 + (E.getD 5 0).toNat) * 256 + (E.getD 6 0).toNat) * 256 + (E.getD 7 0).toNat : Nat)) (congrArg (fun z : Nat => Value.int .u64 (z : Int)) hV) (by kernel_rfl))<|rq 1 42 (vI V) rfl (Mur.conv_int 23 3 (.tmp 41) rfl (by kernel_rfl) .i64 Tryz.underlying3 .u64 (V : Int) (by kernel_rfl) (Mur.i64_nat (by omega)))<|rP 2 43 (pw w 64)<|rU 3 rfl (Mur.store_len 3 (.tmp 43) (.tmp 42) rfl (by kernel_rfl) w.heap.size (by kernel_rfl) (V : Int) (by kernel_rfl) 35 K R Mur.z32 0 hb0.1 hb32.1 rfl hb3) fun W8 hb6 ch8 zz8 => eN<|wp_seq<|?_
 refine dReg ([w.heap.size]) (by kernel_rfl) ?_
 intro W9 ch9 sz4
 have zz9 := ch9.size
 have sS5 : Chg ([w.heap.size]) W9 W9 := (Chg.refl _).more (by simp)
 refine dW 0 44 (pw w 65) sS5<|dV 1 45 (.slice (some ⟨w.heap.size, 65, none⟩) 32 32) rfl rfl (fun w' hw' => Mur.arr_slice_at 28 5 (.tmp 44) 32 rfl Tryz.underlying28 (by kernel_rfl) w.heap.size 65 (by kernel_rfl)) sS5<|dW 2 46 (.slice (some ⟨g, off, none⟩) 104 c) sS5<|dV 3 47 (.slice (some ⟨g, off + 72, none⟩) 32 (c - 72)) rfl rfl (fun w' hw' => Mur.run_from_at 22 (.tmp 46) (.const (vI 72)) rfl 5 Tryz.underlying22 (by kernel_rfl) g off 104 c 72 32 (by kernel_rfl) (by kernel_rfl) (by omega) (by omega) rfl) sS5<|dO 4 ?_
 have kk7 := kA (kB kk5 ch8) ch9
 refine oEx (some 48) _ rfl rfl (by kernel_rfl) (Mur.copy_mid (.tmp 45) (.tmp 47) 22 22 rfl 5 Tryz.underlying22 (by kernel_rfl) w.heap.size 65 32 32 (by kernel_rfl) (some ⟨g, off + 72, none⟩) 32 (c - 72) (by kernel_rfl) 35 (Mur.attC K R (V : Int) Mur.z32) T (qT ch9 hb6) (Mur.byt_chg hb72 kk7 (fun g off e hl => trivial)) (by omega) (by omega) (by rw [Mur.attC_length hb0.1 hb32.1 rfl]; omega) _ (Mur.att_sp65 hb0.1 hb32.1 rfl hb72.1)) ?_
 rintro _ W10 ⟨rfl, hb7, ch10⟩
 have zz10 := ch10.size
 have sS6 := kC sS5 ch10
 exact aN sS6<|dN<|sR<|rq 0 49 _ rfl (lA hb7 (Mur.attC_size hb0.1 hb32.1 hb72.1))<|rU 1 rfl (sB (Mur.attC K R (V : Int) T).toArray (Mur.attC_size hb0.1 hb32.1 hb72.1) Mur.attC_all hb7 (Mur.attC_size hb0.1 hb32.1 hb72.1)) fun W11 hb8 ch11 zz11 => rP 2 3 (vI 0)<|eN<|wp_ret<|Wk.ret (.tuple #[.agg (Mur.attC K R (V : Int) T).toArray, vI 0]) rfl (results_att rfl _ _ w.heap.size (Mur.attC K R (V : Int) T).toArray (0, 0) (vI 0) (by kernel_rfl) hb8 (Mur.attC_size hb0.1 hb32.1 hb72.1) (by kernel_rfl)) ⟨rfl, (kB (kB kk7 ch10) ch11)⟩
end Go.Proofs.YtgbadghjnpbiaaaGreatDoor
namespace Go.Proofs.YtgbadghjnpbiaaaGreatDoor
open Go.RowKit Wk
open Mur (b8s Byt Own8 Seg Segs flat cutA attC)
set_option maxRecDepth 100000
set_option maxHeartbeats 4000000
theorem Bytes_ok (k r t : List UInt8) (n : Int) (hk : k.length = 32) (hr : r.length = 32) (ht : t.length = 32) (w : World) (hm : Mur.may n) : Calls Tryz.prog 23 #[.agg (attC k r n t).toArray] w fun e w' => ∃ q cq B, Hid (B = Mur.rawL k r n t) ∧ e = .returned (.tuple #[.slice (some ⟨q, 0, none⟩) 104 cq, vI 0]) ∧ Byt w' (some ⟨q, 0, none⟩) 104 B ∧ (w.heap.size ≤ q ∧ q < w'.heap.size) ∧ (104 ≤ cq ∧ cq ≤ 9223372036854775807) ∧ Chg [] w w' := by
 refine calls_of_wp Tryz.func23 rfl ?_
 refine sR<|nW 0 1 ((Mur.attC k r n t).toArray) 35 fun W1 hb1 ch1 sz1 => rP 1 2 (.slice none 0 0)<|rP 2 3 (vI 0)<|eN<|wp_seq<|sR<|rq 0 4 _ rfl (lA hb1 (Mur.attC_size hk hr ht))<|rK 1 5 (may_any k r t n hk hr ht W1) ?_
 rw [decide_eq_true (hm : Mur.may n)]
 rintro _ W2 ⟨rfl, ch2⟩
 have zz2 := ch2.size
 refine rP 2 6 vF<|eN<|cF<|wp_skip<|nxt<|sR<|rq 0 7 _ rfl (lA (qT ch2 hb1) (Mur.attC_size hk hr ht))<|rK 1 8 (raw_any k r t n hk hr ht W2) ?_
 rintro _ W3 ⟨qr1, cr1, RB1, hRB1, rfl, hbr1, hq1, hq2, ch3⟩
 have zz3 := ch3.size
 have hBt1 : ∀ g off, (some ⟨qr1, 0, none⟩ : Option Addr) = some ⟨g, off, none⟩ → W2.heap.size ≤ g ∧ g < W3.heap.size := fun g off e => by cases e; exact hq1
 exact rP 2 2 (.slice (some ⟨qr1, 0, none⟩) 104 cr1)<|rP 3 3 (vI 0)<|eN<|wp_ret<|rt (.tuple #[.slice (some ⟨qr1, 0, none⟩) 104 cr1, vI 0]) ⟨_, _, _, hRB1, rfl, hbr1, ⟨by omega, by omega⟩, ⟨by omega, by omega⟩, (kA (kA (zA ch1 : Chg [] w W1) ch2) ch3)⟩
theorem Bytes_no (k r t : List UInt8) (n : Int) (hk : k.length = 32) (hr : r.length = 32) (ht : t.length = 32) (w : World) (hm : ¬ Mur.may n) : Calls Tryz.prog 23 #[.agg (attC k r n t).toArray] w fun e w' => e = .returned (.tuple #[.slice none 0 0, vI 2]) ∧ Chg [] w w' := by
 refine calls_of_wp Tryz.func23 rfl ?_
 refine sR<|nW 0 1 ((Mur.attC k r n t).toArray) 35 fun W1 hb1 ch1 sz1 => rP 1 2 (.slice none 0 0)<|rP 2 3 (vI 0)<|eN<|wp_seq<|sR<|rq 0 4 _ rfl (lA hb1 (Mur.attC_size hk hr ht))<|rK 1 5 (may_any k r t n hk hr ht W1) ?_
 rw [decide_eq_false (hm : ¬ Mur.may n)]
 rintro _ W2 ⟨rfl, ch2⟩
 have zz2 := ch2.size
 exact rP 2 6 vT<|eN<|cT<|sR<|rP 0 2 (.slice none 0 0)<|rP 1 3 (vI 2)<|eN<|tR<|rt (.tuple #[.slice none 0 0, vI 2]) ⟨rfl, (kA (zA ch1 : Chg [] w W1) ch2)⟩
end Go.Proofs.YtgbadghjnpbiaaaGreatDoor
namespace Go.Proofs.YtgbadghjnpbiaaaGreatDoor
open Go.RowKit Wk
open Mur (b8s Byt Own8 Seg Segs flat cutA attC Att SlA OwnA rowA msgC newOr_iff u64n)
set_option maxRecDepth 100000
set_option maxHeartbeats 4000000
theorem Wdigest_any (g base : Nat) (A : Option Addr) (n c : Nat) (b : List UInt8) (x : List UInt8) (w : World) (hg : w.heap[g]? = some (.cells #[.slice A n c] 79 (0, 0))) (hbs : g < base ∧ base ≤ w.heap.size) (ho : Own8 w base 5 A n c b) (hn : n ≤ 3000000) (hx : x.length = 32) : Calls Tryz.prog 46 #[pt g 0, .agg (b8s x).toArray] w fun e w' => ∃ A1 n1 c1, e = .returned (.tuple #[]) ∧ w'.heap[g]? = some (.cells #[.slice A1 n1 c1] 79 (0, 0)) ∧ Own8 w' base 5 A1 n1 c1 (b ++ x) ∧ n1 ≤ n + 32 ∧ Chg ([g] ++ Wk.blk (.slice A n c)) w w' := by
 have hgl_ := (Array.getElem?_eq_some_iff.1 hg).1
 have hon_ := ho.nc
 have hoc_ := ho.cm
 have hol_ := ho.byt.1
 have hn_ := hn
 have hbs_ := hbs
 have holt_ := ho.lt
 refine calls_of_wp Tryz.func46 rfl ?_
 refine sR<|nW 0 3 ((b8s x).toArray) 28 fun W1 hb1 ch1 sz1 => eN<|?_
 refine dReg (([g] ++ Wk.blk (.slice A n c))) (by kernel_rfl) ?_
 intro W2 ch2 sz2
 have zz2 := ch2.size
 have sS1 : Chg (([g] ++ Wk.blk (.slice A n c))) W2 W2 := (Chg.refl _).more (by simp)
 refine dW 0 4 (pt g 0) sS1<|dW 1 5 (pt g 0) sS1<|dW 2 6 (pt g 0) sS1<|dW 3 7 (pt g 0) sS1<|dV 5 9 (.slice (some ⟨w.heap.size, 0, none⟩) 32 32) rfl rfl (fun w' hw' => Mur.arr_slice 28 5 (.tmp 3) 32 rfl Tryz.underlying28 (by kernel_rfl) w.heap.size (by kernel_rfl)) sS1<|dO 4 ?_
 refine Wk.oVal (some 8) (.slice A n c) rfl rfl (by kernel_rfl) (ld 22 7 g 0 (.slice A n c) ((cell_of_row _ _ 0 _ _ _ (qT ch2 (qT ch1 hg))).trans rfl)) ?_
 refine aN sS1<|dO 6<|oEx (some 10) _ rfl rfl (by kernel_rfl) (ap8 32 32 (oA (oA ho ch1) ch2).own (Mur.byt_blk x hx (qT ch2 hb1)) (fun h => by cases h) (n + 32) (b ++ x)) ?_
 rintro _ W3 ⟨AA1, nn1, rfl, ow3, ch3, ha1⟩
 have zz3 := ch3.size
 have hq1 := ow3.nc
 have hq2 := ow3.cm
 have sS2 := Chg.step sS1 ch3 (newOr_iff.2 (fun t ht => .inl (List.mem_append_right _ ht)))
 refine aN sS2<|dW 7 11 (pt g 0) sS2<|dW 8 12 (pt g 0) sS2<|dO 9<|oU rfl (sW 0 (.slice AA1 (n + 32) nn1) (Chg.hp ch3 (qT ch2 (qT ch1 hg)) (off_blk (fun gz hgz => by have := ho.lt gz hgz; omega)))) fun W4 hb2 ch4 _ => ?_
 replace hb2 : W4.heap[g]? = some (.cells #[.slice AA1 (n + 32) nn1] 79 (0, 0)) := hb2
 have zz4 := ch4.size
 have sS3 := kC sS2 ch4
 exact aN sS3<|dE<|Wk.retN (.tuple #[]) rfl (by kernel_rfl) ⟨AA1, n + 32, nn1, rfl, hb2, (oB ow3 ch4 ow3.lt), by omega, (kC (Chg.step (kA (zA ch1 : Chg ([g] ++ Wk.blk (.slice A n c)) (w) W1) ch2) ch3 (newOr_iff.2 (fun t ht => .inl (List.mem_append_right _ ht)))) ch4)⟩
theorem Wattest_any (g base : Nat) (A : Option Addr) (n c : Nat) (b : List UInt8) (x : Att) (w : World) (hg : w.heap[g]? = some (.cells #[.slice A n c] 79 (0, 0))) (hbs : g < base ∧ base ≤ w.heap.size) (ho : Own8 w base 5 A n c b) (hn : n ≤ 3000000) (hm : Mur.may x.n) : Calls Tryz.prog 48 #[pt g 0, .agg (attC x.k x.r x.n x.t).toArray] w fun e w' => ∃ A1 n1 c1, e = .returned (.tuple #[]) ∧ w'.heap[g]? = some (.cells #[.slice A1 n1 c1] 79 (0, 0)) ∧ Own8 w' base 5 A1 n1 c1 (b ++ x.raw) ∧ n1 ≤ n + 104 ∧ Chg ([g] ++ Wk.blk (.slice A n c)) w w' := by
 have hgl_ := (Array.getElem?_eq_some_iff.1 hg).1
 have hon_ := ho.nc
 have hoc_ := ho.cm
 have hol_ := ho.byt.1
 have hn_ := hn
 have hbs_ := hbs
 have holt_ := ho.lt
 refine calls_of_wp Tryz.func48 rfl ?_
 refine sR<|nW 0 3 ((Mur.attC x.k x.r x.n x.t).toArray) 35 fun W1 hb1 ch1 sz1 => eN<|sR<|rq 0 7 _ rfl (lA hb1 (Mur.attC_size x.hk x.hr x.ht))<|rK 1 8 (Bytes_ok x.k x.r x.t x.n x.hk x.hr x.ht W1 hm) ?_
 rintro _ W2 ⟨qr1, cr1, RB1, hRB1, rfl, hbr1, hq1, hq2, ch2⟩
 have zz2 := ch2.size
 have hBt1 : ∀ g off, (some ⟨qr1, 0, none⟩ : Option Addr) = some ⟨g, off, none⟩ → W1.heap.size ≤ g ∧ g < W2.heap.size := fun g off e => by cases e; exact hq1
 refine rP 2 6 (.tuple #[.slice (some ⟨qr1, 0, none⟩) 104 cr1, vI 0])<|rP 3 9 (.slice (some ⟨qr1, 0, none⟩) 104 cr1)<|rP 4 10 (vI 0)<|rP 5 4 (.slice (some ⟨qr1, 0, none⟩) 104 cr1)<|rP 6 5 (vI 0)<|eN<|reg<|rP 0 11 (pt g 0)<|rP 1 12 (pt g 0)<|rP 2 13 (pt g 0)<|rP 3 14 (pt g 0)<|rL 4 15 0 (.slice A n c) (qT ch2 (qT ch1 hg))<|rP 5 16 (.slice (some ⟨qr1, 0, none⟩) 104 cr1)<|rX 6 17 rfl rfl (ap8 104 cr1 (oA (oA ho ch1) ch2).own hbr1 (fun h => by cases h) (n + 104) (b ++ RB1)) ?_
 rintro _ W3 ⟨AA1, nn1, rfl, ow3, ch3, ha1⟩
 have zz3 := ch3.size
 have hq3 := ow3.nc
 have hq4 := ow3.cm
 refine rP 7 18 (pt g 0)<|rP 8 19 (pt g 0)<|rU 9 rfl (sW 0 (.slice AA1 (n + 104) nn1) (Chg.hp ch3 (qT ch2 (qT ch1 hg)) (off_blk (fun gz hgz => by have := ho.lt gz hgz; omega)))) fun W4 hb2 ch4 _ => ?_
 replace hb2 : W4.heap[g]? = some (.cells #[.slice AA1 (n + 104) nn1] 79 (0, 0)) := hb2
 have zz4 := ch4.size
 refine rE<|?_
 have hH_ := (oB ow3 ch4 ow3.lt)
 rw [hRB1.out] at hH_
 exact Wk.retN (.tuple #[]) rfl (by kernel_rfl) ⟨AA1, n + 104, nn1, rfl, hb2, hH_, by omega, (kC (Chg.step (kA (zA ch1 : Chg ([g] ++ Wk.blk (.slice A n c)) (w) W1) ch2) ch3 (newOr_iff.2 (fun t ht => .inl (List.mem_append_right _ ht)))) ch4)⟩
theorem Wupdate_any (g base : Nat) (A : Option Addr) (n c : Nat) (b : List UInt8) (u : Int × UInt8 × Nat) (w : World) (hg : w.heap[g]? = some (.cells #[.slice A n c] 79 (0, 0))) (hbs : g < base ∧ base ≤ w.heap.size) (ho : Own8 w base 5 A n c b) (hn : n ≤ 3000000) (hu : u.2.2 < 18446744073709551616) : Calls Tryz.prog 44 #[pt g 0, .agg (Mur.updC u).toArray] w fun e w' => ∃ A1 n1 c1, e = .returned (.tuple #[]) ∧ w'.heap[g]? = some (.cells #[.slice A1 n1 c1] 79 (0, 0)) ∧ Own8 w' w.heap.size 5 A1 n1 c1 (b ++ Mur.enc3 u) ∧ n1 ≤ n + 27 ∧ Chg [g] w w' := by
 have hgl_ := (Array.getElem?_eq_some_iff.1 hg).1
 have hon_ := ho.nc
 have hoc_ := ho.cm
 have hol_ := ho.byt.1
 have hn_ := hn
 have hbs_ := hbs
 have holt_ := ho.lt
 refine calls_of_wp Tryz.func44 rfl ?_
 have hu8_ := u.2.1.toNat_lt
 refine sR<|nW 0 3 #[vI u.1, vB u.2.1.toNat, vU u.2.2] 61 fun W1 hb1 ch1 sz1 => eN<|reg<|rP 0 4 (pt g 0)<|rP 1 5 (pw w 0)<|rL 2 6 0 (vI u.1) hb1<|rq 3 7 (vU (u64n u.1 : Nat)) rfl (Mur.conv_u64n 3 23 (.tmp 6) rfl (by kernel_rfl) Tryz.underlying23 .i64 u.1 (by kernel_rfl))<|rP 4 8 (pw w 1)<|rL 5 9 1 (vB u.2.1.toNat) hb1<|rq 6 10 (vU u.2.1.toNat) rfl (Mur.conv_int 5 23 (.tmp 9) rfl (by kernel_rfl) .u64 Tryz.underlying23 .u8 (u.2.1.toNat : Int) (by kernel_rfl) (Mur.u64_nat (n := u.2.1.toNat) (by omega)))<|rP 7 11 (pw w 2)<|rL 8 12 2 (vU u.2.2) hb1<|nS 9 13 3 #[vU (u64n u.1 : Nat), vU u.2.1.toNat, vU u.2.2] 23 fun W2 hb2 ch2 sz2 => rK 10 14 (Wuint3_any g base A n c b W1.heap.size (u64n u.1) u.2.1.toNat u.2.2 W2 (qT ch2 (qT ch1 hg)) ⟨by omega, by omega⟩ (oA (oA ho ch1) ch2) (by omega) hb2 (by omega) (Mur.u64n_lt _) (by omega) hu) ?_
 rintro _ W3 ⟨AA1, nn1, cc1, rfl, hgw1, ow3, hle1, ch3⟩
 have zz3 := ch3.size
 have hq1 := ow3.nc
 have hq2 := ow3.cm
 have hq3 := ow3.byt.1
 refine rE<|?_
 have hH_ := ow3
 rw [List.append_assoc, List.append_assoc] at hH_; rw [show Mur.enc3 u = _ from List.append_assoc _ _ _]
 exact Wk.retN (.tuple #[]) rfl (by kernel_rfl) ⟨AA1, nn1, cc1, rfl, hgw1, Mur.own8_low hH_ (by omega), by omega, (kC (kA (zA ch1 : Chg [g] (w) W1) ch2) ch3)⟩
end Go.Proofs.YtgbadghjnpbiaaaGreatDoor
