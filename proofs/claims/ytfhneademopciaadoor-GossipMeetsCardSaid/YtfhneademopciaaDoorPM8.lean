/- slices.Insert of a result. adverts: New, Add, Has, Len. adverts: below, and what it tells. adverts: what is below a prefix, collected. -/
import Derived.Test.YtfhneademopciaaDoorPM7
import Derived.Test.YtfhneademopciaaDoorPM4
namespace Go.Proofs.YtfhneademopciaaDoor
open Go.RowKit
open Mur (b8s Byt Own8 Seg Segs flat cutA attC Att SlA OwnA rowA)
set_option maxRecDepth 100000
set_option maxHeartbeats 4000000
theorem Insert_app (L : List Att) (base : Nat) (A : Option Addr) (n c : Nat) (x : Att) (q : Nat) (w : World) (h : OwnA w base 32 A n c L) (hn : n ≤ 100000) (hbase : base ≤ w.heap.size) (hq : w.heap[q]? = some (.cells (attC x.k x.r x.n x.t).toArray 32 (0, 0))) (_hqA : ∀ g, (Value.slice A n c).ownBlock = some g → g ≠ q) : Calls Tryd.prog 41 #[.slice A n c, .int .i64 ((n : Nat) : Int), .slice (some ⟨q, 0, none⟩) 1 1] w fun e w' => ∃ A1 c1, e = .returned (.slice A1 (n + 1) c1) ∧ OwnA w' base 32 A1 (n + 1) c1 (L.take n ++ x :: L.drop n) ∧ Wk.Chg (Wk.blk (.slice A n c)) w w' ∧ (∀ q', (Value.slice A1 (n + 1) c1).ownBlock = some q' → (Value.slice A n c).ownBlock = some q' ∨ w.heap.size ≤ q') := by
 have hl := h.sl.len
 have hcn := h.nc
 have hcmx := h.cm
 have hql := (Array.getElem?_eq_some_iff.1 hq).1
 refine calls_of_wp Tryd.func41 rfl ?_
 refine wp_seq (Wk.reg ?_)
 refine Wk.rP 0 6 (.slice none 0 0) rfl rfl ?_
 refine Wk.rEnd 1 rfl (Wk.nxt (wp_seq (Wk.reg ?_)))
 refine Wk.rP 0 10 (.slice A n c) rfl rfl ?_
 refine Wk.rP 1 11 (.int .i64 ((n : Nat) : Int)) rfl rfl ?_
 refine Wk.rQ 2 12 (.slice (if c = n then A else (A : Option Addr).map (·.add (n * 97))) (n - n) (c - n)) rfl rfl (Mur.run_fromK 22 (.tmp 10) (.tmp 11) rfl 32 Tryd.underlying22 97 (by kernel_rfl) A n c n (by kernel_rfl) (by kernel_rfl) (by omega) _ rfl) ?_
 refine Wk.rEnd 3 rfl (Wk.nxt (wp_seq (Wk.reg ?_)))
 refine Wk.rP 0 13 (.slice (some ⟨q, 0, none⟩) 1 1) rfl rfl ?_
 refine Wk.rP 1 14 (.int .i64 1) rfl rfl ?_
 refine Wk.rP 2 7 (.int .i64 1) rfl rfl ?_
 refine Wk.rEnd 3 rfl (Wk.nxt (wp_seq (wp_seq (Wk.reg ?_))))
 refine Wk.rP 0 15 (.int .i64 1) rfl rfl ?_
 refine Wk.rQ 1 16 (.bool false) rfl rfl (Wk.boolF (b := ((1 : Int) == (0 : Int))) (beq_eq_false_iff_ne.2 (by decide)) (by kernel_rfl)) ?_
 refine Wk.rEnd 2 rfl (Wk.nxt (wp_cond_false (by kernel_rfl) (wp_skip (Wk.nxt (wp_seq (Wk.reg ?_))))))
 refine Wk.rP 0 18 (.slice A n c) rfl rfl ?_
 refine Wk.rP 1 19 (.int .i64 ((n : Nat) : Int)) rfl rfl ?_
 refine Wk.rP 2 8 (.int .i64 ((n : Nat) : Int)) rfl rfl ?_
 refine Wk.rEnd 3 rfl (Wk.nxt (wp_seq (wp_seq (Wk.reg ?_))))
 refine Wk.rP 0 20 (.int .i64 ((n : Nat) : Int)) rfl rfl ?_
 refine Wk.rP 1 21 (.int .i64 ((n : Nat) : Int)) rfl rfl ?_
 refine Wk.rQ 2 22 (.bool true) rfl rfl (Wk.boolT (b := (((n : Nat) : Int) == ((n : Nat) : Int))) (beq_iff_eq.2 (rfl)) (by kernel_rfl)) ?_
 refine Wk.rEnd 3 rfl (Wk.nxt (wp_cond_true (by kernel_rfl) (wp_seq (Wk.reg ?_))))
 refine Wk.rP 0 23 (.slice A n c) rfl rfl ?_
 refine Wk.rP 1 24 (.slice (some ⟨q, 0, none⟩) 1 1) rfl rfl ?_
 refine Wk.rEx 2 (some 25) _ rfl rfl (by kernel_rfl) (Mur.appendA (.tmp 23) (.tmp 24) 22 32 rfl Tryd.underlying22 attI base A n c L (some ⟨q, 0, none⟩) 1 1 ([x]) (by kernel_rfl) (by kernel_rfl) h (Mur.slA_box x hq) (fun h => by cases h) (by omega) (by omega) (n + 1) (by omega) (L ++ ([x])) rfl) ?_
 rintro _ W1 ⟨AA1, nn1, rfl, ow1, ch1, ha1⟩
 have zz1 := ch1.size
 have hq1 := ow1.nc
 have hq2 := ow1.cm
 refine Wk.rP 3 6 (.slice AA1 (n + 1) nn1) rfl rfl ?_
 refine Wk.rEnd 4 rfl (Wk.nxt (wp_ret (Wk.thR ?_)))
 have kk1 : Wk.Chg (Wk.blk (.slice A n c)) (w) W1 := Wk.Chg.step ((Wk.Chg.refl _).more (by simp)) ch1 (Mur.newOr_iff.2 (fun t ht => .inl ht))
 refine Wk.ret (.slice AA1 (n + 1) nn1) rfl (by kernel_rfl) ?_
 exact ⟨_, _, rfl, by have h_ := ow1; rw [← List.take_append_drop n L, List.drop_of_length_le (Nat.le_of_eq hl)] at h_; simpa [List.take_of_length_le (Nat.le_of_eq hl), List.drop_of_length_le (Nat.le_of_eq hl)] using h_, kk1, fun q' h1 => (ha1 q' h1).imp (fun h => h) (fun h => by omega)⟩
theorem Insert_in (L : List Att) (base : Nat) (A : Option Addr) (n c i : Nat) (x : Att) (q : Nat) (w : World) (h : OwnA w base 32 A n c L) (hn : n ≤ 100000) (_hbase : base ≤ w.heap.size) (hq : w.heap[q]? = some (.cells (attC x.k x.r x.n x.t).toArray 32 (0, 0))) (hqA : ∀ g, (Value.slice A n c).ownBlock = some g → g ≠ q) (hi : i < n) (hc : n + 1 ≤ c) : Calls Tryd.prog 41 #[.slice A n c, .int .i64 ((i : Nat) : Int), .slice (some ⟨q, 0, none⟩) 1 1] w fun e w' => ∃ A1 c1, e = .returned (.slice A1 (n + 1) c1) ∧ OwnA w' base 32 A1 (n + 1) c1 (L.take i ++ x :: L.drop i) ∧ Wk.Chg (Wk.blk (.slice A n c)) w w' ∧ (∀ q', (Value.slice A1 (n + 1) c1).ownBlock = some q' → (Value.slice A n c).ownBlock = some q' ∨ w.heap.size ≤ q') := by
 have hl := h.sl.len
 have hcn := h.nc
 have hcmx := h.cm
 have hql := (Array.getElem?_eq_some_iff.1 hq).1
 obtain ⟨g, cur, rfl, hbg, hg, hcs, htk⟩ := h.cur.resolve_left (fun q => by omega)
 have hqg : q ≠ g := fun e => hqA g rfl e.symm
 have htq : cur.toList.take (i * 97) = Mur.rowA (L.take i) := by rw [Mur.rowA_take, ← htk, List.take_take, Nat.min_eq_left (by omega)]
 have hgl := (Array.getElem?_eq_some_iff.1 hg).1
 have htp := htq
 refine calls_of_wp Tryd.func41 rfl ?_
 refine wp_seq (Wk.reg ?_)
 refine Wk.rP 0 6 (.slice none 0 0) rfl rfl ?_
 refine Wk.rEnd 1 rfl (Wk.nxt (wp_seq (Wk.reg ?_)))
 refine Wk.rP 0 10 (.slice (some ⟨g, 0, none⟩) n c) rfl rfl ?_
 refine Wk.rP 1 11 (.int .i64 ((i : Nat) : Int)) rfl rfl ?_
 refine Wk.rQ 2 12 (.slice (if c = i then some ⟨g, 0, none⟩ else (some ⟨g, 0, none⟩ : Option Addr).map (·.add (i * 97))) (n - i) (c - i)) rfl rfl (Mur.run_fromK 22 (.tmp 10) (.tmp 11) rfl 32 Tryd.underlying22 97 (by kernel_rfl) (some ⟨g, 0, none⟩) n c i (by kernel_rfl) (by kernel_rfl) (by omega) _ rfl) ?_
 refine Wk.rEnd 3 rfl (Wk.nxt (wp_seq (Wk.reg ?_)))
 refine Wk.rP 0 13 (.slice (some ⟨q, 0, none⟩) 1 1) rfl rfl ?_
 refine Wk.rP 1 14 (.int .i64 1) rfl rfl ?_
 refine Wk.rP 2 7 (.int .i64 1) rfl rfl ?_
 refine Wk.rEnd 3 rfl (Wk.nxt (wp_seq (wp_seq (Wk.reg ?_))))
 refine Wk.rP 0 15 (.int .i64 1) rfl rfl ?_
 refine Wk.rQ 1 16 (.bool false) rfl rfl (Wk.boolF (b := ((1 : Int) == (0 : Int))) (beq_eq_false_iff_ne.2 (by decide)) (by kernel_rfl)) ?_
 refine Wk.rEnd 2 rfl (Wk.nxt (wp_cond_false (by kernel_rfl) (wp_skip (Wk.nxt (wp_seq (Wk.reg ?_))))))
 refine Wk.rP 0 18 (.slice (some ⟨g, 0, none⟩) n c) rfl rfl ?_
 refine Wk.rP 1 19 (.int .i64 ((n : Nat) : Int)) rfl rfl ?_
 refine Wk.rP 2 8 (.int .i64 ((n : Nat) : Int)) rfl rfl ?_
 refine Wk.rEnd 3 rfl (Wk.nxt (wp_seq (wp_seq (Wk.reg ?_))))
 refine Wk.rP 0 20 (.int .i64 ((i : Nat) : Int)) rfl rfl ?_
 refine Wk.rP 1 21 (.int .i64 ((n : Nat) : Int)) rfl rfl ?_
 refine Wk.rQ 2 22 (.bool false) rfl rfl (Wk.boolF (b := (((i : Nat) : Int) == ((n : Nat) : Int))) (beq_eq_false_iff_ne.2 (by omega)) (by kernel_rfl)) ?_
 refine Wk.rEnd 3 rfl (Wk.nxt (wp_cond_false (by kernel_rfl) (wp_skip (Wk.nxt (wp_seq (wp_seq (Wk.reg ?_)))))))
 refine Wk.rP 0 26 (.int .i64 ((n : Nat) : Int)) rfl rfl ?_
 refine Wk.rP 1 27 (.int .i64 1) rfl rfl ?_
 refine Wk.rQ 2 28 (.int .i64 ((n + 1 : Nat) : Int)) rfl rfl (Wk.int64 (n := ((n : Nat) : Int) + 1) (z := ((n + 1 : Nat) : Int)) (by omega) (by omega) (by omega) (by kernel_rfl)) ?_
 refine Wk.rP 3 29 (.slice (some ⟨g, 0, none⟩) n c) rfl rfl ?_
 refine Wk.rP 4 30 (.int .i64 ((c : Nat) : Int)) rfl rfl ?_
 refine Wk.rQ 5 31 (.bool false) rfl rfl (Wk.boolF (b := decide (((n + 1 : Nat) : Int) > ((c : Nat) : Int))) (decide_eq_false (by omega)) (by kernel_rfl)) ?_
 refine Wk.rEnd 6 rfl (Wk.nxt (wp_cond_false (by kernel_rfl) (wp_skip (Wk.nxt (wp_seq (Wk.reg ?_))))))
 refine Wk.rP 0 56 (.slice (some ⟨g, 0, none⟩) n c) rfl rfl ?_
 refine Wk.rP 1 57 (.int .i64 ((n : Nat) : Int)) rfl rfl ?_
 refine Wk.rP 2 58 (.int .i64 1) rfl rfl ?_
 refine Wk.rQ 3 59 (.int .i64 ((n + 1 : Nat) : Int)) rfl rfl (Wk.int64 (n := ((n : Nat) : Int) + 1) (z := ((n + 1 : Nat) : Int)) (by omega) (by omega) (by omega) (by kernel_rfl)) ?_
 refine Wk.rQ 4 60 (.slice (some ⟨g, 0, none⟩) (n + 1) c) rfl rfl (Mur.run_toK 22 (.tmp 56) (.tmp 59) rfl 32 Tryd.underlying22 97 (by kernel_rfl) (some ⟨g, 0, none⟩) n c (n + 1) (.inr ⟨_, _, rfl⟩) (by kernel_rfl) (by kernel_rfl) (by omega)) ?_
 refine Wk.rP 5 0 (.slice (some ⟨g, 0, none⟩) (n + 1) c) rfl rfl ?_
 refine Wk.rEnd 6 rfl (Wk.nxt (wp_seq (wp_seq (Wk.reg ?_))))
 refine Wk.rP 0 61 (.slice (some ⟨q, 0, none⟩) 1 1) rfl rfl ?_
 refine Wk.rP 1 62 (.slice (some ⟨g, 0, none⟩) (n + 1) c) rfl rfl ?_
 refine Wk.rP 2 63 (.int .i64 ((i : Nat) : Int)) rfl rfl ?_
 refine Wk.rP 3 64 (.int .i64 1) rfl rfl ?_
 refine Wk.rQ 4 65 (.int .i64 ((i + 1 : Nat) : Int)) rfl rfl (Wk.int64 (n := ((i : Nat) : Int) + 1) (z := ((i + 1 : Nat) : Int)) (by omega) (by omega) (by omega) (by kernel_rfl)) ?_
 refine Wk.rQ 5 66 (.slice (some ⟨g, 0 + (i + 1) * 97, none⟩) (n - i) (c - (i + 1))) rfl rfl (Mur.run_fromS 22 (.tmp 62) (.tmp 65) rfl 32 Tryd.underlying22 97 (by kernel_rfl) g 0 (n + 1) c (i + 1) (by kernel_rfl) (by kernel_rfl) (by omega) (by omega) (n - i) (by omega)) ?_
 refine Wk.rQ 6 67 (.bool false) rfl rfl (Mur.run_ovl (tS := 22) (tR := 4) (e := 32) Tryd.func62 (by kernel_rfl) (by kernel_rfl) (by kernel_rfl) (by kernel_rfl) Tryd.underlying22 attI (.tmp 61) (.tmp 66) _ rfl q g (0 + (i + 1) * 97) 1 1 (n - i) (c - (i + 1)) (by kernel_rfl) (by kernel_rfl) hqg _ _ _ _ hq hg (by omega)) ?_
 refine Wk.rP 7 68 (.bool true) rfl rfl ?_
 refine Wk.rEnd 8 rfl (Wk.nxt (wp_cond_true (by kernel_rfl) (wp_seq ?_)))
 refine Wk.dReg ([g]) (by kernel_rfl) ?_
 intro W1 ch1 sz1
 have zz1 := ch1.size
 have sS1 : Wk.Chg ([g]) W1 W1 := (Wk.Chg.refl _).more (by simp)
 refine Wk.dV 0 69 (.slice (some ⟨g, 0, none⟩) (n + 1) c) rfl rfl (fun _ _ => by kernel_rfl) sS1 ?_
 refine Wk.dV 1 70 (.int .i64 ((i : Nat) : Int)) rfl rfl (fun _ _ => by kernel_rfl) sS1 ?_
 refine Wk.dV 2 71 (.int .i64 1) rfl rfl (fun _ _ => by kernel_rfl) sS1 ?_
 refine Wk.dV 3 72 (.int .i64 ((i + 1 : Nat) : Int)) rfl rfl (fun w' hw' => (Wk.int64 (n := ((i : Nat) : Int) + 1) (z := ((i + 1 : Nat) : Int)) (by omega) (by omega) (by omega) (by kernel_rfl))) sS1 ?_
 refine Wk.dV 4 73 (.slice (some ⟨g, 0 + (i + 1) * 97, none⟩) (n - i) (c - (i + 1))) rfl rfl (fun w' hw' => (Mur.run_fromS 22 (.tmp 69) (.tmp 72) rfl 32 Tryd.underlying22 97 (by kernel_rfl) g 0 (n + 1) c (i + 1) (by kernel_rfl) (by kernel_rfl) (by omega) (by omega) (n - i) (by omega))) sS1 ?_
 refine Wk.dV 5 74 (.slice (some ⟨g, 0, none⟩) (n + 1) c) rfl rfl (fun _ _ => by kernel_rfl) sS1 ?_
 refine Wk.dV 6 75 (.int .i64 ((i : Nat) : Int)) rfl rfl (fun _ _ => by kernel_rfl) sS1 ?_
 refine Wk.dV 7 76 (.slice (some ⟨g, 0 + i * 97, none⟩) (n + 1 - i) (c - i)) rfl rfl (fun w' hw' => (Mur.run_fromS 22 (.tmp 74) (.tmp 75) rfl 32 Tryd.underlying22 97 (by kernel_rfl) g 0 (n + 1) c i (by kernel_rfl) (by kernel_rfl) (by omega) (by omega) (n + 1 - i) (by omega))) sS1 ?_
 refine Wk.dOp 8 (by kernel_rfl) ?_
 have hfit1 : 0 + (i + 1) * 97 + (Mur.rowA (L.drop i)).length ≤ c * 97 := by simp only [Mur.rowA_len, List.length_drop]; omega
 obtain ⟨Rw1, hRw1⟩ : ∃ R, R = Go.splice cur.toList (0 + (i + 1) * 97) (Mur.rowA (L.drop i)) := ⟨_, rfl⟩
 have hRl1 : Rw1.length = c * 97 := by rw [hRw1]; exact Mur.splice_len hfit1 (by rw [Array.length_toList]; exact hcs)
 refine Wk.oEx (some 77) _ rfl rfl (by kernel_rfl) (Mur.copyK (.tmp 73) (.tmp 76) 22 22 rfl 32 Tryd.underlying22 97 (by kernel_rfl) g (0 + (i + 1) * 97) (n - i) (c - (i + 1)) (by kernel_rfl) g (0 + i * 97) (n + 1 - i) (c - i) (by kernel_rfl) (n - i) (Nat.min_eq_right (by omega)) 32 cur (Mur.rowA (L.drop i)) (Wk.Chg.hp ch1 hg trivial) (by have := Mur.range_cut (Wk.range_row (Wk.Chg.hp ch1 hg trivial)) (i * 97) (Mur.rowA (L.drop i)) (Mur.cut_drop (cur := cur.toList) htk); simpa using this) (by simp only [Mur.rowA_len, List.length_drop]; omega) (Mur.rowA_one _) (Nat.le_trans hfit1 (Nat.le_of_eq hcs.symm)) Rw1 hRw1.symm) ?_
 rintro _ W2 ⟨rfl, hb1, ch2⟩
 have zz2 := ch2.size
 have sS2 := Wk.Chg.step sS1 ch2 ⟨.inl (by simp), trivial⟩
 refine ⟨sS2, ?_⟩
 refine Wk.dEnd (by kernel_rfl) (Wk.nxt (wp_seq (Wk.reg ?_)))
 refine Wk.rP 0 78 (.slice (some ⟨g, 0, none⟩) (n + 1) c) rfl rfl ?_
 refine Wk.rP 1 79 (.int .i64 ((i : Nat) : Int)) rfl rfl ?_
 refine Wk.rQ 2 80 (.slice (some ⟨g, 0 + i * 97, none⟩) (n + 1 - i) (c - i)) rfl rfl (Mur.run_fromS 22 (.tmp 78) (.tmp 79) rfl 32 Tryd.underlying22 97 (by kernel_rfl) g 0 (n + 1) c i (by kernel_rfl) (by kernel_rfl) (by omega) (by omega) (n + 1 - i) (by omega)) ?_
 refine Wk.rP 3 81 (.slice (some ⟨q, 0, none⟩) 1 1) rfl rfl ?_
 have hfit2 : 0 + i * 97 + x.C.length ≤ c * 97 := by simp only [Mur.Att.C_len]; omega
 obtain ⟨Rw2, hRw2⟩ : ∃ R, R = Go.splice Rw1.toArray.toList (0 + i * 97) x.C := ⟨_, rfl⟩
 have hRl2 : Rw2.length = c * 97 := by rw [hRw2]; exact Mur.splice_len hfit2 hRl1
 refine Wk.rEx 4 (some 82) _ rfl rfl (by kernel_rfl) (Mur.copyK (.tmp 80) (.tmp 81) 22 22 rfl 32 Tryd.underlying22 97 (by kernel_rfl) g (0 + i * 97) (n + 1 - i) (c - i) (by kernel_rfl) q 0 1 1 (by kernel_rfl) 1 (Nat.min_eq_left (by omega)) 32 Rw1.toArray x.C hb1 (Wk.range_row (Wk.Chg.hp ch2 (Wk.Chg.hp ch1 hq trivial) ⟨by omega, trivial⟩)) (x.C_len) (x.C_one) (Nat.le_trans hfit2 (Nat.le_of_eq (show Rw1.toArray.size = c * 97 from by rw [List.size_toArray]; exact hRl1).symm)) Rw2 hRw2.symm) ?_
 rintro _ W3 ⟨rfl, hb2, ch3⟩
 have zz3 := ch3.size
 refine Wk.rEnd 5 rfl (Wk.nxt (wp_seq (Wk.reg ?_)))
 refine Wk.rP 0 83 (.slice (some ⟨g, 0, none⟩) (n + 1) c) rfl rfl ?_
 refine Wk.rP 1 6 (.slice (some ⟨g, 0, none⟩) (n + 1) c) rfl rfl ?_
 refine Wk.rEnd 2 rfl (Wk.nxt (wp_ret (Wk.thR ?_)))
 have kk1 : Wk.Chg [g] (w) W1 := Wk.Chg.step ((Wk.Chg.refl _).more (by simp)) ch1 trivial
 have kk2 := Wk.Chg.step kk1 ch2 ⟨.inl (by simp), trivial⟩
 have kk3 := Wk.Chg.step kk2 ch3 ⟨.inl (by simp), trivial⟩
 have hfin : Rw2 = cur.toList.take (i * 97) ++ (x.C ++ (Mur.rowA (L.drop i) ++ cur.toList.drop (i * 97 + 97 + (Mur.rowA (L.drop i)).length))) := by rw [hRw2, show Rw1.toArray.toList = Rw1 from rfl, show 0 + i * 97 = i * 97 by omega, hRw1, show 0 + (i + 1) * 97 = i * 97 + 97 by omega]; exact Mur.ins_back (p := i * 97) x.C_len (by have h_ : cur.toList.length = c * 97 := (by rw [Array.length_toList]; exact hcs); simp only [Mur.rowA_len, List.length_drop]; omega)
 have hrow := Mur.ins_row (n := n) x (by omega) hl htp
 rw [← hfin] at hrow
 have hsz : Rw2.toArray.size = c * 97 := by rw [List.size_toArray]; exact hRl2
 refine Wk.ret (.slice (some ⟨g, 0, none⟩) (n + 1) c) rfl (by kernel_rfl) ?_
 exact ⟨_, _, rfl, Mur.OwnA.of hbg hb2 (by omega) (by omega) hsz hrow (by simp only [List.length_append, List.length_cons, List.length_take, List.length_drop]; omega), kk3, fun q' h1 => .inl h1⟩
theorem Insert_grow (L : List Att) (base : Nat) (A : Option Addr) (n c i : Nat) (x : Att) (q : Nat) (w : World) (h : OwnA w base 32 A n c L) (hn : n ≤ 100000) (hbase : base ≤ w.heap.size) (hq : w.heap[q]? = some (.cells (attC x.k x.r x.n x.t).toArray 32 (0, 0))) (hqA : ∀ g, (Value.slice A n c).ownBlock = some g → g ≠ q) (hi : i < n) (hc : c < n + 1) : Calls Tryd.prog 41 #[.slice A n c, .int .i64 ((i : Nat) : Int), .slice (some ⟨q, 0, none⟩) 1 1] w fun e w' => ∃ A1 c1, e = .returned (.slice A1 (n + 1) c1) ∧ OwnA w' base 32 A1 (n + 1) c1 (L.take i ++ x :: L.drop i) ∧ Wk.Chg (Wk.blk (.slice A n c)) w w' ∧ (∀ q', (Value.slice A1 (n + 1) c1).ownBlock = some q' → (Value.slice A n c).ownBlock = some q' ∨ w.heap.size ≤ q') := by
 have hl := h.sl.len
 have hcn := h.nc
 have hcmx := h.cm
 have hql := (Array.getElem?_eq_some_iff.1 hq).1
 obtain ⟨g, cur, rfl, hbg, hg, hcs, htk⟩ := h.cur.resolve_left (fun q => by omega)
 have hqg : q ≠ g := fun e => hqA g rfl e.symm
 have htq : cur.toList.take (i * 97) = Mur.rowA (L.take i) := by rw [Mur.rowA_take, ← htk, List.take_take, Nat.min_eq_left (by omega)]
 have hgl := (Array.getElem?_eq_some_iff.1 hg).1
 refine calls_of_wp Tryd.func41 rfl ?_
 refine wp_seq (Wk.reg ?_)
 refine Wk.rP 0 6 (.slice none 0 0) rfl rfl ?_
 refine Wk.rEnd 1 rfl (Wk.nxt (wp_seq (Wk.reg ?_)))
 refine Wk.rP 0 10 (.slice (some ⟨g, 0, none⟩) n c) rfl rfl ?_
 refine Wk.rP 1 11 (.int .i64 ((i : Nat) : Int)) rfl rfl ?_
 refine Wk.rQ 2 12 (.slice (if c = i then some ⟨g, 0, none⟩ else (some ⟨g, 0, none⟩ : Option Addr).map (·.add (i * 97))) (n - i) (c - i)) rfl rfl (Mur.run_fromK 22 (.tmp 10) (.tmp 11) rfl 32 Tryd.underlying22 97 (by kernel_rfl) (some ⟨g, 0, none⟩) n c i (by kernel_rfl) (by kernel_rfl) (by omega) _ rfl) ?_
 refine Wk.rEnd 3 rfl (Wk.nxt (wp_seq (Wk.reg ?_)))
 refine Wk.rP 0 13 (.slice (some ⟨q, 0, none⟩) 1 1) rfl rfl ?_
 refine Wk.rP 1 14 (.int .i64 1) rfl rfl ?_
 refine Wk.rP 2 7 (.int .i64 1) rfl rfl ?_
 refine Wk.rEnd 3 rfl (Wk.nxt (wp_seq (wp_seq (Wk.reg ?_))))
 refine Wk.rP 0 15 (.int .i64 1) rfl rfl ?_
 refine Wk.rQ 1 16 (.bool false) rfl rfl (Wk.boolF (b := ((1 : Int) == (0 : Int))) (beq_eq_false_iff_ne.2 (by decide)) (by kernel_rfl)) ?_
 refine Wk.rEnd 2 rfl (Wk.nxt (wp_cond_false (by kernel_rfl) (wp_skip (Wk.nxt (wp_seq (Wk.reg ?_))))))
 refine Wk.rP 0 18 (.slice (some ⟨g, 0, none⟩) n c) rfl rfl ?_
 refine Wk.rP 1 19 (.int .i64 ((n : Nat) : Int)) rfl rfl ?_
 refine Wk.rP 2 8 (.int .i64 ((n : Nat) : Int)) rfl rfl ?_
 refine Wk.rEnd 3 rfl (Wk.nxt (wp_seq (wp_seq (Wk.reg ?_))))
 refine Wk.rP 0 20 (.int .i64 ((i : Nat) : Int)) rfl rfl ?_
 refine Wk.rP 1 21 (.int .i64 ((n : Nat) : Int)) rfl rfl ?_
 refine Wk.rQ 2 22 (.bool false) rfl rfl (Wk.boolF (b := (((i : Nat) : Int) == ((n : Nat) : Int))) (beq_eq_false_iff_ne.2 (by omega)) (by kernel_rfl)) ?_
 refine Wk.rEnd 3 rfl (Wk.nxt (wp_cond_false (by kernel_rfl) (wp_skip (Wk.nxt (wp_seq (wp_seq (Wk.reg ?_)))))))
 refine Wk.rP 0 26 (.int .i64 ((n : Nat) : Int)) rfl rfl ?_
 refine Wk.rP 1 27 (.int .i64 1) rfl rfl ?_
 refine Wk.rQ 2 28 (.int .i64 ((n + 1 : Nat) : Int)) rfl rfl (Wk.int64 (n := ((n : Nat) : Int) + 1) (z := ((n + 1 : Nat) : Int)) (by omega) (by omega) (by omega) (by kernel_rfl)) ?_
 refine Wk.rP 3 29 (.slice (some ⟨g, 0, none⟩) n c) rfl rfl ?_
 refine Wk.rP 4 30 (.int .i64 ((c : Nat) : Int)) rfl rfl ?_
 refine Wk.rQ 5 31 (.bool true) rfl rfl (Wk.boolT (b := decide (((n + 1 : Nat) : Int) > ((c : Nat) : Int))) (decide_eq_true (by omega)) (by kernel_rfl)) ?_
 refine Wk.rEnd 6 rfl (Wk.nxt (wp_cond_true (by kernel_rfl) (wp_seq (Wk.reg ?_))))
 refine Wk.rP 0 32 (.slice (some ⟨g, 0, none⟩) n c) rfl rfl ?_
 refine Wk.rP 1 33 (.int .i64 ((i : Nat) : Int)) rfl rfl ?_
 refine Wk.rQ 2 34 (.slice (some ⟨g, 0, none⟩) i c) rfl rfl (Mur.run_toK 22 (.tmp 32) (.tmp 33) rfl 32 Tryd.underlying22 97 (by kernel_rfl) (some ⟨g, 0, none⟩) n c i (.inr ⟨_, _, rfl⟩) (by kernel_rfl) (by kernel_rfl) (by omega)) ?_
 refine Wk.rP 3 35 (.int .i64 ((n : Nat) : Int)) rfl rfl ?_
 refine Wk.rP 4 36 (.int .i64 1) rfl rfl ?_
 refine Wk.rQ 5 37 (.int .i64 ((n + 1 : Nat) : Int)) rfl rfl (Wk.int64 (n := ((n : Nat) : Int) + 1) (z := ((n + 1 : Nat) : Int)) (by omega) (by omega) (by omega) (by kernel_rfl)) ?_
 refine Wk.rP 6 38 (.int .i64 ((i : Nat) : Int)) rfl rfl ?_
 refine Wk.rQ 7 39 (.int .i64 ((n + 1 - i : Nat) : Int)) rfl rfl (Wk.int64 (n := ((n + 1 : Nat) : Int) - ((i : Nat) : Int)) (z := ((n + 1 - i : Nat) : Int)) (by omega) (by omega) (by omega) (by kernel_rfl)) ?_
 refine Wk.rEx 8 (some 40) _ rfl rfl (by kernel_rfl) (Mur.growZ (.tmp 34) (.tmp 39) 22 3 32 rfl Tryd.underlying22 .i64 Tryd.underlying3 attI g i c (n + 1 - i) (n + 1) cur (L.take i) (by kernel_rfl) (by kernel_rfl) hg htq (by rw [List.length_take]; omega) (by omega) (by omega) (by omega) (by omega)) ?_
 rintro _ W1 ⟨CC1, cs1, rfl, hb1, htk1, hcs1, hq1, hq2, ch1, sz1⟩
 have zz1 := ch1.size
 have hcs := hcs1
 have htp := htk1
 have hcm := hq2
 have hNC := hq1
 refine Wk.rP 9 9 (.slice (some ⟨w.heap.size, 0, none⟩) (n + 1) CC1) rfl rfl ?_
 refine Wk.rEnd 10 rfl (Wk.nxt (wp_seq (Wk.reg ?_)))
 refine Wk.rP 0 41 (.slice (some ⟨w.heap.size, 0, none⟩) (n + 1) CC1) rfl rfl ?_
 refine Wk.rP 1 42 (.int .i64 ((i : Nat) : Int)) rfl rfl ?_
 refine Wk.rQ 2 43 (.slice (some ⟨w.heap.size, 0 + i * 97, none⟩) (n + 1 - i) (CC1 - i)) rfl rfl (Mur.run_fromS 22 (.tmp 41) (.tmp 42) rfl 32 Tryd.underlying22 97 (by kernel_rfl) w.heap.size 0 (n + 1) CC1 i (by kernel_rfl) (by kernel_rfl) (by omega) (by omega) (n + 1 - i) (by omega)) ?_
 refine Wk.rP 3 44 (.slice (some ⟨q, 0, none⟩) 1 1) rfl rfl ?_
 have hfit1 : 0 + i * 97 + x.C.length ≤ CC1 * 97 := by simp only [Mur.Att.C_len]; omega
 obtain ⟨Rw1, hRw1⟩ : ∃ R, R = Go.splice cs1.toList (0 + i * 97) x.C := ⟨_, rfl⟩
 have hRl1 : Rw1.length = CC1 * 97 := by rw [hRw1]; exact Mur.splice_len hfit1 (by rw [Array.length_toList]; exact hcs)
 refine Wk.rEx 4 (some 45) _ rfl rfl (by kernel_rfl) (Mur.copyK (.tmp 43) (.tmp 44) 22 22 rfl 32 Tryd.underlying22 97 (by kernel_rfl) w.heap.size (0 + i * 97) (n + 1 - i) (CC1 - i) (by kernel_rfl) q 0 1 1 (by kernel_rfl) 1 (Nat.min_eq_left (by omega)) 32 cs1 x.C hb1 (Wk.range_row (Wk.Chg.hp ch1 hq trivial)) (x.C_len) (x.C_one) (Nat.le_trans hfit1 (Nat.le_of_eq hcs.symm)) Rw1 hRw1.symm) ?_
 rintro _ W2 ⟨rfl, hb2, ch2⟩
 have zz2 := ch2.size
 refine Wk.rEnd 5 rfl (Wk.nxt (wp_seq ?_))
 refine Wk.dReg ([w.heap.size]) (by kernel_rfl) ?_
 intro W3 ch3 sz2
 have zz3 := ch3.size
 have sS1 : Wk.Chg ([w.heap.size]) W3 W3 := (Wk.Chg.refl _).more (by simp)
 refine Wk.dV 0 46 (.slice (some ⟨w.heap.size, 0, none⟩) (n + 1) CC1) rfl rfl (fun _ _ => by kernel_rfl) sS1 ?_
 refine Wk.dV 1 47 (.int .i64 ((i : Nat) : Int)) rfl rfl (fun _ _ => by kernel_rfl) sS1 ?_
 refine Wk.dV 2 48 (.int .i64 1) rfl rfl (fun _ _ => by kernel_rfl) sS1 ?_
 refine Wk.dV 3 49 (.int .i64 ((i + 1 : Nat) : Int)) rfl rfl (fun w' hw' => (Wk.int64 (n := ((i : Nat) : Int) + 1) (z := ((i + 1 : Nat) : Int)) (by omega) (by omega) (by omega) (by kernel_rfl))) sS1 ?_
 refine Wk.dV 4 50 (.slice (some ⟨w.heap.size, 0 + (i + 1) * 97, none⟩) (n - i) (CC1 - (i + 1))) rfl rfl (fun w' hw' => (Mur.run_fromS 22 (.tmp 46) (.tmp 49) rfl 32 Tryd.underlying22 97 (by kernel_rfl) w.heap.size 0 (n + 1) CC1 (i + 1) (by kernel_rfl) (by kernel_rfl) (by omega) (by omega) (n - i) (by omega))) sS1 ?_
 refine Wk.dV 5 51 (.slice (some ⟨g, 0, none⟩) n c) rfl rfl (fun _ _ => by kernel_rfl) sS1 ?_
 refine Wk.dV 6 52 (.int .i64 ((i : Nat) : Int)) rfl rfl (fun _ _ => by kernel_rfl) sS1 ?_
 refine Wk.dV 7 53 (.slice (some ⟨g, 0 + i * 97, none⟩) (n - i) (c - i)) rfl rfl (fun w' hw' => (Mur.run_fromS 22 (.tmp 51) (.tmp 52) rfl 32 Tryd.underlying22 97 (by kernel_rfl) g 0 n c i (by kernel_rfl) (by kernel_rfl) (by omega) (by omega) (n - i) (by omega))) sS1 ?_
 refine Wk.dOp 8 (by kernel_rfl) ?_
 have hfit2 : 0 + (i + 1) * 97 + (Mur.rowA (L.drop i)).length ≤ CC1 * 97 := by simp only [Mur.rowA_len, List.length_drop]; omega
 obtain ⟨Rw2, hRw2⟩ : ∃ R, R = Go.splice Rw1.toArray.toList (0 + (i + 1) * 97) (Mur.rowA (L.drop i)) := ⟨_, rfl⟩
 have hRl2 : Rw2.length = CC1 * 97 := by rw [hRw2]; exact Mur.splice_len hfit2 hRl1
 refine Wk.oEx (some 54) _ rfl rfl (by kernel_rfl) (Mur.copyK (.tmp 50) (.tmp 53) 22 22 rfl 32 Tryd.underlying22 97 (by kernel_rfl) w.heap.size (0 + (i + 1) * 97) (n - i) (CC1 - (i + 1)) (by kernel_rfl) g (0 + i * 97) (n - i) (c - i) (by kernel_rfl) (n - i) (Nat.min_eq_left (by omega)) 32 Rw1.toArray (Mur.rowA (L.drop i)) (Wk.Chg.hp ch3 hb2 trivial) (by have := Mur.range_cut (Wk.range_row (Wk.Chg.hp ch3 (Wk.Chg.hp ch2 (Wk.Chg.hp ch1 hg trivial) ⟨by omega, trivial⟩) trivial)) (i * 97) (Mur.rowA (L.drop i)) (Mur.cut_drop (cur := cur.toList) htk); simpa using this) (by simp only [Mur.rowA_len, List.length_drop]; omega) (Mur.rowA_one _) (Nat.le_trans hfit2 (Nat.le_of_eq (show Rw1.toArray.size = CC1 * 97 from by rw [List.size_toArray]; exact hRl1).symm)) Rw2 hRw2.symm) ?_
 rintro _ W4 ⟨rfl, hb3, ch4⟩
 have zz4 := ch4.size
 have sS2 := Wk.Chg.step sS1 ch4 ⟨.inl (by simp), trivial⟩
 refine ⟨sS2, ?_⟩
 refine Wk.dEnd (by kernel_rfl) (Wk.nxt (wp_seq (Wk.reg ?_)))
 refine Wk.rP 0 55 (.slice (some ⟨w.heap.size, 0, none⟩) (n + 1) CC1) rfl rfl ?_
 refine Wk.rP 1 6 (.slice (some ⟨w.heap.size, 0, none⟩) (n + 1) CC1) rfl rfl ?_
 refine Wk.rEnd 2 rfl (Wk.nxt (wp_ret (Wk.thR ?_)))
 have kk1 : Wk.Chg [] (w) W1 := Wk.Chg.step ((Wk.Chg.refl _).more (by simp)) ch1 trivial
 have kk2 := Wk.Chg.step kk1 ch2 ⟨.inr (by omega), trivial⟩
 have kk3 := Wk.Chg.step kk2 ch3 trivial
 have kk4 := Wk.Chg.step kk3 ch4 ⟨.inr (by omega), trivial⟩
 have hfin : Rw2 = cs1.toList.take (i * 97) ++ (x.C ++ (Mur.rowA (L.drop i) ++ cs1.toList.drop (i * 97 + 97 + (Mur.rowA (L.drop i)).length))) := by rw [hRw2, show Rw1.toArray.toList = Rw1 from rfl, show 0 + (i + 1) * 97 = i * 97 + 97 by omega, hRw1, show 0 + i * 97 = i * 97 by omega]; exact Mur.ins_fore (p := i * 97) x.C_len (by have h_ : cs1.toList.length = CC1 * 97 := (by rw [Array.length_toList]; exact hcs); simp only [Mur.rowA_len, List.length_drop]; omega)
 have hrow := Mur.ins_row (n := n) x (by omega) hl htp
 rw [← hfin] at hrow
 have hsz : Rw2.toArray.size = CC1 * 97 := by rw [List.size_toArray]; exact hRl2
 refine Wk.ret (.slice (some ⟨w.heap.size, 0, none⟩) (n + 1) CC1) rfl (by kernel_rfl) ?_
 exact ⟨_, _, rfl, Mur.OwnA.of (by omega) hb3 (by omega) (by omega) hsz hrow (by simp only [List.length_append, List.length_cons, List.length_take, List.length_drop]; omega), (kk4.more (by simp)), fun q' h1 => .inr (by simp [Value.ownBlock] at h1; omega)⟩
theorem Insert_any (L : List Att) (base : Nat) (A : Option Addr) (n c i : Nat) (x : Att) (q : Nat) (w : World) (h : OwnA w base 32 A n c L) (hn : n ≤ 100000) (hbase : base ≤ w.heap.size) (hq : w.heap[q]? = some (.cells (attC x.k x.r x.n x.t).toArray 32 (0, 0))) (hqA : ∀ g, (Value.slice A n c).ownBlock = some g → g ≠ q) (hi : i ≤ n) : Calls Tryd.prog 41 #[.slice A n c, .int .i64 ((i : Nat) : Int), .slice (some ⟨q, 0, none⟩) 1 1] w fun e w' => ∃ A1 c1, e = .returned (.slice A1 (n + 1) c1) ∧ OwnA w' base 32 A1 (n + 1) c1 (L.take i ++ x :: L.drop i) ∧ Wk.Chg (Wk.blk (.slice A n c)) w w' ∧ (∀ q', (Value.slice A1 (n + 1) c1).ownBlock = some q' → (Value.slice A n c).ownBlock = some q' ∨ w.heap.size ≤ q') := by
 by_cases h1 : i = n
 ·subst h1
  exact Insert_app L base A i c x q w h hn hbase hq hqA
 by_cases h2 : n + 1 ≤ c
 ·exact Insert_in L base A n c i x q w h hn hbase hq hqA (by omega) h2
 exact Insert_grow L base A n c i x q w h hn hbase hq hqA (by omega) (by omega)
end Go.Proofs.YtfhneademopciaaDoor
namespace Go.Proofs.YtfhneademopciaaDoor
open Go.RowKit
open Mur (b8s Byt Own8 Seg Segs flat cutA attC Att SlA OwnA rowA)
set_option maxRecDepth 100000
set_option maxHeartbeats 4000000
theorem New_any (w : World) : Calls Tryd.prog 14 #[] w fun e w' => ∃ F, e = .returned (.pointer (some ⟨w.heap.size, 0, none⟩)) ∧ Mur.SetF 32 57 w.heap.size w' w.heap.size ([]) F ∧ Wk.Chg [] w w' := by
 refine calls_of_wp Tryd.func14 rfl ?_
 refine wp_seq (Wk.reg ?_)
 refine Wk.rP 0 0 (.pointer none) rfl rfl ?_
 refine Wk.rEnd 1 rfl (Wk.nxt (wp_seq (Wk.reg ?_)))
 refine Wk.rP 0 1 (.agg #[.slice none 0 0]) rfl rfl ?_
 refine Wk.rEx 1 (some 2) _ rfl rfl (by kernel_rfl) (Wk.new_ex (.pointer (some ⟨w.heap.size, 0, none⟩)) #[.slice none 0 0] 57 (by kernel_rfl)) ?_
 rintro _ W1 ⟨rfl, hb1, ch1, sz1⟩
 have zz1 := ch1.size
 refine Wk.rP 2 0 (.pointer (some ⟨w.heap.size, 0, none⟩)) rfl rfl ?_
 refine Wk.rEnd 3 rfl (Wk.nxt (wp_ret ?_))
 have kk1 : Wk.Chg [] w W1 := Wk.Chg.step ((Wk.Chg.refl _).more (by simp)) ch1 trivial
 refine Wk.ret (.pointer (some ⟨w.heap.size, 0, none⟩)) rfl (by kernel_rfl) ?_
 exact ⟨[w.heap.size], rfl, ⟨none, 0, 0, ⟨hb1, Mur.ownA_nil _ _ _, (fun q h => by cases h), Nat.le_refl _, List.Pairwise.nil, by simp, by simp⟩, rfl⟩, kk1⟩
theorem Has_any (lo : Nat) (L : List Att) (g : Nat) (F : List Nat) (x : Att) (w : World) (h : Mur.SetF 32 57 lo w g L F) : Calls Tryd.prog 24 #[.pointer (some ⟨g, 0, none⟩), .agg (attC x.k x.r x.n x.t).toArray] w fun e w' => e = .returned (.bool (decide (x ∈ L))) ∧ Wk.Chg [] w w' := by
 have hmem_ := Mur.SetF.mem h
 obtain ⟨A, n, c, hS, rfl⟩ := h
 have hpS := hS.hp
 have hgl := (Array.getElem?_eq_some_iff.1 hpS).1
 have hOw := hS.own
 have hsrt := hS.srt
 have hlen := hS.len
 have hOl := hOw.sl.len
 have hOc := hOw.nc
 have hlo_ := hS.lo_
 have hOw2 : ∀ k, (Value.slice A n c).ownBlock = some k → (lo ≤ k ∧ k < w.heap.size) ∧ k ≠ g := fun k h => ⟨hOw.lt k h, hS.ne k h⟩
 refine calls_of_wp Tryd.func24 rfl ?_
 refine wp_seq (Wk.reg ?_)
 refine Wk.rEx 0 (some 3) _ rfl rfl (by kernel_rfl) (Wk.new_ex (.pointer (some ⟨w.heap.size, 0, none⟩)) ((Mur.attC x.k x.r x.n x.t).toArray) 32 (by kernel_rfl)) ?_
 rintro _ W1 ⟨rfl, hb1, ch1, sz1⟩
 have zz1 := ch1.size
 refine Wk.rP 1 4 (.bool false) rfl rfl ?_
 refine Wk.rEnd 2 rfl (Wk.nxt (wp_seq (wp_seq (Wk.reg ?_))))
 refine Wk.rP 0 7 (.pointer (some ⟨g, 0, none⟩)) rfl rfl ?_
 refine Wk.rP 1 8 (.bool false) rfl rfl ?_
 refine Wk.rEnd 2 rfl (Wk.nxt (wp_cond_false (by kernel_rfl) (wp_skip (Wk.nxt (wp_seq ?_)))))
 refine Wk.dReg ([]) (by kernel_rfl) ?_
 intro W2 ch2 sz2
 have zz2 := ch2.size
 have sS1 : Wk.Chg ([]) W2 W2 := (Wk.Chg.refl _).more (by simp)
 refine Wk.dV 0 10 (.pointer (some ⟨g, 0, none⟩)) rfl rfl (fun _ _ => by kernel_rfl) sS1 ?_
 refine Wk.dV 1 11 (.pointer (some ⟨g, 0, none⟩)) rfl rfl (fun _ _ => by kernel_rfl) sS1 ?_
 refine Wk.dV 2 12 (.pointer (some ⟨g, 0, none⟩)) rfl rfl (fun _ _ => by kernel_rfl) sS1 ?_
 have kk1 : Wk.Chg [] w W1 := Wk.Chg.step ((Wk.Chg.refl _).more (by simp)) ch1 trivial
 have kk2 := Wk.Chg.step kk1 ch2 trivial
 refine Wk.dV 3 13 (.slice A n c) rfl rfl (fun w' hw' => (Wk.load1 22 (.tmp 12) rfl (by kernel_rfl) ⟨g, 0, none⟩ (by kernel_rfl) (.slice A n c) ((cell_of_row _ _ 0 _ _ _ (Wk.Chg.hp hw' (Wk.Chg.hp kk2 hpS trivial) trivial)).trans rfl))) sS1 ?_
 refine Wk.dV 4 14 (.agg ((Mur.attC x.k x.r x.n x.t).toArray)) rfl rfl (fun w' hw' => (Mur.loadArr 32 (.tmp 3) rfl _ Tryd.underlying32 rfl w.heap.size (by kernel_rfl) (Mur.attC x.k x.r x.n x.t).toArray 97 (Mur.attC_size x.hk x.hr x.ht) (by kernel_rfl) 32 (0, 0) (Wk.Chg.hp hw' (Wk.Chg.hp ch2 hb1 trivial) trivial))) sS1 ?_
 refine Wk.dOp 5 (by kernel_rfl) ?_
 refine Wk.oCall (some 15) 39 [.tmp 13, .tmp 14, .func 40] #[22, 32, 81] [.slice A n c, .agg ((Mur.attC x.k x.r x.n x.t).toArray), .func (.func 40) #[] #[]] rfl rfl (by kernel_rfl) rfl (by kernel_rfl) (by kernel_rfl) ?_
 have ow1 := Mur.OwnA.chg hOw ch1 (fun q e _ _ => trivial)
 have ow2 := Mur.OwnA.chg ow1 ch2 (fun q e _ _ => trivial)
 refine (Search_any L hsrt A n c x W2 ow2.sl (by omega)).mono ?_
 by_cases hmem1 : x ∈ L
 ·rw [decide_eq_true hmem1]
  rintro _ W3 ⟨rfl, ch3⟩
  have zz3 := ch3.size
  have sS2 := Wk.Chg.step sS1 ch3 trivial
  refine ⟨_, rfl, sS2, ?_⟩
  refine Wk.dV 6 9 (.tuple #[.int .i64 ((Mur.pos x L : Nat) : Int), .bool true]) rfl rfl (fun _ _ => by kernel_rfl) sS2 ?_
  refine Wk.dV 7 16 (.int .i64 ((Mur.pos x L : Nat) : Int)) rfl rfl (fun _ _ => by kernel_rfl) sS2 ?_
  refine Wk.dV 8 17 (.bool true) rfl rfl (fun _ _ => by kernel_rfl) sS2 ?_
  refine Wk.dV 9 5 (.int .i64 ((Mur.pos x L : Nat) : Int)) rfl rfl (fun _ _ => by kernel_rfl) sS2 ?_
  refine Wk.dV 10 6 (.bool true) rfl rfl (fun _ _ => by kernel_rfl) sS2 ?_
  refine Wk.dEnd (by kernel_rfl) (Wk.nxt (wp_seq (Wk.reg ?_)))
  refine Wk.rP 0 18 (.bool true) rfl rfl ?_
  refine Wk.rP 1 4 (.bool true) rfl rfl ?_
  refine Wk.rEnd 2 rfl (Wk.nxt (wp_ret ?_))
  have kk3 := Wk.Chg.step kk2 ch3 trivial
  refine Wk.ret (.bool true) rfl (by kernel_rfl) ?_
  exact ⟨by first | rfl | rw [decide_eq_true hmem1], kk3⟩
 rw [decide_eq_false hmem1]
 rintro _ W3 ⟨rfl, ch3⟩
 have zz4 := ch3.size
 have sS3 := Wk.Chg.step sS1 ch3 trivial
 refine ⟨_, rfl, sS3, ?_⟩
 refine Wk.dV 6 9 (.tuple #[.int .i64 ((Mur.pos x L : Nat) : Int), .bool false]) rfl rfl (fun _ _ => by kernel_rfl) sS3 ?_
 refine Wk.dV 7 16 (.int .i64 ((Mur.pos x L : Nat) : Int)) rfl rfl (fun _ _ => by kernel_rfl) sS3 ?_
 refine Wk.dV 8 17 (.bool false) rfl rfl (fun _ _ => by kernel_rfl) sS3 ?_
 refine Wk.dV 9 5 (.int .i64 ((Mur.pos x L : Nat) : Int)) rfl rfl (fun _ _ => by kernel_rfl) sS3 ?_
 refine Wk.dV 10 6 (.bool false) rfl rfl (fun _ _ => by kernel_rfl) sS3 ?_
 refine Wk.dEnd (by kernel_rfl) (Wk.nxt (wp_seq (Wk.reg ?_)))
 refine Wk.rP 0 18 (.bool false) rfl rfl ?_
 refine Wk.rP 1 4 (.bool false) rfl rfl ?_
 refine Wk.rEnd 2 rfl (Wk.nxt (wp_ret ?_))
 have kk4 := Wk.Chg.step kk2 ch3 trivial
 refine Wk.ret (.bool false) rfl (by kernel_rfl) ?_
 exact ⟨by first | rfl | rw [decide_eq_false hmem1], kk4⟩
theorem Add_any (lo : Nat) (L : List Att) (g : Nat) (F : List Nat) (x : Att) (w : World) (h : Mur.SetF 32 57 lo w g L F) : Calls Tryd.prog 15 #[.pointer (some ⟨g, 0, none⟩), .agg (attC x.k x.r x.n x.t).toArray] w fun e w' => ∃ F', e = .returned (.int .i64 (Mur.addS x L).2) ∧ Mur.SetF 32 57 lo w' g ((Mur.addS x L).1) F' ∧ Wk.Chg F w w' ∧ Wk.NewOr w.heap.size F F' := by
 have hmem_ := Mur.SetF.mem h
 obtain ⟨A, n, c, hS, rfl⟩ := h
 have hpS := hS.hp
 have hgl := (Array.getElem?_eq_some_iff.1 hpS).1
 have hOw := hS.own
 have hsrt := hS.srt
 have hlen := hS.len
 have hOl := hOw.sl.len
 have hOc := hOw.nc
 have hlo_ := hS.lo_
 have hOw2 : ∀ k, (Value.slice A n c).ownBlock = some k → (lo ≤ k ∧ k < w.heap.size) ∧ k ≠ g := fun k h => ⟨hOw.lt k h, hS.ne k h⟩
 refine calls_of_wp Tryd.func15 rfl ?_
 refine wp_seq (Wk.reg ?_)
 refine Wk.rEx 0 (some 3) _ rfl rfl (by kernel_rfl) (Wk.new_ex (.pointer (some ⟨w.heap.size, 0, none⟩)) ((Mur.attC x.k x.r x.n x.t).toArray) 32 (by kernel_rfl)) ?_
 rintro _ W1 ⟨rfl, hb1, ch1, sz1⟩
 have zz1 := ch1.size
 refine Wk.rP 1 4 (.int .i64 0) rfl rfl ?_
 refine Wk.rEnd 2 rfl (Wk.nxt (wp_seq (wp_seq (Wk.reg ?_))))
 refine Wk.rP 0 9 (.pointer (some ⟨g, 0, none⟩)) rfl rfl ?_
 refine Wk.rP 1 10 (.bool false) rfl rfl ?_
 refine Wk.rEnd 2 rfl (Wk.nxt (wp_cond_false (by kernel_rfl) (wp_skip (Wk.nxt (wp_seq (wp_seq (Wk.reg ?_)))))))
 refine Wk.rQ 0 12 (.agg ((Mur.attC x.k x.r x.n x.t).toArray)) rfl rfl (Mur.loadArr 32 (.tmp 3) rfl _ Tryd.underlying32 rfl w.heap.size (by kernel_rfl) (Mur.attC x.k x.r x.n x.t).toArray 97 (Mur.attC_size x.hk x.hr x.ht) (by kernel_rfl) 32 (0, 0) hb1) ?_
 refine Wk.rC 1 13 38 [.tmp 12] #[32] [.agg ((Mur.attC x.k x.r x.n x.t).toArray)] rfl rfl rfl ?_
 by_cases hmay1 : Mur.may x.n
 ·have hmay1u : (1 ≤ x.n ∧ x.n ≤ 5000) := hmay1
  refine (Bytes_ok x.k x.r x.t x.n x.hk x.hr x.ht W1 hmay1).mono ?_
  rintro _ W2 ⟨qr1, cr1, RB1, hRB1, rfl, hbr1, hq1, hq2, ch2⟩
  have zz2 := ch2.size
  have hBt1 : ∀ g off, (some ⟨qr1, 0, none⟩ : Option Addr) = some ⟨g, off, none⟩ → W1.heap.size ≤ g ∧ g < W2.heap.size := fun g off e => by cases e; exact hq1
  refine ⟨_, rfl, ?_⟩
  refine Wk.rP 2 11 (.tuple #[.slice (some ⟨qr1, 0, none⟩) 104 cr1, .int .i64 0]) rfl rfl ?_
  refine Wk.rP 3 14 (.slice (some ⟨qr1, 0, none⟩) 104 cr1) rfl rfl ?_
  refine Wk.rP 4 15 (.int .i64 0) rfl rfl ?_
  refine Wk.rP 5 5 (.slice (some ⟨qr1, 0, none⟩) 104 cr1) rfl rfl ?_
  refine Wk.rP 6 6 (.int .i64 0) rfl rfl ?_
  refine Wk.rEnd 7 rfl (Wk.nxt (wp_seq (Wk.reg ?_)))
  refine Wk.rP 0 16 (.int .i64 0) rfl rfl ?_
  refine Wk.rQ 1 17 (.bool false) rfl rfl (Wk.boolF (b := ((0 : Int) != (0 : Int))) (bne_eq_false_iff_eq.2 (by decide)) (by kernel_rfl)) ?_
  refine Wk.rEnd 2 rfl (Wk.nxt (wp_cond_false (by kernel_rfl) (wp_skip (Wk.nxt (wp_seq ?_)))))
  refine Wk.dReg ([]) (by kernel_rfl) ?_
  intro W3 ch3 sz2
  have zz3 := ch3.size
  have sS1 : Wk.Chg ([]) W3 W3 := (Wk.Chg.refl _).more (by simp)
  refine Wk.dV 0 20 (.pointer (some ⟨g, 0, none⟩)) rfl rfl (fun _ _ => by kernel_rfl) sS1 ?_
  refine Wk.dV 1 21 (.pointer (some ⟨g, 0, none⟩)) rfl rfl (fun _ _ => by kernel_rfl) sS1 ?_
  refine Wk.dV 2 22 (.pointer (some ⟨g, 0, none⟩)) rfl rfl (fun _ _ => by kernel_rfl) sS1 ?_
  refine Wk.dV 3 23 (.slice A n c) rfl rfl (fun w' hw' => (Wk.load1 22 (.tmp 22) rfl (by kernel_rfl) ⟨g, 0, none⟩ (by kernel_rfl) (.slice A n c) ((cell_of_row _ _ 0 _ _ _ (Wk.Chg.hp hw' (Wk.Chg.hp ch3 (Wk.Chg.hp ch2 (Wk.Chg.hp ch1 hpS trivial) trivial) trivial) trivial)).trans rfl))) sS1 ?_
  refine Wk.dV 4 24 (.agg ((Mur.attC x.k x.r x.n x.t).toArray)) rfl rfl (fun w' hw' => (Mur.loadArr 32 (.tmp 3) rfl _ Tryd.underlying32 rfl w.heap.size (by kernel_rfl) (Mur.attC x.k x.r x.n x.t).toArray 97 (Mur.attC_size x.hk x.hr x.ht) (by kernel_rfl) 32 (0, 0) (Wk.Chg.hp hw' (Wk.Chg.hp ch3 (Wk.Chg.hp ch2 hb1 trivial) trivial) trivial))) sS1 ?_
  refine Wk.dOp 5 (by kernel_rfl) ?_
  refine Wk.oCall (some 25) 39 [.tmp 23, .tmp 24, .func 40] #[22, 32, 81] [.slice A n c, .agg ((Mur.attC x.k x.r x.n x.t).toArray), .func (.func 40) #[] #[]] rfl rfl (by kernel_rfl) rfl (by kernel_rfl) (by kernel_rfl) ?_
  have ow1 := Mur.OwnA.chg hOw ch1 (fun q e _ _ => trivial)
  have ow2 := Mur.OwnA.chg ow1 ch2 (fun q e _ _ => trivial)
  have ow3 := Mur.OwnA.chg ow2 ch3 (fun q e _ _ => trivial)
  refine (Search_any L hsrt A n c x W3 ow3.sl (by omega)).mono ?_
  by_cases hmem1 : x ∈ L
  ·rw [decide_eq_true hmem1]
   rintro _ W4 ⟨rfl, ch4⟩
   have zz4 := ch4.size
   have sS2 := Wk.Chg.step sS1 ch4 trivial
   refine ⟨_, rfl, sS2, ?_⟩
   refine Wk.dV 6 19 (.tuple #[.int .i64 ((Mur.pos x L : Nat) : Int), .bool true]) rfl rfl (fun _ _ => by kernel_rfl) sS2 ?_
   refine Wk.dV 7 26 (.int .i64 ((Mur.pos x L : Nat) : Int)) rfl rfl (fun _ _ => by kernel_rfl) sS2 ?_
   refine Wk.dV 8 27 (.bool true) rfl rfl (fun _ _ => by kernel_rfl) sS2 ?_
   refine Wk.dV 9 7 (.int .i64 ((Mur.pos x L : Nat) : Int)) rfl rfl (fun _ _ => by kernel_rfl) sS2 ?_
   refine Wk.dV 10 8 (.bool true) rfl rfl (fun _ _ => by kernel_rfl) sS2 ?_
   refine Wk.dEnd (by kernel_rfl) (Wk.nxt (wp_seq (wp_block (wp_seq (Wk.reg ?_)))))
   refine Wk.rP 0 29 (.bool true) rfl rfl ?_
   refine Wk.rP 1 28 (.bool true) rfl rfl ?_
   refine Wk.rEnd 2 rfl (Wk.nxt (wp_cond_true (by kernel_rfl) (wp_seq (Wk.reg ?_))))
   refine Wk.rP 0 4 (.int .i64 7) rfl rfl ?_
   refine Wk.rEnd 1 rfl (Wk.nxt (wp_ret (Wk.inR (Wk.thR ?_))))
   have kk1 : Wk.Chg ([g] ++ Wk.blk (.slice A n c)) (w) W1 := Wk.Chg.step ((Wk.Chg.refl _).more (by simp)) ch1 trivial
   have kk2 := Wk.Chg.step kk1 ch2 trivial
   have kk3 := Wk.Chg.step kk2 ch3 trivial
   have kk4 := Wk.Chg.step kk3 ch4 trivial
   rw [Mur.addS_twice hmay1 hmem1]
   have kk5 : Wk.Chg [] ((w)) W1 := Wk.Chg.step ((Wk.Chg.refl _).more (by simp)) ch1 trivial
   have kk6 := Wk.Chg.step kk5 ch2 trivial
   have kk7 := Wk.Chg.step kk6 ch3 trivial
   have kk8 := Wk.Chg.step kk7 ch4 trivial
   have hfin := Mur.SetA.chg hS kk8 (fun _ _ => trivial)
   refine Wk.ret (.int .i64 7) rfl (by kernel_rfl) ?_
   exact ⟨_, rfl, ⟨_, _, _, hfin, rfl⟩, kk8.more (by simp), Mur.newOr_refl _ _⟩
  rw [decide_eq_false hmem1]
  rintro _ W4 ⟨rfl, ch4⟩
  have zz5 := ch4.size
  have sS3 := Wk.Chg.step sS1 ch4 trivial
  refine ⟨_, rfl, sS3, ?_⟩
  refine Wk.dV 6 19 (.tuple #[.int .i64 ((Mur.pos x L : Nat) : Int), .bool false]) rfl rfl (fun _ _ => by kernel_rfl) sS3 ?_
  refine Wk.dV 7 26 (.int .i64 ((Mur.pos x L : Nat) : Int)) rfl rfl (fun _ _ => by kernel_rfl) sS3 ?_
  refine Wk.dV 8 27 (.bool false) rfl rfl (fun _ _ => by kernel_rfl) sS3 ?_
  refine Wk.dV 9 7 (.int .i64 ((Mur.pos x L : Nat) : Int)) rfl rfl (fun _ _ => by kernel_rfl) sS3 ?_
  refine Wk.dV 10 8 (.bool false) rfl rfl (fun _ _ => by kernel_rfl) sS3 ?_
  refine Wk.dEnd (by kernel_rfl) (Wk.nxt (wp_seq (wp_block (wp_seq (Wk.reg ?_)))))
  refine Wk.rP 0 29 (.bool false) rfl rfl ?_
  refine Wk.rP 1 28 (.bool false) rfl rfl ?_
  refine Wk.rEnd 2 rfl (Wk.nxt (wp_cond_false (by kernel_rfl) (wp_seq (Wk.reg ?_))))
  refine Wk.rP 0 31 (.int .i64 ((Mur.pos x L : Nat) : Int)) rfl rfl ?_
  by_cases hx1 : ((Mur.pos x L : Nat) : Int) = (200 : Int)
  ·refine Wk.rQ 1 32 (.bool true) rfl rfl (Wk.boolT (b := (((Mur.pos x L : Nat) : Int) == (200 : Int))) (beq_iff_eq.2 (by first | exact hx1 | omega)) (by kernel_rfl)) ?_
   refine Wk.rP 2 30 (.bool true) rfl rfl ?_
   refine Wk.rEnd 3 rfl (Wk.nxt (wp_cond_true (by kernel_rfl) (wp_seq (Wk.reg ?_))))
   refine Wk.rP 0 4 (.int .i64 8) rfl rfl ?_
   refine Wk.rEnd 1 rfl (Wk.nxt (wp_ret (Wk.inR (Wk.thR ?_))))
   have kk9 : Wk.Chg ([g] ++ Wk.blk (.slice A n c)) (w) W1 := Wk.Chg.step ((Wk.Chg.refl _).more (by simp)) ch1 trivial
   have kk10 := Wk.Chg.step kk9 ch2 trivial
   have kk11 := Wk.Chg.step kk10 ch3 trivial
   have kk12 := Wk.Chg.step kk11 ch4 trivial
   rw [Mur.addS_full hmay1 hmem1 (by omega)]
   have kk13 : Wk.Chg [] ((w)) W1 := Wk.Chg.step ((Wk.Chg.refl _).more (by simp)) ch1 trivial
   have kk14 := Wk.Chg.step kk13 ch2 trivial
   have kk15 := Wk.Chg.step kk14 ch3 trivial
   have kk16 := Wk.Chg.step kk15 ch4 trivial
   have hfin := Mur.SetA.chg hS kk16 (fun _ _ => trivial)
   refine Wk.ret (.int .i64 8) rfl (by kernel_rfl) ?_
   exact ⟨_, rfl, ⟨_, _, _, hfin, rfl⟩, kk16.more (by simp), Mur.newOr_refl _ _⟩
  refine Wk.rQ 1 32 (.bool false) rfl rfl (Wk.boolF (b := (((Mur.pos x L : Nat) : Int) == (200 : Int))) (beq_eq_false_iff_ne.2 (by first | exact hx1 | omega)) (by kernel_rfl)) ?_
  refine Wk.rP 2 30 (.bool false) rfl rfl ?_
  refine Wk.rEnd 3 rfl (Wk.nxt (wp_cond_false (by kernel_rfl) (wp_skip (Wk.inN (Wk.nxt (wp_seq ?_))))))
  refine Wk.dReg (([g] ++ Wk.blk (.slice A n c))) (by kernel_rfl) ?_
  intro W5 ch5 sz3
  have zz6 := ch5.size
  have sS4 : Wk.Chg (([g] ++ Wk.blk (.slice A n c))) W5 W5 := (Wk.Chg.refl _).more (by simp)
  refine Wk.dV 0 33 (.pointer (some ⟨g, 0, none⟩)) rfl rfl (fun _ _ => by kernel_rfl) sS4 ?_
  refine Wk.dV 1 34 (.pointer (some ⟨g, 0, none⟩)) rfl rfl (fun _ _ => by kernel_rfl) sS4 ?_
  refine Wk.dV 2 35 (.pointer (some ⟨g, 0, none⟩)) rfl rfl (fun _ _ => by kernel_rfl) sS4 ?_
  refine Wk.dV 3 36 (.pointer (some ⟨g, 0, none⟩)) rfl rfl (fun _ _ => by kernel_rfl) sS4 ?_
  refine Wk.dV 5 38 (.int .i64 ((Mur.pos x L : Nat) : Int)) rfl rfl (fun _ _ => by kernel_rfl) sS4 ?_
  refine Wk.dV 6 39 (.agg ((Mur.attC x.k x.r x.n x.t).toArray)) rfl rfl (fun w' hw' => (Mur.loadArr 32 (.tmp 3) rfl _ Tryd.underlying32 rfl w.heap.size (by kernel_rfl) (Mur.attC x.k x.r x.n x.t).toArray 97 (Mur.attC_size x.hk x.hr x.ht) (by kernel_rfl) 32 (0, 0) (Wk.Chg.hp hw' (Wk.Chg.hp ch5 (Wk.Chg.hp ch4 (Wk.Chg.hp ch3 (Wk.Chg.hp ch2 hb1 trivial) trivial) trivial) trivial) ⟨by omega, (Wk.off_blk (fun gz hgz => by have := hOw2 gz hgz; omega))⟩))) sS4 ?_
  refine Wk.dOp2 4 7 (by kernel_rfl) ?_ ?_
  ·refine Wk.oVal (some 37) (.slice A n c) rfl rfl (by kernel_rfl) (Wk.load1 22 (.tmp 36) rfl (by kernel_rfl) ⟨g, 0, none⟩ (by kernel_rfl) (.slice A n c) ((cell_of_row _ _ 0 _ _ _ (Wk.Chg.hp ch5 (Wk.Chg.hp ch4 (Wk.Chg.hp ch3 (Wk.Chg.hp ch2 (Wk.Chg.hp ch1 hpS trivial) trivial) trivial) trivial) trivial)).trans rfl)) ?_
   refine ⟨sS4, ?_⟩
   refine Wk.dOp 7 (by kernel_rfl) ?_
   refine Wk.oEx (some 40) _ rfl rfl (by kernel_rfl) (Mur.build1 22 32 (.tmp 39) rfl Tryd.underlying22 attI x.k x.r x.t x.n x.hk x.hr x.ht (by kernel_rfl)) ?_
   rintro _ W6 ⟨rfl, hb2, ch6, sz4⟩
   have zz7 := ch6.size
   have sS5 := Wk.Chg.step sS4 ch6 trivial
   refine ⟨sS5, ?_⟩
   refine Wk.dOp 8 (by kernel_rfl) ?_
   refine Wk.oCall (some 41) 41 [.tmp 37, .tmp 38, .tmp 40] #[22, 3, 22] [.slice A n c, .int .i64 ((Mur.pos x L : Nat) : Int), .slice (some ⟨W5.heap.size, 0, none⟩) 1 1] rfl rfl (by kernel_rfl) rfl (by kernel_rfl) (by kernel_rfl) ?_
   have ow4 := Mur.OwnA.chg ow3 ch4 (fun q e _ _ => trivial)
   have ow5 := Mur.OwnA.chg ow4 ch5 (fun q e _ _ => trivial)
   have ow6 := Mur.OwnA.chg ow5 ch6 (fun q e _ _ => trivial)
   refine (Insert_any L lo A n c (Mur.pos x L) x W5.heap.size W6 ow6 (by omega) (by omega) hb2 (fun q_ h_ => by have := hOw.lt q_ h_; omega) (by have := Mur.pos_le x L; omega)).mono ?_
   rintro _ W7 ⟨AA1, nn1, rfl, ow7, ch7, ha1⟩
   replace ow7 : OwnA W7 lo 32 AA1 (n + 1) nn1 (Mur.ins x L) := ow7
   have zz8 := ch7.size
   have hq3 := ow7.nc
   have sS6 := Wk.Chg.step sS5 ch7 (Mur.newOr_iff.2 (fun t ht => .inl (List.mem_append_right _ ht)))
   refine ⟨_, rfl, sS6, ?_⟩
   refine Wk.dV 9 42 (.pointer (some ⟨g, 0, none⟩)) rfl rfl (fun _ _ => by kernel_rfl) sS6 ?_
   refine Wk.dV 10 43 (.pointer (some ⟨g, 0, none⟩)) rfl rfl (fun _ _ => by kernel_rfl) sS6 ?_
   refine Wk.dOp 11 (by kernel_rfl) ?_
   refine Wk.oExS none _ rfl rfl (by kernel_rfl) (Wk.store1 22 (.tmp 43) (.tmp 41) rfl (by kernel_rfl) g 0 (by kernel_rfl) (.slice AA1 (n + 1) nn1) (by kernel_rfl) rfl 57 #[.slice A n c] (Wk.Chg.hp ch7 (Wk.Chg.hp ch6 (Wk.Chg.hp ch5 (Wk.Chg.hp ch4 (Wk.Chg.hp ch3 (Wk.Chg.hp ch2 (Wk.Chg.hp ch1 hpS trivial) trivial) trivial) trivial) trivial) trivial) (Wk.off_blk (fun gz hgz => by have := hOw2 gz hgz; omega))) (by simp)) ?_
   rintro W8 ⟨hb3, ch8⟩
   replace hb3 : W8.heap[g]? = some (.cells #[.slice AA1 (n + 1) nn1] 57 (0, 0)) := hb3
   have zz9 := ch8.size
   have sS7 := Wk.Chg.step sS6 ch8 ⟨.inl (by simp), trivial⟩
   refine ⟨sS7, ?_⟩
   refine Wk.dEnd (by kernel_rfl) (Wk.nxt (wp_seq ?_))
   refine Wk.dReg ([g]) (by kernel_rfl) ?_
   intro W10 ch9 sz5
   have zz10 := ch9.size
   have sS8 : Wk.Chg ([g]) W10 W10 := (Wk.Chg.refl _).more (by simp)
   refine Wk.dV 0 44 (.pointer (some ⟨g, 0, none⟩)) rfl rfl (fun _ _ => by kernel_rfl) sS8 ?_
   refine Wk.dV 1 45 (.pointer (some ⟨g, 0, none⟩)) rfl rfl (fun _ _ => by kernel_rfl) sS8 ?_
   refine Wk.dV 2 46 (.pointer (some ⟨g, 0, none⟩)) rfl rfl (fun _ _ => by kernel_rfl) sS8 ?_
   refine Wk.dV 3 47 (.pointer (some ⟨g, 0, none⟩)) rfl rfl (fun _ _ => by kernel_rfl) sS8 ?_
   refine Wk.dV 5 49 (.pointer (some ⟨g, 0, none⟩)) rfl rfl (fun _ _ => by kernel_rfl) sS8 ?_
   refine Wk.dV 6 50 (.pointer (some ⟨g, 0, none⟩)) rfl rfl (fun _ _ => by kernel_rfl) sS8 ?_
   refine Wk.dV 7 51 (.pointer (some ⟨g, 0, none⟩)) rfl rfl (fun _ _ => by kernel_rfl) sS8 ?_
   refine Wk.dOp2 4 8 (by kernel_rfl) ?_ ?_
   ·refine Wk.oVal (some 48) (.slice AA1 (n + 1) nn1) rfl rfl (by kernel_rfl) (Wk.load1 22 (.tmp 47) rfl (by kernel_rfl) ⟨g, 0, none⟩ (by kernel_rfl) (.slice AA1 (n + 1) nn1) ((cell_of_row _ _ 0 _ _ _ (Wk.Chg.hp ch9 hb3 trivial)).trans rfl)) ?_
    refine ⟨sS8, ?_⟩
    refine Wk.dOp 8 (by kernel_rfl) ?_
    refine Wk.oVal (some 52) (.slice AA1 (n + 1) nn1) rfl rfl (by kernel_rfl) (Wk.load1 22 (.tmp 51) rfl (by kernel_rfl) ⟨g, 0, none⟩ (by kernel_rfl) (.slice AA1 (n + 1) nn1) ((cell_of_row _ _ 0 _ _ _ (Wk.Chg.hp ch9 hb3 trivial)).trans rfl)) ?_
    refine ⟨sS8, ?_⟩
    refine Wk.dV 9 53 (.int .i64 ((n + 1 : Nat) : Int)) rfl rfl (fun _ _ => by kernel_rfl) sS8 ?_
    obtain ⟨mz, hmz, hmz2⟩ : ∃ m : Nat, (if (200 : Int) < ((n + 1 : Nat) : Int) then (200 : Int) else ((n + 1 : Nat) : Int)) = ((m : Nat) : Int) ∧ m = min (n + 1) 200 := ⟨min (n + 1) 200, by split <;> omega, rfl⟩
    refine Wk.dV 10 54 (.int .i64 ((mz : Nat) : Int)) rfl rfl (fun w' hw' => (Wk.val (congrArg (Value.int .i64) hmz) (by kernel_rfl))) sS8 ?_
    refine Wk.dV 11 55 (.slice AA1 mz nn1) rfl rfl (fun w' hw' => (Mur.run_toK 22 (.tmp 48) (.tmp 54) rfl 32 Tryd.underlying22 97 (by kernel_rfl) AA1 (n + 1) nn1 mz (.inr (by obtain ⟨q_, e_, _⟩ := ow7.ex (by omega); exact ⟨q_, 0, e_⟩)) (by kernel_rfl) (by kernel_rfl) (by omega))) sS8 ?_
    refine Wk.dV 12 56 (.pointer (some ⟨g, 0, none⟩)) rfl rfl (fun _ _ => by kernel_rfl) sS8 ?_
    refine Wk.dV 13 57 (.pointer (some ⟨g, 0, none⟩)) rfl rfl (fun _ _ => by kernel_rfl) sS8 ?_
    refine Wk.dOp 14 (by kernel_rfl) ?_
    refine Wk.oExS none _ rfl rfl (by kernel_rfl) (Wk.store1 22 (.tmp 57) (.tmp 55) rfl (by kernel_rfl) g 0 (by kernel_rfl) (.slice AA1 mz nn1) (by kernel_rfl) rfl 57 #[.slice AA1 (n + 1) nn1] (Wk.Chg.hp ch9 hb3 trivial) (by simp)) ?_
    rintro W11 ⟨hb4, ch10⟩
    replace hb4 : W11.heap[g]? = some (.cells #[.slice AA1 mz nn1] 57 (0, 0)) := hb4
    have zz11 := ch10.size
    have sS9 := Wk.Chg.step sS8 ch10 ⟨.inl (by simp), trivial⟩
    refine ⟨sS9, ?_⟩
    refine Wk.dEnd (by kernel_rfl) (Wk.nxt (wp_seq (Wk.reg ?_)))
    refine Wk.rP 0 4 (.int .i64 0) rfl rfl ?_
    refine Wk.rEnd 1 rfl (Wk.nxt (wp_ret ?_))
    have kk17 : Wk.Chg ([g] ++ Wk.blk (.slice A n c)) (w) W1 := Wk.Chg.step ((Wk.Chg.refl _).more (by simp)) ch1 trivial
    have kk18 := Wk.Chg.step kk17 ch2 trivial
    have kk19 := Wk.Chg.step kk18 ch3 trivial
    have kk20 := Wk.Chg.step kk19 ch4 trivial
    have kk21 := Wk.Chg.step kk20 ch5 trivial
    have kk22 := Wk.Chg.step kk21 ch6 trivial
    have kk23 := Wk.Chg.step kk22 ch7 (Mur.newOr_iff.2 (fun t ht => .inl (List.mem_append_right _ ht)))
    have kk24 := Wk.Chg.step kk23 ch8 ⟨.inl (by simp), trivial⟩
    have kk25 := Wk.Chg.step kk24 ch9 trivial
    have kk26 := Wk.Chg.step kk25 ch10 ⟨.inl (by simp), trivial⟩
    have ow8 := Mur.OwnA.chg ow7 ch8 (fun q e _ _ => ⟨(ha1 q e).elim (fun h1 => hS.ne q h1) (fun h1 => by omega), trivial⟩)
    have ow9 := Mur.OwnA.chg ow8 ch9 (fun q e _ _ => trivial)
    have ow10 := Mur.OwnA.chg ow9 ch10 (fun q e _ _ => ⟨(ha1 q e).elim (fun h1 => hS.ne q h1) (fun h1 => by omega), trivial⟩)
    have hmay_ := hmay1
    have hadd := Mur.addS_ok hmay1 hmem1 (by omega : Mur.pos x L ≠ 200)
    rw [hadd]
    have hcut := ow10.cut (k := mz) (by omega)
    rw [Mur.ins_take x L hOl hmz2] at hcut
    refine Wk.ret (.int .i64 0) rfl (by kernel_rfl) ?_
    exact ⟨_, rfl, ⟨AA1, mz, nn1, ⟨hb4, hcut, fun q hq => (ha1 q (by rw [Mur.own_cut _ (n + 1) mz nn1 nn1]; exact hq)).elim (fun h1 => hS.ne q h1) (fun h1 => by omega), hS.lo_, (Mur.ins_sorted hsrt hmem1).take 200, by rw [List.length_take]; omega, fun y_ hy_ => (Mur.mem_ins.1 (List.mem_of_mem_take hy_)).elim (fun q_ => by rw [q_]; exact hmay_) (fun q_ => hS.ok y_ q_)⟩, rfl⟩, kk26, Mur.newOr_set (n := n) (c := c) fun q hq => (ha1 q (by rw [Mur.own_cut _ (n + 1) mz nn1 nn1]; exact hq)).elim (fun h1 => .inl h1) (fun h1 => .inr (by omega))⟩
   refine Wk.oVal (some 52) (.slice AA1 (n + 1) nn1) rfl rfl (by kernel_rfl) (Wk.load1 22 (.tmp 51) rfl (by kernel_rfl) ⟨g, 0, none⟩ (by kernel_rfl) (.slice AA1 (n + 1) nn1) ((cell_of_row _ _ 0 _ _ _ (Wk.Chg.hp ch9 hb3 trivial)).trans rfl)) ?_
   refine ⟨sS8, ?_⟩
   refine Wk.dV 9 53 (.int .i64 ((n + 1 : Nat) : Int)) rfl rfl (fun _ _ => by kernel_rfl) sS8 ?_
   obtain ⟨mz, hmz, hmz2⟩ : ∃ m : Nat, (if (200 : Int) < ((n + 1 : Nat) : Int) then (200 : Int) else ((n + 1 : Nat) : Int)) = ((m : Nat) : Int) ∧ m = min (n + 1) 200 := ⟨min (n + 1) 200, by split <;> omega, rfl⟩
   refine Wk.dV 10 54 (.int .i64 ((mz : Nat) : Int)) rfl rfl (fun w' hw' => (Wk.val (congrArg (Value.int .i64) hmz) (by kernel_rfl))) sS8 ?_
   refine Wk.dOp 4 (by kernel_rfl) ?_
   refine Wk.oVal (some 48) (.slice AA1 (n + 1) nn1) rfl rfl (by kernel_rfl) (Wk.load1 22 (.tmp 47) rfl (by kernel_rfl) ⟨g, 0, none⟩ (by kernel_rfl) (.slice AA1 (n + 1) nn1) ((cell_of_row _ _ 0 _ _ _ (Wk.Chg.hp ch9 hb3 trivial)).trans rfl)) ?_
   refine ⟨sS8, ?_⟩
   refine Wk.dV 11 55 (.slice AA1 mz nn1) rfl rfl (fun w' hw' => (Mur.run_toK 22 (.tmp 48) (.tmp 54) rfl 32 Tryd.underlying22 97 (by kernel_rfl) AA1 (n + 1) nn1 mz (.inr (by obtain ⟨q_, e_, _⟩ := ow7.ex (by omega); exact ⟨q_, 0, e_⟩)) (by kernel_rfl) (by kernel_rfl) (by omega))) sS8 ?_
   refine Wk.dV 12 56 (.pointer (some ⟨g, 0, none⟩)) rfl rfl (fun _ _ => by kernel_rfl) sS8 ?_
   refine Wk.dV 13 57 (.pointer (some ⟨g, 0, none⟩)) rfl rfl (fun _ _ => by kernel_rfl) sS8 ?_
   refine Wk.dOp 14 (by kernel_rfl) ?_
   refine Wk.oExS none _ rfl rfl (by kernel_rfl) (Wk.store1 22 (.tmp 57) (.tmp 55) rfl (by kernel_rfl) g 0 (by kernel_rfl) (.slice AA1 mz nn1) (by kernel_rfl) rfl 57 #[.slice AA1 (n + 1) nn1] (Wk.Chg.hp ch9 hb3 trivial) (by simp)) ?_
   rintro W12 ⟨hb5, ch11⟩
   replace hb5 : W12.heap[g]? = some (.cells #[.slice AA1 mz nn1] 57 (0, 0)) := hb5
   have zz12 := ch11.size
   have sS10 := Wk.Chg.step sS8 ch11 ⟨.inl (by simp), trivial⟩
   refine ⟨sS10, ?_⟩
   refine Wk.dEnd (by kernel_rfl) (Wk.nxt (wp_seq (Wk.reg ?_)))
   refine Wk.rP 0 4 (.int .i64 0) rfl rfl ?_
   refine Wk.rEnd 1 rfl (Wk.nxt (wp_ret ?_))
   have kk27 : Wk.Chg ([g] ++ Wk.blk (.slice A n c)) (w) W1 := Wk.Chg.step ((Wk.Chg.refl _).more (by simp)) ch1 trivial
   have kk28 := Wk.Chg.step kk27 ch2 trivial
   have kk29 := Wk.Chg.step kk28 ch3 trivial
   have kk30 := Wk.Chg.step kk29 ch4 trivial
   have kk31 := Wk.Chg.step kk30 ch5 trivial
   have kk32 := Wk.Chg.step kk31 ch6 trivial
   have kk33 := Wk.Chg.step kk32 ch7 (Mur.newOr_iff.2 (fun t ht => .inl (List.mem_append_right _ ht)))
   have kk34 := Wk.Chg.step kk33 ch8 ⟨.inl (by simp), trivial⟩
   have kk35 := Wk.Chg.step kk34 ch9 trivial
   have kk36 := Wk.Chg.step kk35 ch11 ⟨.inl (by simp), trivial⟩
   have ow11 := Mur.OwnA.chg ow7 ch8 (fun q e _ _ => ⟨(ha1 q e).elim (fun h1 => hS.ne q h1) (fun h1 => by omega), trivial⟩)
   have ow12 := Mur.OwnA.chg ow11 ch9 (fun q e _ _ => trivial)
   have ow13 := Mur.OwnA.chg ow12 ch11 (fun q e _ _ => ⟨(ha1 q e).elim (fun h1 => hS.ne q h1) (fun h1 => by omega), trivial⟩)
   have hmay_ := hmay1
   have hadd := Mur.addS_ok hmay1 hmem1 (by omega : Mur.pos x L ≠ 200)
   rw [hadd]
   have hcut := ow13.cut (k := mz) (by omega)
   rw [Mur.ins_take x L hOl hmz2] at hcut
   refine Wk.ret (.int .i64 0) rfl (by kernel_rfl) ?_
   exact ⟨_, rfl, ⟨AA1, mz, nn1, ⟨hb5, hcut, fun q hq => (ha1 q (by rw [Mur.own_cut _ (n + 1) mz nn1 nn1]; exact hq)).elim (fun h1 => hS.ne q h1) (fun h1 => by omega), hS.lo_, (Mur.ins_sorted hsrt hmem1).take 200, by rw [List.length_take]; omega, fun y_ hy_ => (Mur.mem_ins.1 (List.mem_of_mem_take hy_)).elim (fun q_ => by rw [q_]; exact hmay_) (fun q_ => hS.ok y_ q_)⟩, rfl⟩, kk36, Mur.newOr_set (n := n) (c := c) fun q hq => (ha1 q (by rw [Mur.own_cut _ (n + 1) mz nn1 nn1]; exact hq)).elim (fun h1 => .inl h1) (fun h1 => .inr (by omega))⟩
  refine Wk.oEx (some 40) _ rfl rfl (by kernel_rfl) (Mur.build1 22 32 (.tmp 39) rfl Tryd.underlying22 attI x.k x.r x.t x.n x.hk x.hr x.ht (by kernel_rfl)) ?_
  rintro _ W13 ⟨rfl, hb6, ch12, sz6⟩
  have zz13 := ch12.size
  have sS11 := Wk.Chg.step sS4 ch12 trivial
  refine ⟨sS11, ?_⟩
  refine Wk.dOp 4 (by kernel_rfl) ?_
  refine Wk.oVal (some 37) (.slice A n c) rfl rfl (by kernel_rfl) (Wk.load1 22 (.tmp 36) rfl (by kernel_rfl) ⟨g, 0, none⟩ (by kernel_rfl) (.slice A n c) ((cell_of_row _ _ 0 _ _ _ (Wk.Chg.hp ch12 (Wk.Chg.hp ch5 (Wk.Chg.hp ch4 (Wk.Chg.hp ch3 (Wk.Chg.hp ch2 (Wk.Chg.hp ch1 hpS trivial) trivial) trivial) trivial) trivial) trivial)).trans rfl)) ?_
  refine ⟨sS11, ?_⟩
  refine Wk.dOp 8 (by kernel_rfl) ?_
  refine Wk.oCall (some 41) 41 [.tmp 37, .tmp 38, .tmp 40] #[22, 3, 22] [.slice A n c, .int .i64 ((Mur.pos x L : Nat) : Int), .slice (some ⟨W5.heap.size, 0, none⟩) 1 1] rfl rfl (by kernel_rfl) rfl (by kernel_rfl) (by kernel_rfl) ?_
  have ow14 := Mur.OwnA.chg ow3 ch4 (fun q e _ _ => trivial)
  have ow15 := Mur.OwnA.chg ow14 ch5 (fun q e _ _ => trivial)
  have ow16 := Mur.OwnA.chg ow15 ch12 (fun q e _ _ => trivial)
  refine (Insert_any L lo A n c (Mur.pos x L) x W5.heap.size W13 ow16 (by omega) (by omega) hb6 (fun q_ h_ => by have := hOw.lt q_ h_; omega) (by have := Mur.pos_le x L; omega)).mono ?_
  rintro _ W14 ⟨AA2, nn2, rfl, ow17, ch13, ha2⟩
  replace ow17 : OwnA W14 lo 32 AA2 (n + 1) nn2 (Mur.ins x L) := ow17
  have zz14 := ch13.size
  have hq4 := ow17.nc
  have sS12 := Wk.Chg.step sS11 ch13 (Mur.newOr_iff.2 (fun t ht => .inl (List.mem_append_right _ ht)))
  refine ⟨_, rfl, sS12, ?_⟩
  refine Wk.dV 9 42 (.pointer (some ⟨g, 0, none⟩)) rfl rfl (fun _ _ => by kernel_rfl) sS12 ?_
  refine Wk.dV 10 43 (.pointer (some ⟨g, 0, none⟩)) rfl rfl (fun _ _ => by kernel_rfl) sS12 ?_
  refine Wk.dOp 11 (by kernel_rfl) ?_
  refine Wk.oExS none _ rfl rfl (by kernel_rfl) (Wk.store1 22 (.tmp 43) (.tmp 41) rfl (by kernel_rfl) g 0 (by kernel_rfl) (.slice AA2 (n + 1) nn2) (by kernel_rfl) rfl 57 #[.slice A n c] (Wk.Chg.hp ch13 (Wk.Chg.hp ch12 (Wk.Chg.hp ch5 (Wk.Chg.hp ch4 (Wk.Chg.hp ch3 (Wk.Chg.hp ch2 (Wk.Chg.hp ch1 hpS trivial) trivial) trivial) trivial) trivial) trivial) (Wk.off_blk (fun gz hgz => by have := hOw2 gz hgz; omega))) (by simp)) ?_
  rintro W15 ⟨hb7, ch14⟩
  replace hb7 : W15.heap[g]? = some (.cells #[.slice AA2 (n + 1) nn2] 57 (0, 0)) := hb7
  have zz15 := ch14.size
  have sS13 := Wk.Chg.step sS12 ch14 ⟨.inl (by simp), trivial⟩
  refine ⟨sS13, ?_⟩
  refine Wk.dEnd (by kernel_rfl) (Wk.nxt (wp_seq ?_))
  refine Wk.dReg ([g]) (by kernel_rfl) ?_
  intro W16 ch15 sz7
  have zz16 := ch15.size
  have sS14 : Wk.Chg ([g]) W16 W16 := (Wk.Chg.refl _).more (by simp)
  refine Wk.dV 0 44 (.pointer (some ⟨g, 0, none⟩)) rfl rfl (fun _ _ => by kernel_rfl) sS14 ?_
  refine Wk.dV 1 45 (.pointer (some ⟨g, 0, none⟩)) rfl rfl (fun _ _ => by kernel_rfl) sS14 ?_
  refine Wk.dV 2 46 (.pointer (some ⟨g, 0, none⟩)) rfl rfl (fun _ _ => by kernel_rfl) sS14 ?_
  refine Wk.dV 3 47 (.pointer (some ⟨g, 0, none⟩)) rfl rfl (fun _ _ => by kernel_rfl) sS14 ?_
  refine Wk.dV 5 49 (.pointer (some ⟨g, 0, none⟩)) rfl rfl (fun _ _ => by kernel_rfl) sS14 ?_
  refine Wk.dV 6 50 (.pointer (some ⟨g, 0, none⟩)) rfl rfl (fun _ _ => by kernel_rfl) sS14 ?_
  refine Wk.dV 7 51 (.pointer (some ⟨g, 0, none⟩)) rfl rfl (fun _ _ => by kernel_rfl) sS14 ?_
  refine Wk.dOp2 4 8 (by kernel_rfl) ?_ ?_
  ·refine Wk.oVal (some 48) (.slice AA2 (n + 1) nn2) rfl rfl (by kernel_rfl) (Wk.load1 22 (.tmp 47) rfl (by kernel_rfl) ⟨g, 0, none⟩ (by kernel_rfl) (.slice AA2 (n + 1) nn2) ((cell_of_row _ _ 0 _ _ _ (Wk.Chg.hp ch15 hb7 trivial)).trans rfl)) ?_
   refine ⟨sS14, ?_⟩
   refine Wk.dOp 8 (by kernel_rfl) ?_
   refine Wk.oVal (some 52) (.slice AA2 (n + 1) nn2) rfl rfl (by kernel_rfl) (Wk.load1 22 (.tmp 51) rfl (by kernel_rfl) ⟨g, 0, none⟩ (by kernel_rfl) (.slice AA2 (n + 1) nn2) ((cell_of_row _ _ 0 _ _ _ (Wk.Chg.hp ch15 hb7 trivial)).trans rfl)) ?_
   refine ⟨sS14, ?_⟩
   refine Wk.dV 9 53 (.int .i64 ((n + 1 : Nat) : Int)) rfl rfl (fun _ _ => by kernel_rfl) sS14 ?_
   obtain ⟨mz, hmz, hmz2⟩ : ∃ m : Nat, (if (200 : Int) < ((n + 1 : Nat) : Int) then (200 : Int) else ((n + 1 : Nat) : Int)) = ((m : Nat) : Int) ∧ m = min (n + 1) 200 := ⟨min (n + 1) 200, by split <;> omega, rfl⟩
   refine Wk.dV 10 54 (.int .i64 ((mz : Nat) : Int)) rfl rfl (fun w' hw' => (Wk.val (congrArg (Value.int .i64) hmz) (by kernel_rfl))) sS14 ?_
   refine Wk.dV 11 55 (.slice AA2 mz nn2) rfl rfl (fun w' hw' => (Mur.run_toK 22 (.tmp 48) (.tmp 54) rfl 32 Tryd.underlying22 97 (by kernel_rfl) AA2 (n + 1) nn2 mz (.inr (by obtain ⟨q_, e_, _⟩ := ow17.ex (by omega); exact ⟨q_, 0, e_⟩)) (by kernel_rfl) (by kernel_rfl) (by omega))) sS14 ?_
   refine Wk.dV 12 56 (.pointer (some ⟨g, 0, none⟩)) rfl rfl (fun _ _ => by kernel_rfl) sS14 ?_
   refine Wk.dV 13 57 (.pointer (some ⟨g, 0, none⟩)) rfl rfl (fun _ _ => by kernel_rfl) sS14 ?_
   refine Wk.dOp 14 (by kernel_rfl) ?_
   refine Wk.oExS none _ rfl rfl (by kernel_rfl) (Wk.store1 22 (.tmp 57) (.tmp 55) rfl (by kernel_rfl) g 0 (by kernel_rfl) (.slice AA2 mz nn2) (by kernel_rfl) rfl 57 #[.slice AA2 (n + 1) nn2] (Wk.Chg.hp ch15 hb7 trivial) (by simp)) ?_
   rintro W17 ⟨hb8, ch16⟩
   replace hb8 : W17.heap[g]? = some (.cells #[.slice AA2 mz nn2] 57 (0, 0)) := hb8
   have zz17 := ch16.size
   have sS15 := Wk.Chg.step sS14 ch16 ⟨.inl (by simp), trivial⟩
   refine ⟨sS15, ?_⟩
   refine Wk.dEnd (by kernel_rfl) (Wk.nxt (wp_seq (Wk.reg ?_)))
   refine Wk.rP 0 4 (.int .i64 0) rfl rfl ?_
   refine Wk.rEnd 1 rfl (Wk.nxt (wp_ret ?_))
   have kk37 : Wk.Chg ([g] ++ Wk.blk (.slice A n c)) (w) W1 := Wk.Chg.step ((Wk.Chg.refl _).more (by simp)) ch1 trivial
   have kk38 := Wk.Chg.step kk37 ch2 trivial
   have kk39 := Wk.Chg.step kk38 ch3 trivial
   have kk40 := Wk.Chg.step kk39 ch4 trivial
   have kk41 := Wk.Chg.step kk40 ch5 trivial
   have kk42 := Wk.Chg.step kk41 ch12 trivial
   have kk43 := Wk.Chg.step kk42 ch13 (Mur.newOr_iff.2 (fun t ht => .inl (List.mem_append_right _ ht)))
   have kk44 := Wk.Chg.step kk43 ch14 ⟨.inl (by simp), trivial⟩
   have kk45 := Wk.Chg.step kk44 ch15 trivial
   have kk46 := Wk.Chg.step kk45 ch16 ⟨.inl (by simp), trivial⟩
   have ow18 := Mur.OwnA.chg ow17 ch14 (fun q e _ _ => ⟨(ha2 q e).elim (fun h1 => hS.ne q h1) (fun h1 => by omega), trivial⟩)
   have ow19 := Mur.OwnA.chg ow18 ch15 (fun q e _ _ => trivial)
   have ow20 := Mur.OwnA.chg ow19 ch16 (fun q e _ _ => ⟨(ha2 q e).elim (fun h1 => hS.ne q h1) (fun h1 => by omega), trivial⟩)
   have hmay_ := hmay1
   have hadd := Mur.addS_ok hmay1 hmem1 (by omega : Mur.pos x L ≠ 200)
   rw [hadd]
   have hcut := ow20.cut (k := mz) (by omega)
   rw [Mur.ins_take x L hOl hmz2] at hcut
   refine Wk.ret (.int .i64 0) rfl (by kernel_rfl) ?_
   exact ⟨_, rfl, ⟨AA2, mz, nn2, ⟨hb8, hcut, fun q hq => (ha2 q (by rw [Mur.own_cut _ (n + 1) mz nn2 nn2]; exact hq)).elim (fun h1 => hS.ne q h1) (fun h1 => by omega), hS.lo_, (Mur.ins_sorted hsrt hmem1).take 200, by rw [List.length_take]; omega, fun y_ hy_ => (Mur.mem_ins.1 (List.mem_of_mem_take hy_)).elim (fun q_ => by rw [q_]; exact hmay_) (fun q_ => hS.ok y_ q_)⟩, rfl⟩, kk46, Mur.newOr_set (n := n) (c := c) fun q hq => (ha2 q (by rw [Mur.own_cut _ (n + 1) mz nn2 nn2]; exact hq)).elim (fun h1 => .inl h1) (fun h1 => .inr (by omega))⟩
  refine Wk.oVal (some 52) (.slice AA2 (n + 1) nn2) rfl rfl (by kernel_rfl) (Wk.load1 22 (.tmp 51) rfl (by kernel_rfl) ⟨g, 0, none⟩ (by kernel_rfl) (.slice AA2 (n + 1) nn2) ((cell_of_row _ _ 0 _ _ _ (Wk.Chg.hp ch15 hb7 trivial)).trans rfl)) ?_
  refine ⟨sS14, ?_⟩
  refine Wk.dV 9 53 (.int .i64 ((n + 1 : Nat) : Int)) rfl rfl (fun _ _ => by kernel_rfl) sS14 ?_
  obtain ⟨mz, hmz, hmz2⟩ : ∃ m : Nat, (if (200 : Int) < ((n + 1 : Nat) : Int) then (200 : Int) else ((n + 1 : Nat) : Int)) = ((m : Nat) : Int) ∧ m = min (n + 1) 200 := ⟨min (n + 1) 200, by split <;> omega, rfl⟩
  refine Wk.dV 10 54 (.int .i64 ((mz : Nat) : Int)) rfl rfl (fun w' hw' => (Wk.val (congrArg (Value.int .i64) hmz) (by kernel_rfl))) sS14 ?_
  refine Wk.dOp 4 (by kernel_rfl) ?_
  refine Wk.oVal (some 48) (.slice AA2 (n + 1) nn2) rfl rfl (by kernel_rfl) (Wk.load1 22 (.tmp 47) rfl (by kernel_rfl) ⟨g, 0, none⟩ (by kernel_rfl) (.slice AA2 (n + 1) nn2) ((cell_of_row _ _ 0 _ _ _ (Wk.Chg.hp ch15 hb7 trivial)).trans rfl)) ?_
  refine ⟨sS14, ?_⟩
  refine Wk.dV 11 55 (.slice AA2 mz nn2) rfl rfl (fun w' hw' => (Mur.run_toK 22 (.tmp 48) (.tmp 54) rfl 32 Tryd.underlying22 97 (by kernel_rfl) AA2 (n + 1) nn2 mz (.inr (by obtain ⟨q_, e_, _⟩ := ow17.ex (by omega); exact ⟨q_, 0, e_⟩)) (by kernel_rfl) (by kernel_rfl) (by omega))) sS14 ?_
  refine Wk.dV 12 56 (.pointer (some ⟨g, 0, none⟩)) rfl rfl (fun _ _ => by kernel_rfl) sS14 ?_
  refine Wk.dV 13 57 (.pointer (some ⟨g, 0, none⟩)) rfl rfl (fun _ _ => by kernel_rfl) sS14 ?_
  refine Wk.dOp 14 (by kernel_rfl) ?_
  refine Wk.oExS none _ rfl rfl (by kernel_rfl) (Wk.store1 22 (.tmp 57) (.tmp 55) rfl (by kernel_rfl) g 0 (by kernel_rfl) (.slice AA2 mz nn2) (by kernel_rfl) rfl 57 #[.slice AA2 (n + 1) nn2] (Wk.Chg.hp ch15 hb7 trivial) (by simp)) ?_
  rintro W18 ⟨hb9, ch17⟩
  replace hb9 : W18.heap[g]? = some (.cells #[.slice AA2 mz nn2] 57 (0, 0)) := hb9
  have zz18 := ch17.size
  have sS16 := Wk.Chg.step sS14 ch17 ⟨.inl (by simp), trivial⟩
  refine ⟨sS16, ?_⟩
  refine Wk.dEnd (by kernel_rfl) (Wk.nxt (wp_seq (Wk.reg ?_)))
  refine Wk.rP 0 4 (.int .i64 0) rfl rfl ?_
  refine Wk.rEnd 1 rfl (Wk.nxt (wp_ret ?_))
  have kk47 : Wk.Chg ([g] ++ Wk.blk (.slice A n c)) (w) W1 := Wk.Chg.step ((Wk.Chg.refl _).more (by simp)) ch1 trivial
  have kk48 := Wk.Chg.step kk47 ch2 trivial
  have kk49 := Wk.Chg.step kk48 ch3 trivial
  have kk50 := Wk.Chg.step kk49 ch4 trivial
  have kk51 := Wk.Chg.step kk50 ch5 trivial
  have kk52 := Wk.Chg.step kk51 ch12 trivial
  have kk53 := Wk.Chg.step kk52 ch13 (Mur.newOr_iff.2 (fun t ht => .inl (List.mem_append_right _ ht)))
  have kk54 := Wk.Chg.step kk53 ch14 ⟨.inl (by simp), trivial⟩
  have kk55 := Wk.Chg.step kk54 ch15 trivial
  have kk56 := Wk.Chg.step kk55 ch17 ⟨.inl (by simp), trivial⟩
  have ow21 := Mur.OwnA.chg ow17 ch14 (fun q e _ _ => ⟨(ha2 q e).elim (fun h1 => hS.ne q h1) (fun h1 => by omega), trivial⟩)
  have ow22 := Mur.OwnA.chg ow21 ch15 (fun q e _ _ => trivial)
  have ow23 := Mur.OwnA.chg ow22 ch17 (fun q e _ _ => ⟨(ha2 q e).elim (fun h1 => hS.ne q h1) (fun h1 => by omega), trivial⟩)
  have hmay_ := hmay1
  have hadd := Mur.addS_ok hmay1 hmem1 (by omega : Mur.pos x L ≠ 200)
  rw [hadd]
  have hcut := ow23.cut (k := mz) (by omega)
  rw [Mur.ins_take x L hOl hmz2] at hcut
  refine Wk.ret (.int .i64 0) rfl (by kernel_rfl) ?_
  exact ⟨_, rfl, ⟨AA2, mz, nn2, ⟨hb9, hcut, fun q hq => (ha2 q (by rw [Mur.own_cut _ (n + 1) mz nn2 nn2]; exact hq)).elim (fun h1 => hS.ne q h1) (fun h1 => by omega), hS.lo_, (Mur.ins_sorted hsrt hmem1).take 200, by rw [List.length_take]; omega, fun y_ hy_ => (Mur.mem_ins.1 (List.mem_of_mem_take hy_)).elim (fun q_ => by rw [q_]; exact hmay_) (fun q_ => hS.ok y_ q_)⟩, rfl⟩, kk56, Mur.newOr_set (n := n) (c := c) fun q hq => (ha2 q (by rw [Mur.own_cut _ (n + 1) mz nn2 nn2]; exact hq)).elim (fun h1 => .inl h1) (fun h1 => .inr (by omega))⟩
 have hmay1u : ¬ (1 ≤ x.n ∧ x.n ≤ 5000) := hmay1
 refine (Bytes_no x.k x.r x.t x.n x.hk x.hr x.ht W1 hmay1).mono ?_
 rintro _ W19 ⟨rfl, ch18⟩
 have zz19 := ch18.size
 refine ⟨_, rfl, ?_⟩
 refine Wk.rP 2 11 (.tuple #[.slice none 0 0, .int .i64 2]) rfl rfl ?_
 refine Wk.rP 3 14 (.slice none 0 0) rfl rfl ?_
 refine Wk.rP 4 15 (.int .i64 2) rfl rfl ?_
 refine Wk.rP 5 5 (.slice none 0 0) rfl rfl ?_
 refine Wk.rP 6 6 (.int .i64 2) rfl rfl ?_
 refine Wk.rEnd 7 rfl (Wk.nxt (wp_seq (Wk.reg ?_)))
 refine Wk.rP 0 16 (.int .i64 2) rfl rfl ?_
 refine Wk.rQ 1 17 (.bool true) rfl rfl (Wk.boolT (b := ((2 : Int) != (0 : Int))) (bne_iff_ne.2 (by decide)) (by kernel_rfl)) ?_
 refine Wk.rEnd 2 rfl (Wk.nxt (wp_cond_true (by kernel_rfl) (wp_seq (Wk.reg ?_))))
 refine Wk.rP 0 18 (.int .i64 2) rfl rfl ?_
 refine Wk.rP 1 4 (.int .i64 2) rfl rfl ?_
 refine Wk.rEnd 2 rfl (Wk.nxt (wp_ret (Wk.thR ?_)))
 have kk57 : Wk.Chg ([g] ++ Wk.blk (.slice A n c)) (w) W1 := Wk.Chg.step ((Wk.Chg.refl _).more (by simp)) ch1 trivial
 have kk58 := Wk.Chg.step kk57 ch18 trivial
 rw [Mur.addS_may hmay1]
 have kk59 : Wk.Chg [] ((w)) W1 := Wk.Chg.step ((Wk.Chg.refl _).more (by simp)) ch1 trivial
 have kk60 := Wk.Chg.step kk59 ch18 trivial
 have hfin := Mur.SetA.chg hS kk60 (fun _ _ => trivial)
 refine Wk.ret (.int .i64 2) rfl (by kernel_rfl) ?_
 exact ⟨_, rfl, ⟨_, _, _, hfin, rfl⟩, kk60.more (by simp), Mur.newOr_refl _ _⟩
end Go.Proofs.YtfhneademopciaaDoor
namespace Go.Proofs.YtfhneademopciaaDoor
open Go.RowKit
open Mur (b8s Byt Own8 Seg Segs flat cutA attC Att SlA OwnA rowA)
set_option maxRecDepth 100000
set_option maxHeartbeats 4000000
def Iter_F1 (b : Array Value) (u0 : Value) (u2 : Value) (u18 : Value) (u19 : Value) (u20 : Value) : Act := ⟨#[u0, b.getD 1 undef, u2, b.getD 3 undef, b.getD 4 undef, b.getD 5 undef, b.getD 6 undef, b.getD 7 undef, b.getD 8 undef, b.getD 9 undef, b.getD 10 undef, b.getD 11 undef, b.getD 12 undef, b.getD 13 undef, b.getD 14 undef, b.getD 15 undef, b.getD 16 undef, b.getD 17 undef, u18, u19, u20, b.getD 21 undef, b.getD 22 undef, b.getD 23 undef, b.getD 24 undef, b.getD 25 undef, b.getD 26 undef, b.getD 27 undef, b.getD 28 undef, b.getD 29 undef, b.getD 30 undef, b.getD 31 undef, b.getD 32 undef, b.getD 33 undef, b.getD 34 undef, b.getD 35 undef, b.getD 36 undef, b.getD 37 undef, b.getD 38 undef, b.getD 39 undef, b.getD 40 undef, b.getD 41 undef, b.getD 42 undef], []⟩
def Iter_F2 (b : Array Value) (u0 : Value) (u2 : Value) (u5 : Value) (u18 : Value) (u19 : Value) (u20 : Value) (u24 : Value) (u25 : Value) (u26 : Value) : Act := ⟨#[u0, b.getD 1 undef, u2, b.getD 3 undef, b.getD 4 undef, u5, b.getD 6 undef, b.getD 7 undef, b.getD 8 undef, b.getD 9 undef, b.getD 10 undef, b.getD 11 undef, b.getD 12 undef, b.getD 13 undef, b.getD 14 undef, b.getD 15 undef, b.getD 16 undef, b.getD 17 undef, u18, u19, u20, b.getD 21 undef, b.getD 22 undef, b.getD 23 undef, u24, u25, u26, b.getD 27 undef, b.getD 28 undef, b.getD 29 undef, b.getD 30 undef, b.getD 31 undef, b.getD 32 undef, b.getD 33 undef, b.getD 34 undef, b.getD 35 undef, b.getD 36 undef, b.getD 37 undef, b.getD 38 undef, b.getD 39 undef, b.getD 40 undef, b.getD 41 undef, b.getD 42 undef], []⟩
theorem below_any (g : Nat) (A : Option Addr) (n c : Nat) (w : World) : Calls Tryd.prog 42 #[.pointer (some ⟨g, 0, none⟩), .slice A n c] w fun e w' => ∃ b1 b2, e = .returned (.func (.func 64) #[] #[.pointer (some ⟨b1, 0, none⟩), .pointer (some ⟨b2, 0, none⟩)]) ∧ w'.heap[b1]? = some (.cells #[.pointer (some ⟨g, 0, none⟩)] 24 (0, 0)) ∧ w'.heap[b2]? = some (.cells #[.slice A n c] 38 (0, 0)) ∧ (w.heap.size ≤ b1 ∧ b1 < w'.heap.size) ∧ (w.heap.size ≤ b2 ∧ b2 < w'.heap.size) ∧ b1 ≠ b2 ∧ Wk.Chg [] w w' := by
 refine calls_of_wp Tryd.func42 rfl ?_
 refine wp_seq (Wk.reg ?_)
 refine Wk.rEx 0 (some 2) _ rfl rfl (by kernel_rfl) (Wk.new_ex (.pointer (some ⟨w.heap.size, 0, none⟩)) #[.pointer (some ⟨g, 0, none⟩)] 24 (by kernel_rfl)) ?_
 rintro _ W1 ⟨rfl, hb1, ch1, sz1⟩
 have zz1 := ch1.size
 refine Wk.rEx 1 (some 3) _ rfl rfl (by kernel_rfl) (Wk.new_ex (.pointer (some ⟨W1.heap.size, 0, none⟩)) #[.slice A n c] 38 (by kernel_rfl)) ?_
 rintro _ W2 ⟨rfl, hb2, ch2, sz2⟩
 have zz2 := ch2.size
 refine Wk.rP 2 4 (.nilFunc) rfl rfl ?_
 refine Wk.rEnd 3 rfl (Wk.nxt (wp_seq (Wk.reg ?_)))
 refine Wk.rP 0 5 (.func (.func 64) #[] #[.pointer (some ⟨w.heap.size, 0, none⟩), .pointer (some ⟨W1.heap.size, 0, none⟩)]) rfl rfl ?_
 refine Wk.rP 1 4 (.func (.func 64) #[] #[.pointer (some ⟨w.heap.size, 0, none⟩), .pointer (some ⟨W1.heap.size, 0, none⟩)]) rfl rfl ?_
 refine Wk.rEnd 2 rfl (Wk.nxt (wp_ret ?_))
 have kk1 : Wk.Chg [] w W1 := Wk.Chg.step ((Wk.Chg.refl _).more (by simp)) ch1 trivial
 have kk2 := Wk.Chg.step kk1 ch2 trivial
 refine Wk.ret (.func (.func 64) #[] #[.pointer (some ⟨w.heap.size, 0, none⟩), .pointer (some ⟨W1.heap.size, 0, none⟩)]) rfl (by kernel_rfl) ?_
 exact ⟨_, _, rfl, (Wk.Chg.hp ch2 hb1 trivial), hb2, ⟨by omega, by omega⟩, ⟨by omega, by omega⟩, by omega, kk2⟩
theorem below_seq (lo : Nat) (L : List Att) (g : Nat) (F : List Nat) (p : List UInt8) (A : Option Addr) (n c : Nat) (b1 b2 : Nat) (w : World) (h : Mur.SetF 32 57 lo w g L F) (hb : Byt w A n p) (hn : n ≤ 9223372036854775807) (hX1 : w.heap[b1]? = some (.cells #[.pointer (some ⟨g, 0, none⟩)] 24 (0, 0))) (hX2 : w.heap[b2]? = some (.cells #[.slice A n c] 38 (0, 0))) : Wk.Seq Tryd.prog 64 #[.pointer (some ⟨b1, 0, none⟩), .pointer (some ⟨b2, 0, none⟩)] Mur.encA (Mur.belowL p L) (b1 :: b2 :: (F ++ Mur.pblk A n)) w := by
 have hFlt0 := Mur.SetF.mem h
 refine ⟨fun k_ hk_ => ?_, fun l J W hW hJ0 hY hJ => ?_⟩
 ·simp only [List.mem_cons, List.mem_append] at hk_
  rcases hk_ with rfl | rfl | hk_ | hk_
  ·exact (Array.getElem?_eq_some_iff.1 hX1).1
  ·exact (Array.getElem?_eq_some_iff.1 hX2).1
  ·exact (hFlt0 _ hk_).2
  exact Mur.pblk_lt hb _ hk_
 replace h := Mur.SetF.keep h (hW.less (fun k_ hk_ => by simp [hk_]))
 have hbt := Mur.byt_keep hb hW (fun s_ hs_ => by simp [hs_])
 replace hX1 := hW.hp hX1 (by simp)
 replace hX2 := hW.hp hX2 (by simp)
 have hFlt : ∀ k_, k_ ∈ (b1 :: b2 :: (F ++ Mur.pblk A n)) → k_ < W.heap.size := fun k_ hk_ => by
  simp only [List.mem_cons, List.mem_append] at hk_
  rcases hk_ with rfl | rfl | hk_ | hk_
  ·exact (Array.getElem?_eq_some_iff.1 hX1).1
  ·exact (Array.getElem?_eq_some_iff.1 hX2).1
  ·exact (Mur.SetF.mem h _ hk_).2
  ·exact Mur.pblk_lt hbt _ hk_
 clear hb hFlt0
 obtain ⟨A1, n1, c1, hS, hFe⟩ := h
 have hpS := hS.hp
 have hn1 := hS.own.sl.len
 have hgl := (Array.getElem?_eq_some_iff.1 hpS).1
 have hl8 := hS.len
 show Calls Tryd.prog 64 #[.func (.yield l) #[] #[], .pointer (some ⟨b1, 0, none⟩), .pointer (some ⟨b2, 0, none⟩)] W _
 refine calls_of_wp Tryd.func64 rfl ?_
 refine wp_scope_straight ?_
 refine wp_seq (wp_seq (Wk.reg ?_))
 refine Wk.rQ 0 8 (.pointer (some ⟨g, 0, none⟩)) rfl rfl (Wk.load1 24 (.tmp 1) rfl (by kernel_rfl) ⟨b1, 0, none⟩ (by kernel_rfl) (.pointer (some ⟨g, 0, none⟩)) ((cell_of_row _ _ 0 _ _ _ hX1).trans rfl)) ?_
 refine Wk.rP 1 9 (.bool false) rfl rfl ?_
 refine Wk.rP 2 10 (.bool false) rfl rfl ?_
 refine Wk.rQ 3 11 (.slice A n c) rfl rfl (Wk.load1 38 (.tmp 2) rfl (by kernel_rfl) ⟨b2, 0, none⟩ (by kernel_rfl) (.slice A n c) ((cell_of_row _ _ 0 _ _ _ hX2).trans rfl)) ?_
 refine Wk.rC 4 12 19 [.tmp 11] #[38] [.slice A n c] rfl rfl rfl ?_
 refine (IsPrefix_any p A n c W hbt (by omega)).mono ?_
 cases hpre1 : Mur.isPre p
 ·rintro _ _ ⟨rfl, rfl⟩
  refine ⟨_, rfl, ?_⟩
  refine Wk.rP 5 13 (.bool true) rfl rfl ?_
  refine Wk.rP 6 14 (.bool true) rfl rfl ?_
  refine Wk.rEnd 7 rfl (Wk.nxt (wp_cond_true (by kernel_rfl) (wp_ret (Wk.thR ?_))))
  refine Wk.ngR ?_
  refine Wk.ret (.tuple #[]) rfl (by kernel_rfl) ?_
  exact ⟨⟨_, rfl⟩, by rw [Mur.belowL_no hpre1]; exact hJ⟩
 rintro _ _ ⟨rfl, rfl⟩
 refine ⟨_, rfl, ?_⟩
 refine Wk.rP 5 13 (.bool false) rfl rfl ?_
 refine Wk.rP 6 14 (.bool false) rfl rfl ?_
 refine Wk.rEnd 7 rfl (Wk.nxt (wp_cond_false (by kernel_rfl) (wp_skip (Wk.nxt (wp_seq (wp_label (Wk.nxt (wp_seq (Wk.reg ?_)))))))))
 have hpre1 := hpre1
 have hp8 := Mur.pre_len hpre1
 have hpl := hbt.1
 refine Wk.rQ 0 15 (.pointer (some ⟨g, 0, none⟩)) rfl rfl (Wk.load1 24 (.tmp 1) rfl (by kernel_rfl) ⟨b1, 0, none⟩ (by kernel_rfl) (.pointer (some ⟨g, 0, none⟩)) ((cell_of_row _ _ 0 _ _ _ hX1).trans rfl)) ?_
 refine Wk.rP 1 16 (.pointer (some ⟨g, 0, none⟩)) rfl rfl ?_
 refine Wk.rP 2 17 (.pointer (some ⟨g, 0, none⟩)) rfl rfl ?_
 refine Wk.rQ 3 18 (.slice A1 n1 c1) rfl rfl (Wk.load1 22 (.tmp 17) rfl (by kernel_rfl) ⟨g, 0, none⟩ (by kernel_rfl) (.slice A1 n1 c1) ((cell_of_row _ _ 0 _ _ _ hpS).trans rfl)) ?_
 refine Wk.rP 4 19 (.int .i64 ((n1 : Nat) : Int)) rfl rfl ?_
 refine Wk.rP 5 20 (.int .i64 0) rfl rfl ?_
 refine Wk.rEnd 6 rfl (Wk.nxt (wp_block ?_))
 refine Wk.loop (fun m_ a wr => ∃ (k : Nat), m_ = n1 - k ∧ a = Iter_F1 a.tmps (.func (.yield l) #[] #[]) (.pointer (some ⟨b2, 0, none⟩)) (.slice A1 n1 c1) (.int .i64 ((n1 : Nat) : Int)) (.int .i64 ((k : Nat) : Int)) ∧ k ≤ n1 ∧ J ((L.take k).filter (fun z => Mur.under p z.k)) wr ∧ Wk.Keep (b1 :: b2 :: (F ++ Mur.pblk A n)) W wr ∧ W.heap.size ≤ wr.heap.size) (n1 - 0) ?_ ?_
 ·refine ⟨0, rfl, by kernel_rfl, Nat.zero_le _, hJ, Wk.Keep.refl _ _, Nat.le_refl _⟩
 rintro mm1 aa1 W1 ⟨k, hmm1, hF1, hk, hJk, hK, hsW⟩
 generalize aa1.tmps = bb1 at hF1
 subst hF1
 have hmb1 := hK.hp hX1 (by simp)
 have hmb2 := hK.hp hX2 (by simp)
 have hmb3 := Mur.byt_keep hbt hK (fun s_ hs_ => by simp [hs_])
 have hmb4 := (Mur.SetA.keep hS hK (fun s_ hs_ => by simp only [List.mem_cons, List.mem_append]; exact .inr (.inr (.inl (by rw [hFe]; exact hs_))))).own.sl
 have hzO := hK.size
 by_cases hlt : k < n1
 ·obtain ⟨g1, off1, hA1, _⟩ := hS.own.sl.ex (by omega)
  subst hA1
  obtain ⟨x, hx⟩ : ∃ x, L[k]? = some x := ⟨_, List.getElem?_eq_getElem (by omega)⟩
  refine wp_seq (Wk.reg ?_)
  refine Wk.rQ 0 21 (.bool true) rfl rfl (Wk.boolT (b := decide (((k : Nat) : Int) < ((n1 : Nat) : Int))) (decide_eq_true (by omega)) (by kernel_rfl)) ?_
  refine Wk.rEnd 1 rfl (Wk.nxt (wp_seq (wp_cond_true (by kernel_rfl) (wp_skip (Wk.nxt (wp_seq (wp_block (wp_seq (Wk.reg ?_)))))))))
  refine Wk.rQ 0 22 (.pointer (some ⟨g1, off1 + k * 97, none⟩)) rfl rfl (Wk.index_sl 22 32 (.tmp 18) (.tmp 20) rfl Tryd.underlying22 97 (by kernel_rfl) g1 off1 n1 c1 k .i64 (by kernel_rfl) (by kernel_rfl) (by omega)) ?_
  refine Wk.rQ 1 23 (.agg ((Mur.attC x.k x.r x.n x.t).toArray)) rfl rfl (Wk.loadR 32 (.tmp 22) rfl _ Tryd.underlying32 rfl g1 (off1 + k * 97) (by kernel_rfl) (Mur.attC x.k x.r x.n x.t) (by rw [Mur.attC_length x.hk x.hr x.ht]; kernel_rfl) (hmb4.elem hx)) ?_
  refine Wk.rEx 2 (some 5) _ rfl rfl (by kernel_rfl) (Wk.new_ex (.pointer (some ⟨W1.heap.size, 0, none⟩)) #[.int .u8 0, .int .u8 0, .int .u8 0, .int .u8 0, .int .u8 0, .int .u8 0, .int .u8 0, .int .u8 0, .int .u8 0, .int .u8 0, .int .u8 0, .int .u8 0, .int .u8 0, .int .u8 0, .int .u8 0, .int .u8 0, .int .u8 0, .int .u8 0, .int .u8 0, .int .u8 0, .int .u8 0, .int .u8 0, .int .u8 0, .int .u8 0, .int .u8 0, .int .u8 0, .int .u8 0, .int .u8 0, .int .u8 0, .int .u8 0, .int .u8 0, .int .u8 0, .int .u8 0, .int .u8 0, .int .u8 0, .int .u8 0, .int .u8 0, .int .u8 0, .int .u8 0, .int .u8 0, .int .u8 0, .int .u8 0, .int .u8 0, .int .u8 0, .int .u8 0, .int .u8 0, .int .u8 0, .int .u8 0, .int .u8 0, .int .u8 0, .int .u8 0, .int .u8 0, .int .u8 0, .int .u8 0, .int .u8 0, .int .u8 0, .int .u8 0, .int .u8 0, .int .u8 0, .int .u8 0, .int .u8 0, .int .u8 0, .int .u8 0, .int .u8 0, .int .i64 0, .int .u8 0, .int .u8 0, .int .u8 0, .int .u8 0, .int .u8 0, .int .u8 0, .int .u8 0, .int .u8 0, .int .u8 0, .int .u8 0, .int .u8 0, .int .u8 0, .int .u8 0, .int .u8 0, .int .u8 0, .int .u8 0, .int .u8 0, .int .u8 0, .int .u8 0, .int .u8 0, .int .u8 0, .int .u8 0, .int .u8 0, .int .u8 0, .int .u8 0, .int .u8 0, .int .u8 0, .int .u8 0, .int .u8 0, .int .u8 0, .int .u8 0, .int .u8 0] 32 (by kernel_rfl)) ?_
  rintro _ W2 ⟨rfl, hb1, ch1, sz1⟩
  have zz1 := ch1.size
  rw [← Mur.attC_zero] at hb1
  refine Wk.rExS 3 none _ rfl rfl (by kernel_rfl) (Mur.storeArr 32 (.tmp 5) (.tmp 23) rfl W1.heap.size (by kernel_rfl) (Mur.attC x.k x.r x.n x.t).toArray 97 (Mur.attC_size x.hk x.hr x.ht) Mur.attC_all (by kernel_rfl) (by kernel_rfl) 32 ((Mur.attC Mur.z32 Mur.z32 0 Mur.z32).toArray) hb1 (Mur.attC_size rfl rfl rfl)) ?_
  rintro W3 ⟨hb2, ch2⟩
  have zz2 := ch2.size
  refine Wk.rEnd 4 rfl (Wk.nxt (wp_seq (wp_seq (Wk.reg ?_))))
  have kk1 : Wk.Chg [] W1 W2 := Wk.Chg.step ((Wk.Chg.refl _).more (by simp)) ch1 trivial
  have kk2 := Wk.Chg.step kk1 ch2 ⟨.inr (by omega), trivial⟩
  refine Wk.rQ 0 24 (.slice A n c) rfl rfl (Wk.load1 38 (.tmp 2) rfl (by kernel_rfl) ⟨b2, 0, none⟩ (by kernel_rfl) (.slice A n c) ((cell_of_row _ _ 0 _ _ _ (Wk.Chg.hp kk2 hmb2 trivial)).trans rfl)) ?_
  refine Wk.rP 1 25 (.int .i64 ((n : Nat) : Int)) rfl rfl ?_
  refine Wk.rP 2 26 (.int .i64 0) rfl rfl ?_
  refine Wk.rEnd 3 rfl (Wk.nxt (wp_block ?_))
  refine Wk.loop (fun m_ a wr => ∃ (j : Nat), m_ = n - j ∧ a = Iter_F2 a.tmps (.func (.yield l) #[] #[]) (.pointer (some ⟨b2, 0, none⟩)) (.pointer (some ⟨W1.heap.size, 0, none⟩)) (.slice (some ⟨g1, off1, none⟩) n1 c1) (.int .i64 ((n1 : Nat) : Int)) (.int .i64 ((k : Nat) : Int)) (.slice A n c) (.int .i64 ((n : Nat) : Int)) (.int .i64 ((j : Nat) : Int)) ∧ j ≤ n ∧ (∀ i, i < j → Mur.nib x.k i = p.getD i 0) ∧ wr.heap[W1.heap.size]? = some (.cells (Mur.attC x.k x.r x.n x.t).toArray 32 (0, 0)) ∧ Wk.Chg [] W1 wr ∧ W1.heap.size < wr.heap.size) (n - 0) ?_ ?_
  ·refine ⟨0, rfl, by kernel_rfl, Nat.zero_le _, (fun i hi => by omega), hb2, kk2, (by omega)⟩
  rintro mm2 aa2 W4 ⟨j, hmm2, hF2, hj, hall, h5, HCi, hz5⟩
  generalize aa2.tmps = bb2 at hF2
  subst hF2
  have hmb5 := hK.hp hX1 (by simp)
  have hmb6 := hK.hp hX2 (by simp)
  have hmb7 := Mur.byt_keep hbt hK (fun s_ hs_ => by simp [hs_])
  have hmb8 := (Mur.SetA.keep hS hK (fun s_ hs_ => by simp only [List.mem_cons, List.mem_append]; exact .inr (.inr (.inl (by rw [hFe]; exact hs_))))).own.sl
  have hzI := HCi.size
  by_cases hlj : j < n
  ·obtain ⟨q2, off2, hA2, _⟩ := hbt.2 (by omega)
   subst hA2
   refine wp_seq (Wk.reg ?_)
   refine Wk.rQ 0 27 (.bool true) rfl rfl (Wk.boolT (b := decide (((j : Nat) : Int) < ((n : Nat) : Int))) (decide_eq_true (by omega)) (by kernel_rfl)) ?_
   refine Wk.rEnd 1 rfl (Wk.nxt (wp_seq (wp_cond_true (by kernel_rfl) (wp_skip (Wk.nxt (wp_seq (wp_block (wp_seq (Wk.reg ?_)))))))))
   refine Wk.rP 0 28 (.int .i64 ((j : Nat) : Int)) rfl rfl ?_
   refine Wk.rQ 1 29 (.pointer (some ⟨q2, off2 + j * 1, none⟩)) rfl rfl (Wk.index_sl 38 5 (.tmp 24) (.tmp 26) rfl Tryd.underlying38 1 (by kernel_rfl) q2 off2 n c j .i64 (by kernel_rfl) (by kernel_rfl) (by omega)) ?_
   refine Wk.rQ 2 30 (.int .u8 (((p.getD j 0).toNat : Nat) : Int)) rfl rfl (Wk.load1 5 (.tmp 29) rfl (by kernel_rfl) ⟨q2, off2 + j * 1, none⟩ (by kernel_rfl) (.int .u8 (((p.getD j 0).toNat : Nat) : Int)) (Mur.byt_cell (Mur.byt_chg hmb7 HCi (fun g off e hl => trivial)) j (by omega))) ?_
   refine Wk.rP 3 6 (.int .i64 ((j : Nat) : Int)) rfl rfl ?_
   refine Wk.rP 4 7 (.int .u8 (((p.getD j 0).toNat : Nat) : Int)) rfl rfl ?_
   refine Wk.rEnd 5 rfl (Wk.nxt (wp_seq (Wk.reg ?_)))
   refine Wk.rP 0 31 (.pointer (some ⟨W1.heap.size, 0, none⟩)) rfl rfl ?_
   refine Wk.rQ 1 32 (.agg ((b8s x.k).toArray)) rfl rfl (Wk.loadR 30 (.tmp 31) rfl _ Tryd.underlying30 rfl W1.heap.size 0 (by kernel_rfl) (b8s x.k) (by rw [Mur.b8s_length, x.hk]; kernel_rfl) (Mur.att_key h5)) ?_
   refine Wk.rP 2 33 (.int .i64 ((j : Nat) : Int)) rfl rfl ?_
   refine Wk.rC 3 34 65 [.tmp 32, .tmp 33] #[30, 3] [.agg ((b8s x.k).toArray), .int .i64 ((j : Nat) : Int)] rfl rfl rfl ?_
   refine (half_any x.k j x.hk (by omega) W4).mono ?_
   rintro _ W5 ⟨rfl, ch3⟩
   have zz3 := ch3.size
   refine ⟨_, rfl, ?_⟩
   refine Wk.rP 4 35 (.int .u8 (((p.getD j 0).toNat : Nat) : Int)) rfl rfl ?_
   by_cases hx1 : (((Mur.nib x.k j).toNat : Nat) : Int) ≠ (((p.getD j 0).toNat : Nat) : Int)
   ·refine Wk.rQ 5 36 (.bool true) rfl rfl (Wk.boolT (b := ((((Mur.nib x.k j).toNat : Nat) : Int) != (((p.getD j 0).toNat : Nat) : Int))) (bne_iff_ne.2 (by first | exact hx1 | omega)) (by kernel_rfl)) ?_
    refine Wk.rEnd 6 rfl (Wk.nxt (wp_cond_true (by kernel_rfl) (wp_exit (Wk.inY (by decide) (Wk.thX (Wk.thX (Wk.inY (by decide) (Wk.thX (Wk.inX (Wk.nxt (Wk.reg ?_)))))))))))
    refine Wk.rQ 0 42 (.int .i64 ((k + 1 : Nat) : Int)) rfl rfl (Wk.int64 (n := ((k : Nat) : Int) + 1) (z := ((k + 1 : Nat) : Int)) (by omega) (by omega) (by omega) (by kernel_rfl)) ?_
    refine Wk.rP 1 20 (.int .i64 ((k + 1 : Nat) : Int)) rfl rfl ?_
    refine Wk.rEnd 2 rfl (Wk.nxt ?_)
    have kk3 := Wk.Chg.step HCi ch3 trivial
    refine ⟨_, ?_, k + 1, rfl, by kernel_rfl, (by omega), (by rw [Mur.filter_no hx (Mur.under_false (i := j) (by omega) (fun q => hx1 (by rw [q])))]; exact hJ0 _ _ _ hJk kk3), (hK.trans (Wk.Keep.of kk3 (fun k_ hk_ => Nat.lt_of_lt_of_le (hFlt k_ hk_) hK.size) (fun _ _ => trivial))), (by have := kk3.size; omega)⟩
    omega
   refine Wk.rQ 5 36 (.bool false) rfl rfl (Wk.boolF (b := ((((Mur.nib x.k j).toNat : Nat) : Int) != (((p.getD j 0).toNat : Nat) : Int))) (bne_eq_false_iff_eq.2 (by first | exact hx1 | omega)) (by kernel_rfl)) ?_
   refine Wk.rEnd 6 rfl (Wk.nxt (wp_cond_false (by kernel_rfl) (wp_skip (Wk.inN (Wk.nxt (Wk.reg ?_))))))
   refine Wk.rQ 0 37 (.int .i64 ((j + 1 : Nat) : Int)) rfl rfl (Wk.int64 (n := ((j : Nat) : Int) + 1) (z := ((j + 1 : Nat) : Int)) (by omega) (by omega) (by omega) (by kernel_rfl)) ?_
   refine Wk.rP 1 26 (.int .i64 ((j + 1 : Nat) : Int)) rfl rfl ?_
   refine Wk.rEnd 2 rfl (Wk.nxt ?_)
   have kk4 := Wk.Chg.step HCi ch3 trivial
   refine ⟨_, ?_, j + 1, rfl, by kernel_rfl, (by omega), (Mur.nib_step hall (Mur.u8_cast_inj (Decidable.not_not.1 hx1))), (Wk.Chg.hp ch3 h5 trivial), kk4, (by omega)⟩
   omega
  have hun : Mur.under p x.k = true := Mur.under_all hbt.1 (show n ≤ j by omega) hall
  refine wp_seq (Wk.reg ?_)
  refine Wk.rQ 0 27 (.bool false) rfl rfl (Wk.boolF (b := decide (((j : Nat) : Int) < ((n : Nat) : Int))) (decide_eq_false (by omega)) (by kernel_rfl)) ?_
  refine Wk.rEnd 1 rfl (Wk.nxt (wp_seq (wp_cond_false (by kernel_rfl) (wp_exit (Wk.thX (Wk.thX (Wk.inX (Wk.nxt (wp_seq (Wk.regW ?_))))))))))
  refine Wk.iPure 0 (some 38) (.func (.yield l) #[] #[]) rfl rfl rfl (by kernel_rfl) (by kernel_rfl) ?_
  refine Wk.iPure 1 (some 39) (.agg ((Mur.attC x.k x.r x.n x.t).toArray)) rfl rfl rfl (by kernel_rfl) (Mur.loadArr 32 (.tmp 5) rfl _ Tryd.underlying32 rfl W1.heap.size (by kernel_rfl) (Mur.attC x.k x.r x.n x.t).toArray 97 (Mur.attC_size x.hk x.hr x.ht) (by kernel_rfl) 32 (0, 0) h5) ?_
  refine Wk.iYield 2 (some 40) (.tmp 38) l [.tmp 39] #[32] [.agg ((Mur.attC x.k x.r x.n x.t).toArray)] rfl rfl (by kernel_rfl) rfl (by kernel_rfl) (by kernel_rfl) (hY _ _ _ _ (by rw [Mur.belowL_ok hpre1]; exact Mur.filter_split hx hun) (hJ0 _ _ _ hJk HCi)) ?_
  rintro _ W9_ ⟨rfl, hJ9, hK9⟩
  refine ⟨_, rfl, ?_⟩
  refine Wk.iPure 3 (some 41) (.bool false) rfl rfl rfl (by kernel_rfl) (by kernel_rfl) ?_
  refine Wk.iEnd 4 rfl (Wk.nxt (wp_cond_false (by kernel_rfl) (wp_skip (Wk.inN (Wk.nxt (Wk.reg ?_))))))
  refine Wk.rQ 0 42 (.int .i64 ((k + 1 : Nat) : Int)) rfl rfl (Wk.int64 (n := ((k : Nat) : Int) + 1) (z := ((k + 1 : Nat) : Int)) (by omega) (by omega) (by omega) (by kernel_rfl)) ?_
  refine Wk.rP 1 20 (.int .i64 ((k + 1 : Nat) : Int)) rfl rfl ?_
  refine Wk.rEnd 2 rfl (Wk.nxt ?_)
  refine ⟨_, ?_, k + 1, rfl, by kernel_rfl, (by omega), (by rw [Mur.filter_yes hx hun]; exact hJ9), ((hK.trans (Wk.Keep.of HCi (fun k_ hk_ => Nat.lt_of_lt_of_le (hFlt k_ hk_) hK.size) (fun _ _ => trivial))).trans hK9), (by have := hK.size; have := hK9.size; omega)⟩
  omega
 have hfin : J (Mur.belowL p L) W1 := by rw [Mur.belowL_ok hpre1, ← Mur.filter_all (k := k) (by omega)]; exact hJk
 refine wp_seq (Wk.reg ?_)
 refine Wk.rQ 0 21 (.bool false) rfl rfl (Wk.boolF (b := decide (((k : Nat) : Int) < ((n1 : Nat) : Int))) (decide_eq_false (by omega)) (by kernel_rfl)) ?_
 refine Wk.rEnd 1 rfl (Wk.nxt (wp_seq (wp_cond_false (by kernel_rfl) (wp_exit (Wk.thX (Wk.thX (Wk.inX ?_)))))))
 refine Wk.ngN ?_
 refine Wk.retN (.tuple #[]) rfl (by kernel_rfl) ?_
 exact ⟨⟨_, rfl⟩, hfin⟩
end Go.Proofs.YtfhneademopciaaDoor
namespace Go.Proofs.YtfhneademopciaaDoor
open Go.RowKit
open Mur (b8s Byt Own8 Seg Segs flat cutA attC Att SlA OwnA rowA)
set_option maxRecDepth 100000
set_option maxHeartbeats 4000000
theorem AppendSeq_any (b1 b2 : Nat) (xs : List Att) (F : List Nat) (w : World) (hseq : Wk.Seq Tryd.prog 64 #[.pointer (some ⟨b1, 0, none⟩), .pointer (some ⟨b2, 0, none⟩)] Mur.encA xs F w) (hlen : xs.length ≤ 200) : Calls Tryd.prog 67 #[.slice none 0 0, .func (.func 64) #[] #[.pointer (some ⟨b1, 0, none⟩), .pointer (some ⟨b2, 0, none⟩)]] w fun e w' => ∃ A n c, e = .returned (.slice A n c) ∧ OwnA w' w.heap.size 32 A n c xs ∧ Wk.Chg [] w w' := by
 refine Wk.calls_of_wpM Tryd.func67 rfl ?_
 refine Wk.noP ?_
 refine wp_seq (Wk.reg ?_)
 refine Wk.rEx 0 (some 2) _ rfl rfl (by kernel_rfl) (Wk.new_ex (.pointer (some ⟨w.heap.size, 0, none⟩)) #[.slice none 0 0] 22 (by kernel_rfl)) ?_
 rintro _ W1 ⟨rfl, hb1, ch1, sz1⟩
 have zz1 := ch1.size
 refine Wk.rP 1 4 (.slice none 0 0) rfl rfl ?_
 refine Wk.rEnd 2 rfl (Wk.nxt (wp_seq (wp_seq (Wk.reg ?_))))
 refine Wk.rP 0 6 (.func (.func 64) #[] #[.pointer (some ⟨b1, 0, none⟩), .pointer (some ⟨b2, 0, none⟩)]) rfl rfl ?_
 refine Wk.rEnd 1 rfl (Wk.nxt (wp_block ?_))
 have kk1 : Wk.Chg [] w W1 := Wk.Chg.step ((Wk.Chg.refl _).more (by simp)) ch1 trivial
 have hFw := (Wk.Seq.chg hseq kk1 (fun _ _ => trivial)).1
 have hFb_ : ∀ k_, k_ ∈ F → k_ ≠ w.heap.size := fun k_ hk_ => by have := hseq.1 k_ hk_; omega
 refine Wk.range ((Wk.Seq.chg hseq kk1 (fun _ _ => trivial))) (by kernel_rfl) (fun _ _ => by kernel_rfl) (fun x => rfl) (fun pre W' => ∃ A n c, W'.heap[w.heap.size]? = some (.cells #[.slice A n c] 22 (0, 0)) ∧ OwnA W' W1.heap.size 32 A n c pre ∧ Wk.Chg [w.heap.size] W1 W') ?_ ?_ ?_ ?_ ?_
 ·rintro pre A1_ A2_ ⟨A, n, c, h1, h2, h3⟩ hc
  exact ⟨A, n, c, hc.hp h1 trivial, h2.chg hc (fun _ _ _ _ => trivial), h3.step hc trivial⟩
 ·rintro pre A1_ A2_ r_ o_ ⟨A, n, c, h1, h2, h3⟩ hr ho hoc hc
  exact ⟨A, n, c, hc.hp h1 ⟨Mur.cells_ne h1 ho hoc, trivial⟩, h2.chg hc (fun q hq _ _ => ⟨h2.off_obj ho hoc q hq, trivial⟩), h3.step hc ⟨.inr hr, trivial⟩⟩
 ·exact ⟨none, 0, 0, hb1, Mur.ownA_nil _ _ _, (Wk.Chg.refl _).more (by simp)⟩
 ·intro lz pre x post A1 hsp hI hwl hlA hlz
  obtain ⟨A, n, c, hIp, hIo, hIc⟩ := hI
  have hzI_ := hIc.size
  have hIlen := hIo.sl.len
  have hInc := hIo.nc
  have hbl_ := (Array.getElem?_eq_some_iff.1 hIp).1
  have hbz := Mur.cells_ne' hIp hlz
  have hIol := hIo.off_loop hlz
  have hpl_ : pre.length + 1 ≤ 200 := by have := congrArg List.length hsp; simp at this; omega
  have hfl_ := List.length_filter_le (fun _ : Att => true) pre
  refine Wk.regI ?_
  refine Wk.iEx 0 (some 5) _ rfl rfl rfl (by kernel_rfl) (Wk.new_ex (.pointer (some ⟨A1.heap.size, 0, none⟩)) #[.int .u8 0, .int .u8 0, .int .u8 0, .int .u8 0, .int .u8 0, .int .u8 0, .int .u8 0, .int .u8 0, .int .u8 0, .int .u8 0, .int .u8 0, .int .u8 0, .int .u8 0, .int .u8 0, .int .u8 0, .int .u8 0, .int .u8 0, .int .u8 0, .int .u8 0, .int .u8 0, .int .u8 0, .int .u8 0, .int .u8 0, .int .u8 0, .int .u8 0, .int .u8 0, .int .u8 0, .int .u8 0, .int .u8 0, .int .u8 0, .int .u8 0, .int .u8 0, .int .u8 0, .int .u8 0, .int .u8 0, .int .u8 0, .int .u8 0, .int .u8 0, .int .u8 0, .int .u8 0, .int .u8 0, .int .u8 0, .int .u8 0, .int .u8 0, .int .u8 0, .int .u8 0, .int .u8 0, .int .u8 0, .int .u8 0, .int .u8 0, .int .u8 0, .int .u8 0, .int .u8 0, .int .u8 0, .int .u8 0, .int .u8 0, .int .u8 0, .int .u8 0, .int .u8 0, .int .u8 0, .int .u8 0, .int .u8 0, .int .u8 0, .int .u8 0, .int .i64 0, .int .u8 0, .int .u8 0, .int .u8 0, .int .u8 0, .int .u8 0, .int .u8 0, .int .u8 0, .int .u8 0, .int .u8 0, .int .u8 0, .int .u8 0, .int .u8 0, .int .u8 0, .int .u8 0, .int .u8 0, .int .u8 0, .int .u8 0, .int .u8 0, .int .u8 0, .int .u8 0, .int .u8 0, .int .u8 0, .int .u8 0, .int .u8 0, .int .u8 0, .int .u8 0, .int .u8 0, .int .u8 0, .int .u8 0, .int .u8 0, .int .u8 0, .int .u8 0] 32 (by kernel_rfl)) ?_
  rintro _ W2 ⟨rfl, hb2, ch2, sz2⟩
  have zz2 := ch2.size
  rw [← Mur.attC_zero] at hb2
  refine Wk.iExS 1 none _ rfl rfl rfl (by kernel_rfl) (Mur.storeArr 32 (.tmp 5) (.tmp 7) rfl A1.heap.size (by kernel_rfl) (Mur.attC x.k x.r x.n x.t).toArray 97 (Mur.attC_size x.hk x.hr x.ht) Mur.attC_all (by kernel_rfl) (by kernel_rfl) 32 ((Mur.attC Mur.z32 Mur.z32 0 Mur.z32).toArray) hb2 (Mur.attC_size rfl rfl rfl)) ?_
  rintro W3 ⟨hb3, ch3⟩
  have zz3 := ch3.size
  refine Wk.iEnd 2 rfl (Wk.nxt ?_)
  have kk2 : Wk.Chg [] A1 W2 := Wk.Chg.step ((Wk.Chg.refl _).more (by simp)) ch2 trivial
  have kk3 := Wk.Chg.step kk2 ch3 ⟨.inr (by omega), trivial⟩
  refine ⟨kk3, ?_⟩
  have hlz2_ := hlz.imp (fun _ h_ => Wk.Chg.hp kk3 h_ trivial)
  intro A2 hch2
  have zz4 := hch2.size
  refine wpIn_block (Wk.regI ?_)
  refine Wk.iPure 0 (some 8) (.slice A n c) rfl rfl rfl (by kernel_rfl) (Wk.load1 22 (.tmp 2) rfl (by kernel_rfl) ⟨w.heap.size, 0, none⟩ (by kernel_rfl) (.slice A n c) ((cell_of_row _ _ 0 _ _ _ (Wk.Chg.hp hch2 (Wk.Chg.hp ch3 (Wk.Chg.hp ch2 hIp trivial) ⟨by omega, trivial⟩) ⟨by omega, trivial⟩)).trans rfl)) ?_
  refine Wk.iPure 1 (some 9) (.agg ((Mur.attC x.k x.r x.n x.t).toArray)) rfl rfl rfl (by kernel_rfl) (Mur.loadArr 32 (.tmp 5) rfl _ Tryd.underlying32 rfl A1.heap.size (by kernel_rfl) (Mur.attC x.k x.r x.n x.t).toArray 97 (Mur.attC_size x.hk x.hr x.ht) (by kernel_rfl) 32 (0, 0) (Wk.Chg.hp hch2 hb3 ⟨by omega, trivial⟩)) ?_
  refine Wk.iEx 2 (some 10) _ rfl rfl rfl (by kernel_rfl) (Mur.build1 22 32 (.tmp 9) rfl Tryd.underlying22 attI x.k x.r x.t x.n x.hk x.hr x.ht (by kernel_rfl)) ?_
  rintro _ W4 ⟨rfl, hb4, ch4, sz3⟩
  have zz5 := ch4.size
  have ow1 := Mur.OwnA.chg hIo ch2 (fun q e _ _ => trivial)
  have ow2 := Mur.OwnA.chg ow1 ch3 (fun q e _ _ => ⟨by have := hIo.lt q e; omega, trivial⟩)
  have ow3 := Mur.OwnA.chg ow2 hch2 (fun q e _ _ => ⟨hIol q e, trivial⟩)
  have ow4 := Mur.OwnA.chg ow3 ch4 (fun q e _ _ => trivial)
  refine Wk.iEx 3 (some 11) _ rfl rfl rfl (by kernel_rfl) (Mur.appendA (.tmp 8) (.tmp 10) 22 32 rfl Tryd.underlying22 attI W1.heap.size A n c pre (some ⟨A2.heap.size, 0, none⟩) 1 1 ([x]) (by kernel_rfl) (by kernel_rfl) ow4 (Mur.slA_box x hb4) (fun h => by cases h) (by omega) (by omega) (n + 1) (by omega) (pre ++ ([x])) rfl) ?_
  rintro _ W5 ⟨AA1, nn1, rfl, ow5, ch5, ha1⟩
  have zz6 := ch5.size
  have hq1 := ow5.nc
  have hq2 := ow5.cm
  refine Wk.iExS 4 none _ rfl rfl rfl (by kernel_rfl) (Wk.store1 22 (.tmp 2) (.tmp 11) rfl (by kernel_rfl) w.heap.size 0 (by kernel_rfl) (.slice AA1 (n + 1) nn1) (by kernel_rfl) rfl 22 #[.slice A n c] (Wk.Chg.hp ch5 (Wk.Chg.hp ch4 (Wk.Chg.hp hch2 (Wk.Chg.hp ch3 (Wk.Chg.hp ch2 hIp trivial) ⟨by omega, trivial⟩) ⟨by omega, trivial⟩) trivial) (Wk.off_blk (fun gz hgz => by have := hIo.lt gz hgz; omega))) (by simp)) ?_
  rintro W6 ⟨hb5, ch6⟩
  replace hb5 : W6.heap[w.heap.size]? = some (.cells #[.slice AA1 (n + 1) nn1] 22 (0, 0)) := hb5
  have zz7 := ch6.size
  refine Wk.iEnd 5 rfl (Wk.inN ?_)
  have kk4 : Wk.Chg ([w.heap.size] ++ Wk.blk (.slice A n c)) A2 W4 := Wk.Chg.step ((Wk.Chg.refl _).more (by simp)) ch4 trivial
  have kk5 := Wk.Chg.step kk4 ch5 (Mur.newOr_iff.2 (fun t ht => .inl (List.mem_append_right _ ht)))
  have kk6 := Wk.Chg.step kk5 ch6 ⟨.inl (by simp), trivial⟩
  have kk7 := Wk.Chg.step hIc ch2 trivial
  have kk8 := Wk.Chg.step kk7 ch3 ⟨.inr (by omega), trivial⟩
  have kk9 := Wk.Chg.step kk8 hch2 ⟨.inr (by omega), trivial⟩
  have kk10 := Wk.Chg.step kk9 ch4 trivial
  have kk11 := Wk.Chg.step kk10 ch5 (Wk.newOr_blk (fun g hg => by have := hIo.lt g hg; omega))
  have kk12 := Wk.Chg.step kk11 ch6 ⟨.inl (by simp), trivial⟩
  have ow6 := Mur.OwnA.chg ow5 ch6 (fun q e _ _ => ⟨by have := ow5.lt q e; omega, trivial⟩)
  refine Wk.roundN _ kk6 (fun s_ hs_ hlt_ => ?_) (fun k_ hk_ => ⟨hFb_ k_ hk_, Wk.off_blk (fun q hq => by have := hIo.lt q hq; have := hFw k_ hk_; omega)⟩) ⟨_, _, _, hb5, ow6, kk12⟩
  rcases List.mem_cons.1 hs_ with rfl | hs_
  ·exact ⟨_, (hch2.hp (ch3.hp (ch2.hp hIp trivial) ⟨by omega, trivial⟩) ⟨hbz, trivial⟩), rfl⟩
  exact (Mur.OwnA.chg (Mur.OwnA.chg (Mur.OwnA.chg hIo ch2 (fun q e _ _ => trivial)) ch3 (fun q e _ _ => ⟨by have := hIo.lt q e; omega, trivial⟩)) hch2 (fun q e _ _ => ⟨hIol q e, trivial⟩)).isCells hs_
 intro D W9 hI hwD hKD
 obtain ⟨A, n, c, hIp, hIo, hIc⟩ := hI
 have hzI_ := hIc.size
 have hIlen := hIo.sl.len
 have hInc := hIo.nc
 have hbl_ := (Array.getElem?_eq_some_iff.1 hIp).1
 have hbD := Mur.cells_ne hIp hKD rfl
 have hIoD := hIo.off_obj hKD rfl
 have hDl := (Array.getElem?_eq_some_iff.1 hKD).1
 have hW9 : Wk.Chg [] w W9 := Wk.Chg.step kk1 hIc ⟨.inr (by omega), trivial⟩
 refine Wk.inN (Wk.nxt (wp_seq (Wk.reg ?_)))
 refine Wk.rQ 0 12 (.slice A n c) rfl rfl (Wk.load1 22 (.tmp 2) rfl (by kernel_rfl) ⟨w.heap.size, 0, none⟩ (by kernel_rfl) (.slice A n c) ((cell_of_row _ _ 0 _ _ _ hIp).trans rfl)) ?_
 refine Wk.rP 1 4 (.slice A n c) rfl rfl ?_
 refine Wk.rEnd 2 rfl (Wk.nxt (wp_ret (Wk.npR ?_)))
 refine Wk.retM D rfl hKD ?_
 intro W7 ch7
 have zz8 := ch7.size
 have ow7 := Mur.OwnA.chg hIo ch7 (fun q e _ _ => ⟨hIoD q e, trivial⟩)
 have kk13 := Wk.Chg.step hW9 ch7 ⟨.inr (by omega), trivial⟩
 exact ⟨.slice A n c, by kernel_rfl, ⟨_, _, _, rfl, ow7.rebase (fun q_ h_ => by have := hIo.lt q_ h_; omega), kk13⟩⟩
theorem Collect_any (b1 b2 : Nat) (xs : List Att) (F : List Nat) (w : World) (hseq : Wk.Seq Tryd.prog 64 #[.pointer (some ⟨b1, 0, none⟩), .pointer (some ⟨b2, 0, none⟩)] Mur.encA xs F w) (hlen : xs.length ≤ 200) : Calls Tryd.prog 44 #[.func (.func 64) #[] #[.pointer (some ⟨b1, 0, none⟩), .pointer (some ⟨b2, 0, none⟩)]] w fun e w' => ∃ A n c, e = .returned (.slice A n c) ∧ OwnA w' w.heap.size 32 A n c xs ∧ Wk.Chg [] w w' := by
 refine calls_of_wp Tryd.func44 rfl ?_
 refine wp_seq (Wk.reg ?_)
 refine Wk.rP 0 2 (.slice none 0 0) rfl rfl ?_
 refine Wk.rEnd 1 rfl (Wk.nxt (wp_seq (Wk.reg ?_)))
 refine Wk.rP 0 3 (.func (.func 64) #[] #[.pointer (some ⟨b1, 0, none⟩), .pointer (some ⟨b2, 0, none⟩)]) rfl rfl ?_
 refine Wk.rC 1 4 67 [.const (.slice none 0 0), .tmp 3] #[22, 85] [.slice none 0 0, .func (.func 64) #[] #[.pointer (some ⟨b1, 0, none⟩), .pointer (some ⟨b2, 0, none⟩)]] rfl rfl rfl ?_
 refine (AppendSeq_any b1 b2 xs F w hseq hlen).mono ?_
 rintro _ W1 ⟨AA1, nn1, nn2, rfl, ow1, ch1⟩
 have zz1 := ch1.size
 have hq1 := ow1.nc
 have hq2 := ow1.cm
 have hq3 := ow1.sl.len
 refine ⟨_, rfl, ?_⟩
 refine Wk.rP 2 2 (.slice AA1 nn1 nn2) rfl rfl ?_
 refine Wk.rEnd 3 rfl (Wk.nxt (wp_ret ?_))
 have kk1 : Wk.Chg [] w W1 := Wk.Chg.step ((Wk.Chg.refl _).more (by simp)) ch1 trivial
 refine Wk.ret (.slice AA1 nn1 nn2) rfl (by kernel_rfl) ?_
 exact ⟨_, _, _, rfl, ow1, kk1⟩
theorem Below_any (lo : Nat) (L : List Att) (g : Nat) (F : List Nat) (p : List UInt8) (A : Option Addr) (n c : Nat) (w : World) (h : Mur.SetF 32 57 lo w g L F) (hb : Byt w A n p) (hn : n ≤ 9223372036854775807) : Calls Tryd.prog 18 #[.pointer (some ⟨g, 0, none⟩), .slice A n c] w fun e w' => ∃ A n c, e = .returned (.slice A n c) ∧ OwnA w' w.heap.size 32 A n c (Mur.belowL p L) ∧ Wk.Chg [] w w' := by
 have hM_ := Mur.SetF.mem h
 have hS_ := Mur.SetF.len h
 refine calls_of_wp Tryd.func18 rfl ?_
 refine wp_seq (Wk.reg ?_)
 refine Wk.rP 0 4 (.slice none 0 0) rfl rfl ?_
 refine Wk.rEnd 1 rfl (Wk.nxt (wp_seq (Wk.reg ?_)))
 refine Wk.rP 0 5 (.pointer (some ⟨g, 0, none⟩)) rfl rfl ?_
 refine Wk.rP 1 6 (.slice A n c) rfl rfl ?_
 refine Wk.rC 2 7 42 [.tmp 5, .tmp 6] #[24, 38] [.pointer (some ⟨g, 0, none⟩), .slice A n c] rfl rfl rfl ?_
 refine (below_any g A n c w).mono ?_
 rintro _ W1 ⟨bq1, bq2, rfl, hbq1, hbq2, hzq1, hzq2, hzq3, ch1⟩
 have zz1 := ch1.size
 refine ⟨_, rfl, ?_⟩
 refine Wk.rC 3 8 44 [.tmp 7] #[85] [.func (.func 64) #[] #[.pointer (some ⟨bq1, 0, none⟩), .pointer (some ⟨bq2, 0, none⟩)]] rfl rfl rfl ?_
 have kk1 : Wk.Chg [] w W1 := Wk.Chg.step ((Wk.Chg.refl _).more (by simp)) ch1 trivial
 have hD1 := Mur.SetF.chg h ch1 (fun s hs => trivial)
 refine (Collect_any bq1 bq2 (Mur.belowL p L) (bq1 :: bq2 :: (F ++ Mur.pblk A n)) W1 (below_seq lo L g F p A n c bq1 bq2 W1 hD1 (Mur.byt_chg hb kk1 (fun g off e hl => trivial)) (by omega) hbq1 hbq2) (Nat.le_trans (Mur.belowL_len p L) hS_)).mono ?_
 rintro _ W2 ⟨AA1, nn1, nn2, rfl, ow1, ch2⟩
 have zz2 := ch2.size
 have hq1 := ow1.nc
 have hq2 := ow1.cm
 have hq3 := ow1.sl.len
 refine ⟨_, rfl, ?_⟩
 refine Wk.rP 4 4 (.slice AA1 nn1 nn2) rfl rfl ?_
 refine Wk.rEnd 5 rfl (Wk.nxt (wp_ret ?_))
 have kk2 := Wk.Chg.step kk1 ch2 trivial
 refine Wk.ret (.slice AA1 nn1 nn2) rfl (by kernel_rfl) ?_
 exact ⟨_, _, _, rfl, ow1.rebase (fun q_ h_ => by have := ow1.lt q_ h_; omega), kk2⟩
end Go.Proofs.YtfhneademopciaaDoor
