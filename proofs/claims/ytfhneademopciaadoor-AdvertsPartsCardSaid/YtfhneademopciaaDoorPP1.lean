/- Sets of results: what is below a prefix, in sixteen parts. No program in sight. AdvertsParts, walked. -/
import Derived.Test.YtfhneademopciaaDoorPO9
import Derived.Test.YtfhneademopciaaDoorPO11
namespace Mur
open Go Go.RowKit Go.Lib
theorem u8_shr4 (a : UInt8) : (a >>> 4).toNat = a.toNat / 16 := by
  rw [UInt8.toNat_shiftRight]
  show a.toNat >>> 4 = _
  rw [Nat.shiftRight_eq_div_pow]
theorem u8_and15 (a : UInt8) : (a &&& 15).toNat = a.toNat % 16 := by
  rw [UInt8.toNat_and]
  exact Nat.and_two_pow_sub_one_eq_mod a.toNat 4
theorem cmp_head : ∀ (l r : List UInt8) (j : Nat), j < l.length → j < r.length → (∀ i, i < j → l.getD i 0 = r.getD i 0) → compareBytes l r < 0 → (l.getD j 0).toNat ≤ (r.getD j 0).toNat
  | [], _, _, h, _, _, _ => by simp at h
  | _ :: _, [], _, _, h, _, _ => by simp at h
  | x :: l, y :: r, 0, _, _, _, h => by
    unfold compareBytes at h
    by_cases h1 : x < y
    · exact Nat.le_of_lt (UInt8.lt_iff_toNat_lt.1 h1)
    · by_cases h2 : y < x
      · rw [if_neg h1, if_pos h2] at h
        omega
      · exact UInt8.le_iff_toNat_le.1 (UInt8.not_lt.1 h2)
  | x :: l, y :: r, j + 1, h1, h2, h3, h => by
    have hxy : x = y := by simpa using h3 0 (by omega)
    subst hxy
    unfold compareBytes at h
    rw [if_neg (UInt8.lt_irrefl x), if_neg (UInt8.lt_irrefl x)] at h
    exact cmp_head l r j (by simpa using h1) (by simpa using h2) (fun i hi => by simpa using h3 (i + 1) (by omega)) h
theorem raw_getD (x : Att) (i : Nat) (hi : i < 32) : x.raw.getD i 0 = x.k.getD i 0 := by
  unfold Att.raw rawL
  have hk := x.hk
  simp only [List.getD_eq_getElem?_getD]
  rw [List.getElem?_append_left (by simp only [List.length_append]; omega), List.getElem?_append_left (by simp only [List.length_append]; omega), List.getElem?_append_left (by omega)]
theorem nibs_eq {a b : UInt8} (h : a >>> 4 = b >>> 4) (k : a &&& 15 = b &&& 15) : a = b := by
  have h1 := congrArg UInt8.toNat h
  have h2 := congrArg UInt8.toNat k
  rw [u8_shr4, u8_shr4] at h1
  rw [u8_and15, u8_and15] at h2
  exact UInt8.toNat_inj.1 (by omega)
theorem nib_le {x y : Att} (h : x.lt y) {N : Nat} (hN : N < 64) (he : ∀ i, i < N → nib x.k i = nib y.k i) : (nib x.k N).toNat ≤ (nib y.k N).toNat := by
  have hb : ∀ i, i < N / 2 → x.raw.getD i 0 = y.raw.getD i 0 := fun i hi => by
    rw [raw_getD x i (by omega), raw_getD y i (by omega)]
    have h1 := he (2 * i) (by omega)
    have h2 := he (2 * i + 1) (by omega)
    unfold nib at h1 h2
    rw [if_pos (by omega), if_pos (by omega), show 2 * i / 2 = i by omega] at h1
    rw [if_neg (by omega), if_neg (by omega), show (2 * i + 1) / 2 = i by omega] at h2
    exact nibs_eq h1 h2
  have hl : (x.raw.getD (N / 2) 0).toNat ≤ (y.raw.getD (N / 2) 0).toNat := cmp_head x.raw y.raw (N / 2) (by rw [show x.raw.length = 104 by have := x.hk; have := x.hr; have := x.ht; simp [Att.raw, rawL, e8_length, *]]; omega) (by rw [show y.raw.length = 104 by have := y.hk; have := y.hr; have := y.ht; simp [Att.raw, rawL, e8_length, *]]; omega) hb h
  rw [raw_getD x _ (by omega), raw_getD y _ (by omega)] at hl
  unfold nib
  by_cases hp : N % 2 = 0
  · rw [if_pos hp, if_pos hp, u8_shr4, u8_shr4]
    omega
  · rw [if_neg hp, if_neg hp, u8_and15, u8_and15]
    have h1 := he (N - 1) (by omega)
    unfold nib at h1
    rw [if_pos (by omega), if_pos (by omega), show (N - 1) / 2 = N / 2 by omega] at h1
    have h2 := congrArg UInt8.toNat h1
    rw [u8_shr4, u8_shr4] at h2
    omega
theorem filter_step (f : Att → Nat) (t : Nat) : ∀ L : List Att, L.Pairwise (fun a b => f a ≤ f b) → L.filter (fun x => decide (f x < t + 1)) = L.filter (fun x => decide (f x < t)) ++ L.filter (fun x => decide (f x = t))
  | [], _ => rfl
  | x :: L, h => by
    obtain ⟨h1, h2⟩ := List.pairwise_cons.1 h
    have ih := filter_step f t L h2
    rcases Nat.lt_trichotomy (f x) t with h3 | h3 | h3
    · rw [List.filter_cons_of_pos (by simp; omega), List.filter_cons_of_pos (by simp; omega), List.filter_cons_of_neg (by simp; omega), ih]
      rfl
    · have hn : L.filter (fun x => decide (f x < t)) = [] := List.filter_eq_nil_iff.2 fun y hy => by have := h1 y hy; simp; omega
      rw [List.filter_cons_of_pos (by simp; omega), List.filter_cons_of_neg (by simp; omega), List.filter_cons_of_pos (by simp; omega), ih, hn]
      rfl
    · have hn : ∀ y, y ∈ L → t < f y := fun y hy => by have := h1 y hy; omega
      rw [List.filter_cons_of_neg (by simp; omega), List.filter_cons_of_neg (by simp; omega), List.filter_cons_of_neg (by simp; omega), List.filter_eq_nil_iff.2 fun y hy => by have := hn y hy; simp; omega, List.filter_eq_nil_iff.2 fun y hy => by have := hn y hy; simp; omega, List.filter_eq_nil_iff.2 fun y hy => by have := hn y hy; simp; omega]
      rfl
/-- What is below a prefix and below the first of the sixteen. -/
def upto (p : List UInt8) (L : List Att) (t : Nat) : List Att := (belowL p L).filter fun x => decide ((nib x.k p.length).toNat < t)
theorem upto_zero (p : List UInt8) (L : List Att) : upto p L 0 = [] := List.filter_eq_nil_iff.2 fun y _ => by simp
theorem nib_lt (k : List UInt8) (i : Nat) : (nib k i).toNat < 16 := by
  unfold nib
  split
  · rw [u8_shr4]
    have := (k.getD (i / 2) 0).toNat_lt
    omega
  · rw [u8_and15]
    omega
theorem upto_all (p : List UInt8) (L : List Att) {t : Nat} (ht : 16 ≤ t) : upto p L t = belowL p L := List.filter_eq_self.2 fun y _ => by have := nib_lt y.k p.length; simp; omega
theorem pre_snoc {p : List UInt8} {u : UInt8} (h : isPre p = true) (hl : p.length < 8) (hu : u.toNat < 16) : isPre (p ++ [u]) = true := by
  unfold isPre at h ⊢
  simp only [Bool.and_eq_true, decide_eq_true_eq, List.all_eq_true, List.length_append, List.length_cons, List.length_nil] at h ⊢
  refine ⟨fun x hx => ?_, by omega⟩
  rcases List.mem_append.1 hx with hx | hx
  · exact h.1 x hx
  · rw [List.mem_singleton.1 hx]
    exact UInt8.le_iff_toNat_le.2 (by show u.toNat ≤ 15; omega)
theorem under_snoc (p k : List UInt8) (u : UInt8) : under (p ++ [u]) k = (under p k && decide ((nib k p.length).toNat = u.toNat)) := by
  rw [Bool.eq_iff_iff, Bool.and_eq_true, decide_eq_true_eq, under_iff, under_iff]
  constructor
  · intro h
    refine ⟨fun i hi => ?_, ?_⟩
    · have := h i (by simp; omega)
      rwa [List.getD_eq_getElem?_getD, List.getElem?_append_left hi, ← List.getD_eq_getElem?_getD] at this
    · have := h p.length (by simp)
      rw [this]
      simp
  · rintro ⟨h1, h2⟩ i hi
    rw [List.length_append, List.length_singleton] at hi
    rcases Nat.lt_or_ge i p.length with h3 | h3
    · rw [List.getD_eq_getElem?_getD, List.getElem?_append_left h3, ← List.getD_eq_getElem?_getD]
      exact h1 i h3
    · obtain rfl : i = p.length := by omega
      rw [UInt8.toNat_inj.1 h2]
      simp
theorem upto_step {p : List UInt8} {L : List Att} {u : UInt8} (hs : Sorted L) (h : isPre p = true) (hl : p.length < 8) (hu : u.toNat < 16) : upto p L (u.toNat + 1) = upto p L u.toNat ++ belowL (p ++ [u]) L := by
  have hB : belowL (p ++ [u]) L = (belowL p L).filter fun x => decide ((nib x.k p.length).toNat = u.toNat) := by
    rw [belowL_ok (pre_snoc h hl hu), belowL_ok h, List.filter_filter]
    congr 1
    funext x
    rw [under_snoc, Bool.and_comm]
  rw [hB]
  refine filter_step (fun x => (nib x.k p.length).toNat) u.toNat (belowL p L) ?_
  rw [belowL_ok h]
  have h1 : Sorted (L.filter fun x => under p x.k) := hs.filter _
  refine List.Pairwise.imp_of_mem (fun {a b} ha hb hab => nib_le hab (by omega) fun i hi => ?_) h1
  have e1 := under_iff.1 (by simpa using (List.mem_filter.1 ha).2) i hi
  have e2 := under_iff.1 (by simpa using (List.mem_filter.1 hb).2) i hi
  rw [e1, e2]
theorem upto_len {p : List UInt8} {L : List Att} (t : Nat) : (upto p L t).length ≤ L.length := Nat.le_trans (List.length_filter_le _ _) (belowL_len p L)
section
variable {P : Program} {w w' : World} {a : Act} {o : Oper}
theorem inc8 (t ty : TypeId) (x y : Operand) (ho : o.op = .binOp .add t x y ty) (b : UInt8) (hb : b.toNat < 255) (hx : a.eval x = .int .u8 ((b.toNat : Nat) : Int)) (hy : a.eval y = .int .u8 1) : (execOp a.eval o).run P w = .ok (.value (.int .u8 ((b.toNat + 1 : Nat) : Int))) w := by
  have h1 : IntKind.u8.wrap (((b.toNat : Nat) : Int) + 1) = ((b.toNat + 1 : Nat) : Int) := by
    show (((b.toNat : Nat) : Int) + 1) % 256 = _
    omega
  have key : (binOp .add t (.int .u8 ((b.toNat : Nat) : Int)) (.int .u8 1)).run P w = .ok (.int .u8 (IntKind.u8.wrap (((b.toNat : Nat) : Int) + 1))) w := rfl
  have hg : (eqGuard .add t x y (.int .u8 ((b.toNat : Nat) : Int)) (.int .u8 1)).run P w = .ok () w := rfl
  rw [h1] at key
  unfold execOp
  simp only [ho, hx, hy]
  simp only [Sem.run_bind, Sem.run_pure, hg, Result.andThen_ok, key]
end
end Mur
namespace Go.Proofs.YtfhneademopciaaDoor
open Go.RowKit
open Mur (b8s Byt Own8 Seg Segs flat cutA attC Att SlA OwnA rowA)
set_option maxRecDepth 100000
set_option maxHeartbeats 4000000
def Par20_F1 (b : Array Value) (u0 : Value) (u1 : Value) (u5 : Value) (u33 : Value) (u34 : Value) : Act := ⟨#[u0, u1, b.getD 2 undef, b.getD 3 undef, b.getD 4 undef, u5, b.getD 6 undef, b.getD 7 undef, b.getD 8 undef, b.getD 9 undef, b.getD 10 undef, b.getD 11 undef, b.getD 12 undef, b.getD 13 undef, b.getD 14 undef, b.getD 15 undef, b.getD 16 undef, b.getD 17 undef, b.getD 18 undef, b.getD 19 undef, b.getD 20 undef, b.getD 21 undef, b.getD 22 undef, b.getD 23 undef, b.getD 24 undef, b.getD 25 undef, b.getD 26 undef, b.getD 27 undef, b.getD 28 undef, b.getD 29 undef, b.getD 30 undef, b.getD 31 undef, b.getD 32 undef, u33, u34, b.getD 35 undef, b.getD 36 undef, b.getD 37 undef, b.getD 38 undef, b.getD 39 undef, b.getD 40 undef, b.getD 41 undef, b.getD 42 undef, b.getD 43 undef, b.getD 44 undef, b.getD 45 undef, b.getD 46 undef, b.getD 47 undef, b.getD 48 undef, b.getD 49 undef, b.getD 50 undef, b.getD 51 undef, b.getD 52 undef, b.getD 53 undef, b.getD 54 undef, b.getD 55 undef, b.getD 56 undef, b.getD 57 undef, b.getD 58 undef, b.getD 59 undef, b.getD 60 undef, b.getD 61 undef, b.getD 62 undef, b.getD 63 undef, b.getD 64 undef, b.getD 65 undef, b.getD 66 undef, b.getD 67 undef, b.getD 68 undef, b.getD 69 undef, b.getD 70 undef, b.getD 71 undef, b.getD 72 undef, b.getD 73 undef, b.getD 74 undef, b.getD 75 undef, b.getD 76 undef, b.getD 77 undef, b.getD 78 undef, b.getD 79 undef, b.getD 80 undef, b.getD 81 undef, b.getD 82 undef, b.getD 83 undef, b.getD 84 undef, b.getD 85 undef, b.getD 86 undef], []⟩
def Par20_F2 (b : Array Value) (u1 : Value) (u5 : Value) (u7 : Value) (u8 : Value) (u44 : Value) : Act := ⟨#[b.getD 0 undef, u1, b.getD 2 undef, b.getD 3 undef, b.getD 4 undef, u5, b.getD 6 undef, u7, u8, b.getD 9 undef, b.getD 10 undef, b.getD 11 undef, b.getD 12 undef, b.getD 13 undef, b.getD 14 undef, b.getD 15 undef, b.getD 16 undef, b.getD 17 undef, b.getD 18 undef, b.getD 19 undef, b.getD 20 undef, b.getD 21 undef, b.getD 22 undef, b.getD 23 undef, b.getD 24 undef, b.getD 25 undef, b.getD 26 undef, b.getD 27 undef, b.getD 28 undef, b.getD 29 undef, b.getD 30 undef, b.getD 31 undef, b.getD 32 undef, b.getD 33 undef, b.getD 34 undef, b.getD 35 undef, b.getD 36 undef, b.getD 37 undef, b.getD 38 undef, b.getD 39 undef, b.getD 40 undef, b.getD 41 undef, b.getD 42 undef, b.getD 43 undef, u44, b.getD 45 undef, b.getD 46 undef, b.getD 47 undef, b.getD 48 undef, b.getD 49 undef, b.getD 50 undef, b.getD 51 undef, b.getD 52 undef, b.getD 53 undef, b.getD 54 undef, b.getD 55 undef, b.getD 56 undef, b.getD 57 undef, b.getD 58 undef, b.getD 59 undef, b.getD 60 undef, b.getD 61 undef, b.getD 62 undef, b.getD 63 undef, b.getD 64 undef, b.getD 65 undef, b.getD 66 undef, b.getD 67 undef, b.getD 68 undef, b.getD 69 undef, b.getD 70 undef, b.getD 71 undef, b.getD 72 undef, b.getD 73 undef, b.getD 74 undef, b.getD 75 undef, b.getD 76 undef, b.getD 77 undef, b.getD 78 undef, b.getD 79 undef, b.getD 80 undef, b.getD 81 undef, b.getD 82 undef, b.getD 83 undef, b.getD 84 undef, b.getD 85 undef, b.getD 86 undef], []⟩
theorem parts20_any (A : Option Addr) (n c : Nat) (L : List Att) (p : List UInt8) (PA : Option Addr) (pn pc : Nat) (w : World) (hv : ShaVars w) (hl : SlA w A n L) (_hnc : n ≤ c ∧ c ≤ 9223372036854775807) (hb : Byt w PA pn p) (_hpc : pn ≤ pc) (hpnil : PA = none → pc = 0) : Calls Tryd.prog 4 #[.slice A n c, .slice PA pn pc] w fun e w' => e = .returned (.bool true) ∧ Below w.heap.size w w' := by
  have HV := Go.Lib.hid hv
  clear hv
  have hpl_ := hb.1
  refine calls_of_wp Tryd.func4 rfl ?_
  refine wp_seq ?_
  refine Wk.reg ?_
  refine Wk.rPure 0 (some 4) (.bool false) rfl rfl (by kernel_rfl) (by kernel_rfl) ?_
  refine Wk.rEnd 1 rfl ?_
  refine Wk.nxt ?_
  refine wp_seq ?_
  refine wp_seq ?_
  refine Wk.reg ?_
  refine Wk.rPure 0 (some 15) (.slice A n c) rfl rfl (by kernel_rfl) (by kernel_rfl) ?_
  refine Wk.rPure 1 (some 16) (.int .i64 ((n : Nat) : Int)) rfl rfl (by kernel_rfl) (by kernel_rfl) ?_
  by_cases hx1 : ((n : Nat) : Int) > (300 : Int)
  · refine Wk.rPure 2 (some 17) (.bool true) rfl rfl (by kernel_rfl) (Wk.boolT (b := decide (((n : Nat) : Int) > (300 : Int))) (decide_eq_true (by first | exact hx1 | omega)) (by kernel_rfl)) ?_
    refine Wk.rPure 3 (some 18) (.bool true) rfl rfl (by kernel_rfl) (by kernel_rfl) ?_
    refine Wk.rPass 4 (some 19) rfl rfl (by kernel_rfl) ?_
    refine Wk.rPass 5 (some 20) rfl rfl (by kernel_rfl) ?_
    refine Wk.rPass 6 (some 21) rfl rfl (by kernel_rfl) ?_
    refine Wk.rPure 7 (some 22) (.bool true) rfl rfl (by kernel_rfl) (by kernel_rfl) ?_
    refine Wk.rPure 8 (some 23) (.bool true) rfl rfl (by kernel_rfl) (by kernel_rfl) ?_
    refine Wk.rPass 9 (some 24) rfl rfl (by kernel_rfl) ?_
    refine Wk.rPass 10 (some 25) rfl rfl (by kernel_rfl) ?_
    refine Wk.rPass 11 (some 26) rfl rfl (by kernel_rfl) ?_
    refine Wk.rPure 12 (some 27) (.bool true) rfl rfl (by kernel_rfl) (by kernel_rfl) ?_
    refine Wk.rEnd 13 rfl ?_
    refine Wk.nxt ?_
    refine wp_cond_true (by kernel_rfl) ?_
    refine wp_seq ?_
    refine Wk.reg ?_
    refine Wk.rCall 0 (some 28) 13 [] #[] [] rfl rfl (by kernel_rfl) rfl (by kernel_rfl) (by kernel_rfl) ?_
    refine (known20_any w HV.out).mono ?_
    rintro _ W1 ⟨rfl, ch1⟩
    have zz1 := ch1.size
    refine ⟨_, rfl, ?_⟩
    refine Wk.rPure 1 (some 4) (.bool true) rfl rfl (by kernel_rfl) (by kernel_rfl) ?_
    refine Wk.rEnd 2 rfl ?_
    refine Wk.nxt ?_
    refine wp_ret ?_
    refine Wk.thR ?_
    have kk1 : Wk.Chg [] w W1 := Wk.Chg.step ((Wk.Chg.refl _).more (by simp)) ch1 trivial
    refine Wk.ret (.bool true) rfl (by kernel_rfl) ?_
    exact ⟨rfl, Wk.Chg.below0 kk1⟩
  · refine Wk.rPure 2 (some 17) (.bool false) rfl rfl (by kernel_rfl) (Wk.boolF (b := decide (((n : Nat) : Int) > (300 : Int))) (decide_eq_false (by first | exact hx1 | omega)) (by kernel_rfl)) ?_
    refine Wk.rPure 3 (some 18) (.bool false) rfl rfl (by kernel_rfl) (by kernel_rfl) ?_
    refine Wk.rPure 4 (some 19) (.slice PA pn pc) rfl rfl (by kernel_rfl) (by kernel_rfl) ?_
    refine Wk.rPure 5 (some 20) (.int .i64 ((pn : Nat) : Int)) rfl rfl (by kernel_rfl) (by kernel_rfl) ?_
    by_cases hx2 : ((pn : Nat) : Int) ≥ (8 : Int)
    · refine Wk.rPure 6 (some 21) (.bool true) rfl rfl (by kernel_rfl) (Wk.boolT (b := decide (((pn : Nat) : Int) ≥ (8 : Int))) (decide_eq_true (by first | exact hx2 | omega)) (by kernel_rfl)) ?_
      refine Wk.rPure 7 (some 22) (.bool true) rfl rfl (by kernel_rfl) (by kernel_rfl) ?_
      refine Wk.rPure 8 (some 23) (.bool true) rfl rfl (by kernel_rfl) (by kernel_rfl) ?_
      refine Wk.rPass 9 (some 24) rfl rfl (by kernel_rfl) ?_
      refine Wk.rPass 10 (some 25) rfl rfl (by kernel_rfl) ?_
      refine Wk.rPass 11 (some 26) rfl rfl (by kernel_rfl) ?_
      refine Wk.rPure 12 (some 27) (.bool true) rfl rfl (by kernel_rfl) (by kernel_rfl) ?_
      refine Wk.rEnd 13 rfl ?_
      refine Wk.nxt ?_
      refine wp_cond_true (by kernel_rfl) ?_
      refine wp_seq ?_
      refine Wk.reg ?_
      refine Wk.rCall 0 (some 28) 13 [] #[] [] rfl rfl (by kernel_rfl) rfl (by kernel_rfl) (by kernel_rfl) ?_
      refine (known20_any w HV.out).mono ?_
      rintro _ W2 ⟨rfl, ch2⟩
      have zz2 := ch2.size
      refine ⟨_, rfl, ?_⟩
      refine Wk.rPure 1 (some 4) (.bool true) rfl rfl (by kernel_rfl) (by kernel_rfl) ?_
      refine Wk.rEnd 2 rfl ?_
      refine Wk.nxt ?_
      refine wp_ret ?_
      refine Wk.thR ?_
      have kk2 : Wk.Chg [] w W2 := Wk.Chg.step ((Wk.Chg.refl _).more (by simp)) ch2 trivial
      refine Wk.ret (.bool true) rfl (by kernel_rfl) ?_
      exact ⟨rfl, Wk.Chg.below0 kk2⟩
    · refine Wk.rPure 6 (some 21) (.bool false) rfl rfl (by kernel_rfl) (Wk.boolF (b := decide (((pn : Nat) : Int) ≥ (8 : Int))) (decide_eq_false (by first | exact hx2 | omega)) (by kernel_rfl)) ?_
      refine Wk.rPure 7 (some 22) (.bool false) rfl rfl (by kernel_rfl) (by kernel_rfl) ?_
      refine Wk.rPure 8 (some 23) (.bool false) rfl rfl (by kernel_rfl) (by kernel_rfl) ?_
      refine Wk.rPure 9 (some 24) (.slice PA pn pc) rfl rfl (by kernel_rfl) (by kernel_rfl) ?_
      refine Wk.rCall 10 (some 25) 19 [.tmp 24] #[38] [.slice PA pn pc] rfl rfl (by kernel_rfl) rfl (by kernel_rfl) (by kernel_rfl) ?_
      refine (IsPrefix_any p PA pn pc w hb (by omega)).mono ?_
      cases hpre1 : Mur.isPre p
      · rintro _ _ ⟨rfl, rfl⟩
        refine ⟨_, rfl, ?_⟩
        refine Wk.rPure 11 (some 26) (.bool true) rfl rfl (by kernel_rfl) (by kernel_rfl) ?_
        refine Wk.rPure 12 (some 27) (.bool true) rfl rfl (by kernel_rfl) (by kernel_rfl) ?_
        refine Wk.rEnd 13 rfl ?_
        refine Wk.nxt ?_
        refine wp_cond_true (by kernel_rfl) ?_
        refine wp_seq ?_
        refine Wk.reg ?_
        refine Wk.rCall 0 (some 28) 13 [] #[] [] rfl rfl (by kernel_rfl) rfl (by kernel_rfl) (by kernel_rfl) ?_
        refine (known20_any w HV.out).mono ?_
        rintro _ W3 ⟨rfl, ch3⟩
        have zz3 := ch3.size
        refine ⟨_, rfl, ?_⟩
        refine Wk.rPure 1 (some 4) (.bool true) rfl rfl (by kernel_rfl) (by kernel_rfl) ?_
        refine Wk.rEnd 2 rfl ?_
        refine Wk.nxt ?_
        refine wp_ret ?_
        refine Wk.thR ?_
        have kk3 : Wk.Chg [] w W3 := Wk.Chg.step ((Wk.Chg.refl _).more (by simp)) ch3 trivial
        refine Wk.ret (.bool true) rfl (by kernel_rfl) ?_
        exact ⟨rfl, Wk.Chg.below0 kk3⟩
      · rintro _ _ ⟨rfl, rfl⟩
        refine ⟨_, rfl, ?_⟩
        refine Wk.rPure 11 (some 26) (.bool false) rfl rfl (by kernel_rfl) (by kernel_rfl) ?_
        refine Wk.rPure 12 (some 27) (.bool false) rfl rfl (by kernel_rfl) (by kernel_rfl) ?_
        refine Wk.rEnd 13 rfl ?_
        refine Wk.nxt ?_
        refine wp_cond_false (by kernel_rfl) ?_
        refine wp_skip ?_
        refine Wk.nxt ?_
        refine wp_seq ?_
        refine Wk.reg ?_
        have hpre1_ := hpre1
        refine Wk.rCall 0 (some 29) 14 [] #[] [] rfl rfl (by kernel_rfl) rfl (by kernel_rfl) (by kernel_rfl) ?_
        refine (New_any w).mono ?_
        rintro _ W4 ⟨FF1, rfl, hD1, ch4⟩
        have hM1 := Mur.SetF.mem hD1
        have zz4 := (hM1 _ (Mur.SetF.self hD1)).2
        have zz5 := ch4.size
        refine ⟨_, rfl, ?_⟩
        refine Wk.rPure 1 (some 5) (.pointer (some ⟨w.heap.size, 0, none⟩)) rfl rfl (by kernel_rfl) (by kernel_rfl) ?_
        refine Wk.rEnd 2 rfl ?_
        refine Wk.nxt ?_
        refine wp_seq ?_
        refine wp_seq ?_
        refine Wk.reg ?_
        refine Wk.rPure 0 (some 30) (.pointer (some ⟨w.heap.size, 0, none⟩)) rfl rfl (by kernel_rfl) (by kernel_rfl) ?_
        refine Wk.rPure 1 (some 31) (.bool false) rfl rfl (by kernel_rfl) (by kernel_rfl) ?_
        refine Wk.rEnd 2 rfl ?_
        refine Wk.nxt ?_
        refine wp_cond_false (by kernel_rfl) ?_
        refine wp_skip ?_
        refine Wk.nxt ?_
        refine wp_seq ?_
        refine wp_seq ?_
        refine Wk.reg ?_
        refine Wk.rPure 0 (some 32) (.slice A n c) rfl rfl (by kernel_rfl) (by kernel_rfl) ?_
        refine Wk.rPure 1 (some 33) (.int .i64 ((n : Nat) : Int)) rfl rfl (by kernel_rfl) (by kernel_rfl) ?_
        refine Wk.rPure 2 (some 34) (.int .i64 0) rfl rfl (by kernel_rfl) (by kernel_rfl) ?_
        refine Wk.rEnd 3 rfl ?_
        refine Wk.nxt ?_
        refine wp_block ?_
        refine Wk.loop (fun m_ a wr => ∃ (j : Nat) (L1 : List Att) (F1 : List Nat), m_ = n - j ∧ a = Par20_F1 a.tmps (.slice A n c) (.slice PA pn pc) (.pointer (some ⟨w.heap.size, 0, none⟩)) (.int .i64 ((n : Nat) : Int)) (.int .i64 ((j : Nat) : Int)) ∧ j ≤ n ∧ Mur.SetF 32 57 w.heap.size wr w.heap.size L1 F1 ∧ Wk.Chg [] w wr) (n - 0) ?_ ?_
        · have kk4 : Wk.Chg [] w W4 := Wk.Chg.step ((Wk.Chg.refl _).more (by simp)) ch4 trivial
          refine ⟨0, [], FF1, rfl, by kernel_rfl, (by omega), hD1, kk4⟩
        · rintro mm1 aa1 W5 ⟨j, L1, F1, hmm1, hF1, hj, hD1, HB⟩
          generalize aa1.tmps = bb1 at hF1
          subst hF1
          have hM1 := Mur.SetF.mem hD1
          have hg1_ := (hM1 _ (Mur.SetF.self hD1)).2
          have hzB := HB.size
          have hlL := hl.len
          by_cases hlt : j < n
          · obtain ⟨g_x, o_x, rfl, _⟩ := hl.ex (by omega)
            obtain ⟨x, hx⟩ : ∃ x, L[j]? = some x := ⟨_, List.getElem?_eq_getElem (by have := hl.len; omega)⟩
            refine wp_seq ?_
            refine Wk.reg ?_
            refine Wk.rPure 0 (some 35) (.bool true) rfl rfl (by kernel_rfl) (Wk.boolT (b := decide (((j : Nat) : Int) < ((n : Nat) : Int))) (decide_eq_true (by omega)) (by kernel_rfl)) ?_
            refine Wk.rEnd 1 rfl ?_
            refine Wk.nxt ?_
            refine wp_seq ?_
            refine wp_cond_true (by kernel_rfl) ?_
            refine wp_skip ?_
            refine Wk.nxt ?_
            refine wp_seq ?_
            refine wp_block ?_
            refine wp_seq ?_
            refine Wk.reg ?_
            refine Wk.rPure 0 (some 36) (.int .i64 ((j : Nat) : Int)) rfl rfl (by kernel_rfl) (by kernel_rfl) ?_
            refine Wk.rPure 1 (some 6) (.int .i64 ((j : Nat) : Int)) rfl rfl (by kernel_rfl) (by kernel_rfl) ?_
            refine Wk.rEnd 2 rfl ?_
            refine Wk.nxt ?_
            refine Wk.reg ?_
            refine Wk.rPure 0 (some 37) (.pointer (some ⟨w.heap.size, 0, none⟩)) rfl rfl (by kernel_rfl) (by kernel_rfl) ?_
            refine Wk.rPure 1 (some 38) (.slice (some ⟨g_x, o_x, none⟩) n c) rfl rfl (by kernel_rfl) (by kernel_rfl) ?_
            refine Wk.rPure 2 (some 39) (.int .i64 ((j : Nat) : Int)) rfl rfl (by kernel_rfl) (by kernel_rfl) ?_
            refine Wk.rPure 3 (some 40) (.pointer (some ⟨g_x, o_x + j * 97, none⟩)) rfl rfl (by kernel_rfl) (Wk.index_sl 22 32 (.tmp 38) (.tmp 39) rfl Tryd.underlying22 97 (by kernel_rfl) g_x o_x n c j .i64 (by kernel_rfl) (by kernel_rfl) (by omega)) ?_
            refine Wk.rPure 4 (some 41) (.agg ((Mur.attC x.k x.r x.n x.t).toArray)) rfl rfl (by kernel_rfl) (Wk.loadR 32 (.tmp 40) rfl _ Tryd.underlying32 rfl g_x (o_x + j * 97) (by kernel_rfl) (Mur.attC x.k x.r x.n x.t) (by rw [Mur.attC_length x.hk x.hr x.ht]; kernel_rfl) ((Mur.SlA.chg hl HB (fun g off e hl => trivial)).elem hx)) ?_
            refine Wk.rCall 5 (some 42) 15 [.tmp 37, .tmp 41] #[24, 32] [.pointer (some ⟨w.heap.size, 0, none⟩), .agg ((Mur.attC x.k x.r x.n x.t).toArray)] rfl rfl (by kernel_rfl) rfl (by kernel_rfl) (by kernel_rfl) ?_
            refine (Add_any w.heap.size L1 w.heap.size F1 x W5 hD1).mono ?_
            rintro _ W6 ⟨FF2, rfl, hD2, ch5, no1⟩
            have hM2 := Mur.SetF.mem hD2
            have zz6 := ch5.size
            refine ⟨_, rfl, ?_⟩
            refine Wk.rEnd 6 rfl ?_
            refine Wk.inN ?_
            refine Wk.nxt ?_
            refine Wk.reg ?_
            refine Wk.rPure 0 (some 43) (.int .i64 ((j + 1 : Nat) : Int)) rfl rfl (by kernel_rfl) (Wk.int64 (n := ((j : Nat) : Int) + 1) (z := ((j + 1 : Nat) : Int)) (by omega) (by omega) (by omega) (by kernel_rfl)) ?_
            refine Wk.rPure 1 (some 34) (.int .i64 ((j + 1 : Nat) : Int)) rfl rfl (by kernel_rfl) (by kernel_rfl) ?_
            refine Wk.rEnd 2 rfl ?_
            refine Wk.nxt ?_
            have kk5 := Wk.Chg.step HB ch5 (Mur.newOr_iff.2 (fun t ht => .inr (by have := hM1 t ht; omega)))
            refine ⟨_, ?_, j + 1, (Mur.addS x L1).1, FF2, rfl, by kernel_rfl, (by omega), hD2, kk5⟩
            · omega
          · refine wp_seq ?_
            refine Wk.reg ?_
            refine Wk.rPure 0 (some 35) (.bool false) rfl rfl (by kernel_rfl) (Wk.boolF (b := decide (((j : Nat) : Int) < ((n : Nat) : Int))) (decide_eq_false (by omega)) (by kernel_rfl)) ?_
            refine Wk.rEnd 1 rfl ?_
            refine Wk.nxt ?_
            refine wp_seq ?_
            refine wp_cond_false (by kernel_rfl) ?_
            refine wp_exit ?_
            refine Wk.thX ?_
            refine Wk.thX ?_
            refine Wk.inX ?_
            refine Wk.nxt ?_
            refine wp_seq ?_
            refine Wk.reg ?_
            refine Wk.rPure 0 (some 7) (.slice none 0 0) rfl rfl (by kernel_rfl) (by kernel_rfl) ?_
            refine Wk.rEnd 1 rfl ?_
            refine Wk.nxt ?_
            refine wp_seq ?_
            refine Wk.reg ?_
            refine Wk.rPure 0 (some 8) (.int .i64 0) rfl rfl (by kernel_rfl) (by kernel_rfl) ?_
            refine Wk.rEnd 1 rfl ?_
            refine Wk.nxt ?_
            refine wp_seq ?_
            refine wp_seq ?_
            refine Wk.reg ?_
            refine Wk.rPure 0 (some 44) (.int .u8 0) rfl rfl (by kernel_rfl) (by kernel_rfl) ?_
            refine Wk.rEnd 1 rfl ?_
            refine Wk.nxt ?_
            refine wp_block ?_
            refine Wk.loop (fun m_ a wr => ∃ (t : Nat) (A1 : Option Addr) (N : Nat) (c1 : Nat) (K : Nat), m_ = 16 - t ∧ a = Par20_F2 a.tmps (.slice PA pn pc) (.pointer (some ⟨w.heap.size, 0, none⟩)) (.slice A1 N c1) (.int .i64 ((K : Nat) : Int)) (.int .u8 ((t : Nat) : Int)) ∧ t ≤ 16 ∧ OwnA wr W5.heap.size 32 A1 N c1 (Mur.upto p L1 t) ∧ K = (Mur.upto p L1 t).length ∧ Wk.Chg [] W5 wr) (16 - 0) ?_ ?_
            · refine ⟨0, none, 0, 0, 0, rfl, by kernel_rfl, (by omega), (by rw [Mur.upto_zero]; exact Mur.ownA_nil _ _ _), (by rw [Mur.upto_zero]; rfl), (Wk.Chg.refl _)⟩
            · rintro mm2 aa2 W7 ⟨t, A1, N, c1, K, hmm2, hF2, ht, hO, hK8, HB0⟩
              generalize aa2.tmps = bb2 at hF2
              subst hF2
              have HB2 := Wk.Chg.step HB HB0 trivial
              have hzB0 := HB0.size
              have hzB2 := HB2.size
              have hDx := Mur.SetF.chg hD1 HB0 (fun _ _ => trivial)
              have hSx := Mur.SetF.srt hD1
              have hLx := Mur.SetF.len hD1
              have hOn := hO.nc
              have hOm := hO.cm
              have hOl := hO.sl.len
              have hUl := Mur.upto_len (p := p) (L := L1) t
              have hg1_ := (hM1 _ (Mur.SetF.self hD1)).2
              by_cases hlt : t < 16
              · obtain ⟨u, rfl⟩ : ∃ u : UInt8, u.toNat = t := ⟨UInt8.ofNat t, by simp; omega⟩
                have hul := u.toNat_lt
                have hbl_ := Mur.belowL_len (p ++ [u]) L1
                refine wp_seq ?_
                refine Wk.reg ?_
                refine Wk.rPure 0 (some 45) (.bool true) rfl rfl (by kernel_rfl) (Wk.boolT (b := decide (((u.toNat : Nat) : Int) < (16 : Int))) (decide_eq_true (by omega)) (by kernel_rfl)) ?_
                refine Wk.rEnd 1 rfl ?_
                refine Wk.nxt ?_
                refine wp_seq ?_
                refine wp_cond_true (by kernel_rfl) ?_
                refine wp_skip ?_
                refine Wk.nxt ?_
                refine wp_seq ?_
                refine wp_block ?_
                refine wp_seq ?_
                refine Wk.reg ?_
                refine Wk.rPure 0 (some 46) (.int .u8 ((u.toNat : Nat) : Int)) rfl rfl (by kernel_rfl) (by kernel_rfl) ?_
                refine Wk.rPure 1 (some 9) (.int .u8 ((u.toNat : Nat) : Int)) rfl rfl (by kernel_rfl) (by kernel_rfl) ?_
                refine Wk.rEnd 2 rfl ?_
                refine Wk.nxt ?_
                refine wp_seq ?_
                refine Wk.reg ?_
                refine Wk.rEx 0 (some 47) _ rfl rfl (by kernel_rfl) (Wk.new_ex (.slice (some ⟨W7.heap.size, 0, none⟩) 0 0) #[] 5 (by kernel_rfl)) ?_
                rintro _ W8 ⟨rfl, hb1, ch6, sz1⟩
                have zz7 := ch6.size
                refine Wk.rPure 1 (some 48) (.slice PA pn pc) rfl rfl (by kernel_rfl) (by kernel_rfl) ?_
                have ow1 := Mur.own8_empty hb1 (Nat.le_refl _)
                have kk6 := Wk.Chg.step HB2 ch6 trivial
                refine Wk.rEx 2 (some 49) _ rfl rfl (by kernel_rfl) (Mur.append8 (.tmp 47) (.tmp 48) 38 5 rfl Tryd.underlying38 (by kernel_rfl) W7.heap.size (some ⟨W7.heap.size, 0, none⟩) 0 0 ([]) PA pn pc p (by kernel_rfl) (by kernel_rfl) ow1.own (Mur.byt_chg hb kk6 (fun g off e hl => trivial)) hpnil (by omega) (by omega) pn (by omega) p rfl) ?_
                rintro _ W9 ⟨AA1, nn1, rfl, ow2, ch7, ha1⟩
                have zz8 := ch7.size
                have hq1 := ow2.nc
                have hq2 := ow2.cm
                refine Wk.rPure 3 (some 50) (.int .u8 ((u.toNat : Nat) : Int)) rfl rfl (by kernel_rfl) (by kernel_rfl) ?_
                refine Wk.rEx 4 (some 51) _ rfl rfl (by kernel_rfl) (Wk.new_ex (.slice (some ⟨W9.heap.size, 0, none⟩) 1 1) #[.int .u8 ((u.toNat : Nat) : Int)] 5 (by kernel_rfl)) ?_
                rintro _ W10 ⟨rfl, hb2, ch8, sz2⟩
                have zz9 := ch8.size
                have ow3 := Mur.own8 (Wk.own_chg ow2.own ch8 (fun q e _ _ => trivial))
                refine Wk.rEx 5 (some 52) _ rfl rfl (by kernel_rfl) (Mur.append8 (.tmp 49) (.tmp 51) 38 5 rfl Tryd.underlying38 (by kernel_rfl) W7.heap.size AA1 pn nn1 p (some ⟨W9.heap.size, 0, none⟩) 1 1 ([u]) (by kernel_rfl) (by kernel_rfl) ow3.own (Mur.byt_row [u] hb2) (fun h => by cases h) (by omega) (by omega) (pn + 1) (by omega) (p ++ ([u])) rfl) ?_
                rintro _ W11 ⟨AA2, nn2, rfl, ow4, ch9, ha2⟩
                have zz10 := ch9.size
                have hq3 := ow4.nc
                have hq4 := ow4.cm
                refine Wk.rPure 6 (some 10) (.slice AA2 (pn + 1) nn2) rfl rfl (by kernel_rfl) (by kernel_rfl) ?_
                refine Wk.rEnd 7 rfl ?_
                refine Wk.nxt ?_
                refine wp_seq ?_
                refine Wk.reg ?_
                refine Wk.rPure 0 (some 54) (.pointer (some ⟨w.heap.size, 0, none⟩)) rfl rfl (by kernel_rfl) (by kernel_rfl) ?_
                refine Wk.rPure 1 (some 55) (.slice AA2 (pn + 1) nn2) rfl rfl (by kernel_rfl) (by kernel_rfl) ?_
                refine Wk.rCall 2 (some 56) 16 [.tmp 54, .tmp 55] #[24, 38] [.pointer (some ⟨w.heap.size, 0, none⟩), .slice AA2 (pn + 1) nn2] rfl rfl (by kernel_rfl) rfl (by kernel_rfl) (by kernel_rfl) ?_
                have hD3 := Mur.SetF.chg hDx ch6 (fun s hs => trivial)
                have hD4 := Mur.SetF.chg hD3 ch7 (fun s hs => (Wk.off_blk (fun gz hgz => by have := ow1.lt gz hgz; have := hM1 s hs; omega)))
                have hD5 := Mur.SetF.chg hD4 ch8 (fun s hs => trivial)
                have hD6 := Mur.SetF.chg hD5 ch9 (fun s hs => (Wk.off_blk (fun gz hgz => by have := ow2.lt gz hgz; have := hM1 s hs; omega)))
                have kk7 := Wk.Chg.step kk6 ch7 (Wk.newOr_blk (fun g hg => by have := ow1.lt g hg; omega))
                have kk8 := Wk.Chg.step kk7 ch8 trivial
                have kk9 := Wk.Chg.step kk8 ch9 (Wk.newOr_blk (fun g hg => by have := ow2.lt g hg; omega))
                refine (Sum_any w.heap.size L1 w.heap.size F1 (p ++ ([u])) AA2 (pn + 1) nn2 W11 (HV.out.below (Wk.Chg.below0 kk9)) hD6 ow4.byt (by omega)).mono ?_
                rintro _ W12 ⟨dd1, hd1, hdl1, rfl, ch10⟩
                have zz11 := ch10.size
                refine ⟨_, rfl, ?_⟩
                refine Wk.rPure 3 (some 53) (.tuple #[.agg ((b8s dd1).toArray), .int .i64 (((Mur.belowL (p ++ ([u])) L1).length : Nat) : Int)]) rfl rfl (by kernel_rfl) (by kernel_rfl) ?_
                refine Wk.rPure 4 (some 57) (.agg ((b8s dd1).toArray)) rfl rfl (by kernel_rfl) (by kernel_rfl) ?_
                refine Wk.rPure 5 (some 58) (.int .i64 (((Mur.belowL (p ++ ([u])) L1).length : Nat) : Int)) rfl rfl (by kernel_rfl) (by kernel_rfl) ?_
                refine Wk.rEx 6 (some 11) _ rfl rfl (by kernel_rfl) (Wk.new_ex (.pointer (some ⟨W12.heap.size, 0, none⟩)) #[.int .u8 0, .int .u8 0, .int .u8 0, .int .u8 0, .int .u8 0, .int .u8 0, .int .u8 0, .int .u8 0, .int .u8 0, .int .u8 0, .int .u8 0, .int .u8 0, .int .u8 0, .int .u8 0, .int .u8 0, .int .u8 0, .int .u8 0, .int .u8 0, .int .u8 0, .int .u8 0, .int .u8 0, .int .u8 0, .int .u8 0, .int .u8 0, .int .u8 0, .int .u8 0, .int .u8 0, .int .u8 0, .int .u8 0, .int .u8 0, .int .u8 0, .int .u8 0] 30 (by kernel_rfl)) ?_
                rintro _ W13 ⟨rfl, hb3, ch11, sz3⟩
                have zz12 := ch11.size
                refine Wk.rExS 7 none _ rfl rfl (by kernel_rfl) (Mur.storeAll 30 (.tmp 11) (.tmp 57) rfl W12.heap.size (by kernel_rfl) dd1 32 hdl1 (by kernel_rfl) (by kernel_rfl) 30 #[.int .u8 0, .int .u8 0, .int .u8 0, .int .u8 0, .int .u8 0, .int .u8 0, .int .u8 0, .int .u8 0, .int .u8 0, .int .u8 0, .int .u8 0, .int .u8 0, .int .u8 0, .int .u8 0, .int .u8 0, .int .u8 0, .int .u8 0, .int .u8 0, .int .u8 0, .int .u8 0, .int .u8 0, .int .u8 0, .int .u8 0, .int .u8 0, .int .u8 0, .int .u8 0, .int .u8 0, .int .u8 0, .int .u8 0, .int .u8 0, .int .u8 0, .int .u8 0] hb3 rfl) ?_
                rintro W14 ⟨hb4, ch12⟩
                have zz13 := ch12.size
                refine Wk.rPure 8 (some 12) (.int .i64 (((Mur.belowL (p ++ ([u])) L1).length : Nat) : Int)) rfl rfl (by kernel_rfl) (by kernel_rfl) ?_
                refine Wk.rEnd 9 rfl ?_
                refine Wk.nxt ?_
                refine wp_seq ?_
                refine Wk.reg ?_
                refine Wk.rPure 0 (some 59) (.int .i64 ((K : Nat) : Int)) rfl rfl (by kernel_rfl) (by kernel_rfl) ?_
                refine Wk.rPure 1 (some 60) (.int .i64 (((Mur.belowL (p ++ ([u])) L1).length : Nat) : Int)) rfl rfl (by kernel_rfl) (by kernel_rfl) ?_
                refine Wk.rPure 2 (some 61) (.int .i64 ((K + (Mur.belowL (p ++ ([u])) L1).length : Nat) : Int)) rfl rfl (by kernel_rfl) (Wk.int64 (n := ((K : Nat) : Int) + (((Mur.belowL (p ++ ([u])) L1).length : Nat) : Int)) (z := ((K + (Mur.belowL (p ++ ([u])) L1).length : Nat) : Int)) (by omega) (by omega) (by omega) (by kernel_rfl)) ?_
                refine Wk.rPure 3 (some 8) (.int .i64 ((K + (Mur.belowL (p ++ ([u])) L1).length : Nat) : Int)) rfl rfl (by kernel_rfl) (by kernel_rfl) ?_
                refine Wk.rEnd 4 rfl ?_
                refine Wk.nxt ?_
                refine Wk.reg ?_
                refine Wk.rPure 0 (some 62) (.slice A1 N c1) rfl rfl (by kernel_rfl) (by kernel_rfl) ?_
                refine Wk.rPure 1 (some 63) (.pointer (some ⟨w.heap.size, 0, none⟩)) rfl rfl (by kernel_rfl) (by kernel_rfl) ?_
                refine Wk.rPure 2 (some 64) (.slice AA2 (pn + 1) nn2) rfl rfl (by kernel_rfl) (by kernel_rfl) ?_
                refine Wk.rCall 3 (some 65) 18 [.tmp 63, .tmp 64] #[24, 38] [.pointer (some ⟨w.heap.size, 0, none⟩), .slice AA2 (pn + 1) nn2] rfl rfl (by kernel_rfl) rfl (by kernel_rfl) (by kernel_rfl) ?_
                have ow5 := Mur.own8 (Wk.own_chg ow4.own ch10 (fun q e _ _ => trivial))
                have ow6 := Mur.own8 (Wk.own_chg ow5.own ch11 (fun q e _ _ => trivial))
                have ow7 := Mur.own8 (Wk.own_chg ow6.own ch12 (fun q e _ _ => ⟨by have := ow4.lt q e; omega, trivial⟩))
                have hD7 := Mur.SetF.chg hD6 ch10 (fun s hs => trivial)
                have hD8 := Mur.SetF.chg hD7 ch11 (fun s hs => trivial)
                have hD9 := Mur.SetF.chg hD8 ch12 (fun s hs => ⟨by have := hM1 s hs; omega, trivial⟩)
                refine (Below_any w.heap.size L1 w.heap.size F1 (p ++ ([u])) AA2 (pn + 1) nn2 W14 hD9 ow7.byt (by omega)).mono ?_
                rintro _ W15 ⟨AA3, nn3, nn4, rfl, ow8, ch13⟩
                have zz14 := ch13.size
                have hq5 := ow8.nc
                have hq6 := ow8.cm
                have hq7 := ow8.sl.len
                have hq8 : (Mur.belowL (p ++ ([u])) L1).length ≤ 200 := Nat.le_trans (Mur.belowL_len _ _) (Mur.SetF.len hD9)
                refine ⟨_, rfl, ?_⟩
                have ow9 := Mur.OwnA.chg hO ch6 (fun q e _ _ => trivial)
                have ow10 := Mur.OwnA.chg ow9 ch7 (fun q e _ _ => (Wk.off_blk (fun gz hgz => by have := ow1.lt gz hgz; have := hO.lt q e; omega)))
                have ow11 := Mur.OwnA.chg ow10 ch8 (fun q e _ _ => trivial)
                have ow12 := Mur.OwnA.chg ow11 ch9 (fun q e _ _ => (Wk.off_blk (fun gz hgz => by have := ow2.lt gz hgz; have := hO.lt q e; omega)))
                have ow13 := Mur.OwnA.chg ow12 ch10 (fun q e _ _ => trivial)
                have ow14 := Mur.OwnA.chg ow13 ch11 (fun q e _ _ => trivial)
                have ow15 := Mur.OwnA.chg ow14 ch12 (fun q e _ _ => ⟨by have := hO.lt q e; omega, trivial⟩)
                have ow16 := Mur.OwnA.chg ow15 ch13 (fun q e _ _ => trivial)
                refine Wk.rEx 4 (some 66) _ rfl rfl (by kernel_rfl) (Mur.appendA (.tmp 62) (.tmp 65) 22 32 rfl Tryd.underlying22 attI W5.heap.size A1 N c1 (Mur.upto p L1 u.toNat) AA3 nn3 nn4 (Mur.belowL (p ++ ([u])) L1) (by kernel_rfl) (by kernel_rfl) ow16 ow8.sl ow8.nil (by omega) (by omega) (N + nn3) (by omega) ((Mur.upto p L1 u.toNat) ++ (Mur.belowL (p ++ ([u])) L1)) rfl) ?_
                rintro _ W16 ⟨AA4, nn5, rfl, ow17, ch14, ha3⟩
                have zz15 := ch14.size
                have hq9 := ow17.nc
                have hq10 := ow17.cm
                refine Wk.rPure 5 (some 7) (.slice AA4 (N + nn3) nn5) rfl rfl (by kernel_rfl) (by kernel_rfl) ?_
                refine Wk.rEnd 6 rfl ?_
                refine Wk.inN ?_
                refine Wk.nxt ?_
                refine Wk.reg ?_
                refine Wk.rPure 0 (some 67) (.int .u8 ((u.toNat + 1 : Nat) : Int)) rfl rfl (by kernel_rfl) (Mur.inc8 5 5 (.tmp 44) (.const (.int .u8 1)) rfl u (by omega) (by kernel_rfl) (by kernel_rfl)) ?_
                refine Wk.rPure 1 (some 44) (.int .u8 ((u.toNat + 1 : Nat) : Int)) rfl rfl (by kernel_rfl) (by kernel_rfl) ?_
                refine Wk.rEnd 2 rfl ?_
                refine Wk.nxt ?_
                have kk10 := Wk.Chg.step HB0 ch6 trivial
                have kk11 := Wk.Chg.step kk10 ch7 (Wk.newOr_blk (fun g hg => by have := ow1.lt g hg; omega))
                have kk12 := Wk.Chg.step kk11 ch8 trivial
                have kk13 := Wk.Chg.step kk12 ch9 (Wk.newOr_blk (fun g hg => by have := ow2.lt g hg; omega))
                have kk14 := Wk.Chg.step kk13 ch10 trivial
                have kk15 := Wk.Chg.step kk14 ch11 trivial
                have kk16 := Wk.Chg.step kk15 ch12 ⟨.inr (by omega), trivial⟩
                have kk17 := Wk.Chg.step kk16 ch13 trivial
                have kk18 := Wk.Chg.step kk17 ch14 (Wk.newOr_blk (fun g hg => by have := hO.lt g hg; omega))
                refine ⟨_, ?_, u.toNat + 1, AA4, N + nn3, nn5, K + (Mur.belowL (p ++ ([u])) L1).length, rfl, by kernel_rfl, (by omega), (by rw [Mur.upto_step hSx hpre1_ (by omega) hlt]; exact ow17), (by rw [Mur.upto_step hSx hpre1_ (by omega) hlt, List.length_append]; omega), kk18⟩
                · omega
              · rw [Mur.upto_all p L1 (show 16 ≤ t by omega)] at hO hK8 hOl
                refine wp_seq ?_
                refine Wk.reg ?_
                refine Wk.rPure 0 (some 45) (.bool false) rfl rfl (by kernel_rfl) (Wk.boolF (b := decide (((t : Nat) : Int) < (16 : Int))) (decide_eq_false (by omega)) (by kernel_rfl)) ?_
                refine Wk.rEnd 1 rfl ?_
                refine Wk.nxt ?_
                refine wp_seq ?_
                refine wp_cond_false (by kernel_rfl) ?_
                refine wp_exit ?_
                refine Wk.thX ?_
                refine Wk.thX ?_
                refine Wk.inX ?_
                refine Wk.nxt ?_
                refine wp_seq ?_
                refine Wk.reg ?_
                refine Wk.rPure 0 (some 69) (.pointer (some ⟨w.heap.size, 0, none⟩)) rfl rfl (by kernel_rfl) (by kernel_rfl) ?_
                refine Wk.rPure 1 (some 70) (.slice PA pn pc) rfl rfl (by kernel_rfl) (by kernel_rfl) ?_
                refine Wk.rCall 2 (some 71) 16 [.tmp 69, .tmp 70] #[24, 38] [.pointer (some ⟨w.heap.size, 0, none⟩), .slice PA pn pc] rfl rfl (by kernel_rfl) rfl (by kernel_rfl) (by kernel_rfl) ?_
                refine (Sum_any w.heap.size L1 w.heap.size F1 p PA pn pc W7 (HV.out.below (Wk.Chg.below0 HB2)) hDx (Mur.byt_chg hb HB2 (fun g off e hl => trivial)) (by omega)).mono ?_
                rintro _ W17 ⟨dd2, hd2, hdl2, rfl, ch15⟩
                have zz16 := ch15.size
                refine ⟨_, rfl, ?_⟩
                refine Wk.rPure 3 (some 68) (.tuple #[.agg ((b8s dd2).toArray), .int .i64 (((Mur.belowL p L1).length : Nat) : Int)]) rfl rfl (by kernel_rfl) (by kernel_rfl) ?_
                refine Wk.rPure 4 (some 72) (.agg ((b8s dd2).toArray)) rfl rfl (by kernel_rfl) (by kernel_rfl) ?_
                refine Wk.rPure 5 (some 73) (.int .i64 (((Mur.belowL p L1).length : Nat) : Int)) rfl rfl (by kernel_rfl) (by kernel_rfl) ?_
                refine Wk.rEx 6 (some 13) _ rfl rfl (by kernel_rfl) (Wk.new_ex (.pointer (some ⟨W17.heap.size, 0, none⟩)) #[.int .u8 0, .int .u8 0, .int .u8 0, .int .u8 0, .int .u8 0, .int .u8 0, .int .u8 0, .int .u8 0, .int .u8 0, .int .u8 0, .int .u8 0, .int .u8 0, .int .u8 0, .int .u8 0, .int .u8 0, .int .u8 0, .int .u8 0, .int .u8 0, .int .u8 0, .int .u8 0, .int .u8 0, .int .u8 0, .int .u8 0, .int .u8 0, .int .u8 0, .int .u8 0, .int .u8 0, .int .u8 0, .int .u8 0, .int .u8 0, .int .u8 0, .int .u8 0] 30 (by kernel_rfl)) ?_
                rintro _ W18 ⟨rfl, hb5, ch16, sz4⟩
                have zz17 := ch16.size
                refine Wk.rExS 7 none _ rfl rfl (by kernel_rfl) (Mur.storeAll 30 (.tmp 13) (.tmp 72) rfl W17.heap.size (by kernel_rfl) dd2 32 hdl2 (by kernel_rfl) (by kernel_rfl) 30 #[.int .u8 0, .int .u8 0, .int .u8 0, .int .u8 0, .int .u8 0, .int .u8 0, .int .u8 0, .int .u8 0, .int .u8 0, .int .u8 0, .int .u8 0, .int .u8 0, .int .u8 0, .int .u8 0, .int .u8 0, .int .u8 0, .int .u8 0, .int .u8 0, .int .u8 0, .int .u8 0, .int .u8 0, .int .u8 0, .int .u8 0, .int .u8 0, .int .u8 0, .int .u8 0, .int .u8 0, .int .u8 0, .int .u8 0, .int .u8 0, .int .u8 0, .int .u8 0] hb5 rfl) ?_
                rintro W19 ⟨hb6, ch17⟩
                have zz18 := ch17.size
                refine Wk.rPure 8 (some 14) (.int .i64 (((Mur.belowL p L1).length : Nat) : Int)) rfl rfl (by kernel_rfl) (by kernel_rfl) ?_
                refine Wk.rEnd 9 rfl ?_
                refine Wk.nxt ?_
                refine wp_seq ?_
                refine Wk.reg ?_
                refine Wk.rPure 0 (some 74) (.int .i64 ((K : Nat) : Int)) rfl rfl (by kernel_rfl) (by kernel_rfl) ?_
                refine Wk.rPure 1 (some 75) (.int .i64 (((Mur.belowL p L1).length : Nat) : Int)) rfl rfl (by kernel_rfl) (by kernel_rfl) ?_
                refine Wk.rPure 2 (some 76) (.bool true) rfl rfl (by kernel_rfl) (Wk.boolT (b := (((K : Nat) : Int) == (((Mur.belowL p L1).length : Nat) : Int))) (beq_iff_eq.2 (by omega)) (by kernel_rfl)) ?_
                refine Wk.rPure 3 (some 77) (.bool true) rfl rfl (by kernel_rfl) (by kernel_rfl) ?_
                refine Wk.rPure 4 (some 78) (.slice A1 N c1) rfl rfl (by kernel_rfl) (by kernel_rfl) ?_
                refine Wk.rPure 5 (some 79) (.pointer (some ⟨w.heap.size, 0, none⟩)) rfl rfl (by kernel_rfl) (by kernel_rfl) ?_
                refine Wk.rPure 6 (some 80) (.slice PA pn pc) rfl rfl (by kernel_rfl) (by kernel_rfl) ?_
                refine Wk.rCall 7 (some 81) 18 [.tmp 79, .tmp 80] #[24, 38] [.pointer (some ⟨w.heap.size, 0, none⟩), .slice PA pn pc] rfl rfl (by kernel_rfl) rfl (by kernel_rfl) (by kernel_rfl) ?_
                have kk19 := Wk.Chg.step HB2 ch15 trivial
                have kk20 := Wk.Chg.step kk19 ch16 trivial
                have kk21 := Wk.Chg.step kk20 ch17 ⟨.inr (by omega), trivial⟩
                have hD10 := Mur.SetF.chg hDx ch15 (fun s hs => trivial)
                have hD11 := Mur.SetF.chg hD10 ch16 (fun s hs => trivial)
                have hD12 := Mur.SetF.chg hD11 ch17 (fun s hs => ⟨by have := hM1 s hs; omega, trivial⟩)
                refine (Below_any w.heap.size L1 w.heap.size F1 p PA pn pc W19 hD12 (Mur.byt_chg hb kk21 (fun g off e hl => trivial)) (by omega)).mono ?_
                rintro _ W20 ⟨AA5, nn6, nn7, rfl, ow18, ch18⟩
                have zz19 := ch18.size
                have hq11 := ow18.nc
                have hq12 := ow18.cm
                have hq13 := ow18.sl.len
                have hq14 : (Mur.belowL p L1).length ≤ 200 := Nat.le_trans (Mur.belowL_len _ _) (Mur.SetF.len hD12)
                refine ⟨_, rfl, ?_⟩
                refine Wk.rCall 8 (some 82) 17 [.tmp 78, .tmp 81] #[22, 22] [.slice A1 N c1, .slice AA5 nn6 nn7] rfl rfl (by kernel_rfl) rfl (by kernel_rfl) (by kernel_rfl) ?_
                have ow19 := Mur.OwnA.chg hO ch15 (fun q e _ _ => trivial)
                have ow20 := Mur.OwnA.chg ow19 ch16 (fun q e _ _ => trivial)
                have ow21 := Mur.OwnA.chg ow20 ch17 (fun q e _ _ => ⟨by have := hO.lt q e; omega, trivial⟩)
                have ow22 := Mur.OwnA.chg ow21 ch18 (fun q e _ _ => trivial)
                refine (Same20_any A1 N c1 (Mur.belowL p L1) AA5 nn6 nn7 (Mur.belowL p L1) W20 ow22.sl ow18.sl (by omega)).mono ?_
                rw [decide_eq_true (rfl : (Mur.belowL p L1) = (Mur.belowL p L1))]
                rintro _ W21 ⟨rfl, ch19⟩
                have zz20 := ch19.size
                refine ⟨_, rfl, ?_⟩
                refine Wk.rPure 9 (some 83) (.bool true) rfl rfl (by kernel_rfl) (by kernel_rfl) ?_
                refine Wk.rPure 10 (some 84) (.bool true) rfl rfl (by kernel_rfl) (by kernel_rfl) ?_
                refine Wk.rCall 11 (some 85) 13 [] #[] [] rfl rfl (by kernel_rfl) rfl (by kernel_rfl) (by kernel_rfl) ?_
                have kk22 := Wk.Chg.step kk21 ch18 trivial
                have kk23 := Wk.Chg.step kk22 ch19 trivial
                refine (known20_any W21 (HV.out.below (Wk.Chg.below0 kk23))).mono ?_
                rintro _ W22 ⟨rfl, ch20⟩
                have zz21 := ch20.size
                refine ⟨_, rfl, ?_⟩
                refine Wk.rPure 12 (some 86) (.bool true) rfl rfl (by kernel_rfl) (by kernel_rfl) ?_
                refine Wk.rPure 13 (some 4) (.bool true) rfl rfl (by kernel_rfl) (by kernel_rfl) ?_
                refine Wk.rEnd 14 rfl ?_
                refine Wk.nxt ?_
                refine wp_ret ?_
                have kk24 := Wk.Chg.step kk23 ch20 trivial
                refine Wk.ret (.bool true) rfl (by kernel_rfl) ?_
                exact ⟨rfl, Wk.Chg.below0 kk24⟩
end Go.Proofs.YtfhneademopciaaDoor
