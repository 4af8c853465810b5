/- What the row rests on, part 1. -/
import Derived.WalkKit
import Derived.WalkLawsBesides
import Derived.Lib.Hide
import Derived.Deep.Draws
import Derived.Deep.QuietTactic
import Derived.BigQuiet
import Derived.Test.YtgbadghjnpbiaaaGreatDoorProg
import Derived.WalkSpells
import Derived.Laws.CopyOwn
import Derived.Maps.AppendAt
import Derived.OwnWalk
import Derived.Laws.MakeOwn
import Derived.Deep.MidRow
import Derived.Laws.OwnMore
namespace Mur
def rotr (x : UInt32) (n : UInt32) : UInt32 := (x >>> n) ||| (x <<< (32 - n))
def ssig0 (x : UInt32) : UInt32 := rotr x 7 ^^^ rotr x 18 ^^^ (x >>> 3)
def ssig1 (x : UInt32) : UInt32 := rotr x 17 ^^^ rotr x 19 ^^^ (x >>> 10)
def bsig1 (e : UInt32) : UInt32 := rotr e 6 ^^^ rotr e 11 ^^^ rotr e 25
def bsig0 (a : UInt32) : UInt32 := rotr a 2 ^^^ rotr a 13 ^^^ rotr a 22
def ch (e f g : UInt32) : UInt32 := (e &&& f) ^^^ (~~~e &&& g)
def maj (a b c : UInt32) : UInt32 := (a &&& b) ^^^ (a &&& c) ^^^ (b &&& c)
def be32 (a b c d : UInt8) : UInt32 := (a.toUInt32 <<< 24) ||| (b.toUInt32 <<< 16) ||| (c.toUInt32 <<< 8) ||| d.toUInt32
def wordAt (b : List UInt8) (t : Nat) : UInt32 := be32 (b.getD (4*t) 0) (b.getD (4*t+1) 0) (b.getD (4*t+2) 0) (b.getD (4*t+3) 0)
def wNext (b : List UInt8) (w : List UInt32) (t : Nat) : UInt32 :=
 if t < 16 then wordAt b t else w.getD (t-16) 0 + ssig0 (w.getD (t-15) 0) + w.getD (t-7) 0 + ssig1 (w.getD (t-2) 0)
def wTo (b : List UInt8) : Nat → List UInt32
 | 0 => List.replicate 64 0
 | t+1 => (wTo b t).set t (wNext b (wTo b t) t)
structure St where
 (a b c d e f g h : UInt32)
def stepSt (s : St) (k w : UInt32) : St :=
 let t1 := s.h + bsig1 s.e + ch s.e s.f s.g + k + w
 let t2 := bsig0 s.a + maj s.a s.b s.c
 ⟨t1 + t2, s.a, s.b, s.c, s.d + t1, s.e, s.f, s.g⟩
def K : List UInt32 := [0x428a2f98, 0x71374491, 0xb5c0fbcf, 0xe9b5dba5, 0x3956c25b, 0x59f111f1, 0x923f82a4, 0xab1c5ed5,
 0xd807aa98, 0x12835b01, 0x243185be, 0x550c7dc3, 0x72be5d74, 0x80deb1fe, 0x9bdc06a7, 0xc19bf174,
 0xe49b69c1, 0xefbe4786, 0x0fc19dc6, 0x240ca1cc, 0x2de92c6f, 0x4a7484aa, 0x5cb0a9dc, 0x76f988da,
 0x983e5152, 0xa831c66d, 0xb00327c8, 0xbf597fc7, 0xc6e00bf3, 0xd5a79147, 0x06ca6351, 0x14292967,
 0x27b70a85, 0x2e1b2138, 0x4d2c6dfc, 0x53380d13, 0x650a7354, 0x766a0abb, 0x81c2c92e, 0x92722c85,
 0xa2bfe8a1, 0xa81a664b, 0xc24b8b70, 0xc76c51a3, 0xd192e819, 0xd6990624, 0xf40e3585, 0x106aa070,
 0x19a4c116, 0x1e376c08, 0x2748774c, 0x34b0bcb5, 0x391c0cb3, 0x4ed8aa4a, 0x5b9cca4f, 0x682e6ff3,
 0x748f82ee, 0x78a5636f, 0x84c87814, 0x8cc70208, 0x90befffa, 0xa4506ceb, 0xbef9a3f7, 0xc67178f2]
def H0 : St := ⟨0x6a09e667, 0xbb67ae85, 0x3c6ef372, 0xa54ff53a, 0x510e527f, 0x9b05688c, 0x1f83d9ab, 0x5be0cd19⟩
def roundsTo (w : List UInt32) (s : St) : Nat → St
 | 0 => s
 | t+1 => stepSt (roundsTo w s t) (K.getD t 0) (w.getD t 0)
def addSt (s t : St) : St := ⟨s.a+t.a, s.b+t.b, s.c+t.c, s.d+t.d, s.e+t.e, s.f+t.f, s.g+t.g, s.h+t.h⟩
def block (s : St) (b : List UInt8) : St := addSt s (roundsTo (wTo b 64) s 64)
def blocks (s : St) (b : List UInt8) : Nat → St
 | 0 => s
 | n+1 => blocks (block s (b.take 64)) (b.drop 64) n
def byteBE (n : Nat) (i : Nat) : UInt8 := UInt8.ofNat (n >>> i)
def padZeros (n : Nat) : Nat := (119 - n % 64) % 64
def padded (b : List UInt8) : List UInt8 :=
 b ++ [0x80] ++ List.replicate (padZeros b.length) 0 ++ [byteBE (8*b.length) 56, byteBE (8*b.length) 48, byteBE (8*b.length) 40, byteBE (8*b.length) 32, byteBE (8*b.length) 24, byteBE (8*b.length) 16, byteBE (8*b.length) 8, byteBE (8*b.length) 0]
def St.toList (s : St) : List UInt32 := [s.a,s.b,s.c,s.d,s.e,s.f,s.g,s.h]
def dig (s : St) : List UInt8 := (List.range 32).map fun i => ((s.toList.getD (i/4) 0) >>> UInt32.ofNat (24 - 8*(i%4))).toUInt8
def sha (b : List UInt8) : List UInt8 := dig (blocks H0 (padded b) ((padded b).length/64))

/-! evaluator over Nat, strict -/
def force {α : Type} (n : Nat) (f : Nat → α) : α := Nat.rec (motive := fun _ => α) (f 0) (fun m _ => f (Nat.succ m)) n
theorem force_eq {α : Type} (n : Nat) (f : Nat → α) : force n f = f n := by cases n <;> rfl
def rN (x n : Nat) : Nat := Nat.lor (Nat.shiftRight x n) (Nat.mod (Nat.shiftLeft x (Nat.sub 32 n)) 4294967296)
def s0N (x : Nat) : Nat := Nat.xor (Nat.xor (rN x 7) (rN x 18)) (Nat.shiftRight x 3)
def s1N (x : Nat) : Nat := Nat.xor (Nat.xor (rN x 17) (rN x 19)) (Nat.shiftRight x 10)
def S1N (x : Nat) : Nat := Nat.xor (Nat.xor (rN x 6) (rN x 11)) (rN x 25)
def S0N (x : Nat) : Nat := Nat.xor (Nat.xor (rN x 2) (rN x 13)) (rN x 22)
def chN (e f g : Nat) : Nat := Nat.xor (Nat.land e f) (Nat.land (Nat.sub 4294967295 e) g)
def majN (a b c : Nat) : Nat := Nat.xor (Nat.xor (Nat.land a b) (Nat.land a c)) (Nat.land b c)
def addN (a b : Nat) : Nat := Nat.mod (Nat.add a b) 4294967296
def runN : List Nat → Nat → Nat → Nat → Nat → Nat → Nat → Nat → Nat → Nat → Nat → Nat → Nat → Nat → Nat → Nat → Nat →
  Nat → Nat → Nat → Nat → Nat → Nat → Nat → Nat → List Nat
 | [], _, _, _, _, _, _, _, _, _, _, _, _, _, _, _, _, a, b, c, d, e, f, g, h => [a,b,c,d,e,f,g,h]
 | k::ks, w0, w1, w2, w3, w4, w5, w6, w7, w8, w9, w10, w11, w12, w13, w14, w15, a, b, c, d, e, f, g, h =>
  force (addN (addN w0 (s0N w1)) (addN w9 (s1N w14))) fun nw =>
  force (addN (addN h (S1N e)) (addN (chN e f g) (addN k w0))) fun t1 =>
  force (addN t1 (addN (S0N a) (majN a b c))) fun na =>
  force (addN d t1) fun ne =>
  runN ks w1 w2 w3 w4 w5 w6 w7 w8 w9 w10 w11 w12 w13 w14 w15 nw na a b c ne e f g
def KN : List Nat := [0x428a2f98, 0x71374491, 0xb5c0fbcf, 0xe9b5dba5, 0x3956c25b, 0x59f111f1, 0x923f82a4, 0xab1c5ed5,
 0xd807aa98, 0x12835b01, 0x243185be, 0x550c7dc3, 0x72be5d74, 0x80deb1fe, 0x9bdc06a7, 0xc19bf174,
 0xe49b69c1, 0xefbe4786, 0x0fc19dc6, 0x240ca1cc, 0x2de92c6f, 0x4a7484aa, 0x5cb0a9dc, 0x76f988da,
 0x983e5152, 0xa831c66d, 0xb00327c8, 0xbf597fc7, 0xc6e00bf3, 0xd5a79147, 0x06ca6351, 0x14292967,
 0x27b70a85, 0x2e1b2138, 0x4d2c6dfc, 0x53380d13, 0x650a7354, 0x766a0abb, 0x81c2c92e, 0x92722c85,
 0xa2bfe8a1, 0xa81a664b, 0xc24b8b70, 0xc76c51a3, 0xd192e819, 0xd6990624, 0xf40e3585, 0x106aa070,
 0x19a4c116, 0x1e376c08, 0x2748774c, 0x34b0bcb5, 0x391c0cb3, 0x4ed8aa4a, 0x5b9cca4f, 0x682e6ff3,
 0x748f82ee, 0x78a5636f, 0x84c87814, 0x8cc70208, 0x90befffa, 0xa4506ceb, 0xbef9a3f7, 0xc67178f2]

theorem rotr_toNat (x n : UInt32) (h0 : 0 < n.toNat) (h1 : n.toNat < 32) : (rotr x n).toNat = rN x.toNat n.toNat := by
 unfold rotr rN
 have h2 : (32 - n).toNat = 32 - n.toNat := by
  rw [UInt32.toNat_sub_of_le _ _ (by rw [UInt32.le_iff_toNat_le]; simp; omega)]
  simp
 rw [UInt32.toNat_or, UInt32.toNat_shiftRight, UInt32.toNat_shiftLeft, h2, Nat.mod_eq_of_lt h1, Nat.mod_eq_of_lt (show 32 - n.toNat < 32 by omega)]
 rfl
theorem ssig0_toNat (x : UInt32) : (ssig0 x).toNat = s0N x.toNat := by
 unfold ssig0 s0N
 rw [UInt32.toNat_xor, UInt32.toNat_xor, rotr_toNat _ _ (by decide) (by decide), rotr_toNat _ _ (by decide) (by decide), UInt32.toNat_shiftRight]
 rfl
theorem ssig1_toNat (x : UInt32) : (ssig1 x).toNat = s1N x.toNat := by
 unfold ssig1 s1N
 rw [UInt32.toNat_xor, UInt32.toNat_xor, rotr_toNat _ _ (by decide) (by decide), rotr_toNat _ _ (by decide) (by decide), UInt32.toNat_shiftRight]
 rfl
theorem bsig0_toNat (x : UInt32) : (bsig0 x).toNat = S0N x.toNat := by
 unfold bsig0 S0N
 rw [UInt32.toNat_xor, UInt32.toNat_xor, rotr_toNat _ _ (by decide) (by decide), rotr_toNat _ _ (by decide) (by decide), rotr_toNat _ _ (by decide) (by decide)]
 rfl
theorem bsig1_toNat (x : UInt32) : (bsig1 x).toNat = S1N x.toNat := by
 unfold bsig1 S1N
 rw [UInt32.toNat_xor, UInt32.toNat_xor, rotr_toNat _ _ (by decide) (by decide), rotr_toNat _ _ (by decide) (by decide), rotr_toNat _ _ (by decide) (by decide)]
 rfl
theorem not_toNat (x : UInt32) : (~~~x).toNat = 4294967295 - x.toNat := by
 simp
theorem ch_toNat (e f g : UInt32) : (ch e f g).toNat = chN e.toNat f.toNat g.toNat := by
 unfold ch chN
 rw [UInt32.toNat_xor, UInt32.toNat_and, UInt32.toNat_and, not_toNat]
 rfl
theorem maj_toNat (e f g : UInt32) : (maj e f g).toNat = majN e.toNat f.toNat g.toNat := by
 unfold maj majN
 rw [UInt32.toNat_xor, UInt32.toNat_xor, UInt32.toNat_and, UInt32.toNat_and, UInt32.toNat_and]
 rfl
theorem add_toNat (a b : UInt32) : (a + b).toNat = addN a.toNat b.toNat := UInt32.toNat_add a b

def wd (b : List UInt8) (t : Nat) : UInt32 := (wTo b 64).getD t 0
theorem wTo_length (b : List UInt8) (n : Nat) : (wTo b n).length = 64 := by
 induction n with
 | zero => simp [wTo]
 | succ n ih => simp [wTo, ih]
theorem wTo_stays (b : List UInt8) (t n : Nat) (h : t < n) : (wTo b n).getD t 0 = (wTo b (t + 1)).getD t 0 := by
 induction n with
 | zero => omega
 | succ n ih =>
  by_cases e : t = n
  ·rw [e]
  ·rw [← ih (by omega)]
   conv => lhs; unfold wTo
   simp only [List.getD_eq_getElem?_getD]
   rw [List.getElem?_set_ne (by omega)]
theorem wTo_last (b : List UInt8) (t : Nat) (h : t < 64) : (wTo b (t + 1)).getD t 0 = wNext b (wTo b t) t := by
 conv => lhs; unfold wTo
 rw [List.getD_eq_getElem?_getD, List.getElem?_set_self (by rw [wTo_length]; exact h)]
 rfl
theorem wd_of (b : List UInt8) (t n : Nat) (h : t < n) (hn : n ≤ 64) : (wTo b n).getD t 0 = wd b t := by
 rw [wd, wTo_stays b t n h, wTo_stays b t 64 (by omega)]
theorem wd_lt (b : List UInt8) (t : Nat) (h : t < 16) : wd b t = wordAt b t := by
 rw [wd, wTo_stays b t 64 (by omega), wTo_last b t (by omega), wNext, if_pos h]
theorem wd_ge (b : List UInt8) (t : Nat) (h : 16 ≤ t) (h' : t < 64) : wd b t = wd b (t-16) + ssig0 (wd b (t-15)) + wd b (t-7) + ssig1 (wd b (t-2)) := by
 rw [wd, wTo_stays b t 64 (by omega), wTo_last b t (by omega), wNext, if_neg (by omega), wd_of b _ t (by omega) (by omega), wd_of b _ t (by omega) (by omega), wd_of b _ t (by omega) (by omega), wd_of b _ t (by omega) (by omega)]
def St.nats (s : St) : List Nat := [s.a.toNat, s.b.toNat, s.c.toNat, s.d.toNat, s.e.toNat, s.f.toNat, s.g.toNat, s.h.toNat]
theorem KN_eq : KN = K.map UInt32.toNat := by decide
theorem K_length : K.length = 64 := by decide
theorem addN_assoc4 (a b c d : Nat) : addN (addN a b) (addN c d) = addN (addN (addN a b) c) d := by
 show ((a + b) % 4294967296 + (c + d) % 4294967296) % 4294967296 = (((a + b) % 4294967296 + c) % 4294967296 + d) % 4294967296
 omega
theorem addN_five (h s c k w : Nat) : addN (addN h s) (addN c (addN k w)) = addN (addN (addN (addN h s) c) k) w := by
 show ((h + s) % 4294967296 + (c + (k + w) % 4294967296) % 4294967296) % 4294967296 = ((((h + s) % 4294967296 + c) % 4294967296 + k) % 4294967296 + w) % 4294967296
 omega
theorem runN_eq (b : List UInt8) (s : St) (n : Nat) : ∀ t, t + n = 64 → ∀ w0 w1 w2 w3 w4 w5 w6 w7 w8 w9 w10 w11 w12 w13 w14 w15 : Nat,
  (∀ i, i < 16 → t + i < 64 → [w0, w1, w2, w3, w4, w5, w6, w7, w8, w9, w10, w11, w12, w13, w14, w15].getD i 0 = (wd b (t + i)).toNat) →
  ∀ a c : St, a = roundsTo (wTo b 64) s t → c = roundsTo (wTo b 64) s 64 →
  runN (KN.drop t) w0 w1 w2 w3 w4 w5 w6 w7 w8 w9 w10 w11 w12 w13 w14 w15 a.a.toNat a.b.toNat a.c.toNat a.d.toNat a.e.toNat a.f.toNat a.g.toNat a.h.toNat = c.nats := by
 induction n with
 | zero =>
  intro t ht w0 w1 w2 w3 w4 w5 w6 w7 w8 w9 w10 w11 w12 w13 w14 w15 hw a c ha hc
  obtain rfl : t = 64 := by omega
  rw [List.drop_of_length_le (by decide)]
  rw [hc, ← ha]
  rfl
 | succ n ih =>
  intro t ht w0 w1 w2 w3 w4 w5 w6 w7 w8 w9 w10 w11 w12 w13 w14 w15 hw a c ha hc
  have hk : KN.drop t = (K.getD t 0).toNat :: KN.drop (t + 1) := by
   rw [List.drop_eq_getElem_cons (by rw [KN_eq, List.length_map, K_length]; omega)]
   congr 1
   simp only [KN_eq, List.getElem_map, List.getD_eq_getElem?_getD]
   rw [List.getElem?_eq_getElem (by rw [K_length]; omega)]
   rfl
  rw [hk]
  simp only [runN, force_eq]
  have e0 := hw 0 (by omega) (by omega)
  simp only [List.getD_cons_zero, Nat.add_zero] at e0
  have hst : stepSt a (K.getD t 0) (wd b t) = roundsTo (wTo b 64) s (t + 1) := by rw [ha]; rfl
  have h1 : addN (addN a.h.toNat (S1N a.e.toNat)) (addN (chN a.e.toNat a.f.toNat a.g.toNat) (addN (K.getD t 0).toNat w0)) = (a.h + bsig1 a.e + ch a.e a.f a.g + K.getD t 0 + wd b t).toNat := by
   rw [addN_five, e0, add_toNat, add_toNat, add_toNat, add_toNat, bsig1_toNat, ch_toNat]
  have h2 : addN (S0N a.a.toNat) (majN a.a.toNat a.b.toNat a.c.toNat) = (bsig0 a.a + maj a.a a.b a.c).toNat := by
   rw [add_toNat, bsig0_toNat, maj_toNat]
  rw [h1, h2, ← add_toNat, ← add_toNat]
  refine ih (t + 1) (by omega) _ _ _ _ _ _ _ _ _ _ _ _ _ _ _ _ ?_ (stepSt a (K.getD t 0) (wd b t)) c hst hc
  intro i hi hlt
  by_cases h15 : i = 15
  ·subst h15
   have e1 := hw 1 (by omega) (by omega)
   have e9 := hw 9 (by omega) (by omega)
   have e14 := hw 14 (by omega) (by omega)
   simp only [List.getD_cons_zero, List.getD_cons_succ] at e1 e9 e14 ⊢
   rw [e0, e1, e9, e14, ← ssig0_toNat, ← ssig1_toNat, addN_assoc4, ← add_toNat, ← add_toNat, ← add_toNat, wd_ge b (t + 1 + 15) (by omega) (by omega)]
   rw [show t + 1 + 15 - 16 = t by omega, show t + 1 + 15 - 15 = t + 1 by omega, show t + 1 + 15 - 7 = t + 9 by omega, show t + 1 + 15 - 2 = t + 14 by omega]
  ·have := hw (i + 1) (by omega) (by omega)
   rw [show t + 1 + i = t + (i + 1) by omega, ← this]
   have hi' : i < 15 := by omega
   rw [List.getD_cons_succ]
   obtain rfl | rfl | rfl | rfl | rfl | rfl | rfl | rfl | rfl | rfl | rfl | rfl | rfl | rfl | rfl : i = 0 ∨ i = 1 ∨ i = 2 ∨ i = 3 ∨ i = 4 ∨ i = 5 ∨ i = 6 ∨ i = 7 ∨ i = 8 ∨ i = 9 ∨ i = 10 ∨ i = 11 ∨ i = 12 ∨ i = 13 ∨ i = 14 := by omega
   all_goals rfl

def wordN (b : List Nat) (t : Nat) : Nat :=
 Nat.lor (Nat.lor (Nat.lor (Nat.mod (Nat.shiftLeft (b.getD (4*t) 0) 24) 4294967296) (Nat.mod (Nat.shiftLeft (b.getD (4*t+1) 0) 16) 4294967296)) (Nat.mod (Nat.shiftLeft (b.getD (4*t+2) 0) 8) 4294967296)) (b.getD (4*t+3) 0)
def addsN (s t : List Nat) : List Nat := List.zipWith addN s t
def forceAll : List Nat → (List Nat → List Nat) → List Nat
 | [], f => f []
 | x :: l, f => force x fun y => forceAll l fun r => f (y :: r)
theorem forceAll_eq (l : List Nat) (f : List Nat → List Nat) : forceAll l f = f l := by
 induction l generalizing f with
 | nil => rfl
 | cons x l ih => simp [forceAll, force_eq, ih]
def run8N (s w : List Nat) : List Nat :=
 runN KN (w.getD 0 0) (w.getD 1 0) (w.getD 2 0) (w.getD 3 0) (w.getD 4 0) (w.getD 5 0) (w.getD 6 0) (w.getD 7 0) (w.getD 8 0) (w.getD 9 0) (w.getD 10 0) (w.getD 11 0) (w.getD 12 0) (w.getD 13 0) (w.getD 14 0) (w.getD 15 0)
  (s.getD 0 0) (s.getD 1 0) (s.getD 2 0) (s.getD 3 0) (s.getD 4 0) (s.getD 5 0) (s.getD 6 0) (s.getD 7 0)
def blockN (s b : List Nat) : List Nat :=
 forceAll ((List.range 16).map (wordN b)) fun w => forceAll (addsN s (run8N s w)) id
def blocksN (s b : List Nat) : Nat → List Nat
 | 0 => s
 | n + 1 => forceAll (blockN s (b.take 64)) fun t => blocksN t (b.drop 64) n
def digN (s : List Nat) : List Nat := (List.range 32).map fun i => Nat.mod (Nat.shiftRight (s.getD (i/4) 0) (24 - 8*(i%4))) 256
def H0N : List Nat := [0x6a09e667, 0xbb67ae85, 0x3c6ef372, 0xa54ff53a, 0x510e527f, 0x9b05688c, 0x1f83d9ab, 0x5be0cd19]
def paddedN (b : List Nat) : List Nat :=
 b ++ [128] ++ List.replicate (padZeros b.length) 0 ++ [(8*b.length) >>> 56 % 256, (8*b.length) >>> 48 % 256, (8*b.length) >>> 40 % 256, (8*b.length) >>> 32 % 256, (8*b.length) >>> 24 % 256, (8*b.length) >>> 16 % 256, (8*b.length) >>> 8 % 256, (8*b.length) >>> 0 % 256]
def shaN (b : List Nat) : List Nat := forceAll (paddedN b) fun p => forceAll (digN (blocksN H0N p (p.length/64))) id

def ns (l : List UInt8) : List Nat := l.map UInt8.toNat
theorem ns_getD (l : List UInt8) (i : Nat) : (ns l).getD i 0 = (l.getD i 0).toNat := by
 simp only [ns, List.getD_eq_getElem?_getD, List.getElem?_map]
 cases l[i]? <;> rfl
theorem wordN_eq (b : List UInt8) (t : Nat) : wordN (ns b) t = (wordAt b t).toNat := by
 unfold wordN wordAt be32
 rw [ns_getD, ns_getD, ns_getD, ns_getD, UInt32.toNat_or, UInt32.toNat_or, UInt32.toNat_or, UInt32.toNat_shiftLeft, UInt32.toNat_shiftLeft, UInt32.toNat_shiftLeft,
  UInt8.toNat_toUInt32, UInt8.toNat_toUInt32, UInt8.toNat_toUInt32, UInt8.toNat_toUInt32]
 rfl
theorem run8N_eq (s : St) (b : List UInt8) : run8N s.nats ((List.range 16).map (wordN (ns b))) = (roundsTo (wTo b 64) s 64).nats := by
 refine runN_eq b s 64 0 rfl _ _ _ _ _ _ _ _ _ _ _ _ _ _ _ _ ?_ s _ rfl rfl
 intro i hi _
 rw [Nat.zero_add, wd_lt b i hi, ← wordN_eq]
 obtain rfl | rfl | rfl | rfl | rfl | rfl | rfl | rfl | rfl | rfl | rfl | rfl | rfl | rfl | rfl | rfl : i = 0 ∨ i = 1 ∨ i = 2 ∨ i = 3 ∨ i = 4 ∨ i = 5 ∨ i = 6 ∨ i = 7 ∨ i = 8 ∨ i = 9 ∨ i = 10 ∨ i = 11 ∨ i = 12 ∨ i = 13 ∨ i = 14 ∨ i = 15 := by omega
 all_goals rfl
theorem addSt_nats (s t : St) : (addSt s t).nats = addsN s.nats t.nats := by
 simp only [St.nats, addSt, addsN, List.zipWith_cons_cons, List.zipWith_nil_left, add_toNat]
theorem blockN_eq (s : St) (b : List UInt8) : blockN s.nats (ns b) = (block s b).nats := by
 unfold blockN block
 rw [forceAll_eq, forceAll_eq, run8N_eq, id, addSt_nats]
theorem blocksN_eq (n : Nat) : ∀ (s : St) (b : List UInt8), blocksN s.nats (ns b) n = (blocks s b n).nats := by
 induction n with
 | zero => intro s b; rfl
 | succ n ih =>
  intro s b
  unfold blocksN blocks
  rw [forceAll_eq, ← ih, ← blockN_eq]
  simp only [ns, List.map_take, List.map_drop]
theorem digN_eq (s : St) : digN s.nats = ns (dig s) := by
 unfold digN dig ns
 rw [List.map_map]
 refine List.map_congr_left fun i hi => ?_
 have hi' : i < 32 := List.mem_range.1 hi
 rw [Function.comp, UInt32.toNat_toUInt8, UInt32.toNat_shiftRight]
 have h1 : (UInt32.ofNat (24 - 8 * (i % 4))).toNat % 32 = 24 - 8 * (i % 4) := by
  rw [UInt32.toNat_ofNat']; omega
 rw [h1]
 have h2 : s.nats.getD (i / 4) 0 = (s.toList.getD (i / 4) 0).toNat := by
  have : s.nats = s.toList.map UInt32.toNat := rfl
  rw [this]
  simp only [List.getD_eq_getElem?_getD, List.getElem?_map]
  cases s.toList[i/4]? <;> rfl
 rw [h2]
 rfl
theorem H0_nats : H0.nats = H0N := by decide
theorem padded_ns (b : List UInt8) : ns (padded b) = paddedN (ns b) := by
 simp only [ns, padded, paddedN, List.map_append, List.map_replicate, List.map_cons, List.map_nil, List.length_map, byteBE, UInt8.toNat_ofNat]
 rfl
theorem shaN_eq (b : List UInt8) : shaN (ns b) = ns (sha b) := by
 unfold shaN sha
 rw [forceAll_eq, forceAll_eq, ← padded_ns, ← H0_nats, blocksN_eq, digN_eq]
 simp [ns]
theorem ns_inj {a b : List UInt8} (h : ns a = ns b) : a = b := by
 refine List.map_inj_right (f := UInt8.toNat) (fun x y h => UInt8.toNat_inj.1 h) |>.1 h
theorem wNext_append (b c : List UInt8) (w : List UInt32) (t : Nat) (h : 64 ≤ b.length) : wNext (b ++ c) w t = wNext b w t := by
 unfold wNext
 split
 ·rename_i hlt
  unfold wordAt
  have g : ∀ i, i < b.length → (b ++ c).getD i 0 = b.getD i 0 := by
   intro i hi
   simp only [List.getD_eq_getElem?_getD, List.getElem?_append_left hi]
  rw [g _ (by omega), g _ (by omega), g _ (by omega), g _ (by omega)]
 ·rfl
theorem wTo_append (b c : List UInt8) (h : 64 ≤ b.length) (n : Nat) : wTo (b ++ c) n = wTo b n := by
 induction n with
 | zero => rfl
 | succ n ih =>
  unfold wTo
  rw [ih, wNext_append b c _ _ h]
theorem block_take (s : St) (b c : List UInt8) (h : 64 ≤ b.length) : block s (b ++ c) = block s b := by
 unfold block
 rw [wTo_append b c h]
theorem block_take64 (s : St) (b : List UInt8) (h : 64 ≤ b.length) : block s (b.take 64) = block s b := by
 conv => rhs; rw [← List.take_append_drop 64 b]
 rw [block_take _ _ _ (by rw [List.length_take]; omega)]
theorem blocks_add (i : Nat) : ∀ (s : St) (b : List UInt8) (j : Nat), blocks s b (i + j) = blocks (blocks s b i) (b.drop (64 * i)) j := by
 induction i with
 | zero => intro s b j; simp [blocks]
 | succ i ih =>
  intro s b j
  rw [show i + 1 + j = (i + j) + 1 by omega]
  conv => lhs; unfold blocks
  conv => rhs; arg 1; unfold blocks
  rw [ih, List.drop_drop]
  congr 2
  omega
theorem blocks_last (s : St) (b : List UInt8) (i : Nat) : blocks s b (i + 1) = block (blocks s b i) ((b.drop (64 * i)).take 64) := by
 rw [blocks_add]; rfl
theorem blocks_append (i : Nat) : ∀ (s : St) (b c : List UInt8), 64 * i ≤ b.length → blocks s (b ++ c) i = blocks s b i := by
 induction i with
 | zero => intro s b c _; rfl
 | succ i ih =>
  intro s b c h
  unfold blocks
  rw [List.take_append_of_le_length (by omega), List.drop_append_of_le_length (by omega), ih _ _ _ (by rw [List.length_drop]; omega)]
theorem padZeros_spec (n : Nat) : (n + 1 + padZeros n) % 64 = 56 ∧ padZeros n < 64 := by unfold padZeros; omega
theorem padded_length (b : List UInt8) : (padded b).length = b.length + 9 + padZeros b.length := by
 simp [padded]; omega
theorem padded_mod (b : List UInt8) : (padded b).length % 64 = 0 := by
 have := padZeros_spec b.length
 rw [padded_length]; omega
def tailOf (b : List UInt8) : List UInt8 := (padded b).drop (64 * (b.length / 64))
def padEnd (n : Nat) : List UInt8 := [0x80] ++ List.replicate (padZeros n) 0 ++ [byteBE (8*n) 56, byteBE (8*n) 48, byteBE (8*n) 40, byteBE (8*n) 32, byteBE (8*n) 24, byteBE (8*n) 16, byteBE (8*n) 8, byteBE (8*n) 0]
theorem padded_eq (b : List UInt8) : padded b = b ++ padEnd b.length := by simp [padded, padEnd]
theorem tailOf_eq (b : List UInt8) : tailOf b = b.drop (64 * (b.length / 64)) ++ padEnd b.length := by
 rw [tailOf, padded_eq, List.drop_append_of_le_length (by omega)]
theorem tailOf_length (b : List UInt8) : (tailOf b).length = (padded b).length - 64 * (b.length / 64) := by rw [tailOf, List.length_drop]
theorem sha_two (b : List UInt8) : sha b = dig (blocks (blocks H0 b (b.length / 64)) (tailOf b) ((tailOf b).length / 64)) := by
 have hp := padded_length b
 have hm := padded_mod b
 unfold sha
 congr 1
 rw [show (padded b).length / 64 = b.length / 64 + (tailOf b).length / 64 by rw [tailOf_length]; omega]
 rw [blocks_add]
 congr 1
 rw [padded_eq, blocks_append _ _ _ _ (by omega)]
/-! Numbers by digits to the base 2^16, the lowest first. -/
def dgs : Nat → Nat → List Nat
 | 0, _ => []
 | c + 1, n => n % 65536 :: dgs c (n / 65536)
def val : List Nat → Nat
 | [] => 0
 | x :: l => x + 65536 * val l
theorem dgs_length (c : Nat) : ∀ n, (dgs c n).length = c := by
 induction c with
 | zero => intro n; rfl
 | succ c ih => intro n; simp [dgs, ih]
theorem dgs_lt (c : Nat) : ∀ n, ∀ x ∈ dgs c n, x < 65536 := by
 induction c with
 | zero => intro n x hx; cases hx
 | succ c ih =>
  intro n x hx
  rcases List.mem_cons.1 hx with rfl | h
  ·omega
  ·exact ih _ x h
theorem val_dgs (c : Nat) : ∀ n, val (dgs c n) = n % 65536 ^ c := by
 induction c with
 | zero => intro n; simp [dgs, val, Nat.mod_one]
 | succ c ih =>
  intro n
  rw [dgs, val, ih, Nat.pow_succ, Nat.mul_comm (65536 ^ c) 65536, Nat.mod_mul]
theorem val_set (l : List Nat) : ∀ (j y : Nat), j < l.length → val (l.set j y) + l.getD j 0 * 65536 ^ j = val l + y * 65536 ^ j := by
 induction l with
 | nil => intro j y h; simp at h
 | cons x l ih =>
  intro j y h
  cases j with
  | zero => simp only [List.set_cons_zero, val, List.getD_cons_zero, Nat.pow_zero]; omega
  | succ j =>
   have := ih j y (by simpa using h)
   simp only [List.set_cons_succ, val, List.getD_cons_succ, Nat.pow_succ]
   have e1 : l.getD j 0 * (65536 ^ j * 65536) = 65536 * (l.getD j 0 * 65536 ^ j) := by rw [← Nat.mul_assoc, Nat.mul_comm]
   have e2 : y * (65536 ^ j * 65536) = 65536 * (y * 65536 ^ j) := by rw [← Nat.mul_assoc, Nat.mul_comm]
   rw [e1, e2]
   omega
theorem val_take_succ (l : List Nat) : ∀ (k : Nat), k < l.length → val (l.take (k + 1)) = val (l.take k) + l.getD k 0 * 65536 ^ k := by
 induction l with
 | nil => intro k h; simp at h
 | cons x l ih =>
  intro k h
  cases k with
  | zero => simp [val]
  | succ k =>
   have := ih k (by simpa using h)
   simp only [List.take_succ_cons, val, List.getD_cons_succ, Nat.pow_succ, this]
   have e1 : l.getD k 0 * (65536 ^ k * 65536) = 65536 * (l.getD k 0 * 65536 ^ k) := by rw [← Nat.mul_assoc, Nat.mul_comm]
   rw [e1]
   omega
theorem val_take (l : List Nat) (k : Nat) : ∃ q, val l = val (l.take k) + q * 65536 ^ k := by
 induction k generalizing l with
 | zero => exact ⟨val l, by simp [val]⟩
 | succ k ih =>
  cases l with
  | nil => exact ⟨0, by simp [val]⟩
  | cons x l =>
   obtain ⟨q, hq⟩ := ih l
   refine ⟨q, ?_⟩
   simp only [List.take_succ_cons, val, Nat.pow_succ]
   have e1 : q * (65536 ^ k * 65536) = 65536 * (q * 65536 ^ k) := by rw [← Nat.mul_assoc, Nat.mul_comm]
   rw [e1]
   omega
theorem val_lt (l : List Nat) (h : ∀ x ∈ l, x < 65536) : val l < 65536 ^ l.length := by
 induction l with
 | nil => simp [val]
 | cons x l ih =>
  have := ih (fun y hy => h y (by simp [hy]))
  have := h x (by simp)
  rw [val, List.length_cons, Nat.pow_succ]
  omega
theorem times_step (out : List Nat) (j x carry p : Nat) (hj : j < out.length) (hx : x = out.getD j 0 + p + carry) :
  val (out.set j (x % 65536)) + x / 65536 * 65536 ^ (j + 1) = val out + carry * 65536 ^ j + p * 65536 ^ j := by
 have h := val_set out j (x % 65536) hj
 have h1 : x * 65536 ^ j = x % 65536 * 65536 ^ j + x / 65536 * 65536 ^ (j + 1) := by
  rw [Nat.pow_succ, Nat.mul_comm (65536 ^ j) 65536, ← Nat.mul_assoc, ← Nat.add_mul]
  congr 1
  omega
 have h2 : x * 65536 ^ j = out.getD j 0 * 65536 ^ j + p * 65536 ^ j + carry * 65536 ^ j := by rw [hx, Nat.add_mul, Nat.add_mul]
 omega
theorem times_row (out a b : List Nat) (i V0 carry : Nat) (hi : i ≤ 10)
  (h : val out + carry * 65536 ^ 10 = V0 + a.getD i 0 * val (b.take (10 - i)) * 65536 ^ i) :
  val out % 65536 ^ 10 = (V0 + a.getD i 0 * val b * 65536 ^ i) % 65536 ^ 10 := by
 obtain ⟨q, hq⟩ := val_take b (10 - i)
 have hp : (65536 : Nat) ^ 10 = 65536 ^ (10 - i) * 65536 ^ i := by rw [← Nat.pow_add]; congr 1; omega
 have e : V0 + a.getD i 0 * val b * 65536 ^ i = val out + carry * 65536 ^ 10 + a.getD i 0 * q * 65536 ^ 10 := by
  rw [h, hq, hp, Nat.mul_add, Nat.add_mul]
  have : a.getD i 0 * (q * 65536 ^ (10 - i)) * 65536 ^ i = a.getD i 0 * q * (65536 ^ (10 - i) * 65536 ^ i) := by
   simp only [Nat.mul_assoc]
  omega
 rw [e, Nat.add_mul_mod_self_right, Nat.add_mul_mod_self_right]

def rootFrom (p power : Nat) : Nat → Nat → Nat
 | 0, x => x
 | c + 1, x => force (if (x + 2 ^ c) ^ power ≤ p * 65536 ^ (2 * power) then x + 2 ^ c else x) fun y => rootFrom p power c y
def rootN (p power : Nat) : Nat := rootFrom p power 38 0 % 4294967296
def primeB (n : Nat) : Bool := decide (1 < n) && (List.range n).all fun k => k < 2 || n < k * k || n % k != 0
def primesTo (n : Nat) : List Nat := (List.range n).filter primeB
theorem primes_64 : (primesTo 312).length = 64 := by decide +kernel
theorem roots_3 : (primesTo 312).map (fun p => rootN p 3) = KN := by decide +kernel
theorem roots_2 : ((primesTo 312).take 8).map (fun p => rootN p 2) = H0N := by decide +kernel
theorem val_append (l r : List Nat) : val (l ++ r) = val l + 65536 ^ l.length * val r := by
 induction l with
 | nil => simp [val]
 | cons x l ih =>
  rw [List.cons_append, val, ih, val, List.length_cons, Nat.pow_succ, Nat.mul_add, Nat.mul_comm (65536 ^ l.length) 65536, Nat.mul_assoc, Nat.add_assoc]
theorem val_gt (a b : List Nat) (i : Nat) (hl : a.length = b.length) (hi : i < a.length) (hb : ∀ x ∈ b, x < 65536)
  (hd : a.drop (i + 1) = b.drop (i + 1)) (h : b.getD i 0 < a.getD i 0) : val b < val a := by
 have split : ∀ l : List Nat, i < l.length → val l = val (l.take i) + 65536 ^ i * (l.getD i 0 + 65536 * val (l.drop (i + 1))) := by
  intro l hl
  conv => lhs; rw [← List.take_append_drop i l, val_append, List.drop_eq_getElem_cons hl]
  rw [val, List.length_take, Nat.min_eq_left (by omega), List.getD_eq_getElem?_getD, List.getElem?_eq_getElem hl]
  rfl
 have h1 := split a hi
 have h2 := split b (by omega)
 have h3 : val (b.take i) < 65536 ^ i := by
  have := val_lt (b.take i) (fun x hx => hb x (List.mem_of_mem_take hx))
  rwa [List.length_take, Nat.min_eq_left (by omega)] at this
 rw [hd] at h1
 have h4 : 65536 ^ i * (b.getD i 0 + 65536 * val (b.drop (i + 1)) + 1) ≤ 65536 ^ i * (a.getD i 0 + 65536 * val (b.drop (i + 1))) := Nat.mul_le_mul_left _ (by omega)
 rw [Nat.mul_add _ _ 1, Nat.mul_one] at h4
 rw [h1, h2]
 refine Nat.lt_of_lt_of_le (Nat.add_lt_add_right h3 _) (Nat.le_trans ?_ (Nat.le_add_left _ _))
 rw [Nat.add_comm]
 exact h4
theorem drop_step (a b : List Nat) (i : Nat) (hi : i < a.length) (hl : a.length = b.length) (hd : a.drop (i + 1) = b.drop (i + 1)) (h : a.getD i 0 = b.getD i 0) : a.drop i = b.drop i := by
 rw [List.drop_eq_getElem_cons hi, List.drop_eq_getElem_cons (show i < b.length by omega), hd]
 congr 1
 simpa [List.getD_eq_getElem?_getD, List.getElem?_eq_getElem hi, List.getElem?_eq_getElem (show i < b.length by omega)] using h
theorem dgs_zero (c : Nat) : dgs c 0 = List.replicate c 0 := by
 induction c with
 | zero => rfl
 | succ c ih => simp [dgs, ih, List.replicate_succ]
theorem dgs_small (c d : Nat) : ∀ n, n < 65536 ^ c → dgs (c + d) n = dgs c n ++ List.replicate d 0 := by
 induction c with
 | zero => intro n h; simp at h; subst h; simp [dgs, dgs_zero]
 | succ c ih =>
  intro n h
  rw [show c + 1 + d = (c + d) + 1 by omega, dgs, dgs, ih, List.cons_append]
  rw [Nat.pow_succ] at h
  omega
theorem dgs_getD (c : Nat) : ∀ (n i : Nat), i < c → (dgs c n).getD i 0 = n / 65536 ^ i % 65536 := by
 induction c with
 | zero => intro n i h; omega
 | succ c ih =>
  intro n i h
  cases i with
  | zero => simp [dgs]
  | succ i => rw [dgs, List.getD_cons_succ, ih _ _ (by omega), Nat.div_div_eq_div_mul, Nat.pow_succ, Nat.mul_comm 65536]
end Mur
namespace Mur
open Go
def w32 (x : UInt32) : Int := (x.toNat : Int)
theorem w32_range (x : UInt32) : 0 ≤ w32 x ∧ w32 x ≤ 4294967295 := by
 have := x.toNat_lt
 unfold w32
 omega
theorem ofInt_w32 (a : UInt32) : BitVec.ofInt 32 (w32 a) = a.toBitVec := by
 rw [w32, BitVec.ofInt_natCast, UInt32.toNat, BitVec.ofNat_toNat, BitVec.setWidth_eq]
theorem wrap_w32 (a : UInt32) : IntKind.u32.wrap (w32 a) = w32 a := by
 rw [IntKind.wrap_u32]
 have := w32_range a
 omega
theorem bits_or_u32 (a b : UInt32) : bits .or .u32 (w32 a) (w32 b) = w32 (a ||| b) := by
 show IntKind.u32.wrap ((BitVec.ofInt 32 (w32 a) ||| BitVec.ofInt 32 (w32 b)).toNat : Int) = _
 rw [ofInt_w32, ofInt_w32]
 exact wrap_w32 (a ||| b)
theorem bits_and_u32 (a b : UInt32) : bits .and .u32 (w32 a) (w32 b) = w32 (a &&& b) := by
 show IntKind.u32.wrap ((BitVec.ofInt 32 (w32 a) &&& BitVec.ofInt 32 (w32 b)).toNat : Int) = _
 rw [ofInt_w32, ofInt_w32]
 exact wrap_w32 (a &&& b)
theorem bits_xor_u32 (a b : UInt32) : bits .xor .u32 (w32 a) (w32 b) = w32 (a ^^^ b) := by
 show IntKind.u32.wrap ((BitVec.ofInt 32 (w32 a) ^^^ BitVec.ofInt 32 (w32 b)).toNat : Int) = _
 rw [ofInt_w32, ofInt_w32]
 exact wrap_w32 (a ^^^ b)
theorem xor_ones (a : UInt32) : (4294967295 : UInt32) ^^^ a = ~~~a := by
 apply UInt32.toBitVec_inj.1
 rw [UInt32.toBitVec_xor, UInt32.toBitVec_not]
 exact BitVec.allOnes_xor
theorem bits_not_u32 (a : UInt32) : bits .xor .u32 IntKind.u32.max (w32 a) = w32 (~~~a) := by
 rw [← xor_ones, ← bits_xor_u32]
 rfl
theorem wrap_add_u32 (a b : UInt32) : IntKind.u32.wrap (w32 a + w32 b) = w32 (a + b) := by
 rw [IntKind.wrap_u32, w32, w32, w32, UInt32.toNat_add]
 omega
theorem wrap_not_u32 (a : UInt32) : IntKind.u32.wrap (4294967295 - w32 a) = w32 (~~~a) := by
 have h : (~~~a).toNat = 4294967295 - a.toNat := by simp
 have := a.toNat_lt
 rw [IntKind.wrap_u32, w32, w32, h]
 omega
theorem wrap_u32_u8 (b : UInt8) : IntKind.u32.wrap (b.toNat : Int) = w32 b.toUInt32 := by
 have := b.toNat_lt
 rw [IntKind.wrap_u32, w32, UInt8.toNat_toUInt32]
 omega
theorem shr_u32 (a : UInt32) (n : UInt32) (h : n.toNat < 32) (p : Int) (hp : p = 2 ^ n.toNat) : w32 a / p = w32 (a >>> n) := by
 rw [hp, w32, w32, UInt32.toNat_shiftRight, Nat.mod_eq_of_lt h, Nat.shiftRight_eq_div_pow]
 simp
theorem shl_u32 (a : UInt32) (n : UInt32) (h : n.toNat < 32) (p : Int) (hp : p = 2 ^ n.toNat) : w32 a * p % 4294967296 = w32 (a <<< n) := by
 rw [hp, w32, w32, UInt32.toNat_shiftLeft, Nat.mod_eq_of_lt h, Nat.shiftLeft_eq]
 simp
theorem wrap_shl_u32 (a : UInt32) (n : UInt32) (h : n.toNat < 32) (p : Int) (hp : p = 2 ^ n.toNat) : IntKind.u32.wrap (w32 a * p) = w32 (a <<< n) := by
 rw [IntKind.wrap_u32, shl_u32 a n h p hp]
theorem shr3 (a : UInt32) : w32 a / (8 : Int) = w32 (a >>> 3) := shr_u32 a 3 (by decide) 8 (by decide)
theorem shr10 (a : UInt32) : w32 a / (1024 : Int) = w32 (a >>> 10) := shr_u32 a 10 (by decide) 1024 (by decide)
theorem shl24 (a : UInt32) : IntKind.u32.wrap (w32 a * (16777216 : Int)) = w32 (a <<< 24) := wrap_shl_u32 a 24 (by decide) _ (by decide)
theorem shl16 (a : UInt32) : IntKind.u32.wrap (w32 a * (65536 : Int)) = w32 (a <<< 16) := wrap_shl_u32 a 16 (by decide) _ (by decide)
theorem shl8 (a : UInt32) : IntKind.u32.wrap (w32 a * (256 : Int)) = w32 (a <<< 8) := wrap_shl_u32 a 8 (by decide) _ (by decide)
end Mur
namespace Mur
open Go Go.RowKit
theorem hp_a1 (w : World) (A : Obj) : (w.alloc A).heap[w.heap.size]? = some A := heap_alloc_new w A
theorem hp_old {w : World} {k : Nat} {o : Obj} (h : w.heap[k]? = some o) (A : Obj) : (w.alloc A).heap[k]? = some o := by
 rw [Below.heap_alloc w A k (Array.getElem?_eq_some_iff.1 h).1, h]
theorem hp_a2 (w : World) (A B : Obj) : ((w.alloc A).alloc B).heap[w.heap.size + 1]? = some B := heap_alloc2_new w A B
theorem hp_a3 (w : World) (A B C : Obj) : (((w.alloc A).alloc B).alloc C).heap[w.heap.size + 1 + 1]? = some C := by
 have h := heap_alloc2_new (w.alloc A) B C
 rwa [World.size_alloc] at h
theorem hp_lt {w : World} {b : Nat} {o : Obj} (h : w.heap[b]? = some o) : b < w.heap.size := (Array.getElem?_eq_some_iff.1 h).1
theorem hp_set_ne {w : World} {k : Nat} {o : Obj} (h : w.heap[k]? = some o) (g i : Nat) (v : Value) (hk : k ≠ g) : (w.setCell ⟨g, i, none⟩ v).heap[k]? = some o := by
 rw [heap_setCell_other w _ k v hk, h]
theorem hp_drewN {w : World} {k : Nat} {o : Obj} (h : w.heap[k]? = some o) (n : Nat) : (w.drewN n).heap[k]? = some o := h
theorem below_drewN {B : Nat} {w W : World} (h : Below B w W) (n : Nat) : Below B w (W.drewN n) := ⟨h.os, h.tape, h.output, h.size, h.block⟩
theorem cell_below {w w1 : World} (h : Below w.heap.size w w1) {a : Addr} {v : Value} (hc : w.cell? a = some v) : w1.cell? a = some v := (h.cell (World.block_lt_of_cell? w a hc)).trans hc
theorem hp_below {w w1 : World} (h : Below w.heap.size w w1) {k : Nat} {o : Obj} (hc : w.heap[k]? = some o) : w1.heap[k]? = some o := (h.block k (hp_lt hc)).trans hc
theorem below_then {B : Nat} {w w1 w2 : World} (h : Below B w w1) (hB : B ≤ w1.heap.size) (k : Below w1.heap.size w1 w2) : Below B w w2 :=
 h.trans (k.mono hB)

def u32s (l : List UInt32) : Array Value := (l.map fun x => Value.int .u32 (w32 x)).toArray
theorem cell_u32s {w : World} {g t i : Nat} {fr : Nat × Nat} {l : List UInt32} (h : w.heap[g]? = some (.cells (u32s l) t fr)) (hi : i < l.length) : w.cell? ⟨g, i, none⟩ = some (.int .u32 (w32 (l.getD i 0))) := by
 rw [cell_of_row w g i _ t _ h]
 simp [u32s, List.getD_eq_getElem?_getD, hi]
theorem free_row {w : World} {g t i : Nat} {l : Array Value} (h : w.heap[g]? = some (.cells l t (0, 0))) : w.frozen? ⟨g, i, none⟩ = false := frozen_of_row w g i _ t h
theorem set_u32s {w : World} {g t i : Nat} {l : List UInt32} (h : w.heap[g]? = some (.cells (u32s l) t (0, 0))) (x : UInt32) : (w.setCell ⟨g, i, none⟩ (.int .u32 (w32 x))).heap[g]? = some (.cells (u32s (l.set i x)) t (0, 0)) := by
 rw [heap_setCell_same w g i _ t _ h]
 simp [u32s, List.map_set]
theorem oneCells (l : List UInt32) : (u32s l).all (·.oneCell') = true := by
 simp [u32s, Value.oneCell']
end Mur
namespace Mur
open Go
section
variable {P : Program} {ops : Array Oper} {md : Region.Mode} {C : World → Prop} {n : Nat} {L : Act → Prop} {Q : Exit → Act → World → Prop}

def waits (md : Region.Mode) (ops : Array Oper) (j i : Nat) : Bool :=
 match ops[j]? with
 | some o => o.after.any fun e => Region.binds md e && e.on == i
 | none => false
def backB (md : Region.Mode) (ops : Array Oper) : Bool :=
 (List.range ops.size).all fun j => match ops[j]? with
  | some o => o.after.all fun e => !Region.binds md e || decide (e.on < j)
  | none => true
def tailB (md : Region.Mode) (ops : Array Oper) (n : Nat) : Bool :=
 (List.range n).all (fun i => waits md ops n i) && (List.range ops.size).all fun t => decide (t ≤ n) || waits md ops t (t - 1)
def lexB (md : Region.Mode) (ops : Array Oper) : Nat → Nat → Array Bool → Bool
 | 0, _, _ => true
 | m + 1, k, listed => (Region.ready md ops listed).contains k && Region.free md ops listed k && lexB md ops m (k + 1) (listed.setIfInBounds k true)

theorem waits_spec {j i : Nat} (h : waits md ops j i = true) : ∃ o, ops[j]? = some o ∧ ∃ e ∈ o.after, Region.binds md e = true ∧ e.on = i := by
 unfold waits at h
 split at h
 ·rename_i o ho
  obtain ⟨e, he, hb⟩ := Array.any_eq_true'.1 h
  simp only [Bool.and_eq_true, beq_iff_eq] at hb
  exact ⟨o, ho, e, he, hb.1, hb.2⟩
 ·cases h
theorem backB_spec (h : backB md ops = true) {j : Nat} {o : Oper} (ho : ops[j]? = some o) {e : Edge} (he : e ∈ o.after) (hb : Region.binds md e = true) : e.on < j := by
 have hj : j < ops.size := (Array.getElem?_eq_some_iff.1 ho).1
 have h1 := List.all_eq_true.1 h j (List.mem_range.2 hj)
 simp only [ho, Array.all_eq_true_iff_forall_mem] at h1
 simpa [hb] using h1 e he

theorem getD_ft {listed : Array Bool} {i : Nat} (h : listed.getD i false = true) : listed.getD i true = true := by
 rcases Nat.lt_or_ge i listed.size with h' | h'
 ·simpa [h'] using h
 ·simp [Array.getElem?_eq_none h'] at h
theorem not_ready {listed : Array Bool} {t i : Nat} (hw : waits md ops t i = true) (hi : listed.getD i false = false) : t ∉ Region.ready md ops listed := by
 intro hr
 obtain ⟨o, ho, e, he, hb, hon⟩ := waits_spec hw
 obtain ⟨_, o', ho', hall⟩ := mem_ready.1 hr
 have := Option.some.inj (ho.symm.trans ho')
 subst this
 have h1 := hall e he hb
 rw [hon, hi] at h1
 cases h1

def AllTo (n : Nat) (listed : Array Bool) : Prop := ∀ j, j < n → listed.getD j false = true
def NoneFrom (ops : Array Oper) (n : Nat) (listed : Array Bool) : Prop := ∀ j, n ≤ j → j < ops.size → listed.getD j true = false
theorem AllTo.set {listed : Array Bool} (h : AllTo n listed) (i : Nat) : AllTo n (listed.setIfInBounds i true) := fun j hj => getD_set_true (h j hj)

def hd (P : Program) (md : Region.Mode) (ops : Array Oper) (C : World → Prop) (n : Nat) (L : Act → Prop) : Nat → Array Bool → Act → Prop
 | 0, listed, a => AllTo n listed ∧ L a
 | f + 1, listed, a => (AllTo n listed → L a) ∧ ∀ i, i < n → i ∈ Region.ready md ops listed → qOp P ops C i (hd P md ops C n L f (listed.setIfInBounds i true)) a

theorem wpAny_succ : ∀ (f : Nat) (listed : Array Bool) (a : Act) (w : World), wpAny P md ops Q f listed a w → wpAny P md ops Q (f + 1) listed a w
 | 0, _, _, _, h => ⟨fun _ => h.2, fun i hi => by rw [h.1] at hi; cases hi⟩
 | f + 1, _, _, _, h => ⟨h.1, fun i hi => wpOp_mono (fun a' w' h' => wpAny_succ f _ a' w' h') (h.2 i hi)⟩
theorem wpAny_more (g : Nat) (listed : Array Bool) (a : Act) (w : World) (h : wpAny P md ops Q g listed a w) : ∀ f, wpAny P md ops Q (f + g) listed a w
 | 0 => by rw [Nat.zero_add]; exact h
 | f + 1 => by rw [show f + 1 + g = (f + g) + 1 by omega]; exact wpAny_succ _ _ _ _ (wpAny_more g listed a w h f)

theorem least_out (listed : Array Bool) (h : ¬ AllTo n listed) : ∃ j, j < n ∧ listed.getD j false = false ∧ ∀ i, i < j → listed.getD i false = true := by
 induction n with
 | zero => exact absurd (fun j hj => absurd hj (by omega)) h
 | succ n ih =>
  by_cases hn : AllTo n listed
  ·refine ⟨n, by omega, ?_, hn⟩
   cases hv : listed.getD n false with
   | false => rfl
   | true => exact absurd (fun j hj => (by rcases Nat.lt_or_ge j n with h' | h'; exact hn j h'; rw [show j = n by omega]; exact hv)) h
  ·obtain ⟨j, hj, h1, h2⟩ := ih hn
   exact ⟨j, by omega, h1, h2⟩

theorem wpAny_of_hd {g : Nat} (hb : backB md ops = true) (ht : tailB md ops n = true) (hn : n ≤ ops.size)
  (hL : ∀ (listed : Array Bool) a w, listed.size = ops.size → AllTo n listed → NoneFrom ops n listed → C w → L a → wpAny P md ops Q g listed a w) :
  ∀ (f : Nat) (listed : Array Bool) (a : Act) (w : World), listed.size = ops.size → NoneFrom ops n listed → C w → hd P md ops C n L f listed a → wpAny P md ops Q (f + g) listed a w
 | 0, listed, a, w, hs, hno, hC, h => by rw [Nat.zero_add]; exact hL listed a w hs h.1 hno hC h.2
 | f + 1, listed, a, w, hs, hno, hC, h => by
  by_cases hall : AllTo n listed
  ·exact wpAny_more g listed a w (hL listed a w hs hall hno hC (h.1 hall)) (f + 1)
  ·obtain ⟨j, hj, hout, hless⟩ := least_out listed hall
   simp only [tailB, Bool.and_eq_true] at ht
   have hready : j ∈ Region.ready md ops listed := by
    have hjs : j < ops.size := by omega
    refine mem_ready.2 ⟨?_, ops[j], by rw [Array.getElem?_eq_getElem hjs], fun e he hbd => hless _ (backB_spec hb (Array.getElem?_eq_getElem hjs) he hbd)⟩
    have hjl : j < listed.size := by omega
    simpa [hjl] using hout
   have htail : ∀ t, n ≤ t → t ∉ Region.ready md ops listed := by
    intro t hnt hr
    have hts : t < ops.size := by obtain ⟨_, o, ho, _⟩ := mem_ready.1 hr; exact (Array.getElem?_eq_some_iff.1 ho).1
    rcases Nat.lt_or_ge n t with hlt | hge
    ·have h1 := List.all_eq_true.1 ht.2 t (List.mem_range.2 hts)
     simp only [Bool.or_eq_true, decide_eq_true_eq] at h1
     have h2 := hno (t - 1) (by omega) (by omega)
     have hlt' : t - 1 < listed.size := by omega
     exact not_ready (h1.resolve_left (by omega)) (by simpa [hlt'] using h2) hr
    ·obtain rfl : t = n := by omega
     exact not_ready (List.all_eq_true.1 ht.1 j (List.mem_range.2 hj)) hout hr
   rw [show f + 1 + g = (f + g) + 1 by omega]
   refine ⟨fun h0 => (by rw [h0] at hready; cases hready), fun i hi => ?_⟩
   have hin : i < n := by
    rcases Nat.lt_or_ge i n with h' | h'
    ·exact h'
    ·exact absurd hi (htail i h')
   exact wpOp_of_qOp hC (fun a' w' hC' h' => wpAny_of_hd hb (by simp only [tailB, Bool.and_eq_true]; exact ht) hn hL f _ a' w' (by simpa using hs)
    (fun k hk hks => by rw [getD_set_ne true (by omega)]; exact hno k hk hks) hC' h') (h.2 i hin hi)

theorem hd_first {i : Nat} {oi : Oper} {v : Value} (hi : ops[i]? = some oi) (hsel : ∀ (j : Nat) (o : Oper) cs b, ops[j]? = some o → o.op ≠ .select cs b) (hin : i < n) :
  ∀ (f : Nat) (listed : Array Bool) (a : Act),
   (∀ j oj, ops[j]? = some oj → j ≠ i → listed.getD j true = false → (∀ e ∈ oj.after, Region.binds md e = true → e.on ≠ i) → oi.apart ops oj = true) →
   i ∈ Region.ready md ops listed → listed.getD i false = false → YieldsIn P ops C oi v a →
   hd P md ops C n L f (listed.setIfInBounds i true) (a.put oi.dst v) → hd P md ops C n L (f + 1) listed a := by
 intro f
 induction f with
 | zero =>
  intro listed a _ hr hout hy H
  refine ⟨fun hall => (by rw [hall i hin] at hout; cases hout), fun j hj hjr => ?_⟩
  by_cases hji : j = i
  ·subst hji; exact hy.qOp hi H
  ·have h1 := H.1 j hj
   rw [getD_set_ne false (fun e => hji e.symm)] at h1
   have h2 := (mem_ready.1 hjr).1
   rw [getD_ft h1] at h2
   cases h2
 | succ f ih =>
  intro listed a hfree hr hout hy H
  refine ⟨fun hall => (by rw [hall i hin] at hout; cases hout), fun j hj hjr => ?_⟩
  by_cases hji : j = i
  ·subst hji; exact hy.qOp hi H
  ·have h1 := H.2 j hj (ready_mono hjr hji)
   obtain ⟨hjun, oj, hoj, hall⟩ := mem_ready.1 hjr
   have hnot : ∀ e ∈ oj.after, Region.binds md e = true → e.on ≠ i := fun e he hbd heq => by
    have h2 := hall e he hbd
    rw [heq, hout] at h2
    cases h2
   refine qOp_mono (fun a' h3 => ih (listed.setIfInBounds j true) a' ?_ (ready_mono hr (fun e => hji e.symm)) (by rw [getD_set_ne false hji]; exact hout) h3.1 ?_)
    (qOp_put hoj (hfree j oj hoj hji hjun hnot) (fun cs b => hsel i oi cs b hi) (fun cs b => hsel j oj cs b hoj) hy h1)
   ·intro k ok hk hki hun hno
    refine hfree k ok hk hki ?_ hno
    by_cases hjk : j = k
    ·subst hjk; exact hjun
    ·rw [getD_set_ne true hjk] at hun; exact hun
   ·rw [Array.setIfInBounds_comm _ _ hji]
    exact h3.2

theorem hd_lex (hsel : Region.noSelect ops = true) : ∀ (l : List Oper) (k : Nat) (listed : Array Bool) (a : Act), (∀ j, j < l.length → l[j]? = ops[k + j]?) → k + l.length = n →
  listed.size = ops.size → (∀ j, k ≤ j → j < ops.size → listed.getD j true = false) → AllTo k listed → lexB md ops l.length k listed = true → wpQuiet P ops C L l a → hd P md ops C n L l.length listed a
 | [], k, listed, a, _, hk, _, _, hall, _, h => ⟨(by simpa using hk) ▸ hall, h⟩
 | o :: l, k, listed, a, hl, hk, hs, hno, hall, hB, h => by
  have h0 : ops[k]? = some o := by simpa using (hl 0 (by simp)).symm
  have hks : k < ops.size := (Array.getElem?_eq_some_iff.1 h0).1
  simp only [List.length_cons, lexB, Bool.and_eq_true] at hB
  obtain ⟨⟨hr, hf⟩, hB'⟩ := hB
  have hq : qOp P ops C k (wpQuiet P ops C L l) a := by unfold qOp; simp only [h0]; exact h
  obtain ⟨v, hy, hK⟩ := yieldsIn_of_qOp h0 hq
  have hout : listed.getD k false = false := by
   have := hno k (Nat.le_refl _) hks
   have hkl : k < listed.size := by omega
   simpa [hkl] using this
  refine hd_first h0 (Region.noSelect_spec hsel) (by simp only [List.length_cons] at hk; omega) l.length listed a (Region.free_spec h0 hf) (by simpa using hr) hout hy ?_
  refine hd_lex hsel l (k + 1) _ _ (fun j hj => ?_) (by simp only [List.length_cons] at hk; omega) (by simpa using hs) (fun j hj hjs => ?_) (fun j hj => ?_) hB' hK
  ·have := hl (j + 1) (by simp; omega)
   simpa [Nat.add_assoc, Nat.add_comm 1 j] using this
  ·rw [getD_set_ne true (by omega)]; exact hno j (by omega) hjs
  ·rcases Nat.lt_or_ge j k with h' | h'
   ·exact getD_set_true (hall j h')
   ·obtain rfl : j = k := by omega
    have hjl : j < listed.size := by omega
    simp [hjl]

theorem wpAny_of_tail (hb : backB md ops = true) (ht : tailB md ops n = true) : ∀ (m k : Nat) (listed : Array Bool) (a : Act) (w : World), k + m = ops.size → n ≤ k → AllTo k listed → NoneFrom ops k listed → listed.size = ops.size →
  wpList P ops Q (ops.toList.drop k) a w → wpAny P md ops Q m listed a w
 | 0, k, listed, a, w, hk, _, hall, _, _, h => by
  have hk' : k = ops.size := by omega
  subst hk'
  refine ⟨List.eq_nil_iff_forall_not_mem.2 fun i hi => ?_, by rwa [List.drop_of_length_le (by simp)] at h⟩
  obtain ⟨hun, o, ho, _⟩ := mem_ready.1 hi
  rw [getD_ft (hall i (Array.getElem?_eq_some_iff.1 ho).1)] at hun
  cases hun
 | m + 1, k, listed, a, w, hk, hnk, hall, hno, hs, h => by
  have hks : k < ops.size := by omega
  have h0 : ops[k]? = some ops[k] := Array.getElem?_eq_getElem hks
  rw [List.drop_eq_getElem_cons (by simpa using hks)] at h
  have hready : k ∈ Region.ready md ops listed := mem_ready.2 ⟨hno k (Nat.le_refl _) hks, ops[k], h0, fun e he hbd => hall _ (backB_spec hb h0 he hbd)⟩
  refine ⟨fun h1 => (by rw [h1] at hready; cases hready), fun i hi => ?_⟩
  have hik : i = k := by
   obtain ⟨hun, o, ho, _⟩ := mem_ready.1 hi
   have his := (Array.getElem?_eq_some_iff.1 ho).1
   rcases Nat.lt_or_ge i k with h' | h'
   ·rw [getD_ft (hall i h')] at hun
    cases hun
   ·rcases Nat.eq_or_lt_of_le h' with h' | h'
    ·exact h'.symm
    ·simp only [tailB, Bool.and_eq_true] at ht
     have h1 := List.all_eq_true.1 ht.2 i (List.mem_range.2 his)
     simp only [Bool.or_eq_true, decide_eq_true_eq] at h1
     have h2 := hno (i - 1) (by omega) (by omega)
     have hil : i - 1 < listed.size := by omega
     exact absurd hi (not_ready (h1.resolve_left (by omega)) (by simpa [hil] using h2))
  subst hik
  have hw : wpOp P ops Q i (wpList P ops Q (ops.toList.drop (i + 1))) a w := by
   unfold wpOp
   simp only [h0]
   simpa [wpList] using h
  refine wpOp_mono (fun a' w' h' => wpAny_of_tail hb ht m (i + 1) _ a' w' (by omega) (by omega) (fun j hj => ?_) (fun j hj hjs => ?_) (by simpa using hs) h') hw
  ·rcases Nat.lt_or_ge j i with h2 | h2
   ·exact getD_set_true (hall j h2)
   ·obtain rfl : j = i := by omega
    have hjl : j < listed.size := by omega
    simp [hjl]
  ·rw [getD_set_ne true (by omega)]; exact hno j (by omega) hjs

def quietTailB (ops : Array Oper) (n : Nat) : Bool :=
 Region.noSelect ops && decide (n ≤ ops.size) && backB .any ops && tailB .any ops n && lexB .any ops n 0 (Array.replicate ops.size false)

theorem wp_quiet_tail_class {id : Nat} {a : Act} {w : World} {l : List Oper} (n : Nat) (hm : P.follows .mixedOrders = true) (hB : quietTailB l.toArray n = true) (hC : C { w with drawn := w.drawn + 1 })
  (h : wpQuiet P l.toArray C (fun a' => ∀ w', C w' → wpList P l.toArray Q (l.drop n) a' w') (l.take n) a) : (Code.region id l.toArray true).wp P Q a w := by
 simp only [quietTailB, Bool.and_eq_true, decide_eq_true_eq] at hB
 obtain ⟨⟨⟨⟨hsel, hn⟩, hb⟩, ht⟩, hlex⟩ := hB
 have hn' : n ≤ l.length := by simpa using hn
 have htl : (l.take n).length = n := by simp; omega
 have hnone : ∀ j, 0 ≤ j → j < l.toArray.size → (Array.replicate l.toArray.size false).getD j true = false := fun j _ hj => by simp at hj; simp [hj]
 have H := hd_lex (md := .any) (n := n) (C := C) hsel (l.take n) 0 (Array.replicate l.toArray.size false) a
  (fun j hj => by rw [htl] at hj; simp [hj]) (by simpa using htl) (by simp) hnone (fun j hj => absurd hj (by omega)) (by rw [htl]; exact hlex) h
 refine wp_region_any hm ?_
 rw [htl] at H
 have G := wpAny_of_hd (Q := Q) (g := l.toArray.size - n) hb ht hn (fun listed a' w' hs hall hno hC' hLa => ?_) n _ a _ (by simp) (fun j hj hjs => hnone j (by omega) hjs) hC H
 ·rwa [show n + (l.toArray.size - n) = l.toArray.size by omega] at G
 ·exact wpAny_of_tail hb ht _ n listed a' w' (by omega) (Nat.le_refl _) hall hno hs (hLa w' hC')

theorem wp_quiet_tail {id : Nat} {a : Act} {w : World} {l : List Oper} (n : Nat) (hm : P.follows .mixedOrders = true) (hB : quietTailB l.toArray n = true)
  (h : wpQuiet P l.toArray (fun w' => ∃ n, w' = w.drewN n) (fun a' => ∀ w', (∃ n, w' = w.drewN n) → wpList P l.toArray Q (l.drop n) a' w') (l.take n) a) : (Code.region id l.toArray true).wp P Q a w :=
 wp_quiet_tail_class n hm hB ⟨1, rfl⟩ h
end
theorem q_of {P : Program} {f : FuncId} {args : Array Value} {w : World} {n : Nat} {v : Value} (h : ∀ w, Calls P f args w fun e w' => e = .returned v ∧ w = w') :
  Calls P f args (w.drewN n) fun e w'' => e = .returned v ∧ ∃ m, w'' = w.drewN m := (h _).mono fun _ _ ⟨he, hw⟩ => ⟨he, n, hw.symm⟩
theorem q_of2 {P : Program} {f : FuncId} {args : Array Value} {w : World} {m n : Nat} {v : Value} (h : ∀ w, Calls P f args w fun e w' => e = .returned v ∧ w = w') :
  Calls P f args (w.drewN (m + n)) fun e w'' => e = .returned v ∧ ∃ k, w'' = w.drewN (m + k) := (h _).mono fun _ _ ⟨he, hw⟩ => ⟨he, n, hw.symm⟩
end Mur
namespace Go.Proofs.YtgbadghjnpbiaaaGreatDoor
open Go.RowKit
theorem rot_shape (x : UInt32) (n : UInt32) (m : UInt32) (p q : Int) (hn : n.toNat < 32) (hm : m.toNat < 32) (hp : p = 2 ^ m.toNat) (hq : q = 2 ^ n.toNat) (hs : 32 - n = m) :
  bits BinOp.or IntKind.u32 (Mur.w32 x * p % 4294967296) (Mur.w32 x / q) = Mur.w32 (Mur.rotr x n) := by
 rw [Mur.shl_u32 x m hm p hp, Mur.shr_u32 x n hn q hq, Mur.bits_or_u32, UInt32.or_comm, ← hs]
 rfl
theorem rot_shape' (x : UInt32) (n : UInt32) (m : UInt32) (p q : Int) (hn : n.toNat < 32) (hm : m.toNat < 32) (hp : p = 2 ^ m.toNat) (hq : q = 2 ^ n.toNat) (hs : 32 - n = m) :
  bits BinOp.or IntKind.u32 (Mur.w32 x / q) (Mur.w32 x * p % 4294967296) = Mur.w32 (Mur.rotr x n) := by
 rw [Mur.shl_u32 x m hm p hp, Mur.shr_u32 x n hn q hq, Mur.bits_or_u32, ← hs]
 rfl
theorem ret_u32 {a b : Int} (h : a = b) : Ending.returned (.int .u32 a) = .returned (.int .u32 b) := by rw [h]
theorem rotl_2 (x : UInt32) (w : World) : Calls Tryz.prog 111 #[.int .u32 (Mur.w32 x), .int .i64 (-2)] w fun e w' => e = .returned (.int .u32 (Mur.w32 (Mur.rotr x 2))) ∧ w = w' := by
 have he : bits BinOp.and IntKind.u64 (IntKind.u64.wrap (-2)) 31 = 30 := by decide
 go_enter Tryz.func111, Tryz.ntmps111
 go_wp2
 go_ret
 exact ⟨ret_u32 (rot_shape x 2 30 _ _ (by decide) (by decide) (by decide) (by decide) (by decide)), rfl⟩
theorem right_2 (x : UInt32) (w : World) : Calls Tryz.prog 110 #[.int .u32 (Mur.w32 x), .int .i64 2] w fun e w' => e = .returned (.int .u32 (Mur.w32 (Mur.rotr x 2))) ∧ w = w' := by
 go_enter Tryz.func110, Tryz.ntmps110
 go_wp2_with (go_at_call 111; refine (rotl_2 _ _).mono ?_; rintro e w' ⟨rfl, rfl⟩)
 go_ret
 exact ⟨rfl, rfl⟩
theorem turn_2 (x : UInt32) (w : World) : Calls Tryz.prog 109 #[.int .u32 (Mur.w32 x), .int .u64 2] w fun e w' => e = .returned (.int .u32 (Mur.w32 (Mur.rotr x 2))) ∧ w = w' := by
 go_enter Tryz.func109, Tryz.ntmps109
 go_wp2
 go_ret
 exact ⟨ret_u32 (rot_shape' x 2 30 _ _ (by decide) (by decide) (by decide) (by decide) (by decide)), rfl⟩
theorem rotl_6 (x : UInt32) (w : World) : Calls Tryz.prog 111 #[.int .u32 (Mur.w32 x), .int .i64 (-6)] w fun e w' => e = .returned (.int .u32 (Mur.w32 (Mur.rotr x 6))) ∧ w = w' := by
 have he : bits BinOp.and IntKind.u64 (IntKind.u64.wrap (-6)) 31 = 26 := by decide
 go_enter Tryz.func111, Tryz.ntmps111
 go_wp2
 go_ret
 exact ⟨ret_u32 (rot_shape x 6 26 _ _ (by decide) (by decide) (by decide) (by decide) (by decide)), rfl⟩
theorem right_6 (x : UInt32) (w : World) : Calls Tryz.prog 110 #[.int .u32 (Mur.w32 x), .int .i64 6] w fun e w' => e = .returned (.int .u32 (Mur.w32 (Mur.rotr x 6))) ∧ w = w' := by
 go_enter Tryz.func110, Tryz.ntmps110
 go_wp2_with (go_at_call 111; refine (rotl_6 _ _).mono ?_; rintro e w' ⟨rfl, rfl⟩)
 go_ret
 exact ⟨rfl, rfl⟩
theorem turn_6 (x : UInt32) (w : World) : Calls Tryz.prog 109 #[.int .u32 (Mur.w32 x), .int .u64 6] w fun e w' => e = .returned (.int .u32 (Mur.w32 (Mur.rotr x 6))) ∧ w = w' := by
 go_enter Tryz.func109, Tryz.ntmps109
 go_wp2
 go_ret
 exact ⟨ret_u32 (rot_shape' x 6 26 _ _ (by decide) (by decide) (by decide) (by decide) (by decide)), rfl⟩
theorem rotl_7 (x : UInt32) (w : World) : Calls Tryz.prog 111 #[.int .u32 (Mur.w32 x), .int .i64 (-7)] w fun e w' => e = .returned (.int .u32 (Mur.w32 (Mur.rotr x 7))) ∧ w = w' := by
 have he : bits BinOp.and IntKind.u64 (IntKind.u64.wrap (-7)) 31 = 25 := by decide
 go_enter Tryz.func111, Tryz.ntmps111
 go_wp2
 go_ret
 exact ⟨ret_u32 (rot_shape x 7 25 _ _ (by decide) (by decide) (by decide) (by decide) (by decide)), rfl⟩
theorem right_7 (x : UInt32) (w : World) : Calls Tryz.prog 110 #[.int .u32 (Mur.w32 x), .int .i64 7] w fun e w' => e = .returned (.int .u32 (Mur.w32 (Mur.rotr x 7))) ∧ w = w' := by
 go_enter Tryz.func110, Tryz.ntmps110
 go_wp2_with (go_at_call 111; refine (rotl_7 _ _).mono ?_; rintro e w' ⟨rfl, rfl⟩)
 go_ret
 exact ⟨rfl, rfl⟩
theorem turn_7 (x : UInt32) (w : World) : Calls Tryz.prog 109 #[.int .u32 (Mur.w32 x), .int .u64 7] w fun e w' => e = .returned (.int .u32 (Mur.w32 (Mur.rotr x 7))) ∧ w = w' := by
 go_enter Tryz.func109, Tryz.ntmps109
 go_wp2
 go_ret
 exact ⟨ret_u32 (rot_shape' x 7 25 _ _ (by decide) (by decide) (by decide) (by decide) (by decide)), rfl⟩
theorem rotl_11 (x : UInt32) (w : World) : Calls Tryz.prog 111 #[.int .u32 (Mur.w32 x), .int .i64 (-11)] w fun e w' => e = .returned (.int .u32 (Mur.w32 (Mur.rotr x 11))) ∧ w = w' := by
 have he : bits BinOp.and IntKind.u64 (IntKind.u64.wrap (-11)) 31 = 21 := by decide
 go_enter Tryz.func111, Tryz.ntmps111
 go_wp2
 go_ret
 exact ⟨ret_u32 (rot_shape x 11 21 _ _ (by decide) (by decide) (by decide) (by decide) (by decide)), rfl⟩
theorem right_11 (x : UInt32) (w : World) : Calls Tryz.prog 110 #[.int .u32 (Mur.w32 x), .int .i64 11] w fun e w' => e = .returned (.int .u32 (Mur.w32 (Mur.rotr x 11))) ∧ w = w' := by
 go_enter Tryz.func110, Tryz.ntmps110
 go_wp2_with (go_at_call 111; refine (rotl_11 _ _).mono ?_; rintro e w' ⟨rfl, rfl⟩)
 go_ret
 exact ⟨rfl, rfl⟩
theorem turn_11 (x : UInt32) (w : World) : Calls Tryz.prog 109 #[.int .u32 (Mur.w32 x), .int .u64 11] w fun e w' => e = .returned (.int .u32 (Mur.w32 (Mur.rotr x 11))) ∧ w = w' := by
 go_enter Tryz.func109, Tryz.ntmps109
 go_wp2
 go_ret
 exact ⟨ret_u32 (rot_shape' x 11 21 _ _ (by decide) (by decide) (by decide) (by decide) (by decide)), rfl⟩
theorem rotl_13 (x : UInt32) (w : World) : Calls Tryz.prog 111 #[.int .u32 (Mur.w32 x), .int .i64 (-13)] w fun e w' => e = .returned (.int .u32 (Mur.w32 (Mur.rotr x 13))) ∧ w = w' := by
 have he : bits BinOp.and IntKind.u64 (IntKind.u64.wrap (-13)) 31 = 19 := by decide
 go_enter Tryz.func111, Tryz.ntmps111
 go_wp2
 go_ret
 exact ⟨ret_u32 (rot_shape x 13 19 _ _ (by decide) (by decide) (by decide) (by decide) (by decide)), rfl⟩
theorem right_13 (x : UInt32) (w : World) : Calls Tryz.prog 110 #[.int .u32 (Mur.w32 x), .int .i64 13] w fun e w' => e = .returned (.int .u32 (Mur.w32 (Mur.rotr x 13))) ∧ w = w' := by
 go_enter Tryz.func110, Tryz.ntmps110
 go_wp2_with (go_at_call 111; refine (rotl_13 _ _).mono ?_; rintro e w' ⟨rfl, rfl⟩)
 go_ret
 exact ⟨rfl, rfl⟩
theorem turn_13 (x : UInt32) (w : World) : Calls Tryz.prog 109 #[.int .u32 (Mur.w32 x), .int .u64 13] w fun e w' => e = .returned (.int .u32 (Mur.w32 (Mur.rotr x 13))) ∧ w = w' := by
 go_enter Tryz.func109, Tryz.ntmps109
 go_wp2
 go_ret
 exact ⟨ret_u32 (rot_shape' x 13 19 _ _ (by decide) (by decide) (by decide) (by decide) (by decide)), rfl⟩
theorem rotl_17 (x : UInt32) (w : World) : Calls Tryz.prog 111 #[.int .u32 (Mur.w32 x), .int .i64 (-17)] w fun e w' => e = .returned (.int .u32 (Mur.w32 (Mur.rotr x 17))) ∧ w = w' := by
 have he : bits BinOp.and IntKind.u64 (IntKind.u64.wrap (-17)) 31 = 15 := by decide
 go_enter Tryz.func111, Tryz.ntmps111
 go_wp2
 go_ret
 exact ⟨ret_u32 (rot_shape x 17 15 _ _ (by decide) (by decide) (by decide) (by decide) (by decide)), rfl⟩
theorem right_17 (x : UInt32) (w : World) : Calls Tryz.prog 110 #[.int .u32 (Mur.w32 x), .int .i64 17] w fun e w' => e = .returned (.int .u32 (Mur.w32 (Mur.rotr x 17))) ∧ w = w' := by
 go_enter Tryz.func110, Tryz.ntmps110
 go_wp2_with (go_at_call 111; refine (rotl_17 _ _).mono ?_; rintro e w' ⟨rfl, rfl⟩)
 go_ret
 exact ⟨rfl, rfl⟩
theorem turn_17 (x : UInt32) (w : World) : Calls Tryz.prog 109 #[.int .u32 (Mur.w32 x), .int .u64 17] w fun e w' => e = .returned (.int .u32 (Mur.w32 (Mur.rotr x 17))) ∧ w = w' := by
 go_enter Tryz.func109, Tryz.ntmps109
 go_wp2
 go_ret
 exact ⟨ret_u32 (rot_shape' x 17 15 _ _ (by decide) (by decide) (by decide) (by decide) (by decide)), rfl⟩
theorem rotl_18 (x : UInt32) (w : World) : Calls Tryz.prog 111 #[.int .u32 (Mur.w32 x), .int .i64 (-18)] w fun e w' => e = .returned (.int .u32 (Mur.w32 (Mur.rotr x 18))) ∧ w = w' := by
 have he : bits BinOp.and IntKind.u64 (IntKind.u64.wrap (-18)) 31 = 14 := by decide
 go_enter Tryz.func111, Tryz.ntmps111
 go_wp2
 go_ret
 exact ⟨ret_u32 (rot_shape x 18 14 _ _ (by decide) (by decide) (by decide) (by decide) (by decide)), rfl⟩
theorem right_18 (x : UInt32) (w : World) : Calls Tryz.prog 110 #[.int .u32 (Mur.w32 x), .int .i64 18] w fun e w' => e = .returned (.int .u32 (Mur.w32 (Mur.rotr x 18))) ∧ w = w' := by
 go_enter Tryz.func110, Tryz.ntmps110
 go_wp2_with (go_at_call 111; refine (rotl_18 _ _).mono ?_; rintro e w' ⟨rfl, rfl⟩)
 go_ret
 exact ⟨rfl, rfl⟩
theorem turn_18 (x : UInt32) (w : World) : Calls Tryz.prog 109 #[.int .u32 (Mur.w32 x), .int .u64 18] w fun e w' => e = .returned (.int .u32 (Mur.w32 (Mur.rotr x 18))) ∧ w = w' := by
 go_enter Tryz.func109, Tryz.ntmps109
 go_wp2
 go_ret
 exact ⟨ret_u32 (rot_shape' x 18 14 _ _ (by decide) (by decide) (by decide) (by decide) (by decide)), rfl⟩
theorem rotl_19 (x : UInt32) (w : World) : Calls Tryz.prog 111 #[.int .u32 (Mur.w32 x), .int .i64 (-19)] w fun e w' => e = .returned (.int .u32 (Mur.w32 (Mur.rotr x 19))) ∧ w = w' := by
 have he : bits BinOp.and IntKind.u64 (IntKind.u64.wrap (-19)) 31 = 13 := by decide
 go_enter Tryz.func111, Tryz.ntmps111
 go_wp2
 go_ret
 exact ⟨ret_u32 (rot_shape x 19 13 _ _ (by decide) (by decide) (by decide) (by decide) (by decide)), rfl⟩
theorem right_19 (x : UInt32) (w : World) : Calls Tryz.prog 110 #[.int .u32 (Mur.w32 x), .int .i64 19] w fun e w' => e = .returned (.int .u32 (Mur.w32 (Mur.rotr x 19))) ∧ w = w' := by
 go_enter Tryz.func110, Tryz.ntmps110
 go_wp2_with (go_at_call 111; refine (rotl_19 _ _).mono ?_; rintro e w' ⟨rfl, rfl⟩)
 go_ret
 exact ⟨rfl, rfl⟩
theorem turn_19 (x : UInt32) (w : World) : Calls Tryz.prog 109 #[.int .u32 (Mur.w32 x), .int .u64 19] w fun e w' => e = .returned (.int .u32 (Mur.w32 (Mur.rotr x 19))) ∧ w = w' := by
 go_enter Tryz.func109, Tryz.ntmps109
 go_wp2
 go_ret
 exact ⟨ret_u32 (rot_shape' x 19 13 _ _ (by decide) (by decide) (by decide) (by decide) (by decide)), rfl⟩
theorem rotl_22 (x : UInt32) (w : World) : Calls Tryz.prog 111 #[.int .u32 (Mur.w32 x), .int .i64 (-22)] w fun e w' => e = .returned (.int .u32 (Mur.w32 (Mur.rotr x 22))) ∧ w = w' := by
 have he : bits BinOp.and IntKind.u64 (IntKind.u64.wrap (-22)) 31 = 10 := by decide
 go_enter Tryz.func111, Tryz.ntmps111
 go_wp2
 go_ret
 exact ⟨ret_u32 (rot_shape x 22 10 _ _ (by decide) (by decide) (by decide) (by decide) (by decide)), rfl⟩
theorem right_22 (x : UInt32) (w : World) : Calls Tryz.prog 110 #[.int .u32 (Mur.w32 x), .int .i64 22] w fun e w' => e = .returned (.int .u32 (Mur.w32 (Mur.rotr x 22))) ∧ w = w' := by
 go_enter Tryz.func110, Tryz.ntmps110
 go_wp2_with (go_at_call 111; refine (rotl_22 _ _).mono ?_; rintro e w' ⟨rfl, rfl⟩)
 go_ret
 exact ⟨rfl, rfl⟩
theorem turn_22 (x : UInt32) (w : World) : Calls Tryz.prog 109 #[.int .u32 (Mur.w32 x), .int .u64 22] w fun e w' => e = .returned (.int .u32 (Mur.w32 (Mur.rotr x 22))) ∧ w = w' := by
 go_enter Tryz.func109, Tryz.ntmps109
 go_wp2
 go_ret
 exact ⟨ret_u32 (rot_shape' x 22 10 _ _ (by decide) (by decide) (by decide) (by decide) (by decide)), rfl⟩
theorem rotl_25 (x : UInt32) (w : World) : Calls Tryz.prog 111 #[.int .u32 (Mur.w32 x), .int .i64 (-25)] w fun e w' => e = .returned (.int .u32 (Mur.w32 (Mur.rotr x 25))) ∧ w = w' := by
 have he : bits BinOp.and IntKind.u64 (IntKind.u64.wrap (-25)) 31 = 7 := by decide
 go_enter Tryz.func111, Tryz.ntmps111
 go_wp2
 go_ret
 exact ⟨ret_u32 (rot_shape x 25 7 _ _ (by decide) (by decide) (by decide) (by decide) (by decide)), rfl⟩
theorem right_25 (x : UInt32) (w : World) : Calls Tryz.prog 110 #[.int .u32 (Mur.w32 x), .int .i64 25] w fun e w' => e = .returned (.int .u32 (Mur.w32 (Mur.rotr x 25))) ∧ w = w' := by
 go_enter Tryz.func110, Tryz.ntmps110
 go_wp2_with (go_at_call 111; refine (rotl_25 _ _).mono ?_; rintro e w' ⟨rfl, rfl⟩)
 go_ret
 exact ⟨rfl, rfl⟩
theorem turn_25 (x : UInt32) (w : World) : Calls Tryz.prog 109 #[.int .u32 (Mur.w32 x), .int .u64 25] w fun e w' => e = .returned (.int .u32 (Mur.w32 (Mur.rotr x 25))) ∧ w = w' := by
 go_enter Tryz.func109, Tryz.ntmps109
 go_wp2
 go_ret
 exact ⟨ret_u32 (rot_shape' x 25 7 _ _ (by decide) (by decide) (by decide) (by decide) (by decide)), rfl⟩
def turnsB (n : Int) : Bool := [2, 6, 7, 11, 13, 17, 18, 19, 22, 25].contains n
theorem turnsB_cases {n : Int} (h : turnsB n = true) : n = 2 ∨ n = 6 ∨ n = 7 ∨ n = 11 ∨ n = 13 ∨ n = 17 ∨ n = 18 ∨ n = 19 ∨ n = 22 ∨ n = 25 := by
 simpa [turnsB] using h
theorem right_any (x : UInt32) (n : Int) (h : turnsB n = true) (w : World) : Calls Tryz.prog 110 #[.int .u32 (Mur.w32 x), .int .i64 n] w fun e w' => e = .returned (.int .u32 (Mur.w32 (Mur.rotr x (UInt32.ofNat n.toNat)))) ∧ w = w' := by
 rcases turnsB_cases h with rfl | rfl | rfl | rfl | rfl | rfl | rfl | rfl | rfl | rfl
 ·exact right_2 x w
 ·exact right_6 x w
 ·exact right_7 x w
 ·exact right_11 x w
 ·exact right_13 x w
 ·exact right_17 x w
 ·exact right_18 x w
 ·exact right_19 x w
 ·exact right_22 x w
 ·exact right_25 x w
theorem turn_any (x : UInt32) (n : Int) (h : turnsB n = true) (w : World) : Calls Tryz.prog 109 #[.int .u32 (Mur.w32 x), .int .u64 n] w fun e w' => e = .returned (.int .u32 (Mur.w32 (Mur.rotr x (UInt32.ofNat n.toNat)))) ∧ w = w' := by
 rcases turnsB_cases h with rfl | rfl | rfl | rfl | rfl | rfl | rfl | rfl | rfl | rfl
 ·exact turn_2 x w
 ·exact turn_6 x w
 ·exact turn_7 x w
 ·exact turn_11 x w
 ·exact turn_13 x w
 ·exact turn_17 x w
 ·exact turn_18 x w
 ·exact turn_19 x w
 ·exact turn_22 x w
 ·exact turn_25 x w
end Go.Proofs.YtgbadghjnpbiaaaGreatDoor
namespace Go.Proofs.YtgbadghjnpbiaaaGreatDoor
open Go.RowKit
open Mur (St w32 u32s cell_u32s free_row set_u32s)
def stV (s : St) : Value := .agg #[.int .u32 (w32 s.a), .int .u32 (w32 s.b), .int .u32 (w32 s.c), .int .u32 (w32 s.d), .int .u32 (w32 s.e), .int .u32 (w32 s.f), .int .u32 (w32 s.g), .int .u32 (w32 s.h)]
def L1 (w : World) (s : List UInt32) (ws : List UInt32) (wr : World) : Prop :=
 Below w.heap.size w wr ∧ wr.heap.size = w.heap.size + 3 ∧ wr.heap[w.heap.size]? = some (.cells (u32s s) 101 (0, 0)) ∧ wr.heap[w.heap.size + 1]? = some (.cells (u32s (List.replicate 8 0)) 101 (0, 0)) ∧
 wr.heap[w.heap.size + 1 + 1]? = some (.cells (u32s ws) 102 (0, 0))
theorem L1.set {w wr : World} {s ws : List UInt32} (h : L1 w s ws wr) (n k : Nat) (x : UInt32) : L1 w s (ws.set k x) ((wr.drewN n).setCell ⟨w.heap.size + 1 + 1, k, none⟩ (.int .u32 (w32 x))) := by
 obtain ⟨h0, h1, h2, h3, h4⟩ := h
 refine ⟨(Mur.below_drewN h0 n).setCell (by simp; omega) _, by simpa using h1, Mur.hp_set_ne (Mur.hp_drewN h2 n) _ _ _ (by omega), Mur.hp_set_ne (Mur.hp_drewN h3 n) _ _ _ (by omega), set_u32s (Mur.hp_drewN h4 n) x⟩
theorem L1.drewN {w wr : World} {s ws : List UInt32} (h : L1 w s ws wr) (n : Nat) : L1 w s ws (wr.drewN n) := ⟨Mur.below_drewN h.1 n, h.2.1, h.2.2.1, h.2.2.2.1, h.2.2.2.2⟩
theorem sum5 (a b c d e : UInt32) : (w32 a + w32 b + w32 c + w32 d + w32 e) % 4294967296 = w32 (a + b + c + d + e) := by
 unfold w32
 rw [UInt32.toNat_add, UInt32.toNat_add, UInt32.toNat_add, UInt32.toNat_add]
 omega
theorem sum1_4 (a b c d e : UInt32) : (w32 e + (w32 a + w32 b + w32 c + w32 d)) % 4294967296 = w32 (e + (a + b + c + d)) := by
 unfold w32
 rw [UInt32.toNat_add, UInt32.toNat_add, UInt32.toNat_add, UInt32.toNat_add]
 omega
theorem idx_0 (x0 x1 x2 x3 x4 x5 x6 x7 : Value) (w : World) : (Instr.index 101 (.agg #[x0, x1, x2, x3, x4, x5, x6, x7]) (.int .i64 0)).run Tryz.prog w = .ok x0 w := by kernel_rfl
theorem idx_1 (x0 x1 x2 x3 x4 x5 x6 x7 : Value) (w : World) : (Instr.index 101 (.agg #[x0, x1, x2, x3, x4, x5, x6, x7]) (.int .i64 1)).run Tryz.prog w = .ok x1 w := by kernel_rfl
theorem idx_2 (x0 x1 x2 x3 x4 x5 x6 x7 : Value) (w : World) : (Instr.index 101 (.agg #[x0, x1, x2, x3, x4, x5, x6, x7]) (.int .i64 2)).run Tryz.prog w = .ok x2 w := by kernel_rfl
theorem idx_3 (x0 x1 x2 x3 x4 x5 x6 x7 : Value) (w : World) : (Instr.index 101 (.agg #[x0, x1, x2, x3, x4, x5, x6, x7]) (.int .i64 3)).run Tryz.prog w = .ok x3 w := by kernel_rfl
theorem idx_4 (x0 x1 x2 x3 x4 x5 x6 x7 : Value) (w : World) : (Instr.index 101 (.agg #[x0, x1, x2, x3, x4, x5, x6, x7]) (.int .i64 4)).run Tryz.prog w = .ok x4 w := by kernel_rfl
theorem idx_5 (x0 x1 x2 x3 x4 x5 x6 x7 : Value) (w : World) : (Instr.index 101 (.agg #[x0, x1, x2, x3, x4, x5, x6, x7]) (.int .i64 5)).run Tryz.prog w = .ok x5 w := by kernel_rfl
theorem idx_6 (x0 x1 x2 x3 x4 x5 x6 x7 : Value) (w : World) : (Instr.index 101 (.agg #[x0, x1, x2, x3, x4, x5, x6, x7]) (.int .i64 6)).run Tryz.prog w = .ok x6 w := by kernel_rfl
theorem idx_7 (x0 x1 x2 x3 x4 x5 x6 x7 : Value) (w : World) : (Instr.index 101 (.agg #[x0, x1, x2, x3, x4, x5, x6, x7]) (.int .i64 7)).run Tryz.prog w = .ok x7 w := by kernel_rfl
def sAdd (s t : List UInt32) : Nat → List UInt32
 | 0 => s
 | k + 1 => (sAdd s t k).set k ((sAdd s t k).getD k 0 + t.getD k 0)
theorem sAdd_length (s t : List UInt32) (k : Nat) : (sAdd s t k).length = s.length := by
 induction k with
 | zero => rfl
 | succ k ih => simp [sAdd, ih]
theorem idx_any (st : St) (k : Nat) (h : k < 8) (w : World) : (Instr.index 101 (.agg #[.int .u32 (w32 st.a), .int .u32 (w32 st.b), .int .u32 (w32 st.c), .int .u32 (w32 st.d), .int .u32 (w32 st.e), .int .u32 (w32 st.f), .int .u32 (w32 st.g), .int .u32 (w32 st.h)]) (.int .i64 (k : Int))).run Tryz.prog w = .ok (.int .u32 (w32 (st.toList.getD k 0))) w := by
 obtain rfl | rfl | rfl | rfl | rfl | rfl | rfl | rfl : k = 0 ∨ k = 1 ∨ k = 2 ∨ k = 3 ∨ k = 4 ∨ k = 5 ∨ k = 6 ∨ k = 7 := by omega
 ·exact idx_0 _ _ _ _ _ _ _ _ w
 ·exact idx_1 _ _ _ _ _ _ _ _ w
 ·exact idx_2 _ _ _ _ _ _ _ _ w
 ·exact idx_3 _ _ _ _ _ _ _ _ w
 ·exact idx_4 _ _ _ _ _ _ _ _ w
 ·exact idx_5 _ _ _ _ _ _ _ _ w
 ·exact idx_6 _ _ _ _ _ _ _ _ w
 ·exact idx_7 _ _ _ _ _ _ _ _ w
theorem L1.setS {w wr : World} {s ws : List UInt32} (h : L1 w s ws wr) (k : Nat) (x : UInt32) : L1 w (s.set k x) ws (wr.setCell ⟨w.heap.size, k, none⟩ (.int .u32 (w32 x))) := by
 obtain ⟨h0, h1, h2, h3, h4⟩ := h
 exact ⟨h0.setCell (by simp) _, by simpa using h1, set_u32s h2 x, Mur.hp_set_ne h3 _ _ _ (by omega), Mur.hp_set_ne h4 _ _ _ (by omega)⟩
attribute [local go_sem] Mur.wrap_u32_u8 Mur.shl24 Mur.shl16 Mur.shl8 Mur.shr3 Mur.shr10 Mur.bits_or_u32 Mur.bits_and_u32 Mur.bits_xor_u32 Mur.bits_not_u32 Mur.wrap_add_u32 Mur.wrap_not_u32
set_option maxRecDepth 100000
set_option maxHeartbeats 2000000
theorem block_any (s : St) (b : List UInt8) (g off n c : Nat) (w : World) (hK : ∀ i, i < 64 → w.cell? ⟨2, i, none⟩ = some (.int .u32 (w32 (Mur.K.getD i 0))))
  (hb : ∀ j, j < 64 → w.cell? ⟨g, off + j, none⟩ = some (.int .u8 ((b.getD j 0).toNat : Int))) (hn : 64 ≤ n) (hnc : n ≤ 140737488351232) (hg : g < w.heap.size) (h1 : 2 < w.heap.size) :
  Calls Tryz.prog 108 #[stV s, .slice (some ⟨g, off, none⟩) n c] w fun e w' => e = .returned (stV (Mur.block s b)) ∧ Below w.heap.size w w' := by
 unfold stV
 have HK := Go.Lib.hid hK; clear hK
 have HB := Go.Lib.hid hb; clear hb
 go_enter Tryz.func108, Tryz.ntmps108
 go_wp2
 go_loopw [23] (fun t wr => ∃ k : Nat, k ≤ 16 ∧ t = .int .i64 k ∧ L1 w s.toList (Mur.wTo b k) wr) (fun t _ => 16 - (intOf t).toNat)
 case atStart =>
  refine ⟨0, by omega, rfl, ?_⟩
  refine ⟨?_, by simp, ?_, ?_, ?_⟩
  ·exact (((Below.refl _ _).alloc (Nat.le_refl _) _).alloc (by simp) _).alloc (by simp; omega) _
  ·exact (Mur.hp_old (Mur.hp_old (Mur.hp_a1 _ _) _) _).trans rfl
  ·exact (Mur.hp_old (Mur.hp_a2 _ _ _) _).trans rfl
  ·exact (Mur.hp_a3 _ _ _ _).trans rfl
 case round =>
  obtain ⟨k, hk, rfl, HL⟩ := hrel
  by_cases hlt : k < 16
  ·have hcell : ∀ j, j < 64 → wr.cell? ⟨g, off + j, none⟩ = some (.int .u8 ((b.getD j 0).toNat : Int)) := fun j hj => (HL.1.cell (p := ⟨g, off + j, none⟩) hg).trans (HB.out j hj)
   have c0 := hcell (4 * k) (by omega)
   have c1 := hcell (4 * k + 1) (by omega)
   have c2 := hcell (4 * k + 2) (by omega)
   have c3 := hcell (4 * k + 3) (by omega)
   have cw := cell_u32s (i := k) HL.2.2.2.2 (by rw [Mur.wTo_length]; omega)
   have fw := free_row (i := k) HL.2.2.2.2
   clear hcell
   go_wp2
   refine Mur.wp_quiet_tail 34 (by kernel_rfl) (by kernel_rfl) ?_
   simp only [List.take_succ_cons, List.take_zero, List.drop_succ_cons, List.drop_zero]
   repeat (go_big_quiet_step (fail))
   refine wpQuiet_nil ?_
   rintro _ ⟨nq, rfl⟩
   go_wp2
   refine ⟨⟨k + 1, by omega, by go_num, ?_⟩, by simp [intOf]; omega⟩
   have e : Mur.wTo b (k + 1) = (Mur.wTo b k).set k (Mur.be32 (b[4 * k]?.getD 0) (b[4 * k + 1]?.getD 0) (b[4 * k + 2]?.getD 0) (b[4 * k + 3]?.getD 0)) := by
    conv => lhs; unfold Mur.wTo
    rw [Mur.wNext, if_pos hlt, Mur.wordAt]
    simp only [List.getD_eq_getElem?_getD]
   rw [e]
   exact HL.set _ _ _
  ·obtain rfl : k = 16 := by omega
   go_wp2
   go_loopw [7] (fun t wr => ∃ k : Nat, 16 ≤ k ∧ k ≤ 64 ∧ t = .int .i64 k ∧ L1 w s.toList (Mur.wTo b k) wr) (fun t _ => 64 - (intOf t).toNat)
   case atStart => exact ⟨16, by omega, by omega, rfl, HL⟩
   case round =>
    clear HL
    obtain ⟨k, hk16, hk, rfl, HL⟩ := hrel
    by_cases hlt : k < 64
    ·have hl := Mur.wTo_length b k
     have cx := cell_u32s (i := k - 15) HL.2.2.2.2 (by omega)
     have cy := cell_u32s (i := k - 2) HL.2.2.2.2 (by omega)
     have c16 := cell_u32s (i := k - 16) HL.2.2.2.2 (by omega)
     have c7 := cell_u32s (i := k - 7) HL.2.2.2.2 (by omega)
     have cw := cell_u32s (i := k) HL.2.2.2.2 (by omega)
     have fw := free_row (i := k) HL.2.2.2.2
     clear hl
     go_wp2
     go_quiet (fail)
     go_wp2
     refine Mur.wp_quiet_tail 28 (by kernel_rfl) (by kernel_rfl) ?_
     simp only [List.take_succ_cons, List.take_zero, List.drop_succ_cons, List.drop_zero]
     repeat (go_big_quiet_step (exact Mur.q_of2 (right_any _ _ (by decide))))
     refine wpQuiet_nil ?_
     rintro _ ⟨nq, rfl⟩
     go_wp2
     refine ⟨⟨k + 1, by omega, by omega, by go_num, ?_⟩, by simp [intOf]; omega⟩
     have e : Mur.wTo b (k + 1) = (Mur.wTo b k).set k ((Mur.wTo b k)[k - 16]?.getD 0 + Mur.ssig0 ((Mur.wTo b k)[k - 15]?.getD 0) + (Mur.wTo b k)[k - 7]?.getD 0 + Mur.ssig1 ((Mur.wTo b k)[k - 2]?.getD 0)) := by
      conv => lhs; unfold Mur.wTo
      rw [Mur.wNext, if_neg (by omega)]
      simp only [List.getD_eq_getElem?_getD]
     rw [e]
     exact HL.set _ _ _
    ·obtain rfl : k = 64 := by omega
     have hl : s.toList.length = 8 := rfl
     have d0 := cell_u32s (i := 0) HL.2.2.1 (by omega)
     have d1 := cell_u32s (i := 1) HL.2.2.1 (by omega)
     have d2 := cell_u32s (i := 2) HL.2.2.1 (by omega)
     have d3 := cell_u32s (i := 3) HL.2.2.1 (by omega)
     have d4 := cell_u32s (i := 4) HL.2.2.1 (by omega)
     have d5 := cell_u32s (i := 5) HL.2.2.1 (by omega)
     have d6 := cell_u32s (i := 6) HL.2.2.1 (by omega)
     have d7 := cell_u32s (i := 7) HL.2.2.1 (by omega)
     simp only [St.toList, List.getD_cons_zero, List.getD_cons_succ] at d0 d1 d2 d3 d4 d5 d6 d7
     clear hl
     go_wp2
     go_quiet (fail)
     go_wp2
     clear d0 d1 d2 d3 d4 d5 d6 d7
     go_loopw [10, 11, 12, 13, 14, 15, 16, 17, 119] (fun xa xb xc xd xe xf xg xh t wr => ∃ (k : Nat) (st : St), k ≤ 64 ∧ t = .int .i64 k ∧ Hid (st = Mur.roundsTo (Mur.wTo b 64) s k) ∧
       xa = .int .u32 (w32 st.a) ∧ xb = .int .u32 (w32 st.b) ∧ xc = .int .u32 (w32 st.c) ∧ xd = .int .u32 (w32 st.d) ∧
       xe = .int .u32 (w32 st.e) ∧ xf = .int .u32 (w32 st.f) ∧ xg = .int .u32 (w32 st.g) ∧ xh = .int .u32 (w32 st.h) ∧ L1 w s.toList (Mur.wTo b 64) wr)
      (fun _ _ _ _ _ _ _ _ t _ => 64 - (intOf t).toNat)
     case atStart => exact ⟨0, s, by omega, rfl, Go.Lib.hid rfl, rfl, rfl, rfl, rfl, rfl, rfl, rfl, rfl, HL.drewN _⟩
     case round =>
      clear HL
      obtain ⟨k, st, hk, rfl, hst, rfl, rfl, rfl, rfl, rfl, rfl, rfl, rfl, HL⟩ := hrel
      by_cases hlt : k < 64
      ·have cw := cell_u32s (i := k) HL.2.2.2.2 (by rw [Mur.wTo_length]; omega)
       have ck := (HL.1.cell (p := ⟨2, k, none⟩) h1).trans (HK.out k hlt)
       go_wp2
       go_quiet (exact Mur.q_of (right_any _ _ (by decide)))
       go_wp2_with (go_at_call 110; refine (right_any _ _ (by decide) _).mono ?_; rintro e w' ⟨rfl, rfl⟩)
       refine ⟨⟨_, _, _, _, _, _, _, _, _, _, _, _, ⟨k + 1, by omega, ?_, Mur.stepSt st (Mur.K.getD k 0) ((Mur.wTo b 64).getD k 0), ?_, ?_, rfl, rfl, rfl, ?_, rfl, rfl, rfl, HL.drewN _⟩, rfl, rfl, rfl, rfl, rfl, rfl, rfl, rfl, rfl, rfl, rfl, rfl⟩, by simp [intOf]; omega⟩
       ·go_num
       ·exact Go.Lib.hid (by rw [hst.out]; rfl)
       ·rw [sum5]; simp only [List.getD_eq_getElem?_getD]; rfl
       ·rw [sum1_4]; simp only [List.getD_eq_getElem?_getD]; rfl
      ·obtain rfl : k = 64 := by omega
       have hl : s.toList.length = 8 := rfl
       have d0 := cell_u32s (i := 0) HL.2.2.1 (by omega)
       have d1 := cell_u32s (i := 1) HL.2.2.1 (by omega)
       have d2 := cell_u32s (i := 2) HL.2.2.1 (by omega)
       have d3 := cell_u32s (i := 3) HL.2.2.1 (by omega)
       have d4 := cell_u32s (i := 4) HL.2.2.1 (by omega)
       have d5 := cell_u32s (i := 5) HL.2.2.1 (by omega)
       have d6 := cell_u32s (i := 6) HL.2.2.1 (by omega)
       have d7 := cell_u32s (i := 7) HL.2.2.1 (by omega)
       simp only [St.toList, List.getD_cons_zero, List.getD_cons_succ] at d0 d1 d2 d3 d4 d5 d6 d7
       have f0 := free_row (i := 0) HL.2.2.1
       have f1 := free_row (i := 1) HL.2.2.1
       have f2 := free_row (i := 2) HL.2.2.1
       have f3 := free_row (i := 3) HL.2.2.1
       have f4 := free_row (i := 4) HL.2.2.1
       have f5 := free_row (i := 5) HL.2.2.1
       have f6 := free_row (i := 6) HL.2.2.1
       have f7 := free_row (i := 7) HL.2.2.1
       clear hl
       go_wp2
       have ix := fun (k : Nat) (h : k < 8) => idx_any st k h
       go_loopw [191] (fun t wr => ∃ k : Nat, k ≤ 8 ∧ t = .int .i64 k ∧ L1 w (sAdd s.toList st.toList k) (Mur.wTo b 64) wr) (fun t _ => 8 - (intOf t).toNat)
       case atStart => exact ⟨0, by omega, rfl, HL⟩
       case round =>
        clear HL
        obtain ⟨k, hk, rfl, HL⟩ := hrel
        by_cases hlt : k < 8
        ·have ck := cell_u32s (i := k) HL.2.2.1 (by rw [sAdd_length]; exact hlt)
         have fk := free_row (i := k) HL.2.2.1
         have ik := ix k hlt
         clear ix
         go_wp2
         refine ⟨⟨k + 1, by omega, by go_num, ?_⟩, by simp [intOf]; omega⟩
         exact HL.setS k _
        ·obtain rfl : k = 8 := by omega
         clear ix
         have hz : (u32s (sAdd s.toList st.toList 8)).size = 8 := by simp [u32s, sAdd_length]; rfl
         go_wp2_with (first
          | (refine wpList_load_row rfl 101 (.tmp 2) rfl w.heap.size rfl 101 (u32s (sAdd s.toList st.toList 8)) (0, 0) _ HL.2.2.1 Tryz.underlying101 rfl (by rw [hz]; kernel_rfl) ?_)
          | (refine wpList_store_row rfl 101 (.tmp 4) (.tmp 202) rfl (w.heap.size + 1) (u32s (sAdd s.toList st.toList 8)) rfl rfl 101 (u32s (List.replicate 8 0)) HL.2.2.2.1 (by rw [hz]; kernel_rfl) (by rw [hz]; rfl) (Mur.oneCells _) ?_))
         refine bodyPost_ret (v := .agg (u32s (sAdd s.toList st.toList 8))) (results_cell_row rfl _ _ (w.heap.size + 1) 101 (u32s (sAdd s.toList st.toList 8)) (0, 0) _ rfl (setRow_heap _ _ _ _ _ _ HL.2.2.2.1) Tryz.underlying101 rfl (by rw [hz]; kernel_rfl)) rfl ⟨?_, below_setRow HL.1 (by omega) _⟩
         have e : (Mur.block s b).toList = sAdd s.toList st.toList 8 := by
          rw [hst.out]
          unfold Mur.block
          generalize Mur.roundsTo (Mur.wTo b 64) s 64 = q
          simp [Mur.addSt, St.toList, sAdd]
         rw [← e]
         rfl
end Go.Proofs.YtgbadghjnpbiaaaGreatDoor
namespace Mur
open Go Go.RowKit
def b8s (l : List UInt8) : List Value := l.map fun b => Value.int .u8 (b.toNat : Int)
theorem b8s_length (l : List UInt8) : (b8s l).length = l.length := by simp [b8s]
theorem b8s_append (l r : List UInt8) : b8s (l ++ r) = b8s l ++ b8s r := by simp [b8s]
theorem b8s_get (l : List UInt8) (j : Nat) (h : j < l.length) : (b8s l)[j]? = some (.int .u8 ((l.getD j 0).toNat : Int)) := by
 simp [b8s, h, List.getD_eq_getElem?_getD]
theorem b8s_one (l : List UInt8) : ∀ v ∈ b8s l, v.oneCell' = true := by
 intro v hv
 simp only [b8s, List.mem_map] at hv
 obtain ⟨b, _, rfl⟩ := hv
 rfl
theorem b8s_all (l : List UInt8) : (b8s l).toArray.all (·.oneCell') = true :=
 Array.all_eq_true_iff_forall_mem.2 fun v hv => b8s_one l v (by simpa using hv)
theorem cell_b8s {w : World} {g t i : Nat} {fr : Nat × Nat} {l : List UInt8} (h : w.heap[g]? = some (.cells (b8s l).toArray t fr)) (hi : i < l.length) : w.cell? ⟨g, i, none⟩ = some (.int .u8 ((l.getD i 0).toNat : Int)) := by
 rw [cell_of_row w g i _ t _ h]
 simpa using b8s_get l i hi
theorem set_b8s {w : World} {g t i : Nat} {l : List UInt8} (h : w.heap[g]? = some (.cells (b8s l).toArray t (0, 0))) (x : UInt8) : (w.setCell ⟨g, i, none⟩ (.int .u8 (x.toNat : Int))).heap[g]? = some (.cells (b8s (l.set i x)).toArray t (0, 0)) := by
 rw [heap_setCell_same w g i _ t _ h]
 simp [b8s, List.map_set]
def dgV (d : List UInt8) : Value := .agg (b8s d).toArray

def Byt (w : World) (A : Option Addr) (n : Nat) (l : List UInt8) : Prop :=
 l.length = n ∧ (0 < n → ∃ g off, A = some ⟨g, off, none⟩ ∧ ∀ j, j < n → w.cell? ⟨g, off + j, none⟩ = some (.int .u8 ((l.getD j 0).toNat : Int)))
theorem Byt.nil (w : World) (A : Option Addr) : Byt w A 0 [] := ⟨rfl, fun h => absurd h (by omega)⟩
theorem Byt.keep {w w1 : World} {A : Option Addr} {n : Nat} {l : List UInt8} (h : Byt w A n l) (hk : ∀ a v, w.cell? a = some v → w1.cell? a = some v) : Byt w1 A n l :=
 ⟨h.1, fun hn => by
  obtain ⟨g, off, e, hc⟩ := h.2 hn
  exact ⟨g, off, e, fun j hj => hk _ _ (hc j hj)⟩⟩
theorem Byt.below {w w1 : World} {A : Option Addr} {n : Nat} {l : List UInt8} (h : Byt w A n l) (hb : Below w.heap.size w w1) : Byt w1 A n l := h.keep fun _ _ hc => cell_below hb hc
theorem Byt.drewN {w : World} {A : Option Addr} {n : Nat} {l : List UInt8} (h : Byt w A n l) (k : Nat) : Byt (w.drewN k) A n l := h
theorem Byt.block {w : World} {g off n : Nat} {l : List UInt8} (h : Byt w (some ⟨g, off, none⟩) n l) (hn : 0 < n) : g < w.heap.size := by
 obtain ⟨g', off', e, hc⟩ := h.2 hn
 injection e with e
 injection e with e1 e2
 subst e1
 exact World.block_lt_of_cell? w ⟨g, off' + 0, none⟩ (hc 0 hn)
theorem Byt.at_ {w : World} {g off n : Nat} {l : List UInt8} (h : Byt w (some ⟨g, off, none⟩) n l) (j : Nat) (hj : j < n) : w.cell? ⟨g, off + j, none⟩ = some (.int .u8 ((l.getD j 0).toNat : Int)) := by
 obtain ⟨g', off', e, hc⟩ := h.2 (by omega)
 injection e with e
 injection e with e1 e2
 subst e1 e2
 exact hc j hj
def cutA (A : Option Addr) (c l : Nat) : Option Addr := if c = l then A else A.map (·.add l)
theorem Byt.cut {w : World} {A : Option Addr} {n c : Nat} {l : List UInt8} (h : Byt w A n l) (k m : Nat) (hkm : k ≤ m) (hm : m ≤ n) (hnc : n ≤ c) : Byt w (cutA A c k) (m - k) ((l.take m).drop k) := by
 refine ⟨by rw [List.length_drop, List.length_take, h.1]; omega, fun hp => ?_⟩
 obtain ⟨g, off, rfl, hc⟩ := h.2 (by omega)
 refine ⟨g, off + k, ?_, fun j hj => ?_⟩
 ·unfold cutA
  rw [if_neg (by omega)]
  simp [Addr.add_mid]
 ·rw [show off + k + j = off + (k + j) by omega, hc (k + j) (by omega)]
  simp only [List.getD_eq_getElem?_getD, List.getElem?_drop, List.getElem?_take]
  rw [if_pos (by omega)]
theorem Byt.from_ {w : World} {A : Option Addr} {n c : Nat} {l : List UInt8} (h : Byt w A n l) (k : Nat) (hk : k ≤ n) (hnc : n ≤ c) : Byt w (cutA A c k) (n - k) (l.drop k) := by
 have := h.cut k n hk (Nat.le_refl _) hnc
 rwa [List.take_of_length_le (by rw [h.1]; exact Nat.le_refl _)] at this

theorem cutA_some (a : Addr) (c l : Nat) : cutA (some a) c l ≠ none := by unfold cutA; split <;> simp
theorem cutA_block {a : Addr} {c l : Nat} {b : Addr} (h : cutA (some a) c l = some b) : b.block = a.block := by
 unfold cutA at h
 split at h
 ·injection h with h; rw [h]
 ·simp only [Option.map_some, Option.some.injEq] at h
  rw [← h]
  unfold Addr.add
  split <;> rfl
theorem Byt_box (W : World) (x : UInt8) (t : TypeId) : Byt (W.alloc (.cells #[.int .u8 (x.toNat : Int)] t)) (some ⟨W.heap.size, 0, none⟩) 1 [x] := by
 refine ⟨rfl, fun _ => ⟨_, 0, rfl, fun j hj => ?_⟩⟩
 obtain rfl : j = 0 := by omega
 simp
theorem own_byt {w : World} {base n : Nat} {e : TypeId} {v : Value} {l : List UInt8} (h : w.ownsRow base e 1 v n (b8s l)) : ∃ A c, v = .slice A n c ∧ n ≤ c ∧ c ≤ maxLen ∧ Byt w A n l := by
 have hl : l.length = n := by have := h.1; simpa [b8s_length] using this
 rcases h.2 with ⟨rfl, rfl⟩ | ⟨g, cap, cur, rfl, _, hg, hnc, hcm, _, htake⟩
 ·exact ⟨none, 0, rfl, Nat.le_refl _, by unfold maxLen; omega, hl, fun hp => absurd hp (by omega)⟩
 ·refine ⟨_, cap, rfl, hnc, hcm, hl, fun _ => ⟨g, 0, rfl, fun j hj => ?_⟩⟩
  have := h.cells (g := g) rfl j _ (b8s_get l j (by omega))
  rwa [Addr.add_mid] at this

section
variable {P : Program} {ops : Array Oper} {rest : List Oper} {o : Oper} {a : Act} {Q : Exit → Act → World → Prop} {w : World}
theorem run_cut (t e : TypeId) (ht : P.underlying t = some (.slice e)) (hsz : (P.info? e).map (·.size) = some 1) (A : Option Addr) (n c l h : Nat) (hl : l ≤ h) (hh : h ≤ n) (hnc : n ≤ c) :
  (Instr.sliceAt t (.slice A n c) (some (.int .i64 (l : Int))) (some (.int .i64 (h : Int))) none).run P w = .ok (.slice (cutA A c l) (h - l) (c - l)) w := by
 obtain ⟨i, hi, hs⟩ := Option.map_eq_some_iff.1 hsz
 simp [Instr.sliceAt, Instr.slice, run_underlying ht, Instr.sliceBounds, Go.sizeOf, typeInfo, hi, hs, cutA, run_sliceBound w .i64 (h : Int) c _ (by omega) (by omega), run_sliceBound w .i64 (l : Int) h _ (by omega) (by omega)]
theorem run_cut_from (t e : TypeId) (ht : P.underlying t = some (.slice e)) (hsz : (P.info? e).map (·.size) = some 1) (A : Option Addr) (n c l : Nat) (hl : l ≤ n) (_hnc : n ≤ c) :
  (Instr.sliceAt t (.slice A n c) (some (.int .i64 (l : Int))) none none).run P w = .ok (.slice (cutA A c l) (n - l) (c - l)) w := by
 obtain ⟨i, hi, hs⟩ := Option.map_eq_some_iff.1 hsz
 simp [Instr.sliceAt, Instr.slice, run_underlying ht, Instr.sliceBounds, Go.sizeOf, typeInfo, hi, hs, cutA, run_sliceBound w .i64 (l : Int) n _ (by omega) (by omega)]
theorem run_cut_to (t e : TypeId) (ht : P.underlying t = some (.slice e)) (hsz : (P.info? e).map (·.size) = some 1) (A : Option Addr) (n c h : Nat) (hh : h ≤ n) (hnc : n ≤ c) :
  (Instr.sliceAt t (.slice A n c) none (some (.int .i64 (h : Int))) none).run P w = .ok (.slice (cutA A c 0) h c) w := by
 obtain ⟨i, hi, hs⟩ := Option.map_eq_some_iff.1 hsz
 simp [Instr.sliceAt, Instr.slice, run_underlying ht, Instr.sliceBounds, Go.sizeOf, typeInfo, hi, cutA, run_sliceBound w .i64 (h : Int) c _ (by omega) (by omega)]
theorem wpList_cut_from (hgd : o.guard = none) (t : TypeId) (x y : Operand) (ho : o.op = .slice t x (some y) none none) (e : TypeId) (ht : P.underlying t = some (.slice e)) (hsz : (P.info? e).map (·.size) = some 1)
  (A : Option Addr) (n c l : Nat) (hx : a.eval x = .slice A n c) (hy : a.eval y = .int .i64 (l : Int)) (hl : l ≤ n) (hnc : n ≤ c)
  (h : wpList P ops Q rest (a.put o.dst (.slice (cutA A c l) (n - l) (c - l))) w) : wpList P ops Q (o :: rest) a w := by
 refine wpList_plain hgd fun K hK => ?_
 unfold Oper.wp execOp
 simp only [ho, hx, hy, Option.map_some, Option.map_none, Sem.run_bind, run_cut_from t e ht hsz A n c l hl hnc, Result.andThen_ok, Sem.run_pure]
 exact hK _ _ h

theorem run_append_byt (base : Nat) (t ty e : TypeId) (ht : P.underlying t = some (.slice e)) (hinfo : (P.info? e).map (fun i => (i.zero, i.size, i.bytes)) = some (some (.int .u8 0), 1, 1))
  (v : Value) (N : Nat) (xs ys : List UInt8) (A : Option Addr) (m c : Nat) (HO : w.ownsRow base e 1 v N (b8s xs)) (HR : Byt w A m ys) (hA : A = none → c = 0) (hbase : base ≤ w.heap.size) (hl : N + m ≤ 140737488355328) :
  ∃ v1 w1, (Builtin.append_ #[t, t] ty #[v, .slice A m c]).run P w = .ok v1 w1 ∧ w1.ownsRow base e 1 v1 (N + m) (b8s (xs ++ ys)) ∧ w.grownBy w1 v.ownBlock ∧ (v1.ownBlock = v.ownBlock ∨ v1.ownBlock = some w.heap.size) := by
 obtain ⟨i0, hi, hzz⟩ := Option.map_eq_some_iff.1 hinfo
 simp only [Prod.mk.injEq] at hzz
 obtain ⟨hz0, hz1, hz2⟩ := hzz
 have hm : ys.length = m := HR.1
 rcases A with _ | ad
 ·have h0 : m = 0 := by
   rcases Nat.eq_zero_or_pos m with h0 | h0
   ·exact h0
   ·obtain ⟨g, off, h, _⟩ := HR.2 h0
    cases h
  subst h0
  obtain rfl : ys = [] := List.eq_nil_of_length_eq_zero hm
  obtain rfl := hA rfl
  refine ⟨v, w, ?_, by simpa using HO, ⟨rfl, rfl, rfl, Nat.le_refl _, fun _ _ _ => rfl⟩, .inl rfl⟩
  exact run_append_owned_none (P := P) (w := w) base t ty e i0 1 ht hi v N (b8s xs) HO
 ·have hcells : ∀ j u, (b8s ys)[j]? = some u → w.cell? (ad.add j) = some u := by
   intro j u hu
   have hj : j < ys.length := by
    rcases Nat.lt_or_ge j ys.length with h | h
    ·exact h
    ·rw [List.getElem?_eq_none (by rw [b8s_length]; exact h)] at hu
     cases hu
   obtain ⟨g, off, h', hc⟩ := HR.2 (by omega)
   injection h' with h'
   subst h'
   rw [b8s_get ys j hj] at hu
   injection hu with hu
   subst hu
   rw [Addr.add_mid]
   exact hc j (by omega)
  obtain ⟨v1, w1, hr, h2, h3, _, h5⟩ := run_append_own_at (P := P) w base t ty e i0 (.int .u8 0) 1 1 ht hi hz0 hz1 hz2 rfl (by omega) v N (b8s xs) HO ad m c (b8s ys) (by rw [b8s_length]; omega) hcells
   (b8s_one ys) (by simp only [maxLen]; omega) (by omega) hbase
  exact ⟨v1, w1, hr, by rw [b8s_append]; exact h2, h3, h5⟩
theorem wpList_append_byt {w0 : World} (base : Nat) (hgd : o.guard = none) (s x : Operand) (t e : TypeId) (ho : o.op = .call { callee := .builtin .append, args := #[s, x], argTypes := #[t, t] })
  (ht : P.underlying t = some (.slice e)) (hinfo : (P.info? e).map (fun i => (i.zero, i.size, i.bytes)) = some (some (.int .u8 0), 1, 1))
  (v : Value) (N : Nat) (xs ys : List UInt8) (A : Option Addr) (m c : Nat) (hs : a.eval s = v) (hx : a.eval x = .slice A m c)
  (HO : w.ownsRow base e 1 v N (b8s xs)) (HR : Byt w A m ys) (hA : A = none → c = 0) (HB : Below base w0 w) (hbase : base ≤ w.heap.size) (hl : N + m ≤ 140737488355328)
  (h : ∀ v1 w1, w1.ownsRow base e 1 v1 (N + m) (b8s (xs ++ ys)) → Below base w0 w1 → w.grownBy w1 v.ownBlock → (v1.ownBlock = v.ownBlock ∨ v1.ownBlock = some w.heap.size) → wpList P ops Q rest (a.put o.dst v1) w1) :
  wpList P ops Q (o :: rest) a w := by
 obtain ⟨v1, w1, hr, h2, h3, h5⟩ := run_append_byt (P := P) base t o.type e ht hinfo v N xs ys A m c HO HR hA hbase hl
 refine wpList_plain hgd fun K hK => ?_
 unfold Oper.wp execOp
 simp only [ho, resolve, invoke, builtin, Sem.run_bind, Sem.run_pure, Result.andThen_ok, List.map_toArray, List.map_cons, List.map_nil, hs, hx, hr]
 exact hK _ _ (h v1 w1 h2 (HB.grown h3 hbase (fun k hk => (HO.lt k hk).1)) h3 h5)
end
end Mur
