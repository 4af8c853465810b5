/- The digest of SHA-256 as a plain Lean function on lists of bytes, worked out by the kernel over natural numbers; numbers by digits to the base 2^16; roots by bits. No program in sight. -/
namespace Mur
def rotr (x : UInt32) (n : UInt32) : UInt32 := (x >>> n) ||| (x <<< (32 - n))
def ssig0 (x : UInt32) : UInt32 := rotr x 7 ^^^ rotr x 18 ^^^ (x >>> 3)
def ssig1 (x : UInt32) : UInt32 := rotr x 17 ^^^ rotr x 19 ^^^ (x >>> 10)
def bsig1 (e : UInt32) : UInt32 := rotr e 6 ^^^ rotr e 11 ^^^ rotr e 25
def bsig0 (a : UInt32) : UInt32 := rotr a 2 ^^^ rotr a 13 ^^^ rotr a 22
def ch (e f g : UInt32) : UInt32 := (e &&& f) ^^^ (~~~e &&& g)
def maj (a b c : UInt32) : UInt32 := (a &&& b) ^^^ (a &&& c) ^^^ (b &&& c)
def be32 (a b c d : UInt8) : UInt32 := (a.toUInt32 <<< 24) ||| (b.toUInt32 <<< 16) ||| (c.toUInt32 <<< 8) ||| d.toUInt32
def wordAt (b : List UInt8) (t : Nat) : UInt32 := be32 (b.getD (4*t) 0) (b.getD (4*t+1) 0) (b.getD (4*t+2) 0) (b.getD (4*t+3) 0)
def wNext (b : List UInt8) (w : List UInt32) (t : Nat) : UInt32 :=
  if t < 16 then wordAt b t else w.getD (t-16) 0 + ssig0 (w.getD (t-15) 0) + w.getD (t-7) 0 + ssig1 (w.getD (t-2) 0)
def wTo (b : List UInt8) : Nat → List UInt32
  | 0 => List.replicate 64 0
  | t+1 => (wTo b t).set t (wNext b (wTo b t) t)
structure St where
  (a b c d e f g h : UInt32)
def stepSt (s : St) (k w : UInt32) : St :=
  let t1 := s.h + bsig1 s.e + ch s.e s.f s.g + k + w
  let t2 := bsig0 s.a + maj s.a s.b s.c
  ⟨t1 + t2, s.a, s.b, s.c, s.d + t1, s.e, s.f, s.g⟩
def K : List UInt32 := [0x428a2f98, 0x71374491, 0xb5c0fbcf, 0xe9b5dba5, 0x3956c25b, 0x59f111f1, 0x923f82a4, 0xab1c5ed5,
  0xd807aa98, 0x12835b01, 0x243185be, 0x550c7dc3, 0x72be5d74, 0x80deb1fe, 0x9bdc06a7, 0xc19bf174,
  0xe49b69c1, 0xefbe4786, 0x0fc19dc6, 0x240ca1cc, 0x2de92c6f, 0x4a7484aa, 0x5cb0a9dc, 0x76f988da,
  0x983e5152, 0xa831c66d, 0xb00327c8, 0xbf597fc7, 0xc6e00bf3, 0xd5a79147, 0x06ca6351, 0x14292967,
  0x27b70a85, 0x2e1b2138, 0x4d2c6dfc, 0x53380d13, 0x650a7354, 0x766a0abb, 0x81c2c92e, 0x92722c85,
  0xa2bfe8a1, 0xa81a664b, 0xc24b8b70, 0xc76c51a3, 0xd192e819, 0xd6990624, 0xf40e3585, 0x106aa070,
  0x19a4c116, 0x1e376c08, 0x2748774c, 0x34b0bcb5, 0x391c0cb3, 0x4ed8aa4a, 0x5b9cca4f, 0x682e6ff3,
  0x748f82ee, 0x78a5636f, 0x84c87814, 0x8cc70208, 0x90befffa, 0xa4506ceb, 0xbef9a3f7, 0xc67178f2]
def H0 : St := ⟨0x6a09e667, 0xbb67ae85, 0x3c6ef372, 0xa54ff53a, 0x510e527f, 0x9b05688c, 0x1f83d9ab, 0x5be0cd19⟩
def roundsTo (w : List UInt32) (s : St) : Nat → St
  | 0 => s
  | t+1 => stepSt (roundsTo w s t) (K.getD t 0) (w.getD t 0)
def addSt (s t : St) : St := ⟨s.a+t.a, s.b+t.b, s.c+t.c, s.d+t.d, s.e+t.e, s.f+t.f, s.g+t.g, s.h+t.h⟩
def block (s : St) (b : List UInt8) : St := addSt s (roundsTo (wTo b 64) s 64)
def blocks (s : St) (b : List UInt8) : Nat → St
  | 0 => s
  | n+1 => blocks (block s (b.take 64)) (b.drop 64) n
def byteBE (n : Nat) (i : Nat) : UInt8 := UInt8.ofNat (n >>> i)
def padZeros (n : Nat) : Nat := (119 - n % 64) % 64
def padded (b : List UInt8) : List UInt8 :=
  b ++ [0x80] ++ List.replicate (padZeros b.length) 0 ++ [byteBE (8*b.length) 56, byteBE (8*b.length) 48, byteBE (8*b.length) 40, byteBE (8*b.length) 32, byteBE (8*b.length) 24, byteBE (8*b.length) 16, byteBE (8*b.length) 8, byteBE (8*b.length) 0]
def St.toList (s : St) : List UInt32 := [s.a,s.b,s.c,s.d,s.e,s.f,s.g,s.h]
def dig (s : St) : List UInt8 := (List.range 32).map fun i => ((s.toList.getD (i/4) 0) >>> UInt32.ofNat (24 - 8*(i%4))).toUInt8
def sha (b : List UInt8) : List UInt8 := dig (blocks H0 (padded b) ((padded b).length/64))

/-! evaluator over Nat, strict -/
def force {α : Type} (n : Nat) (f : Nat → α) : α := Nat.rec (motive := fun _ => α) (f 0) (fun m _ => f (Nat.succ m)) n
theorem force_eq {α : Type} (n : Nat) (f : Nat → α) : force n f = f n := by cases n <;> rfl
def rN (x n : Nat) : Nat := Nat.lor (Nat.shiftRight x n) (Nat.mod (Nat.shiftLeft x (Nat.sub 32 n)) 4294967296)
def s0N (x : Nat) : Nat := Nat.xor (Nat.xor (rN x 7) (rN x 18)) (Nat.shiftRight x 3)
def s1N (x : Nat) : Nat := Nat.xor (Nat.xor (rN x 17) (rN x 19)) (Nat.shiftRight x 10)
def S1N (x : Nat) : Nat := Nat.xor (Nat.xor (rN x 6) (rN x 11)) (rN x 25)
def S0N (x : Nat) : Nat := Nat.xor (Nat.xor (rN x 2) (rN x 13)) (rN x 22)
def chN (e f g : Nat) : Nat := Nat.xor (Nat.land e f) (Nat.land (Nat.sub 4294967295 e) g)
def majN (a b c : Nat) : Nat := Nat.xor (Nat.xor (Nat.land a b) (Nat.land a c)) (Nat.land b c)
def addN (a b : Nat) : Nat := Nat.mod (Nat.add a b) 4294967296
def runN : List Nat → Nat → Nat → Nat → Nat → Nat → Nat → Nat → Nat → Nat → Nat → Nat → Nat → Nat → Nat → Nat → Nat →
    Nat → Nat → Nat → Nat → Nat → Nat → Nat → Nat → List Nat
  | [], _, _, _, _, _, _, _, _, _, _, _, _, _, _, _, _, a, b, c, d, e, f, g, h => [a,b,c,d,e,f,g,h]
  | k::ks, w0, w1, w2, w3, w4, w5, w6, w7, w8, w9, w10, w11, w12, w13, w14, w15, a, b, c, d, e, f, g, h =>
    force (addN (addN w0 (s0N w1)) (addN w9 (s1N w14))) fun nw =>
    force (addN (addN h (S1N e)) (addN (chN e f g) (addN k w0))) fun t1 =>
    force (addN t1 (addN (S0N a) (majN a b c))) fun na =>
    force (addN d t1) fun ne =>
    runN ks w1 w2 w3 w4 w5 w6 w7 w8 w9 w10 w11 w12 w13 w14 w15 nw na a b c ne e f g
def KN : List Nat := [0x428a2f98, 0x71374491, 0xb5c0fbcf, 0xe9b5dba5, 0x3956c25b, 0x59f111f1, 0x923f82a4, 0xab1c5ed5,
  0xd807aa98, 0x12835b01, 0x243185be, 0x550c7dc3, 0x72be5d74, 0x80deb1fe, 0x9bdc06a7, 0xc19bf174,
  0xe49b69c1, 0xefbe4786, 0x0fc19dc6, 0x240ca1cc, 0x2de92c6f, 0x4a7484aa, 0x5cb0a9dc, 0x76f988da,
  0x983e5152, 0xa831c66d, 0xb00327c8, 0xbf597fc7, 0xc6e00bf3, 0xd5a79147, 0x06ca6351, 0x14292967,
  0x27b70a85, 0x2e1b2138, 0x4d2c6dfc, 0x53380d13, 0x650a7354, 0x766a0abb, 0x81c2c92e, 0x92722c85,
  0xa2bfe8a1, 0xa81a664b, 0xc24b8b70, 0xc76c51a3, 0xd192e819, 0xd6990624, 0xf40e3585, 0x106aa070,
  0x19a4c116, 0x1e376c08, 0x2748774c, 0x34b0bcb5, 0x391c0cb3, 0x4ed8aa4a, 0x5b9cca4f, 0x682e6ff3,
  0x748f82ee, 0x78a5636f, 0x84c87814, 0x8cc70208, 0x90befffa, 0xa4506ceb, 0xbef9a3f7, 0xc67178f2]

theorem rotr_toNat (x n : UInt32) (h0 : 0 < n.toNat) (h1 : n.toNat < 32) : (rotr x n).toNat = rN x.toNat n.toNat := by
  unfold rotr rN
  have h2 : (32 - n).toNat = 32 - n.toNat := by
    rw [UInt32.toNat_sub_of_le _ _ (by rw [UInt32.le_iff_toNat_le]; simp; omega)]
    simp
  rw [UInt32.toNat_or, UInt32.toNat_shiftRight, UInt32.toNat_shiftLeft, h2, Nat.mod_eq_of_lt h1, Nat.mod_eq_of_lt (show 32 - n.toNat < 32 by omega)]
  rfl
theorem ssig0_toNat (x : UInt32) : (ssig0 x).toNat = s0N x.toNat := by
  unfold ssig0 s0N
  rw [UInt32.toNat_xor, UInt32.toNat_xor, rotr_toNat _ _ (by decide) (by decide), rotr_toNat _ _ (by decide) (by decide), UInt32.toNat_shiftRight]
  rfl
theorem ssig1_toNat (x : UInt32) : (ssig1 x).toNat = s1N x.toNat := by
  unfold ssig1 s1N
  rw [UInt32.toNat_xor, UInt32.toNat_xor, rotr_toNat _ _ (by decide) (by decide), rotr_toNat _ _ (by decide) (by decide), UInt32.toNat_shiftRight]
  rfl
theorem bsig0_toNat (x : UInt32) : (bsig0 x).toNat = S0N x.toNat := by
  unfold bsig0 S0N
  rw [UInt32.toNat_xor, UInt32.toNat_xor, rotr_toNat _ _ (by decide) (by decide), rotr_toNat _ _ (by decide) (by decide), rotr_toNat _ _ (by decide) (by decide)]
  rfl
theorem bsig1_toNat (x : UInt32) : (bsig1 x).toNat = S1N x.toNat := by
  unfold bsig1 S1N
  rw [UInt32.toNat_xor, UInt32.toNat_xor, rotr_toNat _ _ (by decide) (by decide), rotr_toNat _ _ (by decide) (by decide), rotr_toNat _ _ (by decide) (by decide)]
  rfl
theorem not_toNat (x : UInt32) : (~~~x).toNat = 4294967295 - x.toNat := by
  simp
theorem ch_toNat (e f g : UInt32) : (ch e f g).toNat = chN e.toNat f.toNat g.toNat := by
  unfold ch chN
  rw [UInt32.toNat_xor, UInt32.toNat_and, UInt32.toNat_and, not_toNat]
  rfl
theorem maj_toNat (e f g : UInt32) : (maj e f g).toNat = majN e.toNat f.toNat g.toNat := by
  unfold maj majN
  rw [UInt32.toNat_xor, UInt32.toNat_xor, UInt32.toNat_and, UInt32.toNat_and, UInt32.toNat_and]
  rfl
theorem add_toNat (a b : UInt32) : (a + b).toNat = addN a.toNat b.toNat := UInt32.toNat_add a b

/-- The words of a block. -/
def wd (b : List UInt8) (t : Nat) : UInt32 := (wTo b 64).getD t 0
theorem wTo_length (b : List UInt8) (n : Nat) : (wTo b n).length = 64 := by
  induction n with
  | zero => simp [wTo]
  | succ n ih => simp [wTo, ih]
theorem wTo_stays (b : List UInt8) (t n : Nat) (h : t < n) : (wTo b n).getD t 0 = (wTo b (t + 1)).getD t 0 := by
  induction n with
  | zero => omega
  | succ n ih =>
    by_cases e : t = n
    · rw [e]
    · rw [← ih (by omega)]
      conv => lhs; unfold wTo
      simp only [List.getD_eq_getElem?_getD]
      rw [List.getElem?_set_ne (by omega)]
theorem wTo_last (b : List UInt8) (t : Nat) (h : t < 64) : (wTo b (t + 1)).getD t 0 = wNext b (wTo b t) t := by
  conv => lhs; unfold wTo
  rw [List.getD_eq_getElem?_getD, List.getElem?_set_self (by rw [wTo_length]; exact h)]
  rfl
theorem wd_of (b : List UInt8) (t n : Nat) (h : t < n) (hn : n ≤ 64) : (wTo b n).getD t 0 = wd b t := by
  rw [wd, wTo_stays b t n h, wTo_stays b t 64 (by omega)]
theorem wd_lt (b : List UInt8) (t : Nat) (h : t < 16) : wd b t = wordAt b t := by
  rw [wd, wTo_stays b t 64 (by omega), wTo_last b t (by omega), wNext, if_pos h]
theorem wd_ge (b : List UInt8) (t : Nat) (h : 16 ≤ t) (h' : t < 64) : wd b t = wd b (t-16) + ssig0 (wd b (t-15)) + wd b (t-7) + ssig1 (wd b (t-2)) := by
  rw [wd, wTo_stays b t 64 (by omega), wTo_last b t (by omega), wNext, if_neg (by omega), wd_of b _ t (by omega) (by omega), wd_of b _ t (by omega) (by omega), wd_of b _ t (by omega) (by omega), wd_of b _ t (by omega) (by omega)]
def St.nats (s : St) : List Nat := [s.a.toNat, s.b.toNat, s.c.toNat, s.d.toNat, s.e.toNat, s.f.toNat, s.g.toNat, s.h.toNat]
theorem KN_eq : KN = K.map UInt32.toNat := by decide
theorem K_length : K.length = 64 := by decide
theorem addN_assoc4 (a b c d : Nat) : addN (addN a b) (addN c d) = addN (addN (addN a b) c) d := by
  show ((a + b) % 4294967296 + (c + d) % 4294967296) % 4294967296 = (((a + b) % 4294967296 + c) % 4294967296 + d) % 4294967296
  omega
theorem addN_five (h s c k w : Nat) : addN (addN h s) (addN c (addN k w)) = addN (addN (addN (addN h s) c) k) w := by
  show ((h + s) % 4294967296 + (c + (k + w) % 4294967296) % 4294967296) % 4294967296 = ((((h + s) % 4294967296 + c) % 4294967296 + k) % 4294967296 + w) % 4294967296
  omega
theorem runN_eq (b : List UInt8) (s : St) (n : Nat) : ∀ t, t + n = 64 → ∀ w0 w1 w2 w3 w4 w5 w6 w7 w8 w9 w10 w11 w12 w13 w14 w15 : Nat,
    (∀ i, i < 16 → t + i < 64 → [w0, w1, w2, w3, w4, w5, w6, w7, w8, w9, w10, w11, w12, w13, w14, w15].getD i 0 = (wd b (t + i)).toNat) →
    ∀ a c : St, a = roundsTo (wTo b 64) s t → c = roundsTo (wTo b 64) s 64 →
    runN (KN.drop t) w0 w1 w2 w3 w4 w5 w6 w7 w8 w9 w10 w11 w12 w13 w14 w15 a.a.toNat a.b.toNat a.c.toNat a.d.toNat a.e.toNat a.f.toNat a.g.toNat a.h.toNat = c.nats := by
  induction n with
  | zero =>
    intro t ht w0 w1 w2 w3 w4 w5 w6 w7 w8 w9 w10 w11 w12 w13 w14 w15 hw a c ha hc
    obtain rfl : t = 64 := by omega
    rw [List.drop_of_length_le (by decide)]
    rw [hc, ← ha]
    rfl
  | succ n ih =>
    intro t ht w0 w1 w2 w3 w4 w5 w6 w7 w8 w9 w10 w11 w12 w13 w14 w15 hw a c ha hc
    have hk : KN.drop t = (K.getD t 0).toNat :: KN.drop (t + 1) := by
      rw [List.drop_eq_getElem_cons (by rw [KN_eq, List.length_map, K_length]; omega)]
      congr 1
      simp only [KN_eq, List.getElem_map, List.getD_eq_getElem?_getD]
      rw [List.getElem?_eq_getElem (by rw [K_length]; omega)]
      rfl
    rw [hk]
    simp only [runN, force_eq]
    have e0 := hw 0 (by omega) (by omega)
    simp only [List.getD_cons_zero, Nat.add_zero] at e0
    have hst : stepSt a (K.getD t 0) (wd b t) = roundsTo (wTo b 64) s (t + 1) := by rw [ha]; rfl
    have h1 : addN (addN a.h.toNat (S1N a.e.toNat)) (addN (chN a.e.toNat a.f.toNat a.g.toNat) (addN (K.getD t 0).toNat w0)) = (a.h + bsig1 a.e + ch a.e a.f a.g + K.getD t 0 + wd b t).toNat := by
      rw [addN_five, e0, add_toNat, add_toNat, add_toNat, add_toNat, bsig1_toNat, ch_toNat]
    have h2 : addN (S0N a.a.toNat) (majN a.a.toNat a.b.toNat a.c.toNat) = (bsig0 a.a + maj a.a a.b a.c).toNat := by
      rw [add_toNat, bsig0_toNat, maj_toNat]
    rw [h1, h2, ← add_toNat, ← add_toNat]
    refine ih (t + 1) (by omega) _ _ _ _ _ _ _ _ _ _ _ _ _ _ _ _ ?_ (stepSt a (K.getD t 0) (wd b t)) c hst hc
    intro i hi hlt
    by_cases h15 : i = 15
    · subst h15
      have e1 := hw 1 (by omega) (by omega)
      have e9 := hw 9 (by omega) (by omega)
      have e14 := hw 14 (by omega) (by omega)
      simp only [List.getD_cons_zero, List.getD_cons_succ] at e1 e9 e14 ⊢
      rw [e0, e1, e9, e14, ← ssig0_toNat, ← ssig1_toNat, addN_assoc4, ← add_toNat, ← add_toNat, ← add_toNat, wd_ge b (t + 1 + 15) (by omega) (by omega)]
      rw [show t + 1 + 15 - 16 = t by omega, show t + 1 + 15 - 15 = t + 1 by omega, show t + 1 + 15 - 7 = t + 9 by omega, show t + 1 + 15 - 2 = t + 14 by omega]
    · have := hw (i + 1) (by omega) (by omega)
      rw [show t + 1 + i = t + (i + 1) by omega, ← this]
      have hi' : i < 15 := by omega
      rw [List.getD_cons_succ]
      obtain rfl | rfl | rfl | rfl | rfl | rfl | rfl | rfl | rfl | rfl | rfl | rfl | rfl | rfl | rfl : i = 0 ∨ i = 1 ∨ i = 2 ∨ i = 3 ∨ i = 4 ∨ i = 5 ∨ i = 6 ∨ i = 7 ∨ i = 8 ∨ i = 9 ∨ i = 10 ∨ i = 11 ∨ i = 12 ∨ i = 13 ∨ i = 14 := by omega
      all_goals rfl

def wordN (b : List Nat) (t : Nat) : Nat :=
  Nat.lor (Nat.lor (Nat.lor (Nat.mod (Nat.shiftLeft (b.getD (4*t) 0) 24) 4294967296) (Nat.mod (Nat.shiftLeft (b.getD (4*t+1) 0) 16) 4294967296)) (Nat.mod (Nat.shiftLeft (b.getD (4*t+2) 0) 8) 4294967296)) (b.getD (4*t+3) 0)
def addsN (s t : List Nat) : List Nat := List.zipWith addN s t
def forceAll : List Nat → (List Nat → List Nat) → List Nat
  | [], f => f []
  | x :: l, f => force x fun y => forceAll l fun r => f (y :: r)
theorem forceAll_eq (l : List Nat) (f : List Nat → List Nat) : forceAll l f = f l := by
  induction l generalizing f with
  | nil => rfl
  | cons x l ih => simp [forceAll, force_eq, ih]
def run8N (s w : List Nat) : List Nat :=
  runN KN (w.getD 0 0) (w.getD 1 0) (w.getD 2 0) (w.getD 3 0) (w.getD 4 0) (w.getD 5 0) (w.getD 6 0) (w.getD 7 0) (w.getD 8 0) (w.getD 9 0) (w.getD 10 0) (w.getD 11 0) (w.getD 12 0) (w.getD 13 0) (w.getD 14 0) (w.getD 15 0)
    (s.getD 0 0) (s.getD 1 0) (s.getD 2 0) (s.getD 3 0) (s.getD 4 0) (s.getD 5 0) (s.getD 6 0) (s.getD 7 0)
def blockN (s b : List Nat) : List Nat :=
  forceAll ((List.range 16).map (wordN b)) fun w => forceAll (addsN s (run8N s w)) id
def blocksN (s b : List Nat) : Nat → List Nat
  | 0 => s
  | n + 1 => forceAll (blockN s (b.take 64)) fun t => blocksN t (b.drop 64) n
def digN (s : List Nat) : List Nat := (List.range 32).map fun i => Nat.mod (Nat.shiftRight (s.getD (i/4) 0) (24 - 8*(i%4))) 256
def H0N : List Nat := [0x6a09e667, 0xbb67ae85, 0x3c6ef372, 0xa54ff53a, 0x510e527f, 0x9b05688c, 0x1f83d9ab, 0x5be0cd19]
def paddedN (b : List Nat) : List Nat :=
  b ++ [128] ++ List.replicate (padZeros b.length) 0 ++ [(8*b.length) >>> 56 % 256, (8*b.length) >>> 48 % 256, (8*b.length) >>> 40 % 256, (8*b.length) >>> 32 % 256, (8*b.length) >>> 24 % 256, (8*b.length) >>> 16 % 256, (8*b.length) >>> 8 % 256, (8*b.length) >>> 0 % 256]
/-- The digest, over natural numbers: the kernel works it out at once. -/
def shaN (b : List Nat) : List Nat := forceAll (paddedN b) fun p => forceAll (digN (blocksN H0N p (p.length/64))) id

def ns (l : List UInt8) : List Nat := l.map UInt8.toNat
theorem ns_getD (l : List UInt8) (i : Nat) : (ns l).getD i 0 = (l.getD i 0).toNat := by
  simp only [ns, List.getD_eq_getElem?_getD, List.getElem?_map]
  cases l[i]? <;> rfl
theorem wordN_eq (b : List UInt8) (t : Nat) : wordN (ns b) t = (wordAt b t).toNat := by
  unfold wordN wordAt be32
  rw [ns_getD, ns_getD, ns_getD, ns_getD, UInt32.toNat_or, UInt32.toNat_or, UInt32.toNat_or, UInt32.toNat_shiftLeft, UInt32.toNat_shiftLeft, UInt32.toNat_shiftLeft,
    UInt8.toNat_toUInt32, UInt8.toNat_toUInt32, UInt8.toNat_toUInt32, UInt8.toNat_toUInt32]
  rfl
theorem run8N_eq (s : St) (b : List UInt8) : run8N s.nats ((List.range 16).map (wordN (ns b))) = (roundsTo (wTo b 64) s 64).nats := by
  refine runN_eq b s 64 0 rfl _ _ _ _ _ _ _ _ _ _ _ _ _ _ _ _ ?_ s _ rfl rfl
  intro i hi _
  rw [Nat.zero_add, wd_lt b i hi, ← wordN_eq]
  obtain rfl | rfl | rfl | rfl | rfl | rfl | rfl | rfl | rfl | rfl | rfl | rfl | rfl | rfl | rfl | rfl : i = 0 ∨ i = 1 ∨ i = 2 ∨ i = 3 ∨ i = 4 ∨ i = 5 ∨ i = 6 ∨ i = 7 ∨ i = 8 ∨ i = 9 ∨ i = 10 ∨ i = 11 ∨ i = 12 ∨ i = 13 ∨ i = 14 ∨ i = 15 := by omega
  all_goals rfl
theorem addSt_nats (s t : St) : (addSt s t).nats = addsN s.nats t.nats := by
  simp only [St.nats, addSt, addsN, List.zipWith_cons_cons, List.zipWith_nil_left, add_toNat]
theorem blockN_eq (s : St) (b : List UInt8) : blockN s.nats (ns b) = (block s b).nats := by
  unfold blockN block
  rw [forceAll_eq, forceAll_eq, run8N_eq, id, addSt_nats]
theorem blocksN_eq (n : Nat) : ∀ (s : St) (b : List UInt8), blocksN s.nats (ns b) n = (blocks s b n).nats := by
  induction n with
  | zero => intro s b; rfl
  | succ n ih =>
    intro s b
    unfold blocksN blocks
    rw [forceAll_eq, ← ih, ← blockN_eq]
    simp only [ns, List.map_take, List.map_drop]
theorem digN_eq (s : St) : digN s.nats = ns (dig s) := by
  unfold digN dig ns
  rw [List.map_map]
  refine List.map_congr_left fun i hi => ?_
  have hi' : i < 32 := List.mem_range.1 hi
  rw [Function.comp, UInt32.toNat_toUInt8, UInt32.toNat_shiftRight]
  have h1 : (UInt32.ofNat (24 - 8 * (i % 4))).toNat % 32 = 24 - 8 * (i % 4) := by
    rw [UInt32.toNat_ofNat']; omega
  rw [h1]
  have h2 : s.nats.getD (i / 4) 0 = (s.toList.getD (i / 4) 0).toNat := by
    have : s.nats = s.toList.map UInt32.toNat := rfl
    rw [this]
    simp only [List.getD_eq_getElem?_getD, List.getElem?_map]
    cases s.toList[i/4]? <;> rfl
  rw [h2]
  rfl
theorem H0_nats : H0.nats = H0N := by decide
theorem padded_ns (b : List UInt8) : ns (padded b) = paddedN (ns b) := by
  simp only [ns, padded, paddedN, List.map_append, List.map_replicate, List.map_cons, List.map_nil, List.length_map, byteBE, UInt8.toNat_ofNat]
  rfl
theorem shaN_eq (b : List UInt8) : shaN (ns b) = ns (sha b) := by
  unfold shaN sha
  rw [forceAll_eq, forceAll_eq, ← padded_ns, ← H0_nats, blocksN_eq, digN_eq]
  simp [ns]
theorem ns_inj {a b : List UInt8} (h : ns a = ns b) : a = b := by
  refine List.map_inj_right (f := UInt8.toNat) (fun x y h => UInt8.toNat_inj.1 h) |>.1 h
theorem sha_none : sha [] = [0xe3, 0xb0, 0xc4, 0x42, 0x98, 0xfc, 0x1c, 0x14, 0x9a, 0xfb, 0xf4, 0xc8, 0x99, 0x6f, 0xb9, 0x24, 0x27, 0xae, 0x41, 0xe4, 0x64, 0x9b, 0x93, 0x4c, 0xa4, 0x95, 0x99, 0x1b, 0x78, 0x52, 0xb8, 0x55] := by
  apply ns_inj; rw [← shaN_eq]; decide +kernel
theorem sha_abc : sha [97,98,99] = [0xba, 0x78, 0x16, 0xbf, 0x8f, 0x01, 0xcf, 0xea, 0x41, 0x41, 0x40, 0xde, 0x5d, 0xae, 0x22, 0x23, 0xb0, 0x03, 0x61, 0xa3, 0x96, 0x17, 0x7a, 0x9c, 0xb4, 0x10, 0xff, 0x61, 0xf2, 0x00, 0x15, 0xad] := by
  apply ns_inj; rw [← shaN_eq]; decide +kernel
theorem wNext_append (b c : List UInt8) (w : List UInt32) (t : Nat) (h : 64 ≤ b.length) : wNext (b ++ c) w t = wNext b w t := by
  unfold wNext
  split
  · rename_i hlt
    unfold wordAt
    have g : ∀ i, i < b.length → (b ++ c).getD i 0 = b.getD i 0 := by
      intro i hi
      simp only [List.getD_eq_getElem?_getD, List.getElem?_append_left hi]
    rw [g _ (by omega), g _ (by omega), g _ (by omega), g _ (by omega)]
  · rfl
theorem wTo_append (b c : List UInt8) (h : 64 ≤ b.length) (n : Nat) : wTo (b ++ c) n = wTo b n := by
  induction n with
  | zero => rfl
  | succ n ih =>
    unfold wTo
    rw [ih, wNext_append b c _ _ h]
theorem block_take (s : St) (b c : List UInt8) (h : 64 ≤ b.length) : block s (b ++ c) = block s b := by
  unfold block
  rw [wTo_append b c h]
theorem block_take64 (s : St) (b : List UInt8) (h : 64 ≤ b.length) : block s (b.take 64) = block s b := by
  conv => rhs; rw [← List.take_append_drop 64 b]
  rw [block_take _ _ _ (by rw [List.length_take]; omega)]
theorem blocks_add (i : Nat) : ∀ (s : St) (b : List UInt8) (j : Nat), blocks s b (i + j) = blocks (blocks s b i) (b.drop (64 * i)) j := by
  induction i with
  | zero => intro s b j; simp [blocks]
  | succ i ih =>
    intro s b j
    rw [show i + 1 + j = (i + j) + 1 by omega]
    conv => lhs; unfold blocks
    conv => rhs; arg 1; unfold blocks
    rw [ih, List.drop_drop]
    congr 2
    omega
theorem blocks_last (s : St) (b : List UInt8) (i : Nat) : blocks s b (i + 1) = block (blocks s b i) ((b.drop (64 * i)).take 64) := by
  rw [blocks_add]; rfl
theorem blocks_append (i : Nat) : ∀ (s : St) (b c : List UInt8), 64 * i ≤ b.length → blocks s (b ++ c) i = blocks s b i := by
  induction i with
  | zero => intro s b c _; rfl
  | succ i ih =>
    intro s b c h
    unfold blocks
    rw [List.take_append_of_le_length (by omega), List.drop_append_of_le_length (by omega), ih _ _ _ (by rw [List.length_drop]; omega)]
theorem padZeros_spec (n : Nat) : (n + 1 + padZeros n) % 64 = 56 ∧ padZeros n < 64 := by unfold padZeros; omega
theorem padded_length (b : List UInt8) : (padded b).length = b.length + 9 + padZeros b.length := by
  simp [padded]; omega
theorem padded_mod (b : List UInt8) : (padded b).length % 64 = 0 := by
  have := padZeros_spec b.length
  rw [padded_length]; omega
/-- What lies behind the whole blocks of some bytes. -/
def tailOf (b : List UInt8) : List UInt8 := (padded b).drop (64 * (b.length / 64))
def padEnd (n : Nat) : List UInt8 := [0x80] ++ List.replicate (padZeros n) 0 ++ [byteBE (8*n) 56, byteBE (8*n) 48, byteBE (8*n) 40, byteBE (8*n) 32, byteBE (8*n) 24, byteBE (8*n) 16, byteBE (8*n) 8, byteBE (8*n) 0]
theorem padded_eq (b : List UInt8) : padded b = b ++ padEnd b.length := by simp [padded, padEnd]
theorem tailOf_eq (b : List UInt8) : tailOf b = b.drop (64 * (b.length / 64)) ++ padEnd b.length := by
  rw [tailOf, padded_eq, List.drop_append_of_le_length (by omega)]
theorem tailOf_length (b : List UInt8) : (tailOf b).length = (padded b).length - 64 * (b.length / 64) := by rw [tailOf, List.length_drop]
theorem sha_two (b : List UInt8) : sha b = dig (blocks (blocks H0 b (b.length / 64)) (tailOf b) ((tailOf b).length / 64)) := by
  have hp := padded_length b
  have hm := padded_mod b
  unfold sha
  congr 1
  rw [show (padded b).length / 64 = b.length / 64 + (tailOf b).length / 64 by rw [tailOf_length]; omega]
  rw [blocks_add]
  congr 1
  rw [padded_eq, blocks_append _ _ _ _ (by omega)]
/-! Numbers by digits to the base 2^16, the lowest first. -/
def dgs : Nat → Nat → List Nat
  | 0, _ => []
  | c + 1, n => n % 65536 :: dgs c (n / 65536)
def val : List Nat → Nat
  | [] => 0
  | x :: l => x + 65536 * val l
theorem dgs_length (c : Nat) : ∀ n, (dgs c n).length = c := by
  induction c with
  | zero => intro n; rfl
  | succ c ih => intro n; simp [dgs, ih]
theorem dgs_lt (c : Nat) : ∀ n, ∀ x ∈ dgs c n, x < 65536 := by
  induction c with
  | zero => intro n x hx; cases hx
  | succ c ih =>
    intro n x hx
    rcases List.mem_cons.1 hx with rfl | h
    · omega
    · exact ih _ x h
theorem val_dgs (c : Nat) : ∀ n, val (dgs c n) = n % 65536 ^ c := by
  induction c with
  | zero => intro n; simp [dgs, val, Nat.mod_one]
  | succ c ih =>
    intro n
    rw [dgs, val, ih, Nat.pow_succ, Nat.mul_comm (65536 ^ c) 65536, Nat.mod_mul]
theorem dgs_val (l : List Nat) (h : ∀ x ∈ l, x < 65536) : dgs l.length (val l) = l := by
  induction l with
  | nil => rfl
  | cons x l ih =>
    have hx := h x (by simp)
    rw [List.length_cons, val, dgs, show (x + 65536 * val l) % 65536 = x by omega, show (x + 65536 * val l) / 65536 = val l by omega, ih (fun y hy => h y (by simp [hy]))]
theorem dgs_mod (c : Nat) : ∀ n, dgs c (n % 65536 ^ c) = dgs c n := by
  induction c with
  | zero => intro n; rfl
  | succ c ih =>
    intro n
    have h1 : n % 65536 ^ (c + 1) % 65536 = n % 65536 := Nat.mod_mod_of_dvd _ ⟨65536 ^ c, by rw [Nat.pow_succ, Nat.mul_comm]⟩
    have h2 : n % 65536 ^ (c + 1) / 65536 = n / 65536 % 65536 ^ c := by
      rw [Nat.pow_succ, Nat.mul_comm (65536 ^ c) 65536, Nat.mod_mul]
      have : n % 65536 < 65536 := Nat.mod_lt _ (by omega)
      omega
    rw [dgs, h1, h2, ih]
    rfl
/-- Digits are told by their value, but for what is past them. -/
theorem dgs_of_mod (l : List Nat) (c N : Nat) (hl : l.length = c) (h : ∀ x ∈ l, x < 65536) (e : val l % 65536 ^ c = N % 65536 ^ c) : l = dgs c N := by
  rw [← dgs_mod, ← e, dgs_mod, ← hl, dgs_val l h]
theorem val_set (l : List Nat) : ∀ (j y : Nat), j < l.length → val (l.set j y) + l.getD j 0 * 65536 ^ j = val l + y * 65536 ^ j := by
  induction l with
  | nil => intro j y h; simp at h
  | cons x l ih =>
    intro j y h
    cases j with
    | zero => simp only [List.set_cons_zero, val, List.getD_cons_zero, Nat.pow_zero]; omega
    | succ j =>
      have := ih j y (by simpa using h)
      simp only [List.set_cons_succ, val, List.getD_cons_succ, Nat.pow_succ]
      have e1 : l.getD j 0 * (65536 ^ j * 65536) = 65536 * (l.getD j 0 * 65536 ^ j) := by rw [← Nat.mul_assoc, Nat.mul_comm]
      have e2 : y * (65536 ^ j * 65536) = 65536 * (y * 65536 ^ j) := by rw [← Nat.mul_assoc, Nat.mul_comm]
      rw [e1, e2]
      omega
theorem val_take_succ (l : List Nat) : ∀ (k : Nat), k < l.length → val (l.take (k + 1)) = val (l.take k) + l.getD k 0 * 65536 ^ k := by
  induction l with
  | nil => intro k h; simp at h
  | cons x l ih =>
    intro k h
    cases k with
    | zero => simp [val]
    | succ k =>
      have := ih k (by simpa using h)
      simp only [List.take_succ_cons, val, List.getD_cons_succ, Nat.pow_succ, this]
      have e1 : l.getD k 0 * (65536 ^ k * 65536) = 65536 * (l.getD k 0 * 65536 ^ k) := by rw [← Nat.mul_assoc, Nat.mul_comm]
      rw [e1]
      omega
theorem val_take (l : List Nat) (k : Nat) : ∃ q, val l = val (l.take k) + q * 65536 ^ k := by
  induction k generalizing l with
  | zero => exact ⟨val l, by simp [val]⟩
  | succ k ih =>
    cases l with
    | nil => exact ⟨0, by simp [val]⟩
    | cons x l =>
      obtain ⟨q, hq⟩ := ih l
      refine ⟨q, ?_⟩
      simp only [List.take_succ_cons, val, Nat.pow_succ]
      have e1 : q * (65536 ^ k * 65536) = 65536 * (q * 65536 ^ k) := by rw [← Nat.mul_assoc, Nat.mul_comm]
      rw [e1]
      omega
theorem val_lt (l : List Nat) (h : ∀ x ∈ l, x < 65536) : val l < 65536 ^ l.length := by
  induction l with
  | nil => simp [val]
  | cons x l ih =>
    have := ih (fun y hy => h y (by simp [hy]))
    have := h x (by simp)
    rw [val, List.length_cons, Nat.pow_succ]
    omega
/-- A round of the inner loop. -/
theorem times_step (out : List Nat) (j x carry p : Nat) (hj : j < out.length) (hx : x = out.getD j 0 + p + carry) :
    val (out.set j (x % 65536)) + x / 65536 * 65536 ^ (j + 1) = val out + carry * 65536 ^ j + p * 65536 ^ j := by
  have h := val_set out j (x % 65536) hj
  have h1 : x * 65536 ^ j = x % 65536 * 65536 ^ j + x / 65536 * 65536 ^ (j + 1) := by
    rw [Nat.pow_succ, Nat.mul_comm (65536 ^ j) 65536, ← Nat.mul_assoc, ← Nat.add_mul]
    congr 1
    omega
  have h2 : x * 65536 ^ j = out.getD j 0 * 65536 ^ j + p * 65536 ^ j + carry * 65536 ^ j := by rw [hx, Nat.add_mul, Nat.add_mul]
  omega
/-- The inner loop's end. -/
theorem times_row (out a b : List Nat) (i V0 carry : Nat) (hi : i ≤ 10)
    (h : val out + carry * 65536 ^ 10 = V0 + a.getD i 0 * val (b.take (10 - i)) * 65536 ^ i) :
    val out % 65536 ^ 10 = (V0 + a.getD i 0 * val b * 65536 ^ i) % 65536 ^ 10 := by
  obtain ⟨q, hq⟩ := val_take b (10 - i)
  have hp : (65536 : Nat) ^ 10 = 65536 ^ (10 - i) * 65536 ^ i := by rw [← Nat.pow_add]; congr 1; omega
  have e : V0 + a.getD i 0 * val b * 65536 ^ i = val out + carry * 65536 ^ 10 + a.getD i 0 * q * 65536 ^ 10 := by
    rw [h, hq, hp, Nat.mul_add, Nat.add_mul]
    have : a.getD i 0 * (q * 65536 ^ (10 - i)) * 65536 ^ i = a.getD i 0 * q * (65536 ^ (10 - i) * 65536 ^ i) := by
      simp only [Nat.mul_assoc]
    omega
  rw [e, Nat.add_mul_mod_self_right, Nat.add_mul_mod_self_right]

/-- The number at which a search by bits ends: from a bit on. -/
def rootFrom (p power : Nat) : Nat → Nat → Nat
  | 0, x => x
  | c + 1, x => force (if (x + 2 ^ c) ^ power ≤ p * 65536 ^ (2 * power) then x + 2 ^ c else x) fun y => rootFrom p power c y
def rootN (p power : Nat) : Nat := rootFrom p power 38 0 % 4294967296
def primeB (n : Nat) : Bool := decide (1 < n) && (List.range n).all fun k => k < 2 || n < k * k || n % k != 0
def primesTo (n : Nat) : List Nat := (List.range n).filter primeB
theorem primes_64 : (primesTo 312).length = 64 := by decide +kernel
theorem roots_3 : (primesTo 312).map (fun p => rootN p 3) = KN := by decide +kernel
theorem roots_2 : ((primesTo 312).take 8).map (fun p => rootN p 2) = H0N := by decide +kernel
theorem val_append (l r : List Nat) : val (l ++ r) = val l + 65536 ^ l.length * val r := by
  induction l with
  | nil => simp [val]
  | cons x l ih =>
    rw [List.cons_append, val, ih, val, List.length_cons, Nat.pow_succ, Nat.mul_add, Nat.mul_comm (65536 ^ l.length) 65536, Nat.mul_assoc, Nat.add_assoc]
theorem val_gt (a b : List Nat) (i : Nat) (hl : a.length = b.length) (hi : i < a.length) (hb : ∀ x ∈ b, x < 65536)
    (hd : a.drop (i + 1) = b.drop (i + 1)) (h : b.getD i 0 < a.getD i 0) : val b < val a := by
  have split : ∀ l : List Nat, i < l.length → val l = val (l.take i) + 65536 ^ i * (l.getD i 0 + 65536 * val (l.drop (i + 1))) := by
    intro l hl
    conv => lhs; rw [← List.take_append_drop i l, val_append, List.drop_eq_getElem_cons hl]
    rw [val, List.length_take, Nat.min_eq_left (by omega), List.getD_eq_getElem?_getD, List.getElem?_eq_getElem hl]
    rfl
  have h1 := split a hi
  have h2 := split b (by omega)
  have h3 : val (b.take i) < 65536 ^ i := by
    have := val_lt (b.take i) (fun x hx => hb x (List.mem_of_mem_take hx))
    rwa [List.length_take, Nat.min_eq_left (by omega)] at this
  rw [hd] at h1
  have h4 : 65536 ^ i * (b.getD i 0 + 65536 * val (b.drop (i + 1)) + 1) ≤ 65536 ^ i * (a.getD i 0 + 65536 * val (b.drop (i + 1))) := Nat.mul_le_mul_left _ (by omega)
  rw [Nat.mul_add _ _ 1, Nat.mul_one] at h4
  rw [h1, h2]
  refine Nat.lt_of_lt_of_le (Nat.add_lt_add_right h3 _) (Nat.le_trans ?_ (Nat.le_add_left _ _))
  rw [Nat.add_comm]
  exact h4
theorem drop_step (a b : List Nat) (i : Nat) (hi : i < a.length) (hl : a.length = b.length) (hd : a.drop (i + 1) = b.drop (i + 1)) (h : a.getD i 0 = b.getD i 0) : a.drop i = b.drop i := by
  rw [List.drop_eq_getElem_cons hi, List.drop_eq_getElem_cons (show i < b.length by omega), hd]
  congr 1
  simpa [List.getD_eq_getElem?_getD, List.getElem?_eq_getElem hi, List.getElem?_eq_getElem (show i < b.length by omega)] using h
theorem dgs_zero (c : Nat) : dgs c 0 = List.replicate c 0 := by
  induction c with
  | zero => rfl
  | succ c ih => simp [dgs, ih, List.replicate_succ]
theorem dgs_small (c d : Nat) : ∀ n, n < 65536 ^ c → dgs (c + d) n = dgs c n ++ List.replicate d 0 := by
  induction c with
  | zero => intro n h; simp at h; subst h; simp [dgs, dgs_zero]
  | succ c ih =>
    intro n h
    rw [show c + 1 + d = (c + d) + 1 by omega, dgs, dgs, ih, List.cons_append]
    rw [Nat.pow_succ] at h
    omega
theorem dgs_getD (c : Nat) : ∀ (n i : Nat), i < c → (dgs c n).getD i 0 = n / 65536 ^ i % 65536 := by
  induction c with
  | zero => intro n i h; omega
  | succ c ih =>
    intro n i h
    cases i with
    | zero => simp [dgs]
    | succ i => rw [dgs, List.getD_cons_succ, ih _ _ (by omega), Nat.div_div_eq_div_mul, Nat.pow_succ, Nat.mul_comm 65536]
end Mur
