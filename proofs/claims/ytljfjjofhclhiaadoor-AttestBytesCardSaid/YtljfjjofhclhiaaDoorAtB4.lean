/- AttestBytes, walked. -/
import Derived.Test.YtljfjjofhclhiaaDoorAtB1
import Derived.Test.YtljfjjofhclhiaaDoorAtB2
import Derived.Test.YtljfjjofhclhiaaDoorAtB3
namespace Go.Proofs.YtljfjjofhclhiaaDoor
open Go.RowKit
open Mur (b8s Byt Own8 Seg Segs flat cutA attC)
set_option maxRecDepth 100000
set_option maxHeartbeats 4000000
theorem abytes_any (k1 r1 t1 : List UInt8) (n1 : Int) (hk1 : k1.length = 32) (hr1 : r1.length = 32) (ht1 : t1.length = 32) (hwn1 : (Lit.int .i64 n1).wf = true) (k2 r2 t2 : List UInt8) (n2 : Int) (hk2 : k2.length = 32) (hr2 : r2.length = 32) (ht2 : t2.length = 32) (_hwn2 : (Lit.int .i64 n2).wf = true) (b : List UInt8) (A : Option Addr) (n c : Nat) (w : World) (hv : ShaVars w) (hb : Byt w A n b) (hnc : n ≤ c) : Calls Tryd.prog 11 #[.agg (attC k1 r1 n1 t1).toArray, .agg (attC k2 r2 n2 t2).toArray, .slice A n c] w fun e w' => e = .returned (.bool true) ∧ Below w.heap.size w w' := by
  by_cases hn4 : n = 104
  · subst hn4
    obtain ⟨gb, ob, rfl, _⟩ := hb.2 (by omega)
    by_cases hV5 : 1 ≤ Mur.be8 ((b.take 72).drop 64) ∧ Mur.be8 ((b.take 72).drop 64) ≤ 5000
    · exact abytes_ok k1 r1 t1 n1 hk1 hr1 ht1 hwn1 k2 r2 t2 n2 hk2 hr2 ht2 _hwn2 gb ob c b _ _ _ _ _ w hv hb hnc rfl rfl rfl rfl rfl hV5
    · exact abytes_bad k1 r1 t1 n1 hk1 hr1 ht1 hwn1 k2 r2 t2 n2 hk2 hr2 ht2 _hwn2 gb ob c b _ _ _ _ _ w hv hb hnc rfl rfl rfl rfl rfl hV5
  · exact abytes_len k1 r1 t1 n1 hk1 hr1 ht1 hwn1 k2 r2 t2 n2 hk2 hr2 ht2 _hwn2 b A n c w hv hb hn4
end Go.Proofs.YtljfjjofhclhiaaDoor
