/- Layer 5: the sum of the document, 32 bits: what it is. -/
import Derived.Test.YtbpihljkkkeijaaDoorS11
namespace Go.Proofs.YtbpihljkkkeijaaDoor
open Go.Dbr
set_option maxRecDepth 100000
set_option maxHeartbeats 2000000
set_option linter.unusedVariables false
set_option linter.unusedSimpArgs false

def rw32 (bl : List UInt8) (f t : Nat) : UInt32 := ((UInt8.toUInt32 (List.getD bl (f + 4 * t) 0) <<< UInt32.ofNat 24 ||| UInt8.toUInt32 (List.getD bl (f + 4 * t + 1) 0) <<< UInt32.ofNat 16) ||| UInt8.toUInt32 (List.getD bl (f + 4 * t + 2) 0) <<< UInt32.ofNat 8) ||| UInt8.toUInt32 (List.getD bl (f + 4 * t + 3) 0)
def rwF32 (bl : List UInt8) (f : Nat) : Nat → List UInt32
  | 0 => List.replicate 64 0
  | t + 1 => List.set (rwF32 bl f t) t (rw32 bl f t)
def rsF32 (W : List UInt32) : Nat → List UInt32
  | 0 => W
  | q + 1 => List.set (rsF32 W q) (16 + q) (((mix32 (List.getD (rsF32 W q) (14 + q) 0) 17 19 10 true + List.getD (rsF32 W q) (9 + q) 0) + mix32 (List.getD (rsF32 W q) (1 + q) 0) 7 18 3 true) + List.getD (rsF32 W q) q 0)
def rx32 (v : List UInt32) (k w : UInt32) : UInt32 := (((List.getD v 7 0 + mix32 (List.getD v 4 0) 6 11 25 false) + ((List.getD v 4 0 &&& List.getD v 5 0) ^^^ (((4294967295 : UInt32) ^^^ List.getD v 4 0) &&& List.getD v 6 0))) + k) + w
def ry32 (v : List UInt32) : UInt32 := mix32 (List.getD v 0 0) 2 13 22 false + (((List.getD v 0 0 &&& List.getD v 1 0) ^^^ (List.getD v 0 0 &&& List.getD v 2 0)) ^^^ (List.getD v 1 0 &&& List.getD v 2 0))
def rst32 (v : List UInt32) (k w : UInt32) : List UInt32 := [rx32 v k w + ry32 v, List.getD v 0 0, List.getD v 1 0, List.getD v 2 0, List.getD v 3 0 + rx32 v k w, List.getD v 4 0, List.getD v 5 0, List.getD v 6 0]
def rr32 (W v : List UInt32) : Nat → List UInt32
  | 0 => v
  | j + 1 => rst32 (rr32 W v j) (List.getD K32 j 0) (List.getD W j 0)
def rfeed32 (s : List UInt32) (bl : List UInt8) : Nat → List UInt32
  | 0 => s
  | q + 1 => add32 (rfeed32 s bl q) (rr32 (rsF32 (rwF32 bl (64 * q) 16) 48) (rfeed32 s bl q) 64) 8
theorem rwF32_len (bl : List UInt8) (f t : Nat) : (rwF32 bl f t).length = 64 := by
  induction t with
  | zero => rfl
  | succ t ih => simp [rwF32, ih]
theorem rsF32_len {W : List UInt32} {m : Nat} (h : W.length = m) (q : Nat) : (rsF32 W q).length = m := by
  induction q with
  | zero => exact h
  | succ q ih => simp [rsF32, ih]
theorem rr32_len {v : List UInt32} (W : List UInt32) (h : v.length = 8) (j : Nat) : (rr32 W v j).length = 8 := by
  cases j with
  | zero => exact h
  | succ j => rfl
theorem rfeed32_len {s : List UInt32} (h : s.length = 8) (bl : List UInt8) (q : Nat) : (rfeed32 s bl q).length = 8 := by
  induction q with
  | zero => exact h
  | succ q ih => exact add32_len ih _ _
theorem pad32_mod (al : List UInt8) : (al ++ padB 64 (al.length % 64) al.length).length % 64 = 0 := by
  simp only [padB, pdZ, be8, List.length_append, List.length_replicate, List.length_cons, List.length_nil]
  omega

def rby64 (bl : List UInt8) (f t : Nat) : Nat → UInt64
  | 0 => 0
  | i + 1 => (rby64 bl f t i <<< UInt64.ofNat 8) ||| UInt8.toUInt64 (List.getD bl (f + 8 * t + i) 0)
def rwI64 (V : List UInt64) (bl : List UInt8) (f t : Nat) : Nat → List UInt64
  | 0 => V
  | i + 1 => List.set (rwI64 V bl f t i) t ((List.getD (rwI64 V bl f t i) t 0 <<< UInt64.ofNat 8) ||| UInt8.toUInt64 (List.getD bl (f + 8 * t + i) 0))
theorem rwI64_len {V : List UInt64} {m : Nat} (h : V.length = m) (bl : List UInt8) (f t i : Nat) : (rwI64 V bl f t i).length = m := by
  induction i with
  | zero => exact h
  | succ i ih => simp [rwI64, ih]

def rw64 (bl : List UInt8) (f t : Nat) : UInt64 := rby64 bl f t 8
def rwF64 (bl : List UInt8) (f : Nat) : Nat → List UInt64
  | 0 => List.replicate 80 0
  | t + 1 => rwI64 (rwF64 bl f t) bl f t 8
def rsF64 (W : List UInt64) : Nat → List UInt64
  | 0 => W
  | q + 1 => List.set (rsF64 W q) (16 + q) (((mix64 (List.getD (rsF64 W q) (14 + q) 0) 19 61 6 true + List.getD (rsF64 W q) (9 + q) 0) + mix64 (List.getD (rsF64 W q) (1 + q) 0) 1 8 7 true) + List.getD (rsF64 W q) q 0)
def rx64 (v : List UInt64) (k w : UInt64) : UInt64 := (((List.getD v 7 0 + mix64 (List.getD v 4 0) 14 18 41 false) + ((List.getD v 4 0 &&& List.getD v 5 0) ^^^ (((18446744073709551615 : UInt64) ^^^ List.getD v 4 0) &&& List.getD v 6 0))) + k) + w
def ry64 (v : List UInt64) : UInt64 := mix64 (List.getD v 0 0) 28 34 39 false + (((List.getD v 0 0 &&& List.getD v 1 0) ^^^ (List.getD v 0 0 &&& List.getD v 2 0)) ^^^ (List.getD v 1 0 &&& List.getD v 2 0))
def rst64 (v : List UInt64) (k w : UInt64) : List UInt64 := [rx64 v k w + ry64 v, List.getD v 0 0, List.getD v 1 0, List.getD v 2 0, List.getD v 3 0 + rx64 v k w, List.getD v 4 0, List.getD v 5 0, List.getD v 6 0]
def rr64 (W v : List UInt64) : Nat → List UInt64
  | 0 => v
  | j + 1 => rst64 (rr64 W v j) (List.getD K64 j 0) (List.getD W j 0)
def rfeed64 (s : List UInt64) (bl : List UInt8) : Nat → List UInt64
  | 0 => s
  | q + 1 => add64 (rfeed64 s bl q) (rr64 (rsF64 (rwF64 bl (128 * q) 16) 64) (rfeed64 s bl q) 80) 8
theorem rwF64_len (bl : List UInt8) (f t : Nat) : (rwF64 bl f t).length = 80 := by
  induction t with
  | zero => rfl
  | succ t ih => exact rwI64_len ih _ _ _ _
theorem rsF64_len {W : List UInt64} {m : Nat} (h : W.length = m) (q : Nat) : (rsF64 W q).length = m := by
  induction q with
  | zero => exact h
  | succ q ih => simp [rsF64, ih]
theorem rr64_len {v : List UInt64} (W : List UInt64) (h : v.length = 8) (j : Nat) : (rr64 W v j).length = 8 := by
  cases j with
  | zero => exact h
  | succ j => rfl
theorem rfeed64_len {s : List UInt64} (h : s.length = 8) (bl : List UInt8) (q : Nat) : (rfeed64 s bl q).length = 8 := by
  induction q with
  | zero => exact h
  | succ q ih => exact add64_len ih _ _
theorem pad64_mod (al : List UInt8) : (al ++ padB 128 (al.length % 128) al.length).length % 128 = 0 := by
  simp only [padB, pdZ, be8, List.length_append, List.length_replicate, List.length_cons, List.length_nil]
  omega

def ro32 (s : List UInt32) : Nat → List UInt8
  | 0 => []
  | i + 1 => ro32 s i ++ [UInt32.toUInt8 (List.getD s i 0 >>> UInt32.ofNat 24), UInt32.toUInt8 (List.getD s i 0 >>> UInt32.ofNat 16), UInt32.toUInt8 (List.getD s i 0 >>> UInt32.ofNat 8), UInt32.toUInt8 (List.getD s i 0)]

def ro64 (s : List UInt64) : Nat → List UInt8
  | 0 => []
  | i + 1 => ro64 s i ++ be8 (List.getD s i 0)

end Go.Proofs.YtbpihljkkkeijaaDoor
