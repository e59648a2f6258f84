/- Layer 5: sums. -/
import Derived.Test.YtbpihljkkkeijaaDoorS8
namespace Go.Proofs.YtbpihljkkkeijaaDoor
open Go.Dbr
set_option maxRecDepth 100000
set_option maxHeartbeats 2000000
set_option linter.unusedVariables false
set_option linter.unusedSimpArgs false

def pdZ (sz r : Nat) : Nat := (sz - (r + 1 + sz / 8) % sz) % sz
def padB (sz : Nat) (r n : Nat) : List UInt8 := ((([128] : List UInt8) ++ List.replicate (pdZ sz r) 0) ++ List.replicate (sz / 8 - 8) 0) ++ be8 (UInt64.ofNat n * 8)
theorem padB_len (sz r n : Nat) (h : 0 < sz) (h2 : sz ≤ 128) : (padB sz r n).length ≤ 153 := by
  have : pdZ sz r < sz := Nat.mod_lt _ h
  simp [padB, be8]
  omega
def padH (h : Int) (al : List UInt8) : List UInt8 := if h = 1 then padB 64 (restH h al).length al.length else padB 128 (restH h al).length al.length
theorem padH_len (h : Int) (al : List UInt8) : (padH h al).length ≤ 153 := by
  unfold padH
  split
  · exact padB_len _ _ _ (by decide) (by decide)
  · exact padB_len _ _ _ (by decide) (by decide)
def out32 (s : List UInt32) : Nat → List UInt8
  | 0 => []
  | i + 1 => out32 s i ++ be4 (UInt32.toUInt64 (List.getD s i 0))
def out64 (s : List UInt64) : Nat → List UInt8
  | 0 => []
  | i + 1 => out64 s i ++ be8 (List.getD s i 0)
theorem out32_len (s : List UInt32) (i : Nat) : (out32 s i).length = 4 * i := by
  induction i with
  | zero => rfl
  | succ i ih => rw [out32, List.length_append, ih]; rfl
theorem out64_len (s : List UInt64) (i : Nat) : (out64 s i).length = 8 * i := by
  induction i with
  | zero => rfl
  | succ i ih => rw [out64, List.length_append, ih]; rfl
/-- the sum of bytes -/
def sumF (h : Int) (al : List UInt8) : List UInt8 := List.take (sizeOfH h) (if h = 1 then out32 (S32 h (al ++ padH h al)) 8 else out64 (S64 h (al ++ padH h al)) 8)
theorem sumF_len {h : Int} (hh : h = 1 ∨ h = 2 ∨ h = 3) (al : List UInt8) : (sumF h al).length = sizeOfH h := by
  unfold sumF
  rw [List.length_take]
  rcases hh with rfl | rfl | rfl
  · rw [if_pos rfl, out32_len]; rfl
  · rw [if_neg (by decide), out64_len]; rfl
  · rw [if_neg (by decide), out64_len]; rfl
theorem end_step {B : List UInt8} {j : Nat} : (B ++ List.replicate j 0) ++ [0] = B ++ List.replicate (j + 1) 0 := by rw [List.append_assoc, List.replicate_succ']
theorem size_le (h : Int) : sizeOfH h ≤ 64 := by
  unfold sizeOfH
  split
  · decide
  · split
    · decide
    · split <;> decide

end Go.Proofs.YtbpihljkkkeijaaDoor
