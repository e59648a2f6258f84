/- Arrays of words that are handed in. -/
import Derived.Test.YtpfhmbbiadpbeaaShape
import Derived.Test.YtpfhmbbiadpbeaaMulti
namespace Go.Dbr
open Go Go.RowKit
section
variable {H : Type} {enc : TypeId × Value → H} {P : Program} {W : World}
theorem flatMap_u64s (l : List UInt64) : l.flatMap (fun n : UInt64 => [uv64 n]) = u64s l := by
  induction l with
  | nil => rfl
  | cons x r ih => rw [List.flatMap_cons, ih]; rfl
theorem opens_u64arr {T e : TypeId} {n : Nat} (hu : P.underlying T = some (.array n e)) (hT : P.cellsOf T = n) (he : P.underlying e = some (.int .u64)) (hc : P.cellsOf e = 1) :
    Opens enc P W T n (fun l : List UInt64 => u64s l) (fun l => l.length = n) (fun _ => 0) := by
  have h := opens_array (enc := enc) (P := P) (W := W) (n := n) (sz := 1) hu (by rw [Nat.mul_one]; exact hT) (opens_u64 he hc)
  rw [Nat.mul_one] at h
  exact h.map id (fun l => flatMap_u64s l) (fun l hl => hl.1) (fun _ => Nat.zero_le _) (fun l hl => u64s_lenh hl)
end
end Go.Dbr
