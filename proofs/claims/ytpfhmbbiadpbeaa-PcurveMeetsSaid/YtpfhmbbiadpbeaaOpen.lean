/- What is handed in to a law, opened: numbers, lists of numbers, texts. (Printed by a program.) -/
import Derived.Test.YtpfhmbbiadpbeaaBytes
import Derived.ProofKit
import Derived.OpenShut
import Derived.SizedLaws
namespace Go.Dbr
open Go Go.RowKit Go.ChangeShapes Go.WideShapes Go.ChangeAt
open Go.ChangeMaps (open_string)

variable {H : Type} {enc : TypeId × Value → H} {P : Program} {W : World}

theorem Ev.below {w w' : World} (h : Ev w [] w' []) : Below w.heap.size w w' :=
  ⟨h.chg.os, h.chg.tape, h.chg.output, h.chg.size, fun k hk => h.chg.block k hk Owns.nil⟩

theorem lift_u64 {n : Int} (h : (Lit.int .u64 n).wf = true) : ∃ x : UInt64, n = ((UInt64.toNat x : Nat) : Int) := by
  simp [Lit.wf, IntKind.min, IntKind.max, IntKind.signed, IntKind.bits] at h
  refine ⟨UInt64.ofNat n.toNat, ?_⟩
  rw [UInt64.toNat_ofNat']
  omega

end Go.Dbr
