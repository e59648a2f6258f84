/- append of zeros to what is owned; a slice's array. -/
import Derived.Test.YtpfhmbbiadpbeaaCopy
namespace Go.Dbr
open Go Go.RowKit
section
set_option linter.unusedSimpArgs false
variable {P : Program}

variable {ops : Array Oper} {Q : Exit → Act → World → Prop} {n i : Nat} {l : List (Nat × Value)} {a : Act} {w w0 : World} {L L0 : List Ent} {d : Option Tmp} {K : Act → World → Prop}
/-- a slice as the array behind it -/
theorem run_toarr {t e : TypeId} {m : Nat} (hu : P.underlying t = some (.array m e)) {ad : Addr} {p c : Nat} (h : m ≤ p) (w : World) : (Instr.arrayAt t (.slice (some ad) p c)).run P w = .ok (.pointer (some ad)) w := by
  unfold Instr.arrayAt
  simp [run_underlying hu, Nat.not_lt.2 h]
end
end Go.Dbr
