/- append of zeros to what is owned; a slice's array. -/
import Derived.Test.YtpfhmbbiadpbeaaCopy
namespace Go.Dbr
open Go Go.RowKit
section
set_option linter.unusedSimpArgs false
variable {P : Program}

variable {ops : Array Oper} {Q : Exit → Act → World → Prop} {n i : Nat} {l : List (Nat × Value)} {a : Act} {w w0 : World} {L L0 : List Ent} {d : Option Tmp} {K : Act → World → Prop}
end
end Go.Dbr
