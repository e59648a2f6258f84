/- A slice's bytes as an array: over any program. -/
import Derived.Test.YtpfhmbbiadpbeaaBuild
namespace Go.Dbr
open Go Go.RowKit
section
variable {P : Program}
variable {w : World}
end
end Go.Dbr
