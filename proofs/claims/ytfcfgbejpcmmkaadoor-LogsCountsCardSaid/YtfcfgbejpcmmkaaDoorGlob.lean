/- The table of powers of ten: what the rows' lists give. -/
import Derived.Test.YtfcfgbejpcmmkaaDoorRows
import Derived.Test.YtfcfgbejpcmmkaaDoorA2
import Derived.Deep.DeepHandedRow
import Derived.Lib.LaidTab
import Derived.Stop.LaidErr
namespace Go.Proofs.YtfcfgbejpcmmkaaDoor
open Go Go.Dbr
set_option maxRecDepth 100000
theorem ty10 : (Tryd.prog.globals[0]?).map (·.type) = some 121 := by kernel_rfl
theorem int_laid {W : World} (h : laidMetH Tryd.prog Rows.logsEncodeRow.laid W) : InT W [] :=
  ⟨Lib.tabIs_of_head (rest := []) (n := 20) (e := 22) g0 ty10 (by kernel_rfl) (by kernel_rfl) (by kernel_rfl) (by kernel_rfl) (laidMet.tail (x := ("math/bits.deBruijn64tab", Rows.laid_math_bits_deBruijn64tab)) (laidMet.tail (x := ("math/bits.deBruijn32tab", Rows.laid_math_bits_deBruijn32tab)) h)), Owns.nil⟩
end Go.Proofs.YtfcfgbejpcmmkaaDoor
