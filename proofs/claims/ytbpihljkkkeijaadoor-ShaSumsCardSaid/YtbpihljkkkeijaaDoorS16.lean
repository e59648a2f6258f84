/- ShaSums: both ways. -/
import Derived.Test.YtbpihljkkkeijaaDoorS15
import Derived.Test.YtbpihljkkkeijaaDoorGlob
namespace Go.Proofs.YtbpihljkkkeijaaDoor
open Go.Dbr
set_option maxRecDepth 100000
set_option maxHeartbeats 2000000
set_option linter.unusedVariables false
set_option linter.unusedSimpArgs false

theorem sums_walk (h : Int) (a_b : Option Addr) (c_b : Nat) (b : List UInt8) (w : World) (b_h : (-9223372036854775808 ≤ h ∧ h ≤ 9223372036854775807)) (i_b : InB w [] a_b c_b b) (gk32 : InU32 w [] (some ⟨0, 0, none⟩) 64 K32) (gk64 : InU64 w [] (some ⟨1, 0, none⟩) 80 K64) : Calls Tryd.prog 3 #[.int .i64 h, .slice a_b (List.length b) c_b] w fun e w' => e = .returned (.bool true) ∧ Ev w [] w' [] := by
  by_cases hh : h = 1 ∨ h = 2 ∨ h = 3
  · exact sums_ok h a_b c_b b w b_h i_b hh gk32 gk64
  · exact sums_bad h a_b c_b b w b_h i_b hh gk32 gk64

end Go.Proofs.YtbpihljkkkeijaaDoor
