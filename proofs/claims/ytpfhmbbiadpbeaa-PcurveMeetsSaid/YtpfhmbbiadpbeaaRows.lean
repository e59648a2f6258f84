/-
  No cell of these rows narrows 'for every input' (looked for: loops, veiled, ifaces, maps, wideKeys, modest, calm, conditions, laid).
  DERIVED. THE GIVEN ROWS OF THIS SEAT. 6 by the template 'for every input the law returns true; each argument reads behind the call as it read before'; 0 by the template 'total and deterministic' (their statements: YtpfhmbbiadpbeaaTotals.lean).
  GIVEN WITH THE SEED: the statements are not yours to turn. If you find one false, say at which input.
  Laid BY PROGRAM, IN A SANDBOX (cutbox-rows.mjs): the forced cells as the released guide's own fill.sh prints them over the translation 3cb9859c53839f75… (all of the seat's roots in one cut). By AI agents, Wed Nov 11 2026. No macro, syntax, notation, axiom, sorry.
-/
import Derived.Test.YtpfhmbbiadpbeaaChecked
import GoSem.Claim
import GoSem.ClaimJoined
import GoSem.ClaimMapViews
import Derived.JoinedTies
import Derived.KernelRfl
namespace Go.Proofs.Ytpfhmbbiadpbeaa
/- THE CELL 'sum', in the pinned program and in every row, IS THE sha256 OF THE DUMP (.gsa) THAT YtpfhmbbiadpbeaaProg.lean LOADS. Nothing in Lean hashes anything: it is a label: what it is worth is what the hold of that sum in a sandbox is worth. -/
noncomputable def Try.pinned : Pinned := { name := "ytpfhmbbiadpbeaa", sum := "3cb9859c53839f75a64f5cc3620ecf0e7cd58f96b4bafaf5b0f0c47b0eca1a1d", checked := Try.checked }
namespace Rows
def none {H : Type} : Left H := { results := [], args := [] }

/-- 'drawbridgelaw13.PcurveReckons': WHATEVER THE INPUT: true; the input reads as it did. -/
def pcurveReckonsSpec : ChangeSpec := { name := "pcurveReckons", fn := fun _ => fun
  | [d1, d2, d3] => { results := [.lit (.bool true)], args := [d1, d2, d3] }
  | _ => none }
def pcurveReckonsRow : OpenClaim := { program := "ytpfhmbbiadpbeaa", sum := "3cb9859c53839f75a64f5cc3620ecf0e7cd58f96b4bafaf5b0f0c47b0eca1a1d", func := "drawbridge/drawbridgelaw13.PcurveReckons", spec := "pcurveReckons", inPlace := ["math/bits.Add64", "math/bits.Sub64"], unfollowed := true, recurses := true, apart := false }
def PcurveReckonsSaid : Prop := pcurveReckonsRow.holds Try.pinned (OpenSpec.ofChange pcurveReckonsSpec)

/-- ITS FALSE NEIGHBOUR: 'it returns false'. Refute it at one input. -/
def pcurveReckonsWrong : ChangeSpec := { name := "pcurveReckons", fn := fun _ => fun
  | [d1, d2, d3] => { results := [.lit (.bool false)], args := [d1, d2, d3] }
  | _ => none }
def PcurveReckonsWrongFalsely : Prop := pcurveReckonsRow.holds Try.pinned (OpenSpec.ofChange pcurveReckonsWrong)

/-- 'drawbridgelaw13.PcurveAdds': WHATEVER THE INPUT: true; the input reads as it did. -/
def pcurveAddsSpec : ChangeSpec := { name := "pcurveAdds", fn := fun _ => fun
  | [d1, d2, d3] => { results := [.lit (.bool true)], args := [d1, d2, d3] }
  | _ => none }
def pcurveAddsRow : OpenClaim := { program := "ytpfhmbbiadpbeaa", sum := "3cb9859c53839f75a64f5cc3620ecf0e7cd58f96b4bafaf5b0f0c47b0eca1a1d", func := "drawbridge/drawbridgelaw13.PcurveAdds", spec := "pcurveAdds", inPlace := ["math/bits.Add64", "math/bits.Sub64"], unfollowed := true, recurses := true, apart := false }
def PcurveAddsSaid : Prop := pcurveAddsRow.holds Try.pinned (OpenSpec.ofChange pcurveAddsSpec)

/-- ITS FALSE NEIGHBOUR: 'it returns false'. Refute it at one input. -/
def pcurveAddsWrong : ChangeSpec := { name := "pcurveAdds", fn := fun _ => fun
  | [d1, d2, d3] => { results := [.lit (.bool false)], args := [d1, d2, d3] }
  | _ => none }
def PcurveAddsWrongFalsely : Prop := pcurveAddsRow.holds Try.pinned (OpenSpec.ofChange pcurveAddsWrong)

/-- 'drawbridgelaw13.PcurveGroup': WHATEVER THE INPUT: true; the input reads as it did. -/
def pcurveGroupSpec : ChangeSpec := { name := "pcurveGroup", fn := fun _ => fun
  | [d1, d2, d3] => { results := [.lit (.bool true)], args := [d1, d2, d3] }
  | _ => none }
def pcurveGroupRow : OpenClaim := { program := "ytpfhmbbiadpbeaa", sum := "3cb9859c53839f75a64f5cc3620ecf0e7cd58f96b4bafaf5b0f0c47b0eca1a1d", func := "drawbridge/drawbridgelaw13.PcurveGroup", spec := "pcurveGroup", inPlace := ["math/bits.Add64", "math/bits.Sub64"], unfollowed := true, recurses := true, apart := false }
def PcurveGroupSaid : Prop := pcurveGroupRow.holds Try.pinned (OpenSpec.ofChange pcurveGroupSpec)

/-- ITS FALSE NEIGHBOUR: 'it returns false'. Refute it at one input. -/
def pcurveGroupWrong : ChangeSpec := { name := "pcurveGroup", fn := fun _ => fun
  | [d1, d2, d3] => { results := [.lit (.bool false)], args := [d1, d2, d3] }
  | _ => none }
def PcurveGroupWrongFalsely : Prop := pcurveGroupRow.holds Try.pinned (OpenSpec.ofChange pcurveGroupWrong)

/-- 'drawbridgelaw13.PcurveTurns': WHATEVER THE INPUT: true; the input reads as it did. -/
def pcurveTurnsSpec : ChangeSpec := { name := "pcurveTurns", fn := fun _ => fun
  | [d1, d2] => { results := [.lit (.bool true)], args := [d1, d2] }
  | _ => none }
def pcurveTurnsRow : OpenClaim := { program := "ytpfhmbbiadpbeaa", sum := "3cb9859c53839f75a64f5cc3620ecf0e7cd58f96b4bafaf5b0f0c47b0eca1a1d", func := "drawbridge/drawbridgelaw13.PcurveTurns", spec := "pcurveTurns", inPlace := ["math/bits.Add64", "math/bits.Sub64"], unfollowed := true, recurses := true, apart := false }
def PcurveTurnsSaid : Prop := pcurveTurnsRow.holds Try.pinned (OpenSpec.ofChange pcurveTurnsSpec)

/-- ITS FALSE NEIGHBOUR: 'it returns false'. Refute it at one input. -/
def pcurveTurnsWrong : ChangeSpec := { name := "pcurveTurns", fn := fun _ => fun
  | [d1, d2] => { results := [.lit (.bool false)], args := [d1, d2] }
  | _ => none }
def PcurveTurnsWrongFalsely : Prop := pcurveTurnsRow.holds Try.pinned (OpenSpec.ofChange pcurveTurnsWrong)

/-- 'drawbridgelaw13.PcurveMeets': WHATEVER THE INPUT: true; the input reads as it did. -/
def pcurveMeetsSpec : ChangeSpec := { name := "pcurveMeets", fn := fun _ => fun
  | [d1, d2, d3] => { results := [.lit (.bool true)], args := [d1, d2, d3] }
  | _ => none }
def pcurveMeetsRow : OpenClaim := { program := "ytpfhmbbiadpbeaa", sum := "3cb9859c53839f75a64f5cc3620ecf0e7cd58f96b4bafaf5b0f0c47b0eca1a1d", func := "drawbridge/drawbridgelaw13.PcurveMeets", spec := "pcurveMeets", inPlace := ["math/bits.Add64", "math/bits.Sub64"], unfollowed := true, recurses := true, apart := false }
def PcurveMeetsSaid : Prop := pcurveMeetsRow.holds Try.pinned (OpenSpec.ofChange pcurveMeetsSpec)

/-- ITS FALSE NEIGHBOUR: 'it returns false'. Refute it at one input. -/
def pcurveMeetsWrong : ChangeSpec := { name := "pcurveMeets", fn := fun _ => fun
  | [d1, d2, d3] => { results := [.lit (.bool false)], args := [d1, d2, d3] }
  | _ => none }
def PcurveMeetsWrongFalsely : Prop := pcurveMeetsRow.holds Try.pinned (OpenSpec.ofChange pcurveMeetsWrong)

/-- 'drawbridgelaw13.PcurveBytes': WHATEVER THE INPUT: true; the input reads as it did. -/
def pcurveBytesSpec : ChangeSpec := { name := "pcurveBytes", fn := fun _ => fun
  | [d1, d2, d3] => { results := [.lit (.bool true)], args := [d1, d2, d3] }
  | _ => none }
def pcurveBytesRow : OpenClaim := { program := "ytpfhmbbiadpbeaa", sum := "3cb9859c53839f75a64f5cc3620ecf0e7cd58f96b4bafaf5b0f0c47b0eca1a1d", func := "drawbridge/drawbridgelaw13.PcurveBytes", spec := "pcurveBytes", inPlace := ["math/bits.Add64", "math/bits.Sub64"], unfollowed := true, recurses := true, apart := false }
def PcurveBytesSaid : Prop := pcurveBytesRow.holds Try.pinned (OpenSpec.ofChange pcurveBytesSpec)

/-- ITS FALSE NEIGHBOUR: 'it returns false'. Refute it at one input. -/
def pcurveBytesWrong : ChangeSpec := { name := "pcurveBytes", fn := fun _ => fun
  | [d1, d2, d3] => { results := [.lit (.bool false)], args := [d1, d2, d3] }
  | _ => none }
def PcurveBytesWrongFalsely : Prop := pcurveBytesRow.holds Try.pinned (OpenSpec.ofChange pcurveBytesWrong)

/- THE SECOND FORM. 'bulk': how many values and letters a reading holds, each counted each time it is reached (what is shared counts as often as it is met; a slice's spare places count too). A statement '..UptoSaid' is the law's where the arguments, and the package variables that the reading takes, are together of bulk at most 1048576: NARROWER than '..Said'. Prove '..Said' where nothing that the law and all that it calls make is longer than what came in: it says more and counts as full. Else prove '..UptoSaid'. A law counts once. -/
mutual
def uptoBulk {H : Type} : DataW H → Nat
  | .lit (.string bytes) => bytes.length + 1
  | .lit _ => 1
  | .nil => 1
  | .ptr d => uptoBulk d + 1
  | .slice elems spare => uptoBulkAll elems + uptoBulkAll spare + 1
  | .agg parts => uptoBulkAll parts + 1
  | .iface _ d => uptoBulk d + 1
  | .map entries => uptoBulkEntries entries + 1
  | .held _ => 1
def uptoBulkAll {H : Type} : List (DataW H) → Nat
  | [] => 0
  | d :: r => uptoBulk d + uptoBulkAll r
def uptoBulkEntries {H : Type} : List (Lit × DataW H) → Nat
  | [] => 0
  | x :: r => uptoBulkEntry x + uptoBulkEntries r
def uptoBulkEntry {H : Type} : Lit × DataW H → Nat
  | (.string bytes, d) => bytes.length + uptoBulk d + 1
  | (_, d) => uptoBulk d + 1
 end
def uptoSmall : (H : Type) → List (DataW H) → Bool := fun _ ds => decide (uptoBulkAll ds ≤ 1048576)
def OpenSpec.upto (s : _root_.Go.ChangeSpec) : _root_.Go.OpenSpec := { _root_.Go.OpenSpec.ofChange s with cond := some uptoSmall }

/-- 'drawbridgelaw13.PcurveReckons', WHERE WHAT IT READS IS OF BULK AT MOST 1048576: true; the input reads as it did. -/
def pcurveReckonsUptoRow : OpenClaim := { program := "ytpfhmbbiadpbeaa", sum := "3cb9859c53839f75a64f5cc3620ecf0e7cd58f96b4bafaf5b0f0c47b0eca1a1d", func := "drawbridge/drawbridgelaw13.PcurveReckons", spec := "pcurveReckons", inPlace := ["math/bits.Add64", "math/bits.Sub64"], unfollowed := true, recurses := true, apart := false, narrowed := true }
def PcurveReckonsUptoSaid : Prop := pcurveReckonsUptoRow.holds Try.pinned (OpenSpec.upto pcurveReckonsSpec)

/-- 'drawbridgelaw13.PcurveAdds', WHERE WHAT IT READS IS OF BULK AT MOST 1048576: true; the input reads as it did. -/
def pcurveAddsUptoRow : OpenClaim := { program := "ytpfhmbbiadpbeaa", sum := "3cb9859c53839f75a64f5cc3620ecf0e7cd58f96b4bafaf5b0f0c47b0eca1a1d", func := "drawbridge/drawbridgelaw13.PcurveAdds", spec := "pcurveAdds", inPlace := ["math/bits.Add64", "math/bits.Sub64"], unfollowed := true, recurses := true, apart := false, narrowed := true }
def PcurveAddsUptoSaid : Prop := pcurveAddsUptoRow.holds Try.pinned (OpenSpec.upto pcurveAddsSpec)

/-- 'drawbridgelaw13.PcurveGroup', WHERE WHAT IT READS IS OF BULK AT MOST 1048576: true; the input reads as it did. -/
def pcurveGroupUptoRow : OpenClaim := { program := "ytpfhmbbiadpbeaa", sum := "3cb9859c53839f75a64f5cc3620ecf0e7cd58f96b4bafaf5b0f0c47b0eca1a1d", func := "drawbridge/drawbridgelaw13.PcurveGroup", spec := "pcurveGroup", inPlace := ["math/bits.Add64", "math/bits.Sub64"], unfollowed := true, recurses := true, apart := false, narrowed := true }
def PcurveGroupUptoSaid : Prop := pcurveGroupUptoRow.holds Try.pinned (OpenSpec.upto pcurveGroupSpec)

/-- 'drawbridgelaw13.PcurveTurns', WHERE WHAT IT READS IS OF BULK AT MOST 1048576: true; the input reads as it did. -/
def pcurveTurnsUptoRow : OpenClaim := { program := "ytpfhmbbiadpbeaa", sum := "3cb9859c53839f75a64f5cc3620ecf0e7cd58f96b4bafaf5b0f0c47b0eca1a1d", func := "drawbridge/drawbridgelaw13.PcurveTurns", spec := "pcurveTurns", inPlace := ["math/bits.Add64", "math/bits.Sub64"], unfollowed := true, recurses := true, apart := false, narrowed := true }
def PcurveTurnsUptoSaid : Prop := pcurveTurnsUptoRow.holds Try.pinned (OpenSpec.upto pcurveTurnsSpec)

/-- 'drawbridgelaw13.PcurveMeets', WHERE WHAT IT READS IS OF BULK AT MOST 1048576: true; the input reads as it did. -/
def pcurveMeetsUptoRow : OpenClaim := { program := "ytpfhmbbiadpbeaa", sum := "3cb9859c53839f75a64f5cc3620ecf0e7cd58f96b4bafaf5b0f0c47b0eca1a1d", func := "drawbridge/drawbridgelaw13.PcurveMeets", spec := "pcurveMeets", inPlace := ["math/bits.Add64", "math/bits.Sub64"], unfollowed := true, recurses := true, apart := false, narrowed := true }
def PcurveMeetsUptoSaid : Prop := pcurveMeetsUptoRow.holds Try.pinned (OpenSpec.upto pcurveMeetsSpec)

/-- 'drawbridgelaw13.PcurveBytes', WHERE WHAT IT READS IS OF BULK AT MOST 1048576: true; the input reads as it did. -/
def pcurveBytesUptoRow : OpenClaim := { program := "ytpfhmbbiadpbeaa", sum := "3cb9859c53839f75a64f5cc3620ecf0e7cd58f96b4bafaf5b0f0c47b0eca1a1d", func := "drawbridge/drawbridgelaw13.PcurveBytes", spec := "pcurveBytes", inPlace := ["math/bits.Add64", "math/bits.Sub64"], unfollowed := true, recurses := true, apart := false, narrowed := true }
def PcurveBytesUptoSaid : Prop := pcurveBytesUptoRow.holds Try.pinned (OpenSpec.upto pcurveBytesSpec)

end Rows
end Go.Proofs.Ytpfhmbbiadpbeaa
