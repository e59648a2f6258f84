/-
  No cell of these rows narrows 'for every input' (looked for: loops, veiled, ifaces, maps, wideKeys, modest, calm, conditions, laid).
  DERIVED. THE GIVEN ROWS OF THIS SEAT. 5 by the template 'for every input the law returns true; each argument reads behind the call as it read before'; 0 by the template 'total and deterministic' (their statements: YteainioaejnecaaTotals.lean).
  GIVEN WITH THE SEED: the statements are not yours to turn. If you find one false, say at which input.
  Laid BY PROGRAM, IN A SANDBOX (cutbox-rows.mjs): the forced cells as the released guide's own fill.sh prints them over the translation d8f460dc18a752f5… (all of the seat's roots in one cut). By AI agents, Wed Nov 11 2026. No macro, syntax, notation, axiom, sorry.
-/
import Derived.Test.YteainioaejnecaaChecked
import GoSem.Claim
import GoSem.ClaimJoined
import GoSem.ClaimMapViews
import Derived.JoinedTies
import Derived.KernelRfl
namespace Go.Proofs.Yteainioaejnecaa
/- THE CELL 'sum', in the pinned program and in every row, IS THE sha256 OF THE DUMP (.gsa) THAT YteainioaejnecaaProg.lean LOADS. Nothing in Lean hashes anything: it is a label: what it is worth is what the hold of that sum in a sandbox is worth. -/
noncomputable def Try.pinned : Pinned := { name := "yteainioaejnecaa", sum := "d8f460dc18a752f50233b76a258139e4a2516e930e90784a4944aa606d825480", checked := Try.checked }
namespace Rows
def none {H : Type} : Left H := { results := [], args := [] }

/-- 'drawbridgelaw11.XdhMults': WHATEVER THE INPUT: true; the input reads as it did. -/
def xdhMultsSpec : ChangeSpec := { name := "xdhMults", fn := fun _ => fun
  | [d1, d2] => { results := [.lit (.bool true)], args := [d1, d2] }
  | _ => none }
def xdhMultsRow : OpenClaim := { program := "yteainioaejnecaa", sum := "d8f460dc18a752f50233b76a258139e4a2516e930e90784a4944aa606d825480", func := "drawbridge/drawbridgelaw11.XdhMults", spec := "xdhMults", inPlace := ["math/bits.Add64", "math/bits.Sub64"], unfollowed := true, recurses := true, apart := false }
def XdhMultsSaid : Prop := xdhMultsRow.holds Try.pinned (OpenSpec.ofChange xdhMultsSpec)

/-- ITS FALSE NEIGHBOUR: 'it returns false'. Refute it at one input. -/
def xdhMultsWrong : ChangeSpec := { name := "xdhMults", fn := fun _ => fun
  | [d1, d2] => { results := [.lit (.bool false)], args := [d1, d2] }
  | _ => none }
def XdhMultsWrongFalsely : Prop := xdhMultsRow.holds Try.pinned (OpenSpec.ofChange xdhMultsWrong)

/-- 'drawbridgelaw11.XdhBits': WHATEVER THE INPUT: true; the input reads as it did. -/
def xdhBitsSpec : ChangeSpec := { name := "xdhBits", fn := fun _ => fun
  | [d1, d2, d3, d4] => { results := [.lit (.bool true)], args := [d1, d2, d3, d4] }
  | _ => none }
def xdhBitsRow : OpenClaim := { program := "yteainioaejnecaa", sum := "d8f460dc18a752f50233b76a258139e4a2516e930e90784a4944aa606d825480", func := "drawbridge/drawbridgelaw11.XdhBits", spec := "xdhBits", inPlace := ["math/bits.Add64", "math/bits.Sub64"], unfollowed := true, recurses := true, apart := false }
def XdhBitsSaid : Prop := xdhBitsRow.holds Try.pinned (OpenSpec.ofChange xdhBitsSpec)

/-- ITS FALSE NEIGHBOUR: 'it returns false'. Refute it at one input. -/
def xdhBitsWrong : ChangeSpec := { name := "xdhBits", fn := fun _ => fun
  | [d1, d2, d3, d4] => { results := [.lit (.bool false)], args := [d1, d2, d3, d4] }
  | _ => none }
def XdhBitsWrongFalsely : Prop := xdhBitsRow.holds Try.pinned (OpenSpec.ofChange xdhBitsWrong)

/-- 'drawbridgelaw11.XdhTurns': WHATEVER THE INPUT: true; the input reads as it did. -/
def xdhTurnsSpec : ChangeSpec := { name := "xdhTurns", fn := fun _ => fun
  | [d1, d2, d3] => { results := [.lit (.bool true)], args := [d1, d2, d3] }
  | _ => none }
def xdhTurnsRow : OpenClaim := { program := "yteainioaejnecaa", sum := "d8f460dc18a752f50233b76a258139e4a2516e930e90784a4944aa606d825480", func := "drawbridge/drawbridgelaw11.XdhTurns", spec := "xdhTurns", inPlace := ["math/bits.Add64", "math/bits.Sub64"], unfollowed := true, recurses := true, apart := false }
def XdhTurnsSaid : Prop := xdhTurnsRow.holds Try.pinned (OpenSpec.ofChange xdhTurnsSpec)

/-- ITS FALSE NEIGHBOUR: 'it returns false'. Refute it at one input. -/
def xdhTurnsWrong : ChangeSpec := { name := "xdhTurns", fn := fun _ => fun
  | [d1, d2, d3] => { results := [.lit (.bool false)], args := [d1, d2, d3] }
  | _ => none }
def XdhTurnsWrongFalsely : Prop := xdhTurnsRow.holds Try.pinned (OpenSpec.ofChange xdhTurnsWrong)

/-- 'drawbridgelaw11.XdhKeys': WHATEVER THE INPUT: true; the input reads as it did. -/
def xdhKeysSpec : ChangeSpec := { name := "xdhKeys", fn := fun _ => fun
  | [d1, d2] => { results := [.lit (.bool true)], args := [d1, d2] }
  | _ => none }
def xdhKeysRow : OpenClaim := { program := "yteainioaejnecaa", sum := "d8f460dc18a752f50233b76a258139e4a2516e930e90784a4944aa606d825480", func := "drawbridge/drawbridgelaw11.XdhKeys", spec := "xdhKeys", inPlace := ["math/bits.Add64", "math/bits.Sub64"], unfollowed := true, recurses := true, apart := false }
def XdhKeysSaid : Prop := xdhKeysRow.holds Try.pinned (OpenSpec.ofChange xdhKeysSpec)

/-- ITS FALSE NEIGHBOUR: 'it returns false'. Refute it at one input. -/
def xdhKeysWrong : ChangeSpec := { name := "xdhKeys", fn := fun _ => fun
  | [d1, d2] => { results := [.lit (.bool false)], args := [d1, d2] }
  | _ => none }
def XdhKeysWrongFalsely : Prop := xdhKeysRow.holds Try.pinned (OpenSpec.ofChange xdhKeysWrong)

/-- 'drawbridgelaw11.XdhMeets': WHATEVER THE INPUT: true; the input reads as it did. -/
def xdhMeetsSpec : ChangeSpec := { name := "xdhMeets", fn := fun _ => fun
  | [d1, d2] => { results := [.lit (.bool true)], args := [d1, d2] }
  | _ => none }
def xdhMeetsRow : OpenClaim := { program := "yteainioaejnecaa", sum := "d8f460dc18a752f50233b76a258139e4a2516e930e90784a4944aa606d825480", func := "drawbridge/drawbridgelaw11.XdhMeets", spec := "xdhMeets", inPlace := ["math/bits.Add64", "math/bits.Sub64"], unfollowed := true, recurses := true, apart := false }
def XdhMeetsSaid : Prop := xdhMeetsRow.holds Try.pinned (OpenSpec.ofChange xdhMeetsSpec)

/-- ITS FALSE NEIGHBOUR: 'it returns false'. Refute it at one input. -/
def xdhMeetsWrong : ChangeSpec := { name := "xdhMeets", fn := fun _ => fun
  | [d1, d2] => { results := [.lit (.bool false)], args := [d1, d2] }
  | _ => none }
def XdhMeetsWrongFalsely : Prop := xdhMeetsRow.holds Try.pinned (OpenSpec.ofChange xdhMeetsWrong)

/- THE SECOND FORM. 'bulk': how many values and letters a reading holds, each counted each time it is reached (what is shared counts as often as it is met; a slice's spare places count too). A statement '..UptoSaid' is the law's where the arguments, and the package variables that the reading takes, are together of bulk at most 1048576: NARROWER than '..Said'. Prove '..Said' where nothing that the law and all that it calls make is longer than what came in: it says more and counts as full. Else prove '..UptoSaid'. A law counts once. -/
mutual
def uptoBulk {H : Type} : DataW H → Nat
  | .lit (.string bytes) => bytes.length + 1
  | .lit _ => 1
  | .nil => 1
  | .ptr d => uptoBulk d + 1
  | .slice elems spare => uptoBulkAll elems + uptoBulkAll spare + 1
  | .agg parts => uptoBulkAll parts + 1
  | .iface _ d => uptoBulk d + 1
  | .map entries => uptoBulkEntries entries + 1
  | .held _ => 1
def uptoBulkAll {H : Type} : List (DataW H) → Nat
  | [] => 0
  | d :: r => uptoBulk d + uptoBulkAll r
def uptoBulkEntries {H : Type} : List (Lit × DataW H) → Nat
  | [] => 0
  | x :: r => uptoBulkEntry x + uptoBulkEntries r
def uptoBulkEntry {H : Type} : Lit × DataW H → Nat
  | (.string bytes, d) => bytes.length + uptoBulk d + 1
  | (_, d) => uptoBulk d + 1
 end
def uptoSmall : (H : Type) → List (DataW H) → Bool := fun _ ds => decide (uptoBulkAll ds ≤ 1048576)
def OpenSpec.upto (s : _root_.Go.ChangeSpec) : _root_.Go.OpenSpec := { _root_.Go.OpenSpec.ofChange s with cond := some uptoSmall }

/-- 'drawbridgelaw11.XdhMults', WHERE WHAT IT READS IS OF BULK AT MOST 1048576: true; the input reads as it did. -/
def xdhMultsUptoRow : OpenClaim := { program := "yteainioaejnecaa", sum := "d8f460dc18a752f50233b76a258139e4a2516e930e90784a4944aa606d825480", func := "drawbridge/drawbridgelaw11.XdhMults", spec := "xdhMults", inPlace := ["math/bits.Add64", "math/bits.Sub64"], unfollowed := true, recurses := true, apart := false, narrowed := true }
def XdhMultsUptoSaid : Prop := xdhMultsUptoRow.holds Try.pinned (OpenSpec.upto xdhMultsSpec)

/-- 'drawbridgelaw11.XdhBits', WHERE WHAT IT READS IS OF BULK AT MOST 1048576: true; the input reads as it did. -/
def xdhBitsUptoRow : OpenClaim := { program := "yteainioaejnecaa", sum := "d8f460dc18a752f50233b76a258139e4a2516e930e90784a4944aa606d825480", func := "drawbridge/drawbridgelaw11.XdhBits", spec := "xdhBits", inPlace := ["math/bits.Add64", "math/bits.Sub64"], unfollowed := true, recurses := true, apart := false, narrowed := true }
def XdhBitsUptoSaid : Prop := xdhBitsUptoRow.holds Try.pinned (OpenSpec.upto xdhBitsSpec)

/-- 'drawbridgelaw11.XdhTurns', WHERE WHAT IT READS IS OF BULK AT MOST 1048576: true; the input reads as it did. -/
def xdhTurnsUptoRow : OpenClaim := { program := "yteainioaejnecaa", sum := "d8f460dc18a752f50233b76a258139e4a2516e930e90784a4944aa606d825480", func := "drawbridge/drawbridgelaw11.XdhTurns", spec := "xdhTurns", inPlace := ["math/bits.Add64", "math/bits.Sub64"], unfollowed := true, recurses := true, apart := false, narrowed := true }
def XdhTurnsUptoSaid : Prop := xdhTurnsUptoRow.holds Try.pinned (OpenSpec.upto xdhTurnsSpec)

/-- 'drawbridgelaw11.XdhKeys', WHERE WHAT IT READS IS OF BULK AT MOST 1048576: true; the input reads as it did. -/
def xdhKeysUptoRow : OpenClaim := { program := "yteainioaejnecaa", sum := "d8f460dc18a752f50233b76a258139e4a2516e930e90784a4944aa606d825480", func := "drawbridge/drawbridgelaw11.XdhKeys", spec := "xdhKeys", inPlace := ["math/bits.Add64", "math/bits.Sub64"], unfollowed := true, recurses := true, apart := false, narrowed := true }
def XdhKeysUptoSaid : Prop := xdhKeysUptoRow.holds Try.pinned (OpenSpec.upto xdhKeysSpec)

/-- 'drawbridgelaw11.XdhMeets', WHERE WHAT IT READS IS OF BULK AT MOST 1048576: true; the input reads as it did. -/
def xdhMeetsUptoRow : OpenClaim := { program := "yteainioaejnecaa", sum := "d8f460dc18a752f50233b76a258139e4a2516e930e90784a4944aa606d825480", func := "drawbridge/drawbridgelaw11.XdhMeets", spec := "xdhMeets", inPlace := ["math/bits.Add64", "math/bits.Sub64"], unfollowed := true, recurses := true, apart := false, narrowed := true }
def XdhMeetsUptoSaid : Prop := xdhMeetsUptoRow.holds Try.pinned (OpenSpec.upto xdhMeetsSpec)

end Rows
end Go.Proofs.Yteainioaejnecaa
