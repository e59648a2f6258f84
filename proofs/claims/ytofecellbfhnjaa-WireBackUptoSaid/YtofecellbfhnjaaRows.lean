/-
  No cell of these rows narrows 'for every input' (looked for: loops, veiled, ifaces, maps, wideKeys, modest, calm, conditions, laid).
  DERIVED. THE GIVEN ROWS OF THIS SEAT. 7 by the template 'for every input the law returns true; each argument reads behind the call as it read before'; 0 by the template 'total and deterministic' (their statements: YtofecellbfhnjaaTotals.lean).
  GIVEN WITH THE SEED: the statements are not yours to turn. If you find one false, say at which input.
  Laid BY PROGRAM, IN A SANDBOX (cutbox-rows.mjs): the forced cells as the released guide's own fill.sh prints them over the translation 53d2ef055cc2373e… (all of the seat's roots in one cut). By AI agents, Wed Nov 11 2026. No macro, syntax, notation, axiom, sorry.
-/
import Derived.Test.YtofecellbfhnjaaChecked
import GoSem.Claim
import GoSem.ClaimJoined
import GoSem.ClaimMapViews
import Derived.JoinedTies
import Derived.KernelRfl
namespace Go.Proofs.Ytofecellbfhnjaa
/- THE CELL 'sum', in the pinned program and in every row, IS THE sha256 OF THE DUMP (.gsa) THAT YtofecellbfhnjaaProg.lean LOADS. Nothing in Lean hashes anything: it is a label: what it is worth is what the hold of that sum in a sandbox is worth. -/
noncomputable def Try.pinned : Pinned := { name := "ytofecellbfhnjaa", sum := "53d2ef055cc2373e2057d5d72fb151d8d678c380075ed5378d08cc20e2646270", checked := Try.checked }
namespace Rows
def none {H : Type} : Left H := { results := [], args := [] }

/-- 'drawbridgelaw17.WireFrames': WHATEVER THE INPUT: true; the input reads as it did. -/
def wireFramesSpec : ChangeSpec := { name := "wireFrames", fn := fun _ => fun
  | [d1, d2, d3] => { results := [.lit (.bool true)], args := [d1, d2, d3] }
  | _ => none }
def wireFramesRow : OpenClaim := { program := "ytofecellbfhnjaa", sum := "53d2ef055cc2373e2057d5d72fb151d8d678c380075ed5378d08cc20e2646270", func := "drawbridge/drawbridgelaw17.WireFrames", spec := "wireFrames", unfollowed := true, recurses := true, apart := false }
def WireFramesSaid : Prop := wireFramesRow.holds Try.pinned (OpenSpec.ofChange wireFramesSpec)

/-- ITS FALSE NEIGHBOUR: 'it returns false'. Refute it at one input. -/
def wireFramesWrong : ChangeSpec := { name := "wireFrames", fn := fun _ => fun
  | [d1, d2, d3] => { results := [.lit (.bool false)], args := [d1, d2, d3] }
  | _ => none }
def WireFramesWrongFalsely : Prop := wireFramesRow.holds Try.pinned (OpenSpec.ofChange wireFramesWrong)

/-- 'drawbridgelaw17.WirePuts': WHATEVER THE INPUT: true; the input reads as it did. -/
def wirePutsSpec : ChangeSpec := { name := "wirePuts", fn := fun _ => fun
  | [d] => { results := [.lit (.bool true)], args := [d] }
  | _ => none }
def wirePutsRow : OpenClaim := { program := "ytofecellbfhnjaa", sum := "53d2ef055cc2373e2057d5d72fb151d8d678c380075ed5378d08cc20e2646270", func := "drawbridge/drawbridgelaw17.WirePuts", spec := "wirePuts", unfollowed := true, recurses := true, apart := false }
def WirePutsSaid : Prop := wirePutsRow.holds Try.pinned (OpenSpec.ofChange wirePutsSpec)

/-- ITS FALSE NEIGHBOUR: 'it returns false'. Refute it at one input. -/
def wirePutsWrong : ChangeSpec := { name := "wirePuts", fn := fun _ => fun
  | [d] => { results := [.lit (.bool false)], args := [d] }
  | _ => none }
def WirePutsWrongFalsely : Prop := wirePutsRow.holds Try.pinned (OpenSpec.ofChange wirePutsWrong)

/-- 'drawbridgelaw17.WireExtensions': WHATEVER THE INPUT: true; the input reads as it did. -/
def wireExtensionsSpec : ChangeSpec := { name := "wireExtensions", fn := fun _ => fun
  | [d] => { results := [.lit (.bool true)], args := [d] }
  | _ => none }
def wireExtensionsRow : OpenClaim := { program := "ytofecellbfhnjaa", sum := "53d2ef055cc2373e2057d5d72fb151d8d678c380075ed5378d08cc20e2646270", func := "drawbridge/drawbridgelaw17.WireExtensions", spec := "wireExtensions", unfollowed := true, recurses := true, apart := false }
def WireExtensionsSaid : Prop := wireExtensionsRow.holds Try.pinned (OpenSpec.ofChange wireExtensionsSpec)

/-- ITS FALSE NEIGHBOUR: 'it returns false'. Refute it at one input. -/
def wireExtensionsWrong : ChangeSpec := { name := "wireExtensions", fn := fun _ => fun
  | [d] => { results := [.lit (.bool false)], args := [d] }
  | _ => none }
def WireExtensionsWrongFalsely : Prop := wireExtensionsRow.holds Try.pinned (OpenSpec.ofChange wireExtensionsWrong)

/-- 'drawbridgelaw17.WireHellos': WHATEVER THE INPUT: true; the input reads as it did. -/
def wireHellosSpec : ChangeSpec := { name := "wireHellos", fn := fun _ => fun
  | [d1, d2] => { results := [.lit (.bool true)], args := [d1, d2] }
  | _ => none }
def wireHellosRow : OpenClaim := { program := "ytofecellbfhnjaa", sum := "53d2ef055cc2373e2057d5d72fb151d8d678c380075ed5378d08cc20e2646270", func := "drawbridge/drawbridgelaw17.WireHellos", spec := "wireHellos", unfollowed := true, recurses := true, apart := false }
def WireHellosSaid : Prop := wireHellosRow.holds Try.pinned (OpenSpec.ofChange wireHellosSpec)

/-- ITS FALSE NEIGHBOUR: 'it returns false'. Refute it at one input. -/
def wireHellosWrong : ChangeSpec := { name := "wireHellos", fn := fun _ => fun
  | [d1, d2] => { results := [.lit (.bool false)], args := [d1, d2] }
  | _ => none }
def WireHellosWrongFalsely : Prop := wireHellosRow.holds Try.pinned (OpenSpec.ofChange wireHellosWrong)

/-- 'drawbridgelaw17.WireMessages': WHATEVER THE INPUT: true; the input reads as it did. -/
def wireMessagesSpec : ChangeSpec := { name := "wireMessages", fn := fun _ => fun
  | [d1, d2, d3, d4] => { results := [.lit (.bool true)], args := [d1, d2, d3, d4] }
  | _ => none }
def wireMessagesRow : OpenClaim := { program := "ytofecellbfhnjaa", sum := "53d2ef055cc2373e2057d5d72fb151d8d678c380075ed5378d08cc20e2646270", func := "drawbridge/drawbridgelaw17.WireMessages", spec := "wireMessages", unfollowed := true, recurses := true, apart := false }
def WireMessagesSaid : Prop := wireMessagesRow.holds Try.pinned (OpenSpec.ofChange wireMessagesSpec)

/-- ITS FALSE NEIGHBOUR: 'it returns false'. Refute it at one input. -/
def wireMessagesWrong : ChangeSpec := { name := "wireMessages", fn := fun _ => fun
  | [d1, d2, d3, d4] => { results := [.lit (.bool false)], args := [d1, d2, d3, d4] }
  | _ => none }
def WireMessagesWrongFalsely : Prop := wireMessagesRow.holds Try.pinned (OpenSpec.ofChange wireMessagesWrong)

/-- 'drawbridgelaw17.WireThere': WHATEVER THE INPUT: true; the input reads as it did. -/
def wireThereSpec : ChangeSpec := { name := "wireThere", fn := fun _ => fun
  | [d1, d2, d3, d4] => { results := [.lit (.bool true)], args := [d1, d2, d3, d4] }
  | _ => none }
def wireThereRow : OpenClaim := { program := "ytofecellbfhnjaa", sum := "53d2ef055cc2373e2057d5d72fb151d8d678c380075ed5378d08cc20e2646270", func := "drawbridge/drawbridgelaw17.WireThere", spec := "wireThere", unfollowed := true, recurses := true, apart := false }
def WireThereSaid : Prop := wireThereRow.holds Try.pinned (OpenSpec.ofChange wireThereSpec)

/-- ITS FALSE NEIGHBOUR: 'it returns false'. Refute it at one input. -/
def wireThereWrong : ChangeSpec := { name := "wireThere", fn := fun _ => fun
  | [d1, d2, d3, d4] => { results := [.lit (.bool false)], args := [d1, d2, d3, d4] }
  | _ => none }
def WireThereWrongFalsely : Prop := wireThereRow.holds Try.pinned (OpenSpec.ofChange wireThereWrong)

/-- 'drawbridgelaw17.WireBack': WHATEVER THE INPUT: true; the input reads as it did. -/
def wireBackSpec : ChangeSpec := { name := "wireBack", fn := fun _ => fun
  | [d1, d2, d3, d4] => { results := [.lit (.bool true)], args := [d1, d2, d3, d4] }
  | _ => none }
def wireBackRow : OpenClaim := { program := "ytofecellbfhnjaa", sum := "53d2ef055cc2373e2057d5d72fb151d8d678c380075ed5378d08cc20e2646270", func := "drawbridge/drawbridgelaw17.WireBack", spec := "wireBack", unfollowed := true, recurses := true, apart := false }
def WireBackSaid : Prop := wireBackRow.holds Try.pinned (OpenSpec.ofChange wireBackSpec)

/-- ITS FALSE NEIGHBOUR: 'it returns false'. Refute it at one input. -/
def wireBackWrong : ChangeSpec := { name := "wireBack", fn := fun _ => fun
  | [d1, d2, d3, d4] => { results := [.lit (.bool false)], args := [d1, d2, d3, d4] }
  | _ => none }
def WireBackWrongFalsely : Prop := wireBackRow.holds Try.pinned (OpenSpec.ofChange wireBackWrong)

/- THE SECOND FORM. 'bulk': how many values and letters a reading holds, each counted each time it is reached (what is shared counts as often as it is met; a slice's spare places count too). A statement '..UptoSaid' is the law's where the arguments, and the package variables that the reading takes, are together of bulk at most 1048576: NARROWER than '..Said'. Prove '..Said' where nothing that the law and all that it calls make is longer than what came in: it says more and counts as full. Else prove '..UptoSaid'. A law counts once. -/
mutual
def uptoBulk {H : Type} : DataW H → Nat
  | .lit (.string bytes) => bytes.length + 1
  | .lit _ => 1
  | .nil => 1
  | .ptr d => uptoBulk d + 1
  | .slice elems spare => uptoBulkAll elems + uptoBulkAll spare + 1
  | .agg parts => uptoBulkAll parts + 1
  | .iface _ d => uptoBulk d + 1
  | .map entries => uptoBulkEntries entries + 1
  | .held _ => 1
def uptoBulkAll {H : Type} : List (DataW H) → Nat
  | [] => 0
  | d :: r => uptoBulk d + uptoBulkAll r
def uptoBulkEntries {H : Type} : List (Lit × DataW H) → Nat
  | [] => 0
  | x :: r => uptoBulkEntry x + uptoBulkEntries r
def uptoBulkEntry {H : Type} : Lit × DataW H → Nat
  | (.string bytes, d) => bytes.length + uptoBulk d + 1
  | (_, d) => uptoBulk d + 1
 end
def uptoSmall : (H : Type) → List (DataW H) → Bool := fun _ ds => decide (uptoBulkAll ds ≤ 1048576)
def OpenSpec.upto (s : _root_.Go.ChangeSpec) : _root_.Go.OpenSpec := { _root_.Go.OpenSpec.ofChange s with cond := some uptoSmall }

/-- 'drawbridgelaw17.WireFrames', WHERE WHAT IT READS IS OF BULK AT MOST 1048576: true; the input reads as it did. -/
def wireFramesUptoRow : OpenClaim := { program := "ytofecellbfhnjaa", sum := "53d2ef055cc2373e2057d5d72fb151d8d678c380075ed5378d08cc20e2646270", func := "drawbridge/drawbridgelaw17.WireFrames", spec := "wireFrames", unfollowed := true, recurses := true, apart := false, narrowed := true }
def WireFramesUptoSaid : Prop := wireFramesUptoRow.holds Try.pinned (OpenSpec.upto wireFramesSpec)

/-- 'drawbridgelaw17.WirePuts', WHERE WHAT IT READS IS OF BULK AT MOST 1048576: true; the input reads as it did. -/
def wirePutsUptoRow : OpenClaim := { program := "ytofecellbfhnjaa", sum := "53d2ef055cc2373e2057d5d72fb151d8d678c380075ed5378d08cc20e2646270", func := "drawbridge/drawbridgelaw17.WirePuts", spec := "wirePuts", unfollowed := true, recurses := true, apart := false, narrowed := true }
def WirePutsUptoSaid : Prop := wirePutsUptoRow.holds Try.pinned (OpenSpec.upto wirePutsSpec)

/-- 'drawbridgelaw17.WireExtensions', WHERE WHAT IT READS IS OF BULK AT MOST 1048576: true; the input reads as it did. -/
def wireExtensionsUptoRow : OpenClaim := { program := "ytofecellbfhnjaa", sum := "53d2ef055cc2373e2057d5d72fb151d8d678c380075ed5378d08cc20e2646270", func := "drawbridge/drawbridgelaw17.WireExtensions", spec := "wireExtensions", unfollowed := true, recurses := true, apart := false, narrowed := true }
def WireExtensionsUptoSaid : Prop := wireExtensionsUptoRow.holds Try.pinned (OpenSpec.upto wireExtensionsSpec)

/-- 'drawbridgelaw17.WireHellos', WHERE WHAT IT READS IS OF BULK AT MOST 1048576: true; the input reads as it did. -/
def wireHellosUptoRow : OpenClaim := { program := "ytofecellbfhnjaa", sum := "53d2ef055cc2373e2057d5d72fb151d8d678c380075ed5378d08cc20e2646270", func := "drawbridge/drawbridgelaw17.WireHellos", spec := "wireHellos", unfollowed := true, recurses := true, apart := false, narrowed := true }
def WireHellosUptoSaid : Prop := wireHellosUptoRow.holds Try.pinned (OpenSpec.upto wireHellosSpec)

/-- 'drawbridgelaw17.WireMessages', WHERE WHAT IT READS IS OF BULK AT MOST 1048576: true; the input reads as it did. -/
def wireMessagesUptoRow : OpenClaim := { program := "ytofecellbfhnjaa", sum := "53d2ef055cc2373e2057d5d72fb151d8d678c380075ed5378d08cc20e2646270", func := "drawbridge/drawbridgelaw17.WireMessages", spec := "wireMessages", unfollowed := true, recurses := true, apart := false, narrowed := true }
def WireMessagesUptoSaid : Prop := wireMessagesUptoRow.holds Try.pinned (OpenSpec.upto wireMessagesSpec)

/-- 'drawbridgelaw17.WireThere', WHERE WHAT IT READS IS OF BULK AT MOST 1048576: true; the input reads as it did. -/
def wireThereUptoRow : OpenClaim := { program := "ytofecellbfhnjaa", sum := "53d2ef055cc2373e2057d5d72fb151d8d678c380075ed5378d08cc20e2646270", func := "drawbridge/drawbridgelaw17.WireThere", spec := "wireThere", unfollowed := true, recurses := true, apart := false, narrowed := true }
def WireThereUptoSaid : Prop := wireThereUptoRow.holds Try.pinned (OpenSpec.upto wireThereSpec)

/-- 'drawbridgelaw17.WireBack', WHERE WHAT IT READS IS OF BULK AT MOST 1048576: true; the input reads as it did. -/
def wireBackUptoRow : OpenClaim := { program := "ytofecellbfhnjaa", sum := "53d2ef055cc2373e2057d5d72fb151d8d678c380075ed5378d08cc20e2646270", func := "drawbridge/drawbridgelaw17.WireBack", spec := "wireBack", unfollowed := true, recurses := true, apart := false, narrowed := true }
def WireBackUptoSaid : Prop := wireBackUptoRow.holds Try.pinned (OpenSpec.upto wireBackSpec)

end Rows
end Go.Proofs.Ytofecellbfhnjaa
