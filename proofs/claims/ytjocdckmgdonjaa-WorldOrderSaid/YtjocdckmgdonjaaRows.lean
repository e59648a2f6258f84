/-
  No cell of these rows narrows 'for every input' (looked for: loops, veiled, ifaces, maps, wideKeys, modest, calm, conditions, laid).
  DERIVED. THE GIVEN ROWS OF THIS SEAT. 4 by the template 'for every input the law returns true; each argument reads behind the call as it read before'; 0 by the template 'total and deterministic' (their statements: YtjocdckmgdonjaaTotals.lean).
  GIVEN WITH THE SEED: the statements are not yours to turn. If you find one false, say at which input.
  Laid BY PROGRAM, IN A SANDBOX (cutbox-rows.mjs): the forced cells as the released guide's own fill.sh prints them over the translation c18d37708b3b1566… (all of the seat's roots in one cut). By AI agents, Wed Nov 11 2026. No macro, syntax, notation, axiom, sorry.
-/
import Derived.Test.YtjocdckmgdonjaaChecked
import GoSem.Claim
import GoSem.ClaimJoined
import GoSem.ClaimMapViews
import Derived.JoinedTies
import Derived.KernelRfl
namespace Go.Proofs.Ytjocdckmgdonjaa
/- THE CELL 'sum', in the pinned program and in every row, IS THE sha256 OF THE DUMP (.gsa) THAT YtjocdckmgdonjaaProg.lean LOADS. Nothing in Lean hashes anything: it is a label: what it is worth is what the hold of that sum in a sandbox is worth. -/
noncomputable def Try.pinned : Pinned := { name := "ytjocdckmgdonjaa", sum := "c18d37708b3b1566cbd5fe2377ed437507fad9076b16363ea7d626911009e054", checked := Try.checked }
namespace Rows
def none {H : Type} : Left H := { results := [], args := [] }

/-- 'drawbridgelaw01.WorldDraws': WHATEVER THE INPUT: true; the input reads as it did. -/
def worldDrawsSpec : ChangeSpec := { name := "worldDraws", fn := fun _ => fun
  | [d1, d2, d3] => { results := [.lit (.bool true)], args := [d1, d2, d3] }
  | _ => none }
def worldDrawsRow : OpenClaim := { program := "ytjocdckmgdonjaa", sum := "c18d37708b3b1566cbd5fe2377ed437507fad9076b16363ea7d626911009e054", func := "drawbridge/drawbridgelaw01.WorldDraws", spec := "worldDraws", apart := false }
def WorldDrawsSaid : Prop := worldDrawsRow.holds Try.pinned (OpenSpec.ofChange worldDrawsSpec)

/-- ITS FALSE NEIGHBOUR: 'it returns false'. Refute it at one input. -/
def worldDrawsWrong : ChangeSpec := { name := "worldDraws", fn := fun _ => fun
  | [d1, d2, d3] => { results := [.lit (.bool false)], args := [d1, d2, d3] }
  | _ => none }
def WorldDrawsWrongFalsely : Prop := worldDrawsRow.holds Try.pinned (OpenSpec.ofChange worldDrawsWrong)

/-- 'drawbridgelaw01.WorldWhole': WHATEVER THE INPUT: true; the input reads as it did. -/
def worldWholeSpec : ChangeSpec := { name := "worldWhole", fn := fun _ => fun
  | [d1, d2, d3, d4] => { results := [.lit (.bool true)], args := [d1, d2, d3, d4] }
  | _ => none }
def worldWholeRow : OpenClaim := { program := "ytjocdckmgdonjaa", sum := "c18d37708b3b1566cbd5fe2377ed437507fad9076b16363ea7d626911009e054", func := "drawbridge/drawbridgelaw01.WorldWhole", spec := "worldWhole", apart := false }
def WorldWholeSaid : Prop := worldWholeRow.holds Try.pinned (OpenSpec.ofChange worldWholeSpec)

/-- ITS FALSE NEIGHBOUR: 'it returns false'. Refute it at one input. -/
def worldWholeWrong : ChangeSpec := { name := "worldWhole", fn := fun _ => fun
  | [d1, d2, d3, d4] => { results := [.lit (.bool false)], args := [d1, d2, d3, d4] }
  | _ => none }
def WorldWholeWrongFalsely : Prop := worldWholeRow.holds Try.pinned (OpenSpec.ofChange worldWholeWrong)

/-- 'drawbridgelaw01.WorldTime': WHATEVER THE INPUT: true; the input reads as it did. -/
def worldTimeSpec : ChangeSpec := { name := "worldTime", fn := fun _ => fun
  | [d1, d2, d3] => { results := [.lit (.bool true)], args := [d1, d2, d3] }
  | _ => none }
def worldTimeRow : OpenClaim := { program := "ytjocdckmgdonjaa", sum := "c18d37708b3b1566cbd5fe2377ed437507fad9076b16363ea7d626911009e054", func := "drawbridge/drawbridgelaw01.WorldTime", spec := "worldTime", apart := false }
def WorldTimeSaid : Prop := worldTimeRow.holds Try.pinned (OpenSpec.ofChange worldTimeSpec)

/-- ITS FALSE NEIGHBOUR: 'it returns false'. Refute it at one input. -/
def worldTimeWrong : ChangeSpec := { name := "worldTime", fn := fun _ => fun
  | [d1, d2, d3] => { results := [.lit (.bool false)], args := [d1, d2, d3] }
  | _ => none }
def WorldTimeWrongFalsely : Prop := worldTimeRow.holds Try.pinned (OpenSpec.ofChange worldTimeWrong)

/-- 'drawbridgelaw01.WorldOrder': WHATEVER THE INPUT: true; the input reads as it did. -/
def worldOrderSpec : ChangeSpec := { name := "worldOrder", fn := fun _ => fun
  | [d1, d2] => { results := [.lit (.bool true)], args := [d1, d2] }
  | _ => none }
def worldOrderRow : OpenClaim := { program := "ytjocdckmgdonjaa", sum := "c18d37708b3b1566cbd5fe2377ed437507fad9076b16363ea7d626911009e054", func := "drawbridge/drawbridgelaw01.WorldOrder", spec := "worldOrder", apart := false }
def WorldOrderSaid : Prop := worldOrderRow.holds Try.pinned (OpenSpec.ofChange worldOrderSpec)

/-- ITS FALSE NEIGHBOUR: 'it returns false'. Refute it at one input. -/
def worldOrderWrong : ChangeSpec := { name := "worldOrder", fn := fun _ => fun
  | [d1, d2] => { results := [.lit (.bool false)], args := [d1, d2] }
  | _ => none }
def WorldOrderWrongFalsely : Prop := worldOrderRow.holds Try.pinned (OpenSpec.ofChange worldOrderWrong)

/- THE SECOND FORM. 'bulk': how many values and letters a reading holds, each counted each time it is reached (what is shared counts as often as it is met; a slice's spare places count too). A statement '..UptoSaid' is the law's where the arguments, and the package variables that the reading takes, are together of bulk at most 1048576: NARROWER than '..Said'. Prove '..Said' where nothing that the law and all that it calls make is longer than what came in: it says more and counts as full. Else prove '..UptoSaid'. A law counts once. -/
mutual
def uptoBulk {H : Type} : DataW H → Nat
  | .lit (.string bytes) => bytes.length + 1
  | .lit _ => 1
  | .nil => 1
  | .ptr d => uptoBulk d + 1
  | .slice elems spare => uptoBulkAll elems + uptoBulkAll spare + 1
  | .agg parts => uptoBulkAll parts + 1
  | .iface _ d => uptoBulk d + 1
  | .map entries => uptoBulkEntries entries + 1
  | .held _ => 1
def uptoBulkAll {H : Type} : List (DataW H) → Nat
  | [] => 0
  | d :: r => uptoBulk d + uptoBulkAll r
def uptoBulkEntries {H : Type} : List (Lit × DataW H) → Nat
  | [] => 0
  | x :: r => uptoBulkEntry x + uptoBulkEntries r
def uptoBulkEntry {H : Type} : Lit × DataW H → Nat
  | (.string bytes, d) => bytes.length + uptoBulk d + 1
  | (_, d) => uptoBulk d + 1
 end
def uptoSmall : (H : Type) → List (DataW H) → Bool := fun _ ds => decide (uptoBulkAll ds ≤ 1048576)
def OpenSpec.upto (s : _root_.Go.ChangeSpec) : _root_.Go.OpenSpec := { _root_.Go.OpenSpec.ofChange s with cond := some uptoSmall }

/-- 'drawbridgelaw01.WorldDraws', WHERE WHAT IT READS IS OF BULK AT MOST 1048576: true; the input reads as it did. -/
def worldDrawsUptoRow : OpenClaim := { program := "ytjocdckmgdonjaa", sum := "c18d37708b3b1566cbd5fe2377ed437507fad9076b16363ea7d626911009e054", func := "drawbridge/drawbridgelaw01.WorldDraws", spec := "worldDraws", apart := false, narrowed := true }
def WorldDrawsUptoSaid : Prop := worldDrawsUptoRow.holds Try.pinned (OpenSpec.upto worldDrawsSpec)

/-- 'drawbridgelaw01.WorldWhole', WHERE WHAT IT READS IS OF BULK AT MOST 1048576: true; the input reads as it did. -/
def worldWholeUptoRow : OpenClaim := { program := "ytjocdckmgdonjaa", sum := "c18d37708b3b1566cbd5fe2377ed437507fad9076b16363ea7d626911009e054", func := "drawbridge/drawbridgelaw01.WorldWhole", spec := "worldWhole", apart := false, narrowed := true }
def WorldWholeUptoSaid : Prop := worldWholeUptoRow.holds Try.pinned (OpenSpec.upto worldWholeSpec)

/-- 'drawbridgelaw01.WorldTime', WHERE WHAT IT READS IS OF BULK AT MOST 1048576: true; the input reads as it did. -/
def worldTimeUptoRow : OpenClaim := { program := "ytjocdckmgdonjaa", sum := "c18d37708b3b1566cbd5fe2377ed437507fad9076b16363ea7d626911009e054", func := "drawbridge/drawbridgelaw01.WorldTime", spec := "worldTime", apart := false, narrowed := true }
def WorldTimeUptoSaid : Prop := worldTimeUptoRow.holds Try.pinned (OpenSpec.upto worldTimeSpec)

/-- 'drawbridgelaw01.WorldOrder', WHERE WHAT IT READS IS OF BULK AT MOST 1048576: true; the input reads as it did. -/
def worldOrderUptoRow : OpenClaim := { program := "ytjocdckmgdonjaa", sum := "c18d37708b3b1566cbd5fe2377ed437507fad9076b16363ea7d626911009e054", func := "drawbridge/drawbridgelaw01.WorldOrder", spec := "worldOrder", apart := false, narrowed := true }
def WorldOrderUptoSaid : Prop := worldOrderUptoRow.holds Try.pinned (OpenSpec.upto worldOrderSpec)

end Rows
end Go.Proofs.Ytjocdckmgdonjaa
