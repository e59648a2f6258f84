/-
  No cell of these rows narrows 'for every input' (looked for: loops, veiled, ifaces, maps, wideKeys, modest, calm, conditions, laid).
  DERIVED. THE GIVEN ROWS OF THIS SEAT. 5 by the template 'for every input the law returns true; each argument reads behind the call as it read before'; 0 by the template 'total and deterministic' (their statements: YtjecaljhipfbfaaTotals.lean).
  GIVEN WITH THE SEED: the statements are not yours to turn. If you find one false, say at which input.
  Laid BY PROGRAM, IN A SANDBOX (cutbox-rows.mjs): the forced cells as the released guide's own fill.sh prints them over the translation 4e57f791dac418b2… (all of the seat's roots in one cut). By AI agents, Wed Nov 11 2026. No macro, syntax, notation, axiom, sorry.
-/
import Derived.Test.YtjecaljhipfbfaaChecked
import GoSem.Claim
import GoSem.ClaimJoined
import GoSem.ClaimMapViews
import Derived.JoinedTies
import Derived.KernelRfl
namespace Go.Proofs.Ytjecaljhipfbfaa
/- THE CELL 'sum', in the pinned program and in every row, IS THE sha256 OF THE DUMP (.gsa) THAT YtjecaljhipfbfaaProg.lean LOADS. Nothing in Lean hashes anything: it is a label: what it is worth is what the hold of that sum in a sandbox is worth. -/
noncomputable def Try.pinned : Pinned := { name := "ytjecaljhipfbfaa", sum := "4e57f791dac418b21ca48b3ba53e321dd58c11d888abb3ae7c2a7f036d29a7e5", checked := Try.checked }
namespace Rows
def none {H : Type} : Left H := { results := [], args := [] }

/-- 'drawbridgelaw24.JudgeFaults': WHATEVER THE INPUT: true; the input reads as it did. -/
def judgeFaultsSpec : ChangeSpec := { name := "judgeFaults", fn := fun _ => fun
  | [d] => { results := [.lit (.bool true)], args := [d] }
  | _ => none }
def judgeFaultsRow : OpenClaim := { program := "ytjecaljhipfbfaa", sum := "4e57f791dac418b21ca48b3ba53e321dd58c11d888abb3ae7c2a7f036d29a7e5", func := "drawbridge/drawbridgelaw24.JudgeFaults", spec := "judgeFaults", apart := false }
def JudgeFaultsSaid : Prop := judgeFaultsRow.holds Try.pinned (OpenSpec.ofChange judgeFaultsSpec)

/-- ITS FALSE NEIGHBOUR: 'it returns false'. Refute it at one input. -/
def judgeFaultsWrong : ChangeSpec := { name := "judgeFaults", fn := fun _ => fun
  | [d] => { results := [.lit (.bool false)], args := [d] }
  | _ => none }
def JudgeFaultsWrongFalsely : Prop := judgeFaultsRow.holds Try.pinned (OpenSpec.ofChange judgeFaultsWrong)

/-- 'drawbridgelaw24.JudgeLess': WHATEVER THE INPUT: true; the input reads as it did. -/
def judgeLessSpec : ChangeSpec := { name := "judgeLess", fn := fun _ => fun
  | [d1, d2, d3] => { results := [.lit (.bool true)], args := [d1, d2, d3] }
  | _ => none }
def judgeLessRow : OpenClaim := { program := "ytjecaljhipfbfaa", sum := "4e57f791dac418b21ca48b3ba53e321dd58c11d888abb3ae7c2a7f036d29a7e5", func := "drawbridge/drawbridgelaw24.JudgeLess", spec := "judgeLess", apart := false }
def JudgeLessSaid : Prop := judgeLessRow.holds Try.pinned (OpenSpec.ofChange judgeLessSpec)

/-- ITS FALSE NEIGHBOUR: 'it returns false'. Refute it at one input. -/
def judgeLessWrong : ChangeSpec := { name := "judgeLess", fn := fun _ => fun
  | [d1, d2, d3] => { results := [.lit (.bool false)], args := [d1, d2, d3] }
  | _ => none }
def JudgeLessWrongFalsely : Prop := judgeLessRow.holds Try.pinned (OpenSpec.ofChange judgeLessWrong)

/-- 'drawbridgelaw24.JudgeBreaks': WHATEVER THE INPUT: true; the input reads as it did. -/
def judgeBreaksSpec : ChangeSpec := { name := "judgeBreaks", fn := fun _ => fun
  | [d1, d2, d3] => { results := [.lit (.bool true)], args := [d1, d2, d3] }
  | _ => none }
def judgeBreaksRow : OpenClaim := { program := "ytjecaljhipfbfaa", sum := "4e57f791dac418b21ca48b3ba53e321dd58c11d888abb3ae7c2a7f036d29a7e5", func := "drawbridge/drawbridgelaw24.JudgeBreaks", spec := "judgeBreaks", unfollowed := true, recurses := true, apart := false }
def JudgeBreaksSaid : Prop := judgeBreaksRow.holds Try.pinned (OpenSpec.ofChange judgeBreaksSpec)

/-- ITS FALSE NEIGHBOUR: 'it returns false'. Refute it at one input. -/
def judgeBreaksWrong : ChangeSpec := { name := "judgeBreaks", fn := fun _ => fun
  | [d1, d2, d3] => { results := [.lit (.bool false)], args := [d1, d2, d3] }
  | _ => none }
def JudgeBreaksWrongFalsely : Prop := judgeBreaksRow.holds Try.pinned (OpenSpec.ofChange judgeBreaksWrong)

/-- 'drawbridgelaw24.JudgeRelays': WHATEVER THE INPUT: true; the input reads as it did. -/
def judgeRelaysSpec : ChangeSpec := { name := "judgeRelays", fn := fun _ => fun
  | [d1, d2] => { results := [.lit (.bool true)], args := [d1, d2] }
  | _ => none }
def judgeRelaysRow : OpenClaim := { program := "ytjecaljhipfbfaa", sum := "4e57f791dac418b21ca48b3ba53e321dd58c11d888abb3ae7c2a7f036d29a7e5", func := "drawbridge/drawbridgelaw24.JudgeRelays", spec := "judgeRelays", apart := false }
def JudgeRelaysSaid : Prop := judgeRelaysRow.holds Try.pinned (OpenSpec.ofChange judgeRelaysSpec)

/-- ITS FALSE NEIGHBOUR: 'it returns false'. Refute it at one input. -/
def judgeRelaysWrong : ChangeSpec := { name := "judgeRelays", fn := fun _ => fun
  | [d1, d2] => { results := [.lit (.bool false)], args := [d1, d2] }
  | _ => none }
def JudgeRelaysWrongFalsely : Prop := judgeRelaysRow.holds Try.pinned (OpenSpec.ofChange judgeRelaysWrong)

/-- 'drawbridgelaw24.JudgeReplays': WHATEVER THE INPUT: true; the input reads as it did. -/
def judgeReplaysSpec : ChangeSpec := { name := "judgeReplays", fn := fun _ => fun
  | [d1, d2] => { results := [.lit (.bool true)], args := [d1, d2] }
  | _ => none }
def judgeReplaysRow : OpenClaim := { program := "ytjecaljhipfbfaa", sum := "4e57f791dac418b21ca48b3ba53e321dd58c11d888abb3ae7c2a7f036d29a7e5", func := "drawbridge/drawbridgelaw24.JudgeReplays", spec := "judgeReplays", apart := false }
def JudgeReplaysSaid : Prop := judgeReplaysRow.holds Try.pinned (OpenSpec.ofChange judgeReplaysSpec)

/-- ITS FALSE NEIGHBOUR: 'it returns false'. Refute it at one input. -/
def judgeReplaysWrong : ChangeSpec := { name := "judgeReplays", fn := fun _ => fun
  | [d1, d2] => { results := [.lit (.bool false)], args := [d1, d2] }
  | _ => none }
def JudgeReplaysWrongFalsely : Prop := judgeReplaysRow.holds Try.pinned (OpenSpec.ofChange judgeReplaysWrong)

/- THE SECOND FORM. 'bulk': how many values and letters a reading holds, each counted each time it is reached (what is shared counts as often as it is met; a slice's spare places count too). A statement '..UptoSaid' is the law's where the arguments, and the package variables that the reading takes, are together of bulk at most 1048576: NARROWER than '..Said'. Prove '..Said' where nothing that the law and all that it calls make is longer than what came in: it says more and counts as full. Else prove '..UptoSaid'. A law counts once. -/
mutual
def uptoBulk {H : Type} : DataW H → Nat
  | .lit (.string bytes) => bytes.length + 1
  | .lit _ => 1
  | .nil => 1
  | .ptr d => uptoBulk d + 1
  | .slice elems spare => uptoBulkAll elems + uptoBulkAll spare + 1
  | .agg parts => uptoBulkAll parts + 1
  | .iface _ d => uptoBulk d + 1
  | .map entries => uptoBulkEntries entries + 1
  | .held _ => 1
def uptoBulkAll {H : Type} : List (DataW H) → Nat
  | [] => 0
  | d :: r => uptoBulk d + uptoBulkAll r
def uptoBulkEntries {H : Type} : List (Lit × DataW H) → Nat
  | [] => 0
  | x :: r => uptoBulkEntry x + uptoBulkEntries r
def uptoBulkEntry {H : Type} : Lit × DataW H → Nat
  | (.string bytes, d) => bytes.length + uptoBulk d + 1
  | (_, d) => uptoBulk d + 1
 end
def uptoSmall : (H : Type) → List (DataW H) → Bool := fun _ ds => decide (uptoBulkAll ds ≤ 1048576)
def OpenSpec.upto (s : _root_.Go.ChangeSpec) : _root_.Go.OpenSpec := { _root_.Go.OpenSpec.ofChange s with cond := some uptoSmall }

/-- 'drawbridgelaw24.JudgeFaults', WHERE WHAT IT READS IS OF BULK AT MOST 1048576: true; the input reads as it did. -/
def judgeFaultsUptoRow : OpenClaim := { program := "ytjecaljhipfbfaa", sum := "4e57f791dac418b21ca48b3ba53e321dd58c11d888abb3ae7c2a7f036d29a7e5", func := "drawbridge/drawbridgelaw24.JudgeFaults", spec := "judgeFaults", apart := false, narrowed := true }
def JudgeFaultsUptoSaid : Prop := judgeFaultsUptoRow.holds Try.pinned (OpenSpec.upto judgeFaultsSpec)

/-- 'drawbridgelaw24.JudgeLess', WHERE WHAT IT READS IS OF BULK AT MOST 1048576: true; the input reads as it did. -/
def judgeLessUptoRow : OpenClaim := { program := "ytjecaljhipfbfaa", sum := "4e57f791dac418b21ca48b3ba53e321dd58c11d888abb3ae7c2a7f036d29a7e5", func := "drawbridge/drawbridgelaw24.JudgeLess", spec := "judgeLess", apart := false, narrowed := true }
def JudgeLessUptoSaid : Prop := judgeLessUptoRow.holds Try.pinned (OpenSpec.upto judgeLessSpec)

/-- 'drawbridgelaw24.JudgeBreaks', WHERE WHAT IT READS IS OF BULK AT MOST 1048576: true; the input reads as it did. -/
def judgeBreaksUptoRow : OpenClaim := { program := "ytjecaljhipfbfaa", sum := "4e57f791dac418b21ca48b3ba53e321dd58c11d888abb3ae7c2a7f036d29a7e5", func := "drawbridge/drawbridgelaw24.JudgeBreaks", spec := "judgeBreaks", unfollowed := true, recurses := true, apart := false, narrowed := true }
def JudgeBreaksUptoSaid : Prop := judgeBreaksUptoRow.holds Try.pinned (OpenSpec.upto judgeBreaksSpec)

/-- 'drawbridgelaw24.JudgeRelays', WHERE WHAT IT READS IS OF BULK AT MOST 1048576: true; the input reads as it did. -/
def judgeRelaysUptoRow : OpenClaim := { program := "ytjecaljhipfbfaa", sum := "4e57f791dac418b21ca48b3ba53e321dd58c11d888abb3ae7c2a7f036d29a7e5", func := "drawbridge/drawbridgelaw24.JudgeRelays", spec := "judgeRelays", apart := false, narrowed := true }
def JudgeRelaysUptoSaid : Prop := judgeRelaysUptoRow.holds Try.pinned (OpenSpec.upto judgeRelaysSpec)

/-- 'drawbridgelaw24.JudgeReplays', WHERE WHAT IT READS IS OF BULK AT MOST 1048576: true; the input reads as it did. -/
def judgeReplaysUptoRow : OpenClaim := { program := "ytjecaljhipfbfaa", sum := "4e57f791dac418b21ca48b3ba53e321dd58c11d888abb3ae7c2a7f036d29a7e5", func := "drawbridge/drawbridgelaw24.JudgeReplays", spec := "judgeReplays", apart := false, narrowed := true }
def JudgeReplaysUptoSaid : Prop := judgeReplaysUptoRow.holds Try.pinned (OpenSpec.upto judgeReplaysSpec)

end Rows
end Go.Proofs.Ytjecaljhipfbfaa
