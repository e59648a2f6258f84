/-
  No cell of these rows narrows 'for every input' (looked for: loops, veiled, ifaces, maps, wideKeys, modest, calm, conditions, laid).
  DERIVED. THE GIVEN ROWS OF THIS SEAT. 4 by the template 'for every input the law returns true; each argument reads behind the call as it read before'; 0 by the template 'total and deterministic' (their statements: YtfeibokonhdgnaaTotals.lean).
  GIVEN WITH THE SEED: the statements are not yours to turn. If you find one false, say at which input.
  Laid BY PROGRAM, IN A SANDBOX (cutbox-rows.mjs): the forced cells as the released guide's own fill.sh prints them over the translation e72bf075b989afe2… (all of the seat's roots in one cut). By AI agents, Wed Nov 11 2026. No macro, syntax, notation, axiom, sorry.
-/
import Derived.Test.YtfeibokonhdgnaaChecked
import GoSem.Claim
import GoSem.ClaimJoined
import GoSem.ClaimMapViews
import Derived.JoinedTies
import Derived.KernelRfl
namespace Go.Proofs.Ytfeibokonhdgnaa
/- THE CELL 'sum', in the pinned program and in every row, IS THE sha256 OF THE DUMP (.gsa) THAT YtfeibokonhdgnaaProg.lean LOADS. Nothing in Lean hashes anything: it is a label: what it is worth is what the hold of that sum in a sandbox is worth. -/
noncomputable def Try.pinned : Pinned := { name := "ytfeibokonhdgnaa", sum := "e72bf075b989afe22f04fa16a6e216ade2d53b45ee9441eebbead1a2dcbea6f1", checked := Try.checked }
namespace Rows
def none {H : Type} : Left H := { results := [], args := [] }

/-- 'drawbridgelaw02.FilesOwn': WHATEVER THE INPUT: true; the input reads as it did. -/
def filesOwnSpec : ChangeSpec := { name := "filesOwn", fn := fun _ => fun
  | [d1, d2, d3, d4] => { results := [.lit (.bool true)], args := [d1, d2, d3, d4] }
  | _ => none }
def filesOwnRow : OpenClaim := { program := "ytfeibokonhdgnaa", sum := "e72bf075b989afe22f04fa16a6e216ade2d53b45ee9441eebbead1a2dcbea6f1", func := "drawbridge/drawbridgelaw02.FilesOwn", spec := "filesOwn", apart := false }
def FilesOwnSaid : Prop := filesOwnRow.holds Try.pinned (OpenSpec.ofChange filesOwnSpec)

/-- ITS FALSE NEIGHBOUR: 'it returns false'. Refute it at one input. -/
def filesOwnWrong : ChangeSpec := { name := "filesOwn", fn := fun _ => fun
  | [d1, d2, d3, d4] => { results := [.lit (.bool false)], args := [d1, d2, d3, d4] }
  | _ => none }
def FilesOwnWrongFalsely : Prop := filesOwnRow.holds Try.pinned (OpenSpec.ofChange filesOwnWrong)

/-- 'drawbridgelaw02.FilesTorn': WHATEVER THE INPUT: true; the input reads as it did. -/
def filesTornSpec : ChangeSpec := { name := "filesTorn", fn := fun _ => fun
  | [d1, d2, d3, d4] => { results := [.lit (.bool true)], args := [d1, d2, d3, d4] }
  | _ => none }
def filesTornRow : OpenClaim := { program := "ytfeibokonhdgnaa", sum := "e72bf075b989afe22f04fa16a6e216ade2d53b45ee9441eebbead1a2dcbea6f1", func := "drawbridge/drawbridgelaw02.FilesTorn", spec := "filesTorn", apart := false }
def FilesTornSaid : Prop := filesTornRow.holds Try.pinned (OpenSpec.ofChange filesTornSpec)

/-- ITS FALSE NEIGHBOUR: 'it returns false'. Refute it at one input. -/
def filesTornWrong : ChangeSpec := { name := "filesTorn", fn := fun _ => fun
  | [d1, d2, d3, d4] => { results := [.lit (.bool false)], args := [d1, d2, d3, d4] }
  | _ => none }
def FilesTornWrongFalsely : Prop := filesTornRow.holds Try.pinned (OpenSpec.ofChange filesTornWrong)

/-- 'drawbridgelaw02.FilesFull': WHATEVER THE INPUT: true; the input reads as it did. -/
def filesFullSpec : ChangeSpec := { name := "filesFull", fn := fun _ => fun
  | [d1, d2] => { results := [.lit (.bool true)], args := [d1, d2] }
  | _ => none }
def filesFullRow : OpenClaim := { program := "ytfeibokonhdgnaa", sum := "e72bf075b989afe22f04fa16a6e216ade2d53b45ee9441eebbead1a2dcbea6f1", func := "drawbridge/drawbridgelaw02.FilesFull", spec := "filesFull", unfollowed := true, recurses := true, apart := false }
def FilesFullSaid : Prop := filesFullRow.holds Try.pinned (OpenSpec.ofChange filesFullSpec)

/-- ITS FALSE NEIGHBOUR: 'it returns false'. Refute it at one input. -/
def filesFullWrong : ChangeSpec := { name := "filesFull", fn := fun _ => fun
  | [d1, d2] => { results := [.lit (.bool false)], args := [d1, d2] }
  | _ => none }
def FilesFullWrongFalsely : Prop := filesFullRow.holds Try.pinned (OpenSpec.ofChange filesFullWrong)

/-- 'drawbridgelaw02.FilesPlays': WHATEVER THE INPUT: true; the input reads as it did. -/
def filesPlaysSpec : ChangeSpec := { name := "filesPlays", fn := fun _ => fun
  | [d] => { results := [.lit (.bool true)], args := [d] }
  | _ => none }
def filesPlaysRow : OpenClaim := { program := "ytfeibokonhdgnaa", sum := "e72bf075b989afe22f04fa16a6e216ade2d53b45ee9441eebbead1a2dcbea6f1", func := "drawbridge/drawbridgelaw02.FilesPlays", spec := "filesPlays", unfollowed := true, recurses := true, apart := false }
def FilesPlaysSaid : Prop := filesPlaysRow.holds Try.pinned (OpenSpec.ofChange filesPlaysSpec)

/-- ITS FALSE NEIGHBOUR: 'it returns false'. Refute it at one input. -/
def filesPlaysWrong : ChangeSpec := { name := "filesPlays", fn := fun _ => fun
  | [d] => { results := [.lit (.bool false)], args := [d] }
  | _ => none }
def FilesPlaysWrongFalsely : Prop := filesPlaysRow.holds Try.pinned (OpenSpec.ofChange filesPlaysWrong)

/- THE SECOND FORM. 'bulk': how many values and letters a reading holds, each counted each time it is reached (what is shared counts as often as it is met; a slice's spare places count too). A statement '..UptoSaid' is the law's where the arguments, and the package variables that the reading takes, are together of bulk at most 1048576: NARROWER than '..Said'. Prove '..Said' where nothing that the law and all that it calls make is longer than what came in: it says more and counts as full. Else prove '..UptoSaid'. A law counts once. -/
mutual
def uptoBulk {H : Type} : DataW H → Nat
  | .lit (.string bytes) => bytes.length + 1
  | .lit _ => 1
  | .nil => 1
  | .ptr d => uptoBulk d + 1
  | .slice elems spare => uptoBulkAll elems + uptoBulkAll spare + 1
  | .agg parts => uptoBulkAll parts + 1
  | .iface _ d => uptoBulk d + 1
  | .map entries => uptoBulkEntries entries + 1
  | .held _ => 1
def uptoBulkAll {H : Type} : List (DataW H) → Nat
  | [] => 0
  | d :: r => uptoBulk d + uptoBulkAll r
def uptoBulkEntries {H : Type} : List (Lit × DataW H) → Nat
  | [] => 0
  | x :: r => uptoBulkEntry x + uptoBulkEntries r
def uptoBulkEntry {H : Type} : Lit × DataW H → Nat
  | (.string bytes, d) => bytes.length + uptoBulk d + 1
  | (_, d) => uptoBulk d + 1
 end
def uptoSmall : (H : Type) → List (DataW H) → Bool := fun _ ds => decide (uptoBulkAll ds ≤ 1048576)
def OpenSpec.upto (s : _root_.Go.ChangeSpec) : _root_.Go.OpenSpec := { _root_.Go.OpenSpec.ofChange s with cond := some uptoSmall }

/-- 'drawbridgelaw02.FilesOwn', WHERE WHAT IT READS IS OF BULK AT MOST 1048576: true; the input reads as it did. -/
def filesOwnUptoRow : OpenClaim := { program := "ytfeibokonhdgnaa", sum := "e72bf075b989afe22f04fa16a6e216ade2d53b45ee9441eebbead1a2dcbea6f1", func := "drawbridge/drawbridgelaw02.FilesOwn", spec := "filesOwn", apart := false, narrowed := true }
def FilesOwnUptoSaid : Prop := filesOwnUptoRow.holds Try.pinned (OpenSpec.upto filesOwnSpec)

/-- 'drawbridgelaw02.FilesTorn', WHERE WHAT IT READS IS OF BULK AT MOST 1048576: true; the input reads as it did. -/
def filesTornUptoRow : OpenClaim := { program := "ytfeibokonhdgnaa", sum := "e72bf075b989afe22f04fa16a6e216ade2d53b45ee9441eebbead1a2dcbea6f1", func := "drawbridge/drawbridgelaw02.FilesTorn", spec := "filesTorn", apart := false, narrowed := true }
def FilesTornUptoSaid : Prop := filesTornUptoRow.holds Try.pinned (OpenSpec.upto filesTornSpec)

/-- 'drawbridgelaw02.FilesFull', WHERE WHAT IT READS IS OF BULK AT MOST 1048576: true; the input reads as it did. -/
def filesFullUptoRow : OpenClaim := { program := "ytfeibokonhdgnaa", sum := "e72bf075b989afe22f04fa16a6e216ade2d53b45ee9441eebbead1a2dcbea6f1", func := "drawbridge/drawbridgelaw02.FilesFull", spec := "filesFull", unfollowed := true, recurses := true, apart := false, narrowed := true }
def FilesFullUptoSaid : Prop := filesFullUptoRow.holds Try.pinned (OpenSpec.upto filesFullSpec)

/-- 'drawbridgelaw02.FilesPlays', WHERE WHAT IT READS IS OF BULK AT MOST 1048576: true; the input reads as it did. -/
def filesPlaysUptoRow : OpenClaim := { program := "ytfeibokonhdgnaa", sum := "e72bf075b989afe22f04fa16a6e216ade2d53b45ee9441eebbead1a2dcbea6f1", func := "drawbridge/drawbridgelaw02.FilesPlays", spec := "filesPlays", unfollowed := true, recurses := true, apart := false, narrowed := true }
def FilesPlaysUptoSaid : Prop := filesPlaysUptoRow.holds Try.pinned (OpenSpec.upto filesPlaysSpec)

end Rows
end Go.Proofs.Ytfeibokonhdgnaa
