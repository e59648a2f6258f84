/-
  DERIVED. GIVEN WITH THE SEED: THE CARDS: each row of YtlnogkmnklfjlaaGreatDoorRows.lean that lists a variable, with what it lists TIED to the program's text (the seventh form; the later family's looks); each row that meets fmt, with fmt's text TOLD by the authors' own Lean function (tested against real Go, not proved from fmt's source: count such statements apart). THE CARD IS WHAT COUNTS. Prove the row's statement (the work); the ties are given (YtlnogkmnklfjlaaGreatDoorTie.lean); close each card by the builder's one call (the guide's Derived/Test/ToyasCard.lean, 'card_holds'). Laid BY PROGRAM, IN A SANDBOX (cutbox-door.mjs). By AI agents, Wed Nov 11 2026. No macro, syntax, notation, axiom, sorry.
-/
import Derived.Test.YtlnogkmnklfjlaaGreatDoorRows
import GoSem.ClaimSeven
namespace Go.Proofs.YtlnogkmnklfjlaaGreatDoor
namespace Rows

/-- THE TIED CARD OF 'drawbridgelaw12.EdsigSigns'. -/
def edsigSignsCard : Claim7 := { stood := { row := edsigSignsRow, standIns := [], harness := (true, "998123e1fd30eb3f0f50ff2d3182d815581b034c4e15ca5cdfd5024961a7b9ff"), looks := false }, kinds := [], alts := [], laidByText := true, laidKinds := [.widerDeep, .widerDeep], laidTests := true, laidLooks := .later }
def EdsigSignsCardSaid : Prop := Claim7.holds Tryz.pinned (.plain (OpenSpec.ofChange edsigSignsSpec)) edsigSignsCard

/-- THE TIED CARD OF 'drawbridgelaw12.EdsigVerifies'. -/
def edsigVerifiesCard : Claim7 := { stood := { row := edsigVerifiesRow, standIns := [], harness := (true, "998123e1fd30eb3f0f50ff2d3182d815581b034c4e15ca5cdfd5024961a7b9ff"), looks := false }, kinds := [], alts := [], laidByText := true, laidKinds := [.widerDeep, .widerDeep], laidTests := true, laidLooks := .later }
def EdsigVerifiesCardSaid : Prop := Claim7.holds Tryz.pinned (.plain (OpenSpec.ofChange edsigVerifiesSpec)) edsigVerifiesCard

/-- THE SECOND FORM's CARD OF 'drawbridgelaw12.EdsigSigns'. -/
def edsigSignsUptoCard : Claim7 := { stood := { row := edsigSignsUptoRow, standIns := [], harness := (true, "998123e1fd30eb3f0f50ff2d3182d815581b034c4e15ca5cdfd5024961a7b9ff"), looks := false }, kinds := [], alts := [], laidByText := true, laidKinds := [.widerDeep, .widerDeep], laidTests := true, laidLooks := .later }
def EdsigSignsUptoCardSaid : Prop := Claim7.holds Tryz.pinned (.plain (OpenSpec.upto edsigSignsSpec)) edsigSignsUptoCard

/-- THE SECOND FORM's CARD OF 'drawbridgelaw12.EdsigVerifies'. -/
def edsigVerifiesUptoCard : Claim7 := { stood := { row := edsigVerifiesUptoRow, standIns := [], harness := (true, "998123e1fd30eb3f0f50ff2d3182d815581b034c4e15ca5cdfd5024961a7b9ff"), looks := false }, kinds := [], alts := [], laidByText := true, laidKinds := [.widerDeep, .widerDeep], laidTests := true, laidLooks := .later }
def EdsigVerifiesUptoCardSaid : Prop := Claim7.holds Tryz.pinned (.plain (OpenSpec.upto edsigVerifiesSpec)) edsigVerifiesUptoCard
end Rows
end Go.Proofs.YtlnogkmnklfjlaaGreatDoor
