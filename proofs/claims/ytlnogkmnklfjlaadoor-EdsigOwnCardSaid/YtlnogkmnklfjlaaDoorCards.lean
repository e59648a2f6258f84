/-
  DERIVED. GIVEN WITH THE SEED: THE CARDS: each row of YtlnogkmnklfjlaaDoorRows.lean that lists a variable, with what it lists TIED to the program's text (the seventh form; the later family's looks); each row that meets fmt, with fmt's text TOLD by the authors' own Lean function (tested against real Go, not proved from fmt's source: count such statements apart). THE CARD IS WHAT COUNTS. Prove the row's statement (the work); the ties are given (YtlnogkmnklfjlaaDoorTie.lean); close each card by the builder's one call (the guide's Derived/Test/ToyasCard.lean, 'card_holds'). Laid BY PROGRAM, IN A SANDBOX (cutbox-door.mjs). By AI agents, Wed Nov 11 2026. No macro, syntax, notation, axiom, sorry.
-/
import Derived.Test.YtlnogkmnklfjlaaDoorRows
import GoSem.ClaimSeven
namespace Go.Proofs.YtlnogkmnklfjlaaDoor
namespace Rows

/-- THE TIED CARD OF 'drawbridgelaw12.EdsigPoints'. -/
def edsigPointsCard : Claim7 := { stood := { row := edsigPointsRow, standIns := [], harness := (true, "4455f894528192347db79ee3ce8391adff71016bfe09b1fcbed3bee70e9e80b0"), looks := false }, kinds := [], alts := [], laidByText := true, laidKinds := [.widerDeep, .widerDeep], laidTests := true, laidLooks := .later }
def EdsigPointsCardSaid : Prop := Claim7.holds Tryd.pinned (.plain (OpenSpec.ofChange edsigPointsSpec)) edsigPointsCard

/-- THE TIED CARD OF 'drawbridgelaw12.EdsigOwn'. -/
def edsigOwnCard : Claim7 := { stood := { row := edsigOwnRow, standIns := [], harness := (true, "4455f894528192347db79ee3ce8391adff71016bfe09b1fcbed3bee70e9e80b0"), looks := false }, kinds := [], alts := [], laidByText := true, laidKinds := [.widerDeep, .widerDeep], laidTests := true, laidLooks := .later }
def EdsigOwnCardSaid : Prop := Claim7.holds Tryd.pinned (.plain (OpenSpec.ofChange edsigOwnSpec)) edsigOwnCard

/-- THE TIED CARD OF 'drawbridgelaw12.EdsigStrict'. -/
def edsigStrictCard : Claim7 := { stood := { row := edsigStrictRow, standIns := [], harness := (true, "4455f894528192347db79ee3ce8391adff71016bfe09b1fcbed3bee70e9e80b0"), looks := false }, kinds := [], alts := [], laidByText := true, laidKinds := [.widerDeep, .widerDeep], laidTests := true, laidLooks := .later }
def EdsigStrictCardSaid : Prop := Claim7.holds Tryd.pinned (.plain (OpenSpec.ofChange edsigStrictSpec)) edsigStrictCard

/-- THE SECOND FORM's CARD OF 'drawbridgelaw12.EdsigPoints'. -/
def edsigPointsUptoCard : Claim7 := { stood := { row := edsigPointsUptoRow, standIns := [], harness := (true, "4455f894528192347db79ee3ce8391adff71016bfe09b1fcbed3bee70e9e80b0"), looks := false }, kinds := [], alts := [], laidByText := true, laidKinds := [.widerDeep, .widerDeep], laidTests := true, laidLooks := .later }
def EdsigPointsUptoCardSaid : Prop := Claim7.holds Tryd.pinned (.plain (OpenSpec.upto edsigPointsSpec)) edsigPointsUptoCard

/-- THE SECOND FORM's CARD OF 'drawbridgelaw12.EdsigOwn'. -/
def edsigOwnUptoCard : Claim7 := { stood := { row := edsigOwnUptoRow, standIns := [], harness := (true, "4455f894528192347db79ee3ce8391adff71016bfe09b1fcbed3bee70e9e80b0"), looks := false }, kinds := [], alts := [], laidByText := true, laidKinds := [.widerDeep, .widerDeep], laidTests := true, laidLooks := .later }
def EdsigOwnUptoCardSaid : Prop := Claim7.holds Tryd.pinned (.plain (OpenSpec.upto edsigOwnSpec)) edsigOwnUptoCard

/-- THE SECOND FORM's CARD OF 'drawbridgelaw12.EdsigStrict'. -/
def edsigStrictUptoCard : Claim7 := { stood := { row := edsigStrictUptoRow, standIns := [], harness := (true, "4455f894528192347db79ee3ce8391adff71016bfe09b1fcbed3bee70e9e80b0"), looks := false }, kinds := [], alts := [], laidByText := true, laidKinds := [.widerDeep, .widerDeep], laidTests := true, laidLooks := .later }
def EdsigStrictUptoCardSaid : Prop := Claim7.holds Tryd.pinned (.plain (OpenSpec.upto edsigStrictSpec)) edsigStrictUptoCard
end Rows
end Go.Proofs.YtlnogkmnklfjlaaDoor
