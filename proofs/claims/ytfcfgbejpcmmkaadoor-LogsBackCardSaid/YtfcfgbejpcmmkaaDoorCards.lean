/-
  DERIVED. GIVEN WITH THE SEED: THE CARDS: each row of YtfcfgbejpcmmkaaDoorRows.lean that lists a variable, with what it lists TIED to the program's text (the seventh form; the later family's looks); each row that meets fmt, with fmt's text TOLD by the authors' own Lean function (tested against real Go, not proved from fmt's source: count such statements apart). THE CARD IS WHAT COUNTS. Prove the row's statement (the work); the ties are given (YtfcfgbejpcmmkaaDoorTie.lean); close each card by the builder's one call (the guide's Derived/Test/ToyasCard.lean, 'card_holds'). Laid BY PROGRAM, IN A SANDBOX (cutbox-door.mjs). By AI agents, Wed Nov 11 2026. No macro, syntax, notation, axiom, sorry.
-/
import Derived.Test.YtfcfgbejpcmmkaaDoorRows
import GoSem.ClaimSeven
namespace Go.Proofs.YtfcfgbejpcmmkaaDoor
namespace Rows

/-- THE TIED CARD OF 'drawbridgelaw03.LogsBack'. -/
def logsBackCard : Claim7 := { stood := { row := logsBackRow, standIns := [], harness := (true, "73c0fad18e5d98fc1e01397af56b75fa57fea4517b0e2b25a634f466a50f269b"), looks := true }, kinds := [], alts := [], laidByText := true, laidKinds := [.data, .data, .data, .data, .sentinel, .sentinel, .pinned], laidTests := true, laidLooks := .later }
def LogsBackCardSaid : Prop := Claim7.holds Tryd.pinned (.plain (OpenSpec.ofChange logsBackSpec)) logsBackCard

/-- THE TIED CARD OF 'drawbridgelaw03.LogsEncode'. -/
def logsEncodeCard : Claim7 := { stood := { row := logsEncodeRow, standIns := [], harness := (true, "73c0fad18e5d98fc1e01397af56b75fa57fea4517b0e2b25a634f466a50f269b"), looks := true }, kinds := [], alts := [], laidByText := true, laidKinds := [.data, .data, .data], laidTests := true, laidLooks := .later }
def LogsEncodeCardSaid : Prop := Claim7.holds Tryd.pinned (.plain (OpenSpec.ofChange logsEncodeSpec)) logsEncodeCard

/-- THE TIED CARD OF 'drawbridgelaw03.LogsKeeps'. -/
def logsKeepsCard : Claim7 := { stood := { row := logsKeepsRow, standIns := [], harness := (true, "73c0fad18e5d98fc1e01397af56b75fa57fea4517b0e2b25a634f466a50f269b"), looks := true }, kinds := [], alts := [], laidByText := true, laidKinds := [.data, .data, .data], laidTests := true, laidLooks := .later }
def LogsKeepsCardSaid : Prop := Claim7.holds Tryd.pinned (.plain (OpenSpec.ofChange logsKeepsSpec)) logsKeepsCard

/-- THE TIED CARD OF 'drawbridgelaw03.LogsCounts'. -/
def logsCountsCard : Claim7 := { stood := { row := logsCountsRow, standIns := [], harness := (true, "73c0fad18e5d98fc1e01397af56b75fa57fea4517b0e2b25a634f466a50f269b"), looks := true }, kinds := [], alts := [], laidByText := true, laidKinds := [.data, .data, .data], laidTests := true, laidLooks := .later }
def LogsCountsCardSaid : Prop := Claim7.holds Tryd.pinned (.plain (OpenSpec.ofChange logsCountsSpec)) logsCountsCard

/-- THE SECOND FORM's CARD OF 'drawbridgelaw03.LogsBack'. -/
def logsBackUptoCard : Claim7 := { stood := { row := logsBackUptoRow, standIns := [], harness := (true, "73c0fad18e5d98fc1e01397af56b75fa57fea4517b0e2b25a634f466a50f269b"), looks := true }, kinds := [], alts := [], laidByText := true, laidKinds := [.data, .data, .data, .data, .sentinel, .sentinel, .pinned], laidTests := true, laidLooks := .later }
def LogsBackUptoCardSaid : Prop := Claim7.holds Tryd.pinned (.plain (OpenSpec.upto logsBackSpec)) logsBackUptoCard

/-- THE SECOND FORM's CARD OF 'drawbridgelaw03.LogsEncode'. -/
def logsEncodeUptoCard : Claim7 := { stood := { row := logsEncodeUptoRow, standIns := [], harness := (true, "73c0fad18e5d98fc1e01397af56b75fa57fea4517b0e2b25a634f466a50f269b"), looks := true }, kinds := [], alts := [], laidByText := true, laidKinds := [.data, .data, .data], laidTests := true, laidLooks := .later }
def LogsEncodeUptoCardSaid : Prop := Claim7.holds Tryd.pinned (.plain (OpenSpec.upto logsEncodeSpec)) logsEncodeUptoCard

/-- THE SECOND FORM's CARD OF 'drawbridgelaw03.LogsKeeps'. -/
def logsKeepsUptoCard : Claim7 := { stood := { row := logsKeepsUptoRow, standIns := [], harness := (true, "73c0fad18e5d98fc1e01397af56b75fa57fea4517b0e2b25a634f466a50f269b"), looks := true }, kinds := [], alts := [], laidByText := true, laidKinds := [.data, .data, .data], laidTests := true, laidLooks := .later }
def LogsKeepsUptoCardSaid : Prop := Claim7.holds Tryd.pinned (.plain (OpenSpec.upto logsKeepsSpec)) logsKeepsUptoCard

/-- THE SECOND FORM's CARD OF 'drawbridgelaw03.LogsCounts'. -/
def logsCountsUptoCard : Claim7 := { stood := { row := logsCountsUptoRow, standIns := [], harness := (true, "73c0fad18e5d98fc1e01397af56b75fa57fea4517b0e2b25a634f466a50f269b"), looks := true }, kinds := [], alts := [], laidByText := true, laidKinds := [.data, .data, .data], laidTests := true, laidLooks := .later }
def LogsCountsUptoCardSaid : Prop := Claim7.holds Tryd.pinned (.plain (OpenSpec.upto logsCountsSpec)) logsCountsUptoCard
end Rows
end Go.Proofs.YtfcfgbejpcmmkaaDoor
