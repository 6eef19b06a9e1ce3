/-
  DERIVED. GIVEN WITH THE SEED: THE CARDS: each row of YtadmacldbhgijaaGreatDoorRows.lean that lists a variable, with what it lists TIED to the program's text (the seventh form; the later family's looks); each row that meets fmt, with fmt's text TOLD by the authors' own Lean function (tested against real Go, not proved from fmt's source: count such statements apart). THE CARD IS WHAT COUNTS. Prove the row's statement (the work); the ties are given (YtadmacldbhgijaaGreatDoorTie.lean); close each card by the builder's one call (the guide's Derived/Test/ToyasCard.lean, 'card_holds'). Laid BY PROGRAM, IN A SANDBOX (cutbox-door.mjs). By AI agents, Wed Nov 11 2026. No macro, syntax, notation, axiom, sorry.
-/
import Derived.Test.YtadmacldbhgijaaGreatDoorRows
import GoSem.ClaimSeven
namespace Go.Proofs.YtadmacldbhgijaaGreatDoor
namespace Rows

/-- THE TIED CARD OF 'waxworklaw22.ScriptHex'. -/
def scriptHexCard : Claim7 := { stood := { row := scriptHexRow, standIns := [], harness := (true, "7fa848b02abeb2cd05fdf6b44a7d0c0877fd6f266eed8a3d21edb2acefdc907b"), looks := true }, kinds := [], alts := [], laidByText := true, laidKinds := [.data, .data, .data, .data, .sentinel, .sentinel, .pinned], laidTests := true, laidLooks := .later }
def ScriptHexCardSaid : Prop := Claim7.holds Tryz.pinned (.plain (OpenSpec.ofChange scriptHexSpec)) scriptHexCard

/-- THE TIED CARD OF 'waxworklaw22.ScriptSlots'. -/
def scriptSlotsCard : Claim7 := { stood := { row := scriptSlotsRow, standIns := [], harness := (true, "7fa848b02abeb2cd05fdf6b44a7d0c0877fd6f266eed8a3d21edb2acefdc907b"), looks := true }, kinds := [], alts := [], laidByText := true, laidKinds := [.data, .data, .data, .data, .sentinel, .sentinel, .pinned], laidTests := true, laidLooks := .later }
def ScriptSlotsCardSaid : Prop := Claim7.holds Tryz.pinned (.plain (OpenSpec.ofChange scriptSlotsSpec)) scriptSlotsCard

/-- THE TIED CARD OF 'waxworklaw22.ScriptLines'. -/
def scriptLinesCard : Claim7 := { stood := { row := scriptLinesRow, standIns := [], harness := (true, "7fa848b02abeb2cd05fdf6b44a7d0c0877fd6f266eed8a3d21edb2acefdc907b"), looks := true }, kinds := [], alts := [], laidByText := true, laidKinds := [.data, .data, .data, .data, .sentinel, .sentinel, .pinned], laidTests := true, laidLooks := .later }
def ScriptLinesCardSaid : Prop := Claim7.holds Tryz.pinned (.plain (OpenSpec.ofChange scriptLinesSpec)) scriptLinesCard

/-- THE TIED CARD OF 'waxworklaw22.ScriptFinds'. -/
def scriptFindsCard : Claim7 := { stood := { row := scriptFindsRow, standIns := [], harness := (true, "7fa848b02abeb2cd05fdf6b44a7d0c0877fd6f266eed8a3d21edb2acefdc907b"), looks := true }, kinds := [], alts := [], laidByText := true, laidKinds := [.data, .data, .data, .data, .sentinel, .sentinel, .pinned], laidTests := true, laidLooks := .later }
def ScriptFindsCardSaid : Prop := Claim7.holds Tryz.pinned (.plain (OpenSpec.ofChange scriptFindsSpec)) scriptFindsCard

/-- THE TIED CARD OF 'waxworklaw22.ScriptErrors'. -/
def scriptErrorsCard : Claim7 := { stood := { row := scriptErrorsRow, standIns := [], harness := (true, "7fa848b02abeb2cd05fdf6b44a7d0c0877fd6f266eed8a3d21edb2acefdc907b"), looks := true }, kinds := [], alts := [], laidByText := true, laidKinds := [.data, .data, .data, .data, .sentinel, .sentinel, .pinned], laidTests := true, laidLooks := .later }
def ScriptErrorsCardSaid : Prop := Claim7.holds Tryz.pinned (.plain (OpenSpec.ofChange scriptErrorsSpec)) scriptErrorsCard

/-- THE SECOND FORM's CARD OF 'waxworklaw22.ScriptHex'. -/
def scriptHexUptoCard : Claim7 := { stood := { row := scriptHexUptoRow, standIns := [], harness := (true, "7fa848b02abeb2cd05fdf6b44a7d0c0877fd6f266eed8a3d21edb2acefdc907b"), looks := true }, kinds := [], alts := [], laidByText := true, laidKinds := [.data, .data, .data, .data, .sentinel, .sentinel, .pinned], laidTests := true, laidLooks := .later }
def ScriptHexUptoCardSaid : Prop := Claim7.holds Tryz.pinned (.plain (OpenSpec.upto scriptHexSpec)) scriptHexUptoCard

/-- THE SECOND FORM's CARD OF 'waxworklaw22.ScriptSlots'. -/
def scriptSlotsUptoCard : Claim7 := { stood := { row := scriptSlotsUptoRow, standIns := [], harness := (true, "7fa848b02abeb2cd05fdf6b44a7d0c0877fd6f266eed8a3d21edb2acefdc907b"), looks := true }, kinds := [], alts := [], laidByText := true, laidKinds := [.data, .data, .data, .data, .sentinel, .sentinel, .pinned], laidTests := true, laidLooks := .later }
def ScriptSlotsUptoCardSaid : Prop := Claim7.holds Tryz.pinned (.plain (OpenSpec.upto scriptSlotsSpec)) scriptSlotsUptoCard

/-- THE SECOND FORM's CARD OF 'waxworklaw22.ScriptLines'. -/
def scriptLinesUptoCard : Claim7 := { stood := { row := scriptLinesUptoRow, standIns := [], harness := (true, "7fa848b02abeb2cd05fdf6b44a7d0c0877fd6f266eed8a3d21edb2acefdc907b"), looks := true }, kinds := [], alts := [], laidByText := true, laidKinds := [.data, .data, .data, .data, .sentinel, .sentinel, .pinned], laidTests := true, laidLooks := .later }
def ScriptLinesUptoCardSaid : Prop := Claim7.holds Tryz.pinned (.plain (OpenSpec.upto scriptLinesSpec)) scriptLinesUptoCard

/-- THE SECOND FORM's CARD OF 'waxworklaw22.ScriptFinds'. -/
def scriptFindsUptoCard : Claim7 := { stood := { row := scriptFindsUptoRow, standIns := [], harness := (true, "7fa848b02abeb2cd05fdf6b44a7d0c0877fd6f266eed8a3d21edb2acefdc907b"), looks := true }, kinds := [], alts := [], laidByText := true, laidKinds := [.data, .data, .data, .data, .sentinel, .sentinel, .pinned], laidTests := true, laidLooks := .later }
def ScriptFindsUptoCardSaid : Prop := Claim7.holds Tryz.pinned (.plain (OpenSpec.upto scriptFindsSpec)) scriptFindsUptoCard

/-- THE SECOND FORM's CARD OF 'waxworklaw22.ScriptErrors'. -/
def scriptErrorsUptoCard : Claim7 := { stood := { row := scriptErrorsUptoRow, standIns := [], harness := (true, "7fa848b02abeb2cd05fdf6b44a7d0c0877fd6f266eed8a3d21edb2acefdc907b"), looks := true }, kinds := [], alts := [], laidByText := true, laidKinds := [.data, .data, .data, .data, .sentinel, .sentinel, .pinned], laidTests := true, laidLooks := .later }
def ScriptErrorsUptoCardSaid : Prop := Claim7.holds Tryz.pinned (.plain (OpenSpec.upto scriptErrorsSpec)) scriptErrorsUptoCard
end Rows
end Go.Proofs.YtadmacldbhgijaaGreatDoor
