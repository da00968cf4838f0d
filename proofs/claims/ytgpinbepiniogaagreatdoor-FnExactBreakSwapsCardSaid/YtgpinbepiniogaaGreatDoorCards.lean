/-
  DERIVED. GIVEN WITH THE SEED: THE CARDS: each row of YtgpinbepiniogaaGreatDoorRows.lean that lists a variable, with what it lists TIED to the program's text (the seventh form; the later family's looks); each row that meets fmt, with fmt's text TOLD by the authors' own Lean function (tested against real Go, not proved from fmt's source: count such statements apart). THE CARD IS WHAT COUNTS. Prove the row's statement (the work); the ties are given (YtgpinbepiniogaaGreatDoorTie.lean); close each card by the builder's one call (the guide's Derived/Test/ToyasCard.lean, 'card_holds'). Laid BY PROGRAM, IN A SANDBOX (cutbox-door.mjs). By AI agents, Wed Nov 11 2026. No macro, syntax, notation, axiom, sorry.
-/
import Derived.Test.YtgpinbepiniogaaGreatDoorRows
import GoSem.ClaimSeven
namespace Go.Proofs.YtgpinbepiniogaaGreatDoor
namespace Rows

/-- THE TIED CARD OF 'laws.FnExactSymmetryValid'. -/
def fnExactSymmetryValidCard : Claim7 := { stood := { row := fnExactSymmetryValidRow, standIns := [], harness := (true, "e20fee9c513028f472f9917ffbbcc561dc38397ae4cfe4f14821ddc57addbf72"), looks := false }, kinds := [], alts := [], laidByText := true, laidKinds := [.data, .data, .data], laidTests := true, laidLooks := .later }
def FnExactSymmetryValidCardSaid : Prop := Claim7.holds Tryz.pinned (.plain (OpenSpec.ofChange fnExactSymmetryValidSpec)) fnExactSymmetryValidCard

/-- THE TIED CARD OF 'laws.FnSymmetryCompose'. -/
def fnSymmetryComposeCard : Claim7 := { stood := { row := fnSymmetryComposeRow, standIns := [], harness := (true, "e20fee9c513028f472f9917ffbbcc561dc38397ae4cfe4f14821ddc57addbf72"), looks := false }, kinds := [], alts := [], laidByText := true, laidKinds := [.data, .data, .data], laidTests := true, laidLooks := .later }
def FnSymmetryComposeCardSaid : Prop := Claim7.holds Tryz.pinned (.plain (OpenSpec.ofChange fnSymmetryComposeSpec)) fnSymmetryComposeCard

/-- THE TIED CARD OF 'laws.FnFindSwaps'. -/
def fnFindSwapsCard : Claim7 := { stood := { row := fnFindSwapsRow, standIns := [], harness := (true, "e20fee9c513028f472f9917ffbbcc561dc38397ae4cfe4f14821ddc57addbf72"), looks := false }, kinds := [], alts := [], laidByText := true, laidKinds := [.data, .data, .data], laidTests := true, laidLooks := .later }
def FnFindSwapsCardSaid : Prop := Claim7.holds Tryz.pinned (.plain (OpenSpec.ofChange fnFindSwapsSpec)) fnFindSwapsCard

/-- THE TIED CARD OF 'laws.FnExactFindSwaps'. -/
def fnExactFindSwapsCard : Claim7 := { stood := { row := fnExactFindSwapsRow, standIns := [], harness := (true, "e20fee9c513028f472f9917ffbbcc561dc38397ae4cfe4f14821ddc57addbf72"), looks := false }, kinds := [], alts := [], laidByText := true, laidKinds := [.data, .data, .data], laidTests := true, laidLooks := .later }
def FnExactFindSwapsCardSaid : Prop := Claim7.holds Tryz.pinned (.plain (OpenSpec.ofChange fnExactFindSwapsSpec)) fnExactFindSwapsCard

/-- THE TIED CARD OF 'laws.FnSymmetryValid'. -/
def fnSymmetryValidCard : Claim7 := { stood := { row := fnSymmetryValidRow, standIns := [], harness := (true, "e20fee9c513028f472f9917ffbbcc561dc38397ae4cfe4f14821ddc57addbf72"), looks := false }, kinds := [], alts := [], laidByText := true, laidKinds := [.data, .data, .data], laidTests := true, laidLooks := .later }
def FnSymmetryValidCardSaid : Prop := Claim7.holds Tryz.pinned (.plain (OpenSpec.ofChange fnSymmetryValidSpec)) fnSymmetryValidCard

/-- THE TIED CARD OF 'laws.FnBreakSwaps'. -/
def fnBreakSwapsCard : Claim7 := { stood := { row := fnBreakSwapsRow, standIns := [], harness := (true, "e20fee9c513028f472f9917ffbbcc561dc38397ae4cfe4f14821ddc57addbf72"), looks := false }, kinds := [], alts := [], laidByText := true, laidKinds := [.data, .data, .data], laidTests := true, laidLooks := .later }
def FnBreakSwapsCardSaid : Prop := Claim7.holds Tryz.pinned (.plain (OpenSpec.ofChange fnBreakSwapsSpec)) fnBreakSwapsCard

/-- THE TIED CARD OF 'laws.FnExactBreakSwaps'. -/
def fnExactBreakSwapsCard : Claim7 := { stood := { row := fnExactBreakSwapsRow, standIns := [], harness := (true, "e20fee9c513028f472f9917ffbbcc561dc38397ae4cfe4f14821ddc57addbf72"), looks := false }, kinds := [], alts := [], laidByText := true, laidKinds := [.data, .data, .data], laidTests := true, laidLooks := .later }
def FnExactBreakSwapsCardSaid : Prop := Claim7.holds Tryz.pinned (.plain (OpenSpec.ofChange fnExactBreakSwapsSpec)) fnExactBreakSwapsCard

/-- THE SECOND FORM's CARD OF 'laws.FnExactSymmetryValid'. -/
def fnExactSymmetryValidUptoCard : Claim7 := { stood := { row := fnExactSymmetryValidUptoRow, standIns := [], harness := (true, "e20fee9c513028f472f9917ffbbcc561dc38397ae4cfe4f14821ddc57addbf72"), looks := false }, kinds := [], alts := [], laidByText := true, laidKinds := [.data, .data, .data], laidTests := true, laidLooks := .later }
def FnExactSymmetryValidUptoCardSaid : Prop := Claim7.holds Tryz.pinned (.plain (OpenSpec.upto fnExactSymmetryValidSpec)) fnExactSymmetryValidUptoCard

/-- THE SECOND FORM's CARD OF 'laws.FnSymmetryCompose'. -/
def fnSymmetryComposeUptoCard : Claim7 := { stood := { row := fnSymmetryComposeUptoRow, standIns := [], harness := (true, "e20fee9c513028f472f9917ffbbcc561dc38397ae4cfe4f14821ddc57addbf72"), looks := false }, kinds := [], alts := [], laidByText := true, laidKinds := [.data, .data, .data], laidTests := true, laidLooks := .later }
def FnSymmetryComposeUptoCardSaid : Prop := Claim7.holds Tryz.pinned (.plain (OpenSpec.upto fnSymmetryComposeSpec)) fnSymmetryComposeUptoCard

/-- THE SECOND FORM's CARD OF 'laws.FnFindSwaps'. -/
def fnFindSwapsUptoCard : Claim7 := { stood := { row := fnFindSwapsUptoRow, standIns := [], harness := (true, "e20fee9c513028f472f9917ffbbcc561dc38397ae4cfe4f14821ddc57addbf72"), looks := false }, kinds := [], alts := [], laidByText := true, laidKinds := [.data, .data, .data], laidTests := true, laidLooks := .later }
def FnFindSwapsUptoCardSaid : Prop := Claim7.holds Tryz.pinned (.plain (OpenSpec.upto fnFindSwapsSpec)) fnFindSwapsUptoCard

/-- THE SECOND FORM's CARD OF 'laws.FnExactFindSwaps'. -/
def fnExactFindSwapsUptoCard : Claim7 := { stood := { row := fnExactFindSwapsUptoRow, standIns := [], harness := (true, "e20fee9c513028f472f9917ffbbcc561dc38397ae4cfe4f14821ddc57addbf72"), looks := false }, kinds := [], alts := [], laidByText := true, laidKinds := [.data, .data, .data], laidTests := true, laidLooks := .later }
def FnExactFindSwapsUptoCardSaid : Prop := Claim7.holds Tryz.pinned (.plain (OpenSpec.upto fnExactFindSwapsSpec)) fnExactFindSwapsUptoCard

/-- THE SECOND FORM's CARD OF 'laws.FnSymmetryValid'. -/
def fnSymmetryValidUptoCard : Claim7 := { stood := { row := fnSymmetryValidUptoRow, standIns := [], harness := (true, "e20fee9c513028f472f9917ffbbcc561dc38397ae4cfe4f14821ddc57addbf72"), looks := false }, kinds := [], alts := [], laidByText := true, laidKinds := [.data, .data, .data], laidTests := true, laidLooks := .later }
def FnSymmetryValidUptoCardSaid : Prop := Claim7.holds Tryz.pinned (.plain (OpenSpec.upto fnSymmetryValidSpec)) fnSymmetryValidUptoCard

/-- THE SECOND FORM's CARD OF 'laws.FnBreakSwaps'. -/
def fnBreakSwapsUptoCard : Claim7 := { stood := { row := fnBreakSwapsUptoRow, standIns := [], harness := (true, "e20fee9c513028f472f9917ffbbcc561dc38397ae4cfe4f14821ddc57addbf72"), looks := false }, kinds := [], alts := [], laidByText := true, laidKinds := [.data, .data, .data], laidTests := true, laidLooks := .later }
def FnBreakSwapsUptoCardSaid : Prop := Claim7.holds Tryz.pinned (.plain (OpenSpec.upto fnBreakSwapsSpec)) fnBreakSwapsUptoCard

/-- THE SECOND FORM's CARD OF 'laws.FnExactBreakSwaps'. -/
def fnExactBreakSwapsUptoCard : Claim7 := { stood := { row := fnExactBreakSwapsUptoRow, standIns := [], harness := (true, "e20fee9c513028f472f9917ffbbcc561dc38397ae4cfe4f14821ddc57addbf72"), looks := false }, kinds := [], alts := [], laidByText := true, laidKinds := [.data, .data, .data], laidTests := true, laidLooks := .later }
def FnExactBreakSwapsUptoCardSaid : Prop := Claim7.holds Tryz.pinned (.plain (OpenSpec.upto fnExactBreakSwapsSpec)) fnExactBreakSwapsUptoCard
end Rows
end Go.Proofs.YtgpinbepiniogaaGreatDoor
