/-
  DERIVED. GIVEN WITH THE SEED: THE CARDS: each row of YtcaallkkeighdaaGreatDoorRows.lean that lists a variable, with what it lists TIED to the program's text (the seventh form; the later family's looks); each row that meets fmt, with fmt's text TOLD by the authors' own Lean function (tested against real Go, not proved from fmt's source: count such statements apart). THE CARD IS WHAT COUNTS. Prove the row's statement (the work); the ties are given (YtcaallkkeighdaaGreatDoorTie.lean); close each card by the builder's one call (the guide's Derived/Test/ToyasCard.lean, 'card_holds'). Laid BY PROGRAM, IN A SANDBOX (cutbox-door.mjs). By AI agents, Wed Nov 11 2026. No macro, syntax, notation, axiom, sorry.
-/
import Derived.Test.YtcaallkkeighdaaGreatDoorRows
import GoSem.ClaimSeven
namespace Go.Proofs.YtcaallkkeighdaaGreatDoor
namespace Rows

/-- THE TIED CARD OF 'quiretop.TopSets'. -/
def topSetsCard : Claim7 := { stood := { row := topSetsRow, standIns := [], harness := (true, "8a5ae6285007f477d4b4283547384e33ad76d133ba956974ee700c86d1e4c1bf"), looks := false }, kinds := [], alts := [], laidByText := true, laidKinds := [.listed, .data], laidTests := true, laidLooks := .later }
def TopSetsCardSaid : Prop := Claim7.holds Tryz.pinned (.plain (OpenSpec.ofChange topSetsSpec)) topSetsCard

/-- THE TIED CARD OF 'quiretop.TopSpread'. -/
def topSpreadCard : Claim7 := { stood := { row := topSpreadRow, standIns := [], harness := (true, "8a5ae6285007f477d4b4283547384e33ad76d133ba956974ee700c86d1e4c1bf"), looks := false }, kinds := [], alts := [], laidByText := true, laidKinds := [.listed, .data], laidTests := true, laidLooks := .later }
def TopSpreadCardSaid : Prop := Claim7.holds Tryz.pinned (.plain (OpenSpec.ofChange topSpreadSpec)) topSpreadCard

/-- THE SECOND FORM's CARD OF 'quiretop.TopSets'. -/
def topSetsUptoCard : Claim7 := { stood := { row := topSetsUptoRow, standIns := [], harness := (true, "8a5ae6285007f477d4b4283547384e33ad76d133ba956974ee700c86d1e4c1bf"), looks := false }, kinds := [], alts := [], laidByText := true, laidKinds := [.listed, .data], laidTests := true, laidLooks := .later }
def TopSetsUptoCardSaid : Prop := Claim7.holds Tryz.pinned (.plain (OpenSpec.upto topSetsSpec)) topSetsUptoCard

/-- THE SECOND FORM's CARD OF 'quiretop.TopSpread'. -/
def topSpreadUptoCard : Claim7 := { stood := { row := topSpreadUptoRow, standIns := [], harness := (true, "8a5ae6285007f477d4b4283547384e33ad76d133ba956974ee700c86d1e4c1bf"), looks := false }, kinds := [], alts := [], laidByText := true, laidKinds := [.listed, .data], laidTests := true, laidLooks := .later }
def TopSpreadUptoCardSaid : Prop := Claim7.holds Tryz.pinned (.plain (OpenSpec.upto topSpreadSpec)) topSpreadUptoCard
end Rows
end Go.Proofs.YtcaallkkeighdaaGreatDoor
