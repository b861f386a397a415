/-
  DERIVED. GIVEN WITH THE SEED: THE CARDS: each row of YtanopgblnhaigaaGreatDoorRows.lean that lists a variable, with what it lists TIED to the program's text (the seventh form; the later family's looks); each row that meets fmt, with fmt's text TOLD by the authors' own Lean function (tested against real Go, not proved from fmt's source: count such statements apart). THE CARD IS WHAT COUNTS. Prove the row's statement (the work); the ties are given (YtanopgblnhaigaaGreatDoorTie.lean); close each card by the builder's one call (the guide's Derived/Test/ToyasCard.lean, 'card_holds'). Laid BY PROGRAM, IN A SANDBOX (cutbox-door.mjs). By AI agents, Wed Nov 11 2026. No macro, syntax, notation, axiom, sorry.
-/
import Derived.Test.YtanopgblnhaigaaGreatDoorRows
import GoSem.ClaimSeven
namespace Go.Proofs.YtanopgblnhaigaaGreatDoor
namespace Rows

/-- THE TIED CARD OF 'quaerelaw24.GoalMeans'. -/
def goalMeansCard : Claim7 := { stood := { row := goalMeansRow, standIns := [], harness := (true, "94c5b5edb077fa7e93d7871e00b1c16e5273dd1bd30d021313956d493f38a1b1"), looks := false }, kinds := [], alts := [], laidByText := true, laidKinds := [.data, .data, .data, .data], laidTests := true, laidLooks := .later }
def GoalMeansCardSaid : Prop := Claim7.holds Tryz.pinned (.plain (OpenSpec.ofChange goalMeansSpec)) goalMeansCard

/-- THE TIED CARD OF 'quaerelaw22.Parses'. -/
def parsesCard : Claim7 := { stood := { row := parsesRow, standIns := [], harness := (true, "94c5b5edb077fa7e93d7871e00b1c16e5273dd1bd30d021313956d493f38a1b1"), looks := false }, kinds := [], alts := [], laidByText := true, laidKinds := [.data, .data, .data, .data], laidTests := true, laidLooks := .later }
def ParsesCardSaid : Prop := Claim7.holds Tryz.pinned (.plain (OpenSpec.ofChange parsesSpec)) parsesCard

/-- THE TIED CARD OF 'quaerelaw22.Shows'. -/
def showsCard : Claim7 := { stood := { row := showsRow, standIns := [], harness := (true, "94c5b5edb077fa7e93d7871e00b1c16e5273dd1bd30d021313956d493f38a1b1"), looks := false }, kinds := [], alts := [], laidByText := true, laidKinds := [.data, .data, .data, .data], laidTests := true, laidLooks := .later }
def ShowsCardSaid : Prop := Claim7.holds Tryz.pinned (.plain (OpenSpec.ofChange showsSpec)) showsCard

/-- THE SECOND FORM's CARD OF 'quaerelaw24.GoalMeans'. -/
def goalMeansUptoCard : Claim7 := { stood := { row := goalMeansUptoRow, standIns := [], harness := (true, "94c5b5edb077fa7e93d7871e00b1c16e5273dd1bd30d021313956d493f38a1b1"), looks := false }, kinds := [], alts := [], laidByText := true, laidKinds := [.data, .data, .data, .data], laidTests := true, laidLooks := .later }
def GoalMeansUptoCardSaid : Prop := Claim7.holds Tryz.pinned (.plain (OpenSpec.upto goalMeansSpec)) goalMeansUptoCard

/-- THE SECOND FORM's CARD OF 'quaerelaw22.Parses'. -/
def parsesUptoCard : Claim7 := { stood := { row := parsesUptoRow, standIns := [], harness := (true, "94c5b5edb077fa7e93d7871e00b1c16e5273dd1bd30d021313956d493f38a1b1"), looks := false }, kinds := [], alts := [], laidByText := true, laidKinds := [.data, .data, .data, .data], laidTests := true, laidLooks := .later }
def ParsesUptoCardSaid : Prop := Claim7.holds Tryz.pinned (.plain (OpenSpec.upto parsesSpec)) parsesUptoCard

/-- THE SECOND FORM's CARD OF 'quaerelaw22.Shows'. -/
def showsUptoCard : Claim7 := { stood := { row := showsUptoRow, standIns := [], harness := (true, "94c5b5edb077fa7e93d7871e00b1c16e5273dd1bd30d021313956d493f38a1b1"), looks := false }, kinds := [], alts := [], laidByText := true, laidKinds := [.data, .data, .data, .data], laidTests := true, laidLooks := .later }
def ShowsUptoCardSaid : Prop := Claim7.holds Tryz.pinned (.plain (OpenSpec.upto showsSpec)) showsUptoCard
end Rows
end Go.Proofs.YtanopgblnhaigaaGreatDoor
