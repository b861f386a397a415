/-
  DERIVED. GIVEN WITH THE SEED: THE CARDS: each row of YtanopgblnhaigaaDoorRows.lean that lists a variable, with what it lists TIED to the program's text (the seventh form; the later family's looks); each row that meets fmt, with fmt's text TOLD by the authors' own Lean function (tested against real Go, not proved from fmt's source: count such statements apart). THE CARD IS WHAT COUNTS. Prove the row's statement (the work); the ties are given (YtanopgblnhaigaaDoorTie.lean); close each card by the builder's one call (the guide's Derived/Test/ToyasCard.lean, 'card_holds'). Laid BY PROGRAM, IN A SANDBOX (cutbox-door.mjs). By AI agents, Wed Nov 11 2026. No macro, syntax, notation, axiom, sorry.
-/
import Derived.Test.YtanopgblnhaigaaDoorRows
import GoSem.ClaimSeven
namespace Go.Proofs.YtanopgblnhaigaaDoor
namespace Rows

/-- THE TIED CARD OF 'quaerelaw24.TellAtoms'. -/
def tellAtomsCard : Claim7 := { stood := { row := tellAtomsRow, standIns := [], harness := (true, "331b91329ab29825cc62e4227157174421ba262307c4b8636e6d2b3bec9d8dbc"), looks := false }, kinds := [], alts := [], laidByText := true, laidKinds := [.data, .data, .data, .data], laidTests := true, laidLooks := .later }
def TellAtomsCardSaid : Prop := Claim7.holds Tryd.pinned (.plain (OpenSpec.ofChange tellAtomsSpec)) tellAtomsCard

/-- THE TIED CARD OF 'quaerelaw22.FormulaBack'. -/
def formulaBackCard : Claim7 := { stood := { row := formulaBackRow, standIns := [], harness := (true, "331b91329ab29825cc62e4227157174421ba262307c4b8636e6d2b3bec9d8dbc"), looks := false }, kinds := [], alts := [], laidByText := true, laidKinds := [.data, .data, .data, .data], laidTests := true, laidLooks := .later }
def FormulaBackCardSaid : Prop := Claim7.holds Tryd.pinned (.plain (OpenSpec.ofChange formulaBackSpec)) formulaBackCard

/-- THE TIED CARD OF 'quaerelaw22.FormulaAgain'. -/
def formulaAgainCard : Claim7 := { stood := { row := formulaAgainRow, standIns := [], harness := (true, "331b91329ab29825cc62e4227157174421ba262307c4b8636e6d2b3bec9d8dbc"), looks := false }, kinds := [], alts := [], laidByText := true, laidKinds := [.data, .data, .data, .data], laidTests := true, laidLooks := .later }
def FormulaAgainCardSaid : Prop := Claim7.holds Tryd.pinned (.plain (OpenSpec.ofChange formulaAgainSpec)) formulaAgainCard

/-- THE TIED CARD OF 'quaerelaw22.FormulaJoins'. -/
def formulaJoinsCard : Claim7 := { stood := { row := formulaJoinsRow, standIns := [], harness := (true, "331b91329ab29825cc62e4227157174421ba262307c4b8636e6d2b3bec9d8dbc"), looks := false }, kinds := [], alts := [], laidByText := true, laidKinds := [.data, .data, .data, .data], laidTests := true, laidLooks := .later }
def FormulaJoinsCardSaid : Prop := Claim7.holds Tryd.pinned (.plain (OpenSpec.ofChange formulaJoinsSpec)) formulaJoinsCard

/-- THE TIED CARD OF 'quaerelaw22.FormulaLong'. -/
def formulaLongCard : Claim7 := { stood := { row := formulaLongRow, standIns := [], harness := (true, "331b91329ab29825cc62e4227157174421ba262307c4b8636e6d2b3bec9d8dbc"), looks := false }, kinds := [], alts := [], laidByText := true, laidKinds := [.data, .data, .data, .data], laidTests := true, laidLooks := .later }
def FormulaLongCardSaid : Prop := Claim7.holds Tryd.pinned (.plain (OpenSpec.ofChange formulaLongSpec)) formulaLongCard

/-- THE SECOND FORM's CARD OF 'quaerelaw24.TellAtoms'. -/
def tellAtomsUptoCard : Claim7 := { stood := { row := tellAtomsUptoRow, standIns := [], harness := (true, "331b91329ab29825cc62e4227157174421ba262307c4b8636e6d2b3bec9d8dbc"), looks := false }, kinds := [], alts := [], laidByText := true, laidKinds := [.data, .data, .data, .data], laidTests := true, laidLooks := .later }
def TellAtomsUptoCardSaid : Prop := Claim7.holds Tryd.pinned (.plain (OpenSpec.upto tellAtomsSpec)) tellAtomsUptoCard

/-- THE SECOND FORM's CARD OF 'quaerelaw22.FormulaBack'. -/
def formulaBackUptoCard : Claim7 := { stood := { row := formulaBackUptoRow, standIns := [], harness := (true, "331b91329ab29825cc62e4227157174421ba262307c4b8636e6d2b3bec9d8dbc"), looks := false }, kinds := [], alts := [], laidByText := true, laidKinds := [.data, .data, .data, .data], laidTests := true, laidLooks := .later }
def FormulaBackUptoCardSaid : Prop := Claim7.holds Tryd.pinned (.plain (OpenSpec.upto formulaBackSpec)) formulaBackUptoCard

/-- THE SECOND FORM's CARD OF 'quaerelaw22.FormulaAgain'. -/
def formulaAgainUptoCard : Claim7 := { stood := { row := formulaAgainUptoRow, standIns := [], harness := (true, "331b91329ab29825cc62e4227157174421ba262307c4b8636e6d2b3bec9d8dbc"), looks := false }, kinds := [], alts := [], laidByText := true, laidKinds := [.data, .data, .data, .data], laidTests := true, laidLooks := .later }
def FormulaAgainUptoCardSaid : Prop := Claim7.holds Tryd.pinned (.plain (OpenSpec.upto formulaAgainSpec)) formulaAgainUptoCard

/-- THE SECOND FORM's CARD OF 'quaerelaw22.FormulaJoins'. -/
def formulaJoinsUptoCard : Claim7 := { stood := { row := formulaJoinsUptoRow, standIns := [], harness := (true, "331b91329ab29825cc62e4227157174421ba262307c4b8636e6d2b3bec9d8dbc"), looks := false }, kinds := [], alts := [], laidByText := true, laidKinds := [.data, .data, .data, .data], laidTests := true, laidLooks := .later }
def FormulaJoinsUptoCardSaid : Prop := Claim7.holds Tryd.pinned (.plain (OpenSpec.upto formulaJoinsSpec)) formulaJoinsUptoCard

/-- THE SECOND FORM's CARD OF 'quaerelaw22.FormulaLong'. -/
def formulaLongUptoCard : Claim7 := { stood := { row := formulaLongUptoRow, standIns := [], harness := (true, "331b91329ab29825cc62e4227157174421ba262307c4b8636e6d2b3bec9d8dbc"), looks := false }, kinds := [], alts := [], laidByText := true, laidKinds := [.data, .data, .data, .data], laidTests := true, laidLooks := .later }
def FormulaLongUptoCardSaid : Prop := Claim7.holds Tryd.pinned (.plain (OpenSpec.upto formulaLongSpec)) formulaLongUptoCard
end Rows
end Go.Proofs.YtanopgblnhaigaaDoor
