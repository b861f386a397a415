/-
  DERIVED. GIVEN WITH THE SEED: THE CARDS: each row of YtpjndokmciacaaaDoorRows.lean that lists a variable, with what it lists TIED to the program's text (the seventh form; the later family's looks); each row that meets fmt, with fmt's text TOLD by the authors' own Lean function (tested against real Go, not proved from fmt's source: count such statements apart). THE CARD IS WHAT COUNTS. Prove the row's statement (the work); the ties are given (YtpjndokmciacaaaDoorTie.lean); close each card by the builder's one call (the guide's Derived/Test/ToyasCard.lean, 'card_holds'). Laid BY PROGRAM, IN A SANDBOX (cutbox-door.mjs). By AI agents, Wed Nov 11 2026. No macro, syntax, notation, axiom, sorry.
-/
import Derived.Test.YtpjndokmciacaaaDoorRows
import GoSem.ClaimSeven
namespace Go.Proofs.YtpjndokmciacaaaDoor
namespace Rows

/-- THE TIED CARD OF 'quaerelaw24.TellFirst'. -/
def tellFirstCard : Claim7 := { stood := { row := tellFirstRow, standIns := [], harness := (true, "c5919f59ffe3df262a3c2bf1680ca4d3e62fdf0df4111d73ac178a1e22617be6"), looks := false }, kinds := [], alts := [], laidByText := true, laidKinds := [.data, .data, .data, .data], laidTests := true, laidLooks := .later }
def TellFirstCardSaid : Prop := Claim7.holds Tryd.pinned (.plain (OpenSpec.ofChange tellFirstSpec)) tellFirstCard

/-- THE TIED CARD OF 'quaerelaw24.TellParts'. -/
def tellPartsCard : Claim7 := { stood := { row := tellPartsRow, standIns := [], harness := (true, "c5919f59ffe3df262a3c2bf1680ca4d3e62fdf0df4111d73ac178a1e22617be6"), looks := false }, kinds := [], alts := [], laidByText := true, laidKinds := [.data, .data, .data, .data], laidTests := true, laidLooks := .later }
def TellPartsCardSaid : Prop := Claim7.holds Tryd.pinned (.plain (OpenSpec.ofChange tellPartsSpec)) tellPartsCard

/-- THE TIED CARD OF 'quaerelaw14.FactorTwice'. -/
def factorTwiceCard : Claim7 := { stood := { row := factorTwiceRow, standIns := [], harness := (true, "c5919f59ffe3df262a3c2bf1680ca4d3e62fdf0df4111d73ac178a1e22617be6"), looks := false }, kinds := [], alts := [], laidByText := true, laidKinds := [.data], laidTests := true, laidLooks := .later }
def FactorTwiceCardSaid : Prop := Claim7.holds Tryd.pinned (.plain (OpenSpec.ofChange factorTwiceSpec)) factorTwiceCard

/-- THE TIED CARD OF 'quaerelaw14.FactorAssumes'. -/
def factorAssumesCard : Claim7 := { stood := { row := factorAssumesRow, standIns := [], harness := (true, "c5919f59ffe3df262a3c2bf1680ca4d3e62fdf0df4111d73ac178a1e22617be6"), looks := false }, kinds := [], alts := [], laidByText := true, laidKinds := [.data], laidTests := true, laidLooks := .later }
def FactorAssumesCardSaid : Prop := Claim7.holds Tryd.pinned (.plain (OpenSpec.ofChange factorAssumesSpec)) factorAssumesCard

/-- THE SECOND FORM's CARD OF 'quaerelaw24.TellFirst'. -/
def tellFirstUptoCard : Claim7 := { stood := { row := tellFirstUptoRow, standIns := [], harness := (true, "c5919f59ffe3df262a3c2bf1680ca4d3e62fdf0df4111d73ac178a1e22617be6"), looks := false }, kinds := [], alts := [], laidByText := true, laidKinds := [.data, .data, .data, .data], laidTests := true, laidLooks := .later }
def TellFirstUptoCardSaid : Prop := Claim7.holds Tryd.pinned (.plain (OpenSpec.upto tellFirstSpec)) tellFirstUptoCard

/-- THE SECOND FORM's CARD OF 'quaerelaw24.TellParts'. -/
def tellPartsUptoCard : Claim7 := { stood := { row := tellPartsUptoRow, standIns := [], harness := (true, "c5919f59ffe3df262a3c2bf1680ca4d3e62fdf0df4111d73ac178a1e22617be6"), looks := false }, kinds := [], alts := [], laidByText := true, laidKinds := [.data, .data, .data, .data], laidTests := true, laidLooks := .later }
def TellPartsUptoCardSaid : Prop := Claim7.holds Tryd.pinned (.plain (OpenSpec.upto tellPartsSpec)) tellPartsUptoCard

/-- THE SECOND FORM's CARD OF 'quaerelaw14.FactorTwice'. -/
def factorTwiceUptoCard : Claim7 := { stood := { row := factorTwiceUptoRow, standIns := [], harness := (true, "c5919f59ffe3df262a3c2bf1680ca4d3e62fdf0df4111d73ac178a1e22617be6"), looks := false }, kinds := [], alts := [], laidByText := true, laidKinds := [.data], laidTests := true, laidLooks := .later }
def FactorTwiceUptoCardSaid : Prop := Claim7.holds Tryd.pinned (.plain (OpenSpec.upto factorTwiceSpec)) factorTwiceUptoCard

/-- THE SECOND FORM's CARD OF 'quaerelaw14.FactorAssumes'. -/
def factorAssumesUptoCard : Claim7 := { stood := { row := factorAssumesUptoRow, standIns := [], harness := (true, "c5919f59ffe3df262a3c2bf1680ca4d3e62fdf0df4111d73ac178a1e22617be6"), looks := false }, kinds := [], alts := [], laidByText := true, laidKinds := [.data], laidTests := true, laidLooks := .later }
def FactorAssumesUptoCardSaid : Prop := Claim7.holds Tryd.pinned (.plain (OpenSpec.upto factorAssumesSpec)) factorAssumesUptoCard
end Rows
end Go.Proofs.YtpjndokmciacaaaDoor
