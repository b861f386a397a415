/-
  DERIVED. GIVEN WITH THE SEED: THE CARDS: each row of YtpjndokmciacaaaGreatDoorRows.lean that lists a variable, with what it lists TIED to the program's text (the seventh form; the later family's looks); each row that meets fmt, with fmt's text TOLD by the authors' own Lean function (tested against real Go, not proved from fmt's source: count such statements apart). THE CARD IS WHAT COUNTS. Prove the row's statement (the work); the ties are given (YtpjndokmciacaaaGreatDoorTie.lean); close each card by the builder's one call (the guide's Derived/Test/ToyasCard.lean, 'card_holds'). Laid BY PROGRAM, IN A SANDBOX (cutbox-door.mjs). By AI agents, Wed Nov 11 2026. No macro, syntax, notation, axiom, sorry.
-/
import Derived.Test.YtpjndokmciacaaaGreatDoorRows
import GoSem.ClaimSeven
namespace Go.Proofs.YtpjndokmciacaaaGreatDoor
namespace Rows

/-- THE TIED CARD OF 'quaerelaw24.Goals'. -/
def goalsCard : Claim7 := { stood := { row := goalsRow, standIns := [], harness := (true, "0456a2e37ee7b877fb3401747e3a5a8a4ef1a64ca24253d7a74739b7ad42ebbb"), looks := false }, kinds := [], alts := [], laidByText := true, laidKinds := [.data, .data, .data, .data], laidTests := true, laidLooks := .later }
def GoalsCardSaid : Prop := Claim7.holds Tryz.pinned (.plain (OpenSpec.ofChange goalsSpec)) goalsCard

/-- THE TIED CARD OF 'quaerelaw24.Tells'. -/
def tellsCard : Claim7 := { stood := { row := tellsRow, standIns := [], harness := (true, "0456a2e37ee7b877fb3401747e3a5a8a4ef1a64ca24253d7a74739b7ad42ebbb"), looks := false }, kinds := [], alts := [], laidByText := true, laidKinds := [.data, .data, .data, .data], laidTests := true, laidLooks := .later }
def TellsCardSaid : Prop := Claim7.holds Tryz.pinned (.plain (OpenSpec.ofChange tellsSpec)) tellsCard

/-- THE TIED CARD OF 'quaerelaw14.Factors'. -/
def factorsCard : Claim7 := { stood := { row := factorsRow, standIns := [], harness := (true, "0456a2e37ee7b877fb3401747e3a5a8a4ef1a64ca24253d7a74739b7ad42ebbb"), looks := false }, kinds := [], alts := [], laidByText := true, laidKinds := [.data], laidTests := true, laidLooks := .later }
def FactorsCardSaid : Prop := Claim7.holds Tryz.pinned (.plain (OpenSpec.ofChange factorsSpec)) factorsCard

/-- THE TIED CARD OF 'quaerelaw14.FactorAlls'. -/
def factorAllsCard : Claim7 := { stood := { row := factorAllsRow, standIns := [], harness := (true, "0456a2e37ee7b877fb3401747e3a5a8a4ef1a64ca24253d7a74739b7ad42ebbb"), looks := false }, kinds := [], alts := [], laidByText := true, laidKinds := [.data], laidTests := true, laidLooks := .later }
def FactorAllsCardSaid : Prop := Claim7.holds Tryz.pinned (.plain (OpenSpec.ofChange factorAllsSpec)) factorAllsCard

/-- THE SECOND FORM's CARD OF 'quaerelaw24.Goals'. -/
def goalsUptoCard : Claim7 := { stood := { row := goalsUptoRow, standIns := [], harness := (true, "0456a2e37ee7b877fb3401747e3a5a8a4ef1a64ca24253d7a74739b7ad42ebbb"), looks := false }, kinds := [], alts := [], laidByText := true, laidKinds := [.data, .data, .data, .data], laidTests := true, laidLooks := .later }
def GoalsUptoCardSaid : Prop := Claim7.holds Tryz.pinned (.plain (OpenSpec.upto goalsSpec)) goalsUptoCard

/-- THE SECOND FORM's CARD OF 'quaerelaw24.Tells'. -/
def tellsUptoCard : Claim7 := { stood := { row := tellsUptoRow, standIns := [], harness := (true, "0456a2e37ee7b877fb3401747e3a5a8a4ef1a64ca24253d7a74739b7ad42ebbb"), looks := false }, kinds := [], alts := [], laidByText := true, laidKinds := [.data, .data, .data, .data], laidTests := true, laidLooks := .later }
def TellsUptoCardSaid : Prop := Claim7.holds Tryz.pinned (.plain (OpenSpec.upto tellsSpec)) tellsUptoCard

/-- THE SECOND FORM's CARD OF 'quaerelaw14.Factors'. -/
def factorsUptoCard : Claim7 := { stood := { row := factorsUptoRow, standIns := [], harness := (true, "0456a2e37ee7b877fb3401747e3a5a8a4ef1a64ca24253d7a74739b7ad42ebbb"), looks := false }, kinds := [], alts := [], laidByText := true, laidKinds := [.data], laidTests := true, laidLooks := .later }
def FactorsUptoCardSaid : Prop := Claim7.holds Tryz.pinned (.plain (OpenSpec.upto factorsSpec)) factorsUptoCard

/-- THE SECOND FORM's CARD OF 'quaerelaw14.FactorAlls'. -/
def factorAllsUptoCard : Claim7 := { stood := { row := factorAllsUptoRow, standIns := [], harness := (true, "0456a2e37ee7b877fb3401747e3a5a8a4ef1a64ca24253d7a74739b7ad42ebbb"), looks := false }, kinds := [], alts := [], laidByText := true, laidKinds := [.data], laidTests := true, laidLooks := .later }
def FactorAllsUptoCardSaid : Prop := Claim7.holds Tryz.pinned (.plain (OpenSpec.upto factorAllsSpec)) factorAllsUptoCard
end Rows
end Go.Proofs.YtpjndokmciacaaaGreatDoor
