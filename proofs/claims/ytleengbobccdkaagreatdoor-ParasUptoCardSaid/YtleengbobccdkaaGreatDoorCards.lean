/-
  DERIVED. GIVEN WITH THE SEED: THE CARDS: each row of YtleengbobccdkaaGreatDoorRows.lean that lists a variable, with what it lists TIED to the program's text (the seventh form; the later family's looks); each row that meets fmt, with fmt's text TOLD by the authors' own Lean function (tested against real Go, not proved from fmt's source: count such statements apart). THE CARD IS WHAT COUNTS. Prove the row's statement (the work); the ties are given (YtleengbobccdkaaGreatDoorTie.lean); close each card by the builder's one call (the guide's Derived/Test/ToyasCard.lean, 'card_holds'). Laid BY PROGRAM, IN A SANDBOX (cutbox-door.mjs). By AI agents, Wed Nov 11 2026. No macro, syntax, notation, axiom, sorry.
-/
import Derived.Test.YtleengbobccdkaaGreatDoorRows
import GoSem.ClaimSeven
namespace Go.Proofs.YtleengbobccdkaaGreatDoor
namespace Rows

/-- THE TIED CARD OF 'quaerelaw24.Goals'. -/
def goalsCard : Claim7 := { stood := { row := goalsRow, standIns := [], harness := (true, "43ea65066c9211bb3abebd53041ee2457bc6f9ddb87457690aa259c7f56816cc"), looks := false }, kinds := [], alts := [], laidByText := true, laidKinds := [.data, .data, .data, .data], laidTests := true, laidLooks := .later }
def GoalsCardSaid : Prop := Claim7.holds Tryz.pinned (.plain (OpenSpec.ofChange goalsSpec)) goalsCard

/-- THE TIED CARD OF 'quaerelaw14.Factors'. -/
def factorsCard : Claim7 := { stood := { row := factorsRow, standIns := [], harness := (true, "43ea65066c9211bb3abebd53041ee2457bc6f9ddb87457690aa259c7f56816cc"), looks := false }, kinds := [], alts := [], laidByText := true, laidKinds := [.data], laidTests := true, laidLooks := .later }
def FactorsCardSaid : Prop := Claim7.holds Tryz.pinned (.plain (OpenSpec.ofChange factorsSpec)) factorsCard

/-- THE TIED CARD OF 'quaerelaw14.FactorAlls'. -/
def factorAllsCard : Claim7 := { stood := { row := factorAllsRow, standIns := [], harness := (true, "43ea65066c9211bb3abebd53041ee2457bc6f9ddb87457690aa259c7f56816cc"), looks := false }, kinds := [], alts := [], laidByText := true, laidKinds := [.data], laidTests := true, laidLooks := .later }
def FactorAllsCardSaid : Prop := Claim7.holds Tryz.pinned (.plain (OpenSpec.ofChange factorAllsSpec)) factorAllsCard

/-- THE TIED CARD OF 'quaerelaw13.Resolves'. -/
def resolvesCard : Claim7 := { stood := { row := resolvesRow, standIns := [], harness := (true, "43ea65066c9211bb3abebd53041ee2457bc6f9ddb87457690aa259c7f56816cc"), looks := false }, kinds := [], alts := [], laidByText := true, laidKinds := [.data], laidTests := true, laidLooks := .later }
def ResolvesCardSaid : Prop := Claim7.holds Tryz.pinned (.plain (OpenSpec.ofChange resolvesSpec)) resolvesCard

/-- THE TIED CARD OF 'quaerelaw15.Paras'. -/
def parasCard : Claim7 := { stood := { row := parasRow, standIns := [], harness := (true, "43ea65066c9211bb3abebd53041ee2457bc6f9ddb87457690aa259c7f56816cc"), looks := false }, kinds := [], alts := [], laidByText := true, laidKinds := [.data], laidTests := true, laidLooks := .later }
def ParasCardSaid : Prop := Claim7.holds Tryz.pinned (.plain (OpenSpec.ofChange parasSpec)) parasCard

/-- THE TIED CARD OF 'quaerelaw15.ParaAlls'. -/
def paraAllsCard : Claim7 := { stood := { row := paraAllsRow, standIns := [], harness := (true, "43ea65066c9211bb3abebd53041ee2457bc6f9ddb87457690aa259c7f56816cc"), looks := false }, kinds := [], alts := [], laidByText := true, laidKinds := [.data], laidTests := true, laidLooks := .later }
def ParaAllsCardSaid : Prop := Claim7.holds Tryz.pinned (.plain (OpenSpec.ofChange paraAllsSpec)) paraAllsCard

/-- THE TIED CARD OF 'quaerelaw15.ParaGround'. -/
def paraGroundCard : Claim7 := { stood := { row := paraGroundRow, standIns := [], harness := (true, "43ea65066c9211bb3abebd53041ee2457bc6f9ddb87457690aa259c7f56816cc"), looks := false }, kinds := [], alts := [], laidByText := true, laidKinds := [.data], laidTests := true, laidLooks := .later }
def ParaGroundCardSaid : Prop := Claim7.holds Tryz.pinned (.plain (OpenSpec.ofChange paraGroundSpec)) paraGroundCard

/-- THE TIED CARD OF 'quaerelaw15.ParaVars'. -/
def paraVarsCard : Claim7 := { stood := { row := paraVarsRow, standIns := [], harness := (true, "43ea65066c9211bb3abebd53041ee2457bc6f9ddb87457690aa259c7f56816cc"), looks := false }, kinds := [], alts := [], laidByText := true, laidKinds := [.data], laidTests := true, laidLooks := .later }
def ParaVarsCardSaid : Prop := Claim7.holds Tryz.pinned (.plain (OpenSpec.ofChange paraVarsSpec)) paraVarsCard

/-- THE TIED CARD OF 'quaerelaw15.ParaReflexes'. -/
def paraReflexesCard : Claim7 := { stood := { row := paraReflexesRow, standIns := [], harness := (true, "43ea65066c9211bb3abebd53041ee2457bc6f9ddb87457690aa259c7f56816cc"), looks := false }, kinds := [], alts := [], laidByText := true, laidKinds := [.data], laidTests := true, laidLooks := .later }
def ParaReflexesCardSaid : Prop := Claim7.holds Tryz.pinned (.plain (OpenSpec.ofChange paraReflexesSpec)) paraReflexesCard

/-- THE TIED CARD OF 'quaerelaw15.ParaHolds'. -/
def paraHoldsCard : Claim7 := { stood := { row := paraHoldsRow, standIns := [], harness := (true, "43ea65066c9211bb3abebd53041ee2457bc6f9ddb87457690aa259c7f56816cc"), looks := false }, kinds := [], alts := [], laidByText := true, laidKinds := [.data], laidTests := true, laidLooks := .later }
def ParaHoldsCardSaid : Prop := Claim7.holds Tryz.pinned (.plain (OpenSpec.ofChange paraHoldsSpec)) paraHoldsCard

/-- THE SECOND FORM's CARD OF 'quaerelaw24.Goals'. -/
def goalsUptoCard : Claim7 := { stood := { row := goalsUptoRow, standIns := [], harness := (true, "43ea65066c9211bb3abebd53041ee2457bc6f9ddb87457690aa259c7f56816cc"), looks := false }, kinds := [], alts := [], laidByText := true, laidKinds := [.data, .data, .data, .data], laidTests := true, laidLooks := .later }
def GoalsUptoCardSaid : Prop := Claim7.holds Tryz.pinned (.plain (OpenSpec.upto goalsSpec)) goalsUptoCard

/-- THE SECOND FORM's CARD OF 'quaerelaw14.Factors'. -/
def factorsUptoCard : Claim7 := { stood := { row := factorsUptoRow, standIns := [], harness := (true, "43ea65066c9211bb3abebd53041ee2457bc6f9ddb87457690aa259c7f56816cc"), looks := false }, kinds := [], alts := [], laidByText := true, laidKinds := [.data], laidTests := true, laidLooks := .later }
def FactorsUptoCardSaid : Prop := Claim7.holds Tryz.pinned (.plain (OpenSpec.upto factorsSpec)) factorsUptoCard

/-- THE SECOND FORM's CARD OF 'quaerelaw14.FactorAlls'. -/
def factorAllsUptoCard : Claim7 := { stood := { row := factorAllsUptoRow, standIns := [], harness := (true, "43ea65066c9211bb3abebd53041ee2457bc6f9ddb87457690aa259c7f56816cc"), looks := false }, kinds := [], alts := [], laidByText := true, laidKinds := [.data], laidTests := true, laidLooks := .later }
def FactorAllsUptoCardSaid : Prop := Claim7.holds Tryz.pinned (.plain (OpenSpec.upto factorAllsSpec)) factorAllsUptoCard

/-- THE SECOND FORM's CARD OF 'quaerelaw13.Resolves'. -/
def resolvesUptoCard : Claim7 := { stood := { row := resolvesUptoRow, standIns := [], harness := (true, "43ea65066c9211bb3abebd53041ee2457bc6f9ddb87457690aa259c7f56816cc"), looks := false }, kinds := [], alts := [], laidByText := true, laidKinds := [.data], laidTests := true, laidLooks := .later }
def ResolvesUptoCardSaid : Prop := Claim7.holds Tryz.pinned (.plain (OpenSpec.upto resolvesSpec)) resolvesUptoCard

/-- THE SECOND FORM's CARD OF 'quaerelaw15.Paras'. -/
def parasUptoCard : Claim7 := { stood := { row := parasUptoRow, standIns := [], harness := (true, "43ea65066c9211bb3abebd53041ee2457bc6f9ddb87457690aa259c7f56816cc"), looks := false }, kinds := [], alts := [], laidByText := true, laidKinds := [.data], laidTests := true, laidLooks := .later }
def ParasUptoCardSaid : Prop := Claim7.holds Tryz.pinned (.plain (OpenSpec.upto parasSpec)) parasUptoCard

/-- THE SECOND FORM's CARD OF 'quaerelaw15.ParaAlls'. -/
def paraAllsUptoCard : Claim7 := { stood := { row := paraAllsUptoRow, standIns := [], harness := (true, "43ea65066c9211bb3abebd53041ee2457bc6f9ddb87457690aa259c7f56816cc"), looks := false }, kinds := [], alts := [], laidByText := true, laidKinds := [.data], laidTests := true, laidLooks := .later }
def ParaAllsUptoCardSaid : Prop := Claim7.holds Tryz.pinned (.plain (OpenSpec.upto paraAllsSpec)) paraAllsUptoCard

/-- THE SECOND FORM's CARD OF 'quaerelaw15.ParaGround'. -/
def paraGroundUptoCard : Claim7 := { stood := { row := paraGroundUptoRow, standIns := [], harness := (true, "43ea65066c9211bb3abebd53041ee2457bc6f9ddb87457690aa259c7f56816cc"), looks := false }, kinds := [], alts := [], laidByText := true, laidKinds := [.data], laidTests := true, laidLooks := .later }
def ParaGroundUptoCardSaid : Prop := Claim7.holds Tryz.pinned (.plain (OpenSpec.upto paraGroundSpec)) paraGroundUptoCard

/-- THE SECOND FORM's CARD OF 'quaerelaw15.ParaVars'. -/
def paraVarsUptoCard : Claim7 := { stood := { row := paraVarsUptoRow, standIns := [], harness := (true, "43ea65066c9211bb3abebd53041ee2457bc6f9ddb87457690aa259c7f56816cc"), looks := false }, kinds := [], alts := [], laidByText := true, laidKinds := [.data], laidTests := true, laidLooks := .later }
def ParaVarsUptoCardSaid : Prop := Claim7.holds Tryz.pinned (.plain (OpenSpec.upto paraVarsSpec)) paraVarsUptoCard

/-- THE SECOND FORM's CARD OF 'quaerelaw15.ParaReflexes'. -/
def paraReflexesUptoCard : Claim7 := { stood := { row := paraReflexesUptoRow, standIns := [], harness := (true, "43ea65066c9211bb3abebd53041ee2457bc6f9ddb87457690aa259c7f56816cc"), looks := false }, kinds := [], alts := [], laidByText := true, laidKinds := [.data], laidTests := true, laidLooks := .later }
def ParaReflexesUptoCardSaid : Prop := Claim7.holds Tryz.pinned (.plain (OpenSpec.upto paraReflexesSpec)) paraReflexesUptoCard

/-- THE SECOND FORM's CARD OF 'quaerelaw15.ParaHolds'. -/
def paraHoldsUptoCard : Claim7 := { stood := { row := paraHoldsUptoRow, standIns := [], harness := (true, "43ea65066c9211bb3abebd53041ee2457bc6f9ddb87457690aa259c7f56816cc"), looks := false }, kinds := [], alts := [], laidByText := true, laidKinds := [.data], laidTests := true, laidLooks := .later }
def ParaHoldsUptoCardSaid : Prop := Claim7.holds Tryz.pinned (.plain (OpenSpec.upto paraHoldsSpec)) paraHoldsUptoCard
end Rows
end Go.Proofs.YtleengbobccdkaaGreatDoor
