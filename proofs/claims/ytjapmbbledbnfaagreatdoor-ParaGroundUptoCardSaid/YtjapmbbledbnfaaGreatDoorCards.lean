/-
  DERIVED. GIVEN WITH THE SEED: THE CARDS: each row of YtjapmbbledbnfaaGreatDoorRows.lean that lists a variable, with what it lists TIED to the program's text (the seventh form; the later family's looks); each row that meets fmt, with fmt's text TOLD by the authors' own Lean function (tested against real Go, not proved from fmt's source: count such statements apart). THE CARD IS WHAT COUNTS. Prove the row's statement (the work); the ties are given (YtjapmbbledbnfaaGreatDoorTie.lean); close each card by the builder's one call (the guide's Derived/Test/ToyasCard.lean, 'card_holds'). Laid BY PROGRAM, IN A SANDBOX (cutbox-door.mjs). By AI agents, Wed Nov 11 2026. No macro, syntax, notation, axiom, sorry.
-/
import Derived.Test.YtjapmbbledbnfaaGreatDoorRows
import GoSem.ClaimSeven
namespace Go.Proofs.YtjapmbbledbnfaaGreatDoor
namespace Rows

/-- THE TIED CARD OF 'quaerelaw15.ParaAlls'. -/
def paraAllsCard : Claim7 := { stood := { row := paraAllsRow, standIns := [], harness := (true, "15d95d1ce9cfd51fa6ed72927157d6f02ff31cfceeb987623d6da8d734e6bf38"), looks := false }, kinds := [], alts := [], laidByText := true, laidKinds := [.data], laidTests := true, laidLooks := .later }
def ParaAllsCardSaid : Prop := Claim7.holds Tryz.pinned (.plain (OpenSpec.ofChange paraAllsSpec)) paraAllsCard

/-- THE TIED CARD OF 'quaerelaw15.ParaGround'. -/
def paraGroundCard : Claim7 := { stood := { row := paraGroundRow, standIns := [], harness := (true, "15d95d1ce9cfd51fa6ed72927157d6f02ff31cfceeb987623d6da8d734e6bf38"), looks := false }, kinds := [], alts := [], laidByText := true, laidKinds := [.data], laidTests := true, laidLooks := .later }
def ParaGroundCardSaid : Prop := Claim7.holds Tryz.pinned (.plain (OpenSpec.ofChange paraGroundSpec)) paraGroundCard

/-- THE TIED CARD OF 'quaerelaw15.ParaReflexes'. -/
def paraReflexesCard : Claim7 := { stood := { row := paraReflexesRow, standIns := [], harness := (true, "15d95d1ce9cfd51fa6ed72927157d6f02ff31cfceeb987623d6da8d734e6bf38"), looks := false }, kinds := [], alts := [], laidByText := true, laidKinds := [.data], laidTests := true, laidLooks := .later }
def ParaReflexesCardSaid : Prop := Claim7.holds Tryz.pinned (.plain (OpenSpec.ofChange paraReflexesSpec)) paraReflexesCard

/-- THE SECOND FORM's CARD OF 'quaerelaw15.ParaAlls'. -/
def paraAllsUptoCard : Claim7 := { stood := { row := paraAllsUptoRow, standIns := [], harness := (true, "15d95d1ce9cfd51fa6ed72927157d6f02ff31cfceeb987623d6da8d734e6bf38"), looks := false }, kinds := [], alts := [], laidByText := true, laidKinds := [.data], laidTests := true, laidLooks := .later }
def ParaAllsUptoCardSaid : Prop := Claim7.holds Tryz.pinned (.plain (OpenSpec.upto paraAllsSpec)) paraAllsUptoCard

/-- THE SECOND FORM's CARD OF 'quaerelaw15.ParaGround'. -/
def paraGroundUptoCard : Claim7 := { stood := { row := paraGroundUptoRow, standIns := [], harness := (true, "15d95d1ce9cfd51fa6ed72927157d6f02ff31cfceeb987623d6da8d734e6bf38"), looks := false }, kinds := [], alts := [], laidByText := true, laidKinds := [.data], laidTests := true, laidLooks := .later }
def ParaGroundUptoCardSaid : Prop := Claim7.holds Tryz.pinned (.plain (OpenSpec.upto paraGroundSpec)) paraGroundUptoCard

/-- THE SECOND FORM's CARD OF 'quaerelaw15.ParaReflexes'. -/
def paraReflexesUptoCard : Claim7 := { stood := { row := paraReflexesUptoRow, standIns := [], harness := (true, "15d95d1ce9cfd51fa6ed72927157d6f02ff31cfceeb987623d6da8d734e6bf38"), looks := false }, kinds := [], alts := [], laidByText := true, laidKinds := [.data], laidTests := true, laidLooks := .later }
def ParaReflexesUptoCardSaid : Prop := Claim7.holds Tryz.pinned (.plain (OpenSpec.upto paraReflexesSpec)) paraReflexesUptoCard
end Rows
end Go.Proofs.YtjapmbbledbnfaaGreatDoor
