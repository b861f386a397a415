/-
  DERIVED. GIVEN WITH THE SEED: THE CARDS: each row of YtgjajclncfhidaaGreatDoorRows.lean that lists a variable, with what it lists TIED to the program's text (the seventh form; the later family's looks); each row that meets fmt, with fmt's text TOLD by the authors' own Lean function (tested against real Go, not proved from fmt's source: count such statements apart). THE CARD IS WHAT COUNTS. Prove the row's statement (the work); the ties are given (YtgjajclncfhidaaGreatDoorTie.lean); close each card by the builder's one call (the guide's Derived/Test/ToyasCard.lean, 'card_holds'). Laid BY PROGRAM, IN A SANDBOX (cutbox-door.mjs). By AI agents, Wed Nov 11 2026. No macro, syntax, notation, axiom, sorry.
-/
import Derived.Test.YtgjajclncfhidaaGreatDoorRows
import GoSem.ClaimSeven
namespace Go.Proofs.YtgjajclncfhidaaGreatDoor
namespace Rows

/-- THE TIED CARD OF 'quaerelaw18.Checks'. -/
def checksCard : Claim7 := { stood := { row := checksRow, standIns := [], harness := (true, "50eac4f8965128a5a02e86684d5cd472a44d203e2de7ab6a8438d4655fc536fc"), looks := false }, kinds := [], alts := [], laidByText := true, laidKinds := [.data], laidTests := true, laidLooks := .later }
def ChecksCardSaid : Prop := Claim7.holds Tryz.pinned (.plain (OpenSpec.ofChange checksSpec)) checksCard

/-- THE TIED CARD OF 'quaerelaw18.CheckHolds'. -/
def checkHoldsCard : Claim7 := { stood := { row := checkHoldsRow, standIns := [], harness := (true, "50eac4f8965128a5a02e86684d5cd472a44d203e2de7ab6a8438d4655fc536fc"), looks := false }, kinds := [], alts := [], laidByText := true, laidKinds := [.data], laidTests := true, laidLooks := .later }
def CheckHoldsCardSaid : Prop := Claim7.holds Tryz.pinned (.plain (OpenSpec.ofChange checkHoldsSpec)) checkHoldsCard

/-- THE TIED CARD OF 'quaerelaw18.CheckSpoilt'. -/
def checkSpoiltCard : Claim7 := { stood := { row := checkSpoiltRow, standIns := [], harness := (true, "50eac4f8965128a5a02e86684d5cd472a44d203e2de7ab6a8438d4655fc536fc"), looks := false }, kinds := [], alts := [], laidByText := true, laidKinds := [.data], laidTests := true, laidLooks := .later }
def CheckSpoiltCardSaid : Prop := Claim7.holds Tryz.pinned (.plain (OpenSpec.ofChange checkSpoiltSpec)) checkSpoiltCard

/-- THE TIED CARD OF 'quaerelaw18.CheckUses'. -/
def checkUsesCard : Claim7 := { stood := { row := checkUsesRow, standIns := [], harness := (true, "50eac4f8965128a5a02e86684d5cd472a44d203e2de7ab6a8438d4655fc536fc"), looks := false }, kinds := [], alts := [], laidByText := true, laidKinds := [.data], laidTests := true, laidLooks := .later }
def CheckUsesCardSaid : Prop := Claim7.holds Tryz.pinned (.plain (OpenSpec.ofChange checkUsesSpec)) checkUsesCard

/-- THE TIED CARD OF 'quaerelaw18.CheckGrows'. -/
def checkGrowsCard : Claim7 := { stood := { row := checkGrowsRow, standIns := [], harness := (true, "50eac4f8965128a5a02e86684d5cd472a44d203e2de7ab6a8438d4655fc536fc"), looks := false }, kinds := [], alts := [], laidByText := true, laidKinds := [.data], laidTests := true, laidLooks := .later }
def CheckGrowsCardSaid : Prop := Claim7.holds Tryz.pinned (.plain (OpenSpec.ofChange checkGrowsSpec)) checkGrowsCard

/-- THE SECOND FORM's CARD OF 'quaerelaw18.Checks'. -/
def checksUptoCard : Claim7 := { stood := { row := checksUptoRow, standIns := [], harness := (true, "50eac4f8965128a5a02e86684d5cd472a44d203e2de7ab6a8438d4655fc536fc"), looks := false }, kinds := [], alts := [], laidByText := true, laidKinds := [.data], laidTests := true, laidLooks := .later }
def ChecksUptoCardSaid : Prop := Claim7.holds Tryz.pinned (.plain (OpenSpec.upto checksSpec)) checksUptoCard

/-- THE SECOND FORM's CARD OF 'quaerelaw18.CheckHolds'. -/
def checkHoldsUptoCard : Claim7 := { stood := { row := checkHoldsUptoRow, standIns := [], harness := (true, "50eac4f8965128a5a02e86684d5cd472a44d203e2de7ab6a8438d4655fc536fc"), looks := false }, kinds := [], alts := [], laidByText := true, laidKinds := [.data], laidTests := true, laidLooks := .later }
def CheckHoldsUptoCardSaid : Prop := Claim7.holds Tryz.pinned (.plain (OpenSpec.upto checkHoldsSpec)) checkHoldsUptoCard

/-- THE SECOND FORM's CARD OF 'quaerelaw18.CheckSpoilt'. -/
def checkSpoiltUptoCard : Claim7 := { stood := { row := checkSpoiltUptoRow, standIns := [], harness := (true, "50eac4f8965128a5a02e86684d5cd472a44d203e2de7ab6a8438d4655fc536fc"), looks := false }, kinds := [], alts := [], laidByText := true, laidKinds := [.data], laidTests := true, laidLooks := .later }
def CheckSpoiltUptoCardSaid : Prop := Claim7.holds Tryz.pinned (.plain (OpenSpec.upto checkSpoiltSpec)) checkSpoiltUptoCard

/-- THE SECOND FORM's CARD OF 'quaerelaw18.CheckUses'. -/
def checkUsesUptoCard : Claim7 := { stood := { row := checkUsesUptoRow, standIns := [], harness := (true, "50eac4f8965128a5a02e86684d5cd472a44d203e2de7ab6a8438d4655fc536fc"), looks := false }, kinds := [], alts := [], laidByText := true, laidKinds := [.data], laidTests := true, laidLooks := .later }
def CheckUsesUptoCardSaid : Prop := Claim7.holds Tryz.pinned (.plain (OpenSpec.upto checkUsesSpec)) checkUsesUptoCard

/-- THE SECOND FORM's CARD OF 'quaerelaw18.CheckGrows'. -/
def checkGrowsUptoCard : Claim7 := { stood := { row := checkGrowsUptoRow, standIns := [], harness := (true, "50eac4f8965128a5a02e86684d5cd472a44d203e2de7ab6a8438d4655fc536fc"), looks := false }, kinds := [], alts := [], laidByText := true, laidKinds := [.data], laidTests := true, laidLooks := .later }
def CheckGrowsUptoCardSaid : Prop := Claim7.holds Tryz.pinned (.plain (OpenSpec.upto checkGrowsSpec)) checkGrowsUptoCard
end Rows
end Go.Proofs.YtgjajclncfhidaaGreatDoor
