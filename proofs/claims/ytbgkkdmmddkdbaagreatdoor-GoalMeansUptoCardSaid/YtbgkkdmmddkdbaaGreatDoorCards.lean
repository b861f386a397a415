/-
  DERIVED. GIVEN WITH THE SEED: THE CARDS: each row of YtbgkkdmmddkdbaaGreatDoorRows.lean that lists a variable, with what it lists TIED to the program's text (the seventh form; the later family's looks); each row that meets fmt, with fmt's text TOLD by the authors' own Lean function (tested against real Go, not proved from fmt's source: count such statements apart). THE CARD IS WHAT COUNTS. Prove the row's statement (the work); the ties are given (YtbgkkdmmddkdbaaGreatDoorTie.lean); close each card by the builder's one call (the guide's Derived/Test/ToyasCard.lean, 'card_holds'). Laid BY PROGRAM, IN A SANDBOX (cutbox-door.mjs). By AI agents, Wed Nov 11 2026. No macro, syntax, notation, axiom, sorry.
-/
import Derived.Test.YtbgkkdmmddkdbaaGreatDoorRows
import GoSem.ClaimSeven
namespace Go.Proofs.YtbgkkdmmddkdbaaGreatDoor
namespace Rows

/-- THE TIED CARD OF 'quaerelaw24.GoalMeans'. -/
def goalMeansCard : Claim7 := { stood := { row := goalMeansRow, standIns := [], harness := (true, "952934dcfdabf15684f4af6b6502fb5a05dda7e153582661f4c387828f8cc5ee"), looks := false }, kinds := [], alts := [], laidByText := true, laidKinds := [.data, .data, .data, .data], laidTests := true, laidLooks := .later }
def GoalMeansCardSaid : Prop := Claim7.holds Tryz.pinned (.plain (OpenSpec.ofChange goalMeansSpec)) goalMeansCard

/-- THE TIED CARD OF 'quaerelaw14.FactorHolds'. -/
def factorHoldsCard : Claim7 := { stood := { row := factorHoldsRow, standIns := [], harness := (true, "952934dcfdabf15684f4af6b6502fb5a05dda7e153582661f4c387828f8cc5ee"), looks := false }, kinds := [], alts := [], laidByText := true, laidKinds := [.data], laidTests := true, laidLooks := .later }
def FactorHoldsCardSaid : Prop := Claim7.holds Tryz.pinned (.plain (OpenSpec.ofChange factorHoldsSpec)) factorHoldsCard

/-- THE TIED CARD OF 'quaerelaw13.Resolves'. -/
def resolvesCard : Claim7 := { stood := { row := resolvesRow, standIns := [], harness := (true, "952934dcfdabf15684f4af6b6502fb5a05dda7e153582661f4c387828f8cc5ee"), looks := false }, kinds := [], alts := [], laidByText := true, laidKinds := [.data], laidTests := true, laidLooks := .later }
def ResolvesCardSaid : Prop := Claim7.holds Tryz.pinned (.plain (OpenSpec.ofChange resolvesSpec)) resolvesCard

/-- THE TIED CARD OF 'quaerelaw13.ResolveHolds'. -/
def resolveHoldsCard : Claim7 := { stood := { row := resolveHoldsRow, standIns := [], harness := (true, "952934dcfdabf15684f4af6b6502fb5a05dda7e153582661f4c387828f8cc5ee"), looks := false }, kinds := [], alts := [], laidByText := true, laidKinds := [.data], laidTests := true, laidLooks := .later }
def ResolveHoldsCardSaid : Prop := Claim7.holds Tryz.pinned (.plain (OpenSpec.ofChange resolveHoldsSpec)) resolveHoldsCard

/-- THE SECOND FORM's CARD OF 'quaerelaw24.GoalMeans'. -/
def goalMeansUptoCard : Claim7 := { stood := { row := goalMeansUptoRow, standIns := [], harness := (true, "952934dcfdabf15684f4af6b6502fb5a05dda7e153582661f4c387828f8cc5ee"), looks := false }, kinds := [], alts := [], laidByText := true, laidKinds := [.data, .data, .data, .data], laidTests := true, laidLooks := .later }
def GoalMeansUptoCardSaid : Prop := Claim7.holds Tryz.pinned (.plain (OpenSpec.upto goalMeansSpec)) goalMeansUptoCard

/-- THE SECOND FORM's CARD OF 'quaerelaw14.FactorHolds'. -/
def factorHoldsUptoCard : Claim7 := { stood := { row := factorHoldsUptoRow, standIns := [], harness := (true, "952934dcfdabf15684f4af6b6502fb5a05dda7e153582661f4c387828f8cc5ee"), looks := false }, kinds := [], alts := [], laidByText := true, laidKinds := [.data], laidTests := true, laidLooks := .later }
def FactorHoldsUptoCardSaid : Prop := Claim7.holds Tryz.pinned (.plain (OpenSpec.upto factorHoldsSpec)) factorHoldsUptoCard

/-- THE SECOND FORM's CARD OF 'quaerelaw13.Resolves'. -/
def resolvesUptoCard : Claim7 := { stood := { row := resolvesUptoRow, standIns := [], harness := (true, "952934dcfdabf15684f4af6b6502fb5a05dda7e153582661f4c387828f8cc5ee"), looks := false }, kinds := [], alts := [], laidByText := true, laidKinds := [.data], laidTests := true, laidLooks := .later }
def ResolvesUptoCardSaid : Prop := Claim7.holds Tryz.pinned (.plain (OpenSpec.upto resolvesSpec)) resolvesUptoCard

/-- THE SECOND FORM's CARD OF 'quaerelaw13.ResolveHolds'. -/
def resolveHoldsUptoCard : Claim7 := { stood := { row := resolveHoldsUptoRow, standIns := [], harness := (true, "952934dcfdabf15684f4af6b6502fb5a05dda7e153582661f4c387828f8cc5ee"), looks := false }, kinds := [], alts := [], laidByText := true, laidKinds := [.data], laidTests := true, laidLooks := .later }
def ResolveHoldsUptoCardSaid : Prop := Claim7.holds Tryz.pinned (.plain (OpenSpec.upto resolveHoldsSpec)) resolveHoldsUptoCard
end Rows
end Go.Proofs.YtbgkkdmmddkdbaaGreatDoor
