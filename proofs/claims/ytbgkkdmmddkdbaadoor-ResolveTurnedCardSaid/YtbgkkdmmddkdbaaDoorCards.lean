/-
  DERIVED. GIVEN WITH THE SEED: THE CARDS: each row of YtbgkkdmmddkdbaaDoorRows.lean that lists a variable, with what it lists TIED to the program's text (the seventh form; the later family's looks); each row that meets fmt, with fmt's text TOLD by the authors' own Lean function (tested against real Go, not proved from fmt's source: count such statements apart). THE CARD IS WHAT COUNTS. Prove the row's statement (the work); the ties are given (YtbgkkdmmddkdbaaDoorTie.lean); close each card by the builder's one call (the guide's Derived/Test/ToyasCard.lean, 'card_holds'). Laid BY PROGRAM, IN A SANDBOX (cutbox-door.mjs). By AI agents, Wed Nov 11 2026. No macro, syntax, notation, axiom, sorry.
-/
import Derived.Test.YtbgkkdmmddkdbaaDoorRows
import GoSem.ClaimSeven
namespace Go.Proofs.YtbgkkdmmddkdbaaDoor
namespace Rows

/-- THE TIED CARD OF 'quaerelaw14.FactorSays'. -/
def factorSaysCard : Claim7 := { stood := { row := factorSaysRow, standIns := [], harness := (true, "4f926cd6737cdab46e289608df9fdbe863cc398d93ea65ff562a02500a12b99d"), looks := false }, kinds := [], alts := [], laidByText := true, laidKinds := [.data], laidTests := true, laidLooks := .later }
def FactorSaysCardSaid : Prop := Claim7.holds Tryd.pinned (.plain (OpenSpec.ofChange factorSaysSpec)) factorSaysCard

/-- THE TIED CARD OF 'quaerelaw13.ResolveTurned'. -/
def resolveTurnedCard : Claim7 := { stood := { row := resolveTurnedRow, standIns := [], harness := (true, "4f926cd6737cdab46e289608df9fdbe863cc398d93ea65ff562a02500a12b99d"), looks := false }, kinds := [], alts := [], laidByText := true, laidKinds := [.data], laidTests := true, laidLooks := .later }
def ResolveTurnedCardSaid : Prop := Claim7.holds Tryd.pinned (.plain (OpenSpec.ofChange resolveTurnedSpec)) resolveTurnedCard

/-- THE TIED CARD OF 'quaerelaw13.ResolveOpposite'. -/
def resolveOppositeCard : Claim7 := { stood := { row := resolveOppositeRow, standIns := [], harness := (true, "4f926cd6737cdab46e289608df9fdbe863cc398d93ea65ff562a02500a12b99d"), looks := false }, kinds := [], alts := [], laidByText := true, laidKinds := [.data], laidTests := true, laidLooks := .later }
def ResolveOppositeCardSaid : Prop := Claim7.holds Tryd.pinned (.plain (OpenSpec.ofChange resolveOppositeSpec)) resolveOppositeCard

/-- THE TIED CARD OF 'quaerelaw13.ResolveNames'. -/
def resolveNamesCard : Claim7 := { stood := { row := resolveNamesRow, standIns := [], harness := (true, "4f926cd6737cdab46e289608df9fdbe863cc398d93ea65ff562a02500a12b99d"), looks := false }, kinds := [], alts := [], laidByText := true, laidKinds := [.data], laidTests := true, laidLooks := .later }
def ResolveNamesCardSaid : Prop := Claim7.holds Tryd.pinned (.plain (OpenSpec.ofChange resolveNamesSpec)) resolveNamesCard

/-- THE SECOND FORM's CARD OF 'quaerelaw14.FactorSays'. -/
def factorSaysUptoCard : Claim7 := { stood := { row := factorSaysUptoRow, standIns := [], harness := (true, "4f926cd6737cdab46e289608df9fdbe863cc398d93ea65ff562a02500a12b99d"), looks := false }, kinds := [], alts := [], laidByText := true, laidKinds := [.data], laidTests := true, laidLooks := .later }
def FactorSaysUptoCardSaid : Prop := Claim7.holds Tryd.pinned (.plain (OpenSpec.upto factorSaysSpec)) factorSaysUptoCard

/-- THE SECOND FORM's CARD OF 'quaerelaw13.ResolveTurned'. -/
def resolveTurnedUptoCard : Claim7 := { stood := { row := resolveTurnedUptoRow, standIns := [], harness := (true, "4f926cd6737cdab46e289608df9fdbe863cc398d93ea65ff562a02500a12b99d"), looks := false }, kinds := [], alts := [], laidByText := true, laidKinds := [.data], laidTests := true, laidLooks := .later }
def ResolveTurnedUptoCardSaid : Prop := Claim7.holds Tryd.pinned (.plain (OpenSpec.upto resolveTurnedSpec)) resolveTurnedUptoCard

/-- THE SECOND FORM's CARD OF 'quaerelaw13.ResolveOpposite'. -/
def resolveOppositeUptoCard : Claim7 := { stood := { row := resolveOppositeUptoRow, standIns := [], harness := (true, "4f926cd6737cdab46e289608df9fdbe863cc398d93ea65ff562a02500a12b99d"), looks := false }, kinds := [], alts := [], laidByText := true, laidKinds := [.data], laidTests := true, laidLooks := .later }
def ResolveOppositeUptoCardSaid : Prop := Claim7.holds Tryd.pinned (.plain (OpenSpec.upto resolveOppositeSpec)) resolveOppositeUptoCard

/-- THE SECOND FORM's CARD OF 'quaerelaw13.ResolveNames'. -/
def resolveNamesUptoCard : Claim7 := { stood := { row := resolveNamesUptoRow, standIns := [], harness := (true, "4f926cd6737cdab46e289608df9fdbe863cc398d93ea65ff562a02500a12b99d"), looks := false }, kinds := [], alts := [], laidByText := true, laidKinds := [.data], laidTests := true, laidLooks := .later }
def ResolveNamesUptoCardSaid : Prop := Claim7.holds Tryd.pinned (.plain (OpenSpec.upto resolveNamesSpec)) resolveNamesUptoCard
end Rows
end Go.Proofs.YtbgkkdmmddkdbaaDoor
