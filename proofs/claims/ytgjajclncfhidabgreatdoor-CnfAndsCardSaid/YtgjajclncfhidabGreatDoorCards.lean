/-
  DERIVED. GIVEN WITH THE SEED: THE CARDS: each row of YtgjajclncfhidabGreatDoorRows.lean that lists a variable, with what it lists TIED to the program's text (the seventh form; the later family's looks); each row that meets fmt, with fmt's text TOLD by the authors' own Lean function (tested against real Go, not proved from fmt's source: count such statements apart). THE CARD IS WHAT COUNTS. Prove the row's statement (the work); the ties are given (YtgjajclncfhidabGreatDoorTie.lean); close each card by the builder's one call (the guide's Derived/Test/ToyasCard.lean, 'card_holds'). Laid BY PROGRAM, IN A SANDBOX (cutbox-door.mjs). By AI agents, Wed Nov 11 2026. No macro, syntax, notation, axiom, sorry.
-/
import Derived.Test.YtgjajclncfhidabGreatDoorRows
import GoSem.ClaimSeven
namespace Go.Proofs.YtgjajclncfhidabGreatDoor
namespace Rows

/-- THE TIED CARD OF 'quaerelaw23.Cnfs'. -/
def cnfsCard : Claim7 := { stood := { row := cnfsRow, standIns := [], harness := (true, "903a8a2d744ce9fc655e0ced6d6f601e7d4f91c450d4d0ee3877eba1089b1072"), looks := false }, kinds := [], alts := [], laidByText := true, laidKinds := [.data, .data, .data, .data], laidTests := true, laidLooks := .later }
def CnfsCardSaid : Prop := Claim7.holds Tryz.pinned (.plain (OpenSpec.ofChange cnfsSpec)) cnfsCard

/-- THE TIED CARD OF 'quaerelaw23.CnfNots'. -/
def cnfNotsCard : Claim7 := { stood := { row := cnfNotsRow, standIns := [], harness := (true, "903a8a2d744ce9fc655e0ced6d6f601e7d4f91c450d4d0ee3877eba1089b1072"), looks := false }, kinds := [], alts := [], laidByText := true, laidKinds := [.data, .data, .data, .data], laidTests := true, laidLooks := .later }
def CnfNotsCardSaid : Prop := Claim7.holds Tryz.pinned (.plain (OpenSpec.ofChange cnfNotsSpec)) cnfNotsCard

/-- THE TIED CARD OF 'quaerelaw23.CnfAnds'. -/
def cnfAndsCard : Claim7 := { stood := { row := cnfAndsRow, standIns := [], harness := (true, "903a8a2d744ce9fc655e0ced6d6f601e7d4f91c450d4d0ee3877eba1089b1072"), looks := false }, kinds := [], alts := [], laidByText := true, laidKinds := [.data, .data, .data, .data], laidTests := true, laidLooks := .later }
def CnfAndsCardSaid : Prop := Claim7.holds Tryz.pinned (.plain (OpenSpec.ofChange cnfAndsSpec)) cnfAndsCard

/-- THE TIED CARD OF 'quaerelaw23.CnfForms'. -/
def cnfFormsCard : Claim7 := { stood := { row := cnfFormsRow, standIns := [], harness := (true, "903a8a2d744ce9fc655e0ced6d6f601e7d4f91c450d4d0ee3877eba1089b1072"), looks := false }, kinds := [], alts := [], laidByText := true, laidKinds := [.data, .data, .data, .data], laidTests := true, laidLooks := .later }
def CnfFormsCardSaid : Prop := Claim7.holds Tryz.pinned (.plain (OpenSpec.ofChange cnfFormsSpec)) cnfFormsCard

/-- THE TIED CARD OF 'quaerelaw23.CnfHolds'. -/
def cnfHoldsCard : Claim7 := { stood := { row := cnfHoldsRow, standIns := [], harness := (true, "903a8a2d744ce9fc655e0ced6d6f601e7d4f91c450d4d0ee3877eba1089b1072"), looks := false }, kinds := [], alts := [], laidByText := true, laidKinds := [.data, .data, .data, .data], laidTests := true, laidLooks := .later }
def CnfHoldsCardSaid : Prop := Claim7.holds Tryz.pinned (.plain (OpenSpec.ofChange cnfHoldsSpec)) cnfHoldsCard

/-- THE SECOND FORM's CARD OF 'quaerelaw23.Cnfs'. -/
def cnfsUptoCard : Claim7 := { stood := { row := cnfsUptoRow, standIns := [], harness := (true, "903a8a2d744ce9fc655e0ced6d6f601e7d4f91c450d4d0ee3877eba1089b1072"), looks := false }, kinds := [], alts := [], laidByText := true, laidKinds := [.data, .data, .data, .data], laidTests := true, laidLooks := .later }
def CnfsUptoCardSaid : Prop := Claim7.holds Tryz.pinned (.plain (OpenSpec.upto cnfsSpec)) cnfsUptoCard

/-- THE SECOND FORM's CARD OF 'quaerelaw23.CnfNots'. -/
def cnfNotsUptoCard : Claim7 := { stood := { row := cnfNotsUptoRow, standIns := [], harness := (true, "903a8a2d744ce9fc655e0ced6d6f601e7d4f91c450d4d0ee3877eba1089b1072"), looks := false }, kinds := [], alts := [], laidByText := true, laidKinds := [.data, .data, .data, .data], laidTests := true, laidLooks := .later }
def CnfNotsUptoCardSaid : Prop := Claim7.holds Tryz.pinned (.plain (OpenSpec.upto cnfNotsSpec)) cnfNotsUptoCard

/-- THE SECOND FORM's CARD OF 'quaerelaw23.CnfAnds'. -/
def cnfAndsUptoCard : Claim7 := { stood := { row := cnfAndsUptoRow, standIns := [], harness := (true, "903a8a2d744ce9fc655e0ced6d6f601e7d4f91c450d4d0ee3877eba1089b1072"), looks := false }, kinds := [], alts := [], laidByText := true, laidKinds := [.data, .data, .data, .data], laidTests := true, laidLooks := .later }
def CnfAndsUptoCardSaid : Prop := Claim7.holds Tryz.pinned (.plain (OpenSpec.upto cnfAndsSpec)) cnfAndsUptoCard

/-- THE SECOND FORM's CARD OF 'quaerelaw23.CnfForms'. -/
def cnfFormsUptoCard : Claim7 := { stood := { row := cnfFormsUptoRow, standIns := [], harness := (true, "903a8a2d744ce9fc655e0ced6d6f601e7d4f91c450d4d0ee3877eba1089b1072"), looks := false }, kinds := [], alts := [], laidByText := true, laidKinds := [.data, .data, .data, .data], laidTests := true, laidLooks := .later }
def CnfFormsUptoCardSaid : Prop := Claim7.holds Tryz.pinned (.plain (OpenSpec.upto cnfFormsSpec)) cnfFormsUptoCard

/-- THE SECOND FORM's CARD OF 'quaerelaw23.CnfHolds'. -/
def cnfHoldsUptoCard : Claim7 := { stood := { row := cnfHoldsUptoRow, standIns := [], harness := (true, "903a8a2d744ce9fc655e0ced6d6f601e7d4f91c450d4d0ee3877eba1089b1072"), looks := false }, kinds := [], alts := [], laidByText := true, laidKinds := [.data, .data, .data, .data], laidTests := true, laidLooks := .later }
def CnfHoldsUptoCardSaid : Prop := Claim7.holds Tryz.pinned (.plain (OpenSpec.upto cnfHoldsSpec)) cnfHoldsUptoCard
end Rows
end Go.Proofs.YtgjajclncfhidabGreatDoor
