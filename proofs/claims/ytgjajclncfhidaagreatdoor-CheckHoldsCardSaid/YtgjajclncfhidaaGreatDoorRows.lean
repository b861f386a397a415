/-
  NARROWER THAN 'FOR EVERY INPUT', by the rows' own cells (each row's printed sentence says how): Checks: laid · CheckHolds: laid · CheckSpoilt: laid · CheckUses: laid · CheckGrows: laid.
  DERIVED. THE GIVEN ROWS OF THIS SEAT. 5 by the template 'for every input the law returns true; each argument reads behind the call as it read before'; 0 by the template 'total and deterministic' (their statements: YtgjajclncfhidaaGreatDoorTotals.lean).
  GIVEN WITH THE SEED: the statements are not yours to turn. If you find one false, say at which input.
  Laid BY PROGRAM, IN A SANDBOX (cutbox-rows.mjs): the forced cells as the released guide's own fill.sh prints them over the translation d27ef0b9224d4616… (all of the seat's roots in one cut). By AI agents, Wed Nov 11 2026. No macro, syntax, notation, axiom, sorry.
-/
import Derived.Test.YtgjajclncfhidaaGreatDoorChecked
import GoSem.Claim
import GoSem.ClaimJoined
import GoSem.ClaimMapViews
import Derived.JoinedTies
import Derived.KernelRfl
namespace Go.Proofs.YtgjajclncfhidaaGreatDoor
/- THE CELL 'sum', in the pinned program and in every row, IS THE sha256 OF THE DUMP (.gsa) THAT YtgjajclncfhidaaGreatDoorProg.lean LOADS. Nothing in Lean hashes anything: it is a label: what it is worth is what the hold of that sum in a sandbox is worth. -/
noncomputable def Tryz.pinned : Pinned := { name := "ytgjajclncfhidaagreatdoor", sum := "d27ef0b9224d4616767fd0338614f956185eb0bf819c1da9f8c10307ada9e26c", checked := Tryz.checked }
namespace Rows
def none {H : Type} : Left H := { results := [], args := [] }

/- WHAT THE LISTED PACKAGE-LEVEL VARIABLES READ AS WHEN THE CALL BEGINS. Each datum BY PROGRAM (the guide's laid-datum.mjs) off the statement by which the dump's own 'gosem.cut.vars' lays the variable. In a bare row this is a premise. The card (YtgjajclncfhidaaGreatDoorCards.lean) ties it to the program's text. -/
def laid_quaere_sign_equals {H : Type} : DataW H := .agg [.lit (.string [61]), .lit (.int .i64 0), .lit (.int .i64 2), .lit (.int .i64 1)]

/-- 'quaerelaw18.Checks': WHATEVER THE INPUT: true; the input reads as it did. -/
def checksSpec : ChangeSpec := { name := "checks", fn := fun _ => fun
  | [d1, d2, d3] => { results := [.lit (.bool true)], args := [d1, d2, d3] }
  | _ => none }
def checksRow : OpenClaim := { program := "ytgjajclncfhidaagreatdoor", sum := "d27ef0b9224d4616767fd0338614f956185eb0bf819c1da9f8c10307ada9e26c", func := "quaere/quaerelaw18.Checks", spec := "checks", inPlace := ["slices.overlaps[int]"], unfollowed := true, recurses := true, named := ["quaere/sign.equals"], apart := false, laid := [("quaere/sign.equals", laid_quaere_sign_equals)] }
def ChecksSaid : Prop := checksRow.holds Tryz.pinned (OpenSpec.ofChange checksSpec)

/-- ITS FALSE NEIGHBOUR: 'it returns false'. Refute it at one input. -/
def checksWrong : ChangeSpec := { name := "checks", fn := fun _ => fun
  | [d1, d2, d3] => { results := [.lit (.bool false)], args := [d1, d2, d3] }
  | _ => none }
def ChecksWrongFalsely : Prop := checksRow.holds Tryz.pinned (OpenSpec.ofChange checksWrong)

/-- 'quaerelaw18.CheckHolds': WHATEVER THE INPUT: true; the input reads as it did. -/
def checkHoldsSpec : ChangeSpec := { name := "checkHolds", fn := fun _ => fun
  | [d1, d2, d3, d4] => { results := [.lit (.bool true)], args := [d1, d2, d3, d4] }
  | _ => none }
def checkHoldsRow : OpenClaim := { program := "ytgjajclncfhidaagreatdoor", sum := "d27ef0b9224d4616767fd0338614f956185eb0bf819c1da9f8c10307ada9e26c", func := "quaere/quaerelaw18.CheckHolds", spec := "checkHolds", inPlace := ["slices.overlaps[int]"], unfollowed := true, recurses := true, named := ["quaere/sign.equals"], apart := false, laid := [("quaere/sign.equals", laid_quaere_sign_equals)] }
def CheckHoldsSaid : Prop := checkHoldsRow.holds Tryz.pinned (OpenSpec.ofChange checkHoldsSpec)

/-- ITS FALSE NEIGHBOUR: 'it returns false'. Refute it at one input. -/
def checkHoldsWrong : ChangeSpec := { name := "checkHolds", fn := fun _ => fun
  | [d1, d2, d3, d4] => { results := [.lit (.bool false)], args := [d1, d2, d3, d4] }
  | _ => none }
def CheckHoldsWrongFalsely : Prop := checkHoldsRow.holds Tryz.pinned (OpenSpec.ofChange checkHoldsWrong)

/-- 'quaerelaw18.CheckSpoilt': WHATEVER THE INPUT: true; the input reads as it did. -/
def checkSpoiltSpec : ChangeSpec := { name := "checkSpoilt", fn := fun _ => fun
  | [d1, d2, d3] => { results := [.lit (.bool true)], args := [d1, d2, d3] }
  | _ => none }
def checkSpoiltRow : OpenClaim := { program := "ytgjajclncfhidaagreatdoor", sum := "d27ef0b9224d4616767fd0338614f956185eb0bf819c1da9f8c10307ada9e26c", func := "quaere/quaerelaw18.CheckSpoilt", spec := "checkSpoilt", inPlace := ["slices.overlaps[int]"], unfollowed := true, recurses := true, named := ["quaere/sign.equals"], apart := false, laid := [("quaere/sign.equals", laid_quaere_sign_equals)] }
def CheckSpoiltSaid : Prop := checkSpoiltRow.holds Tryz.pinned (OpenSpec.ofChange checkSpoiltSpec)

/-- ITS FALSE NEIGHBOUR: 'it returns false'. Refute it at one input. -/
def checkSpoiltWrong : ChangeSpec := { name := "checkSpoilt", fn := fun _ => fun
  | [d1, d2, d3] => { results := [.lit (.bool false)], args := [d1, d2, d3] }
  | _ => none }
def CheckSpoiltWrongFalsely : Prop := checkSpoiltRow.holds Tryz.pinned (OpenSpec.ofChange checkSpoiltWrong)

/-- 'quaerelaw18.CheckUses': WHATEVER THE INPUT: true; the input reads as it did. -/
def checkUsesSpec : ChangeSpec := { name := "checkUses", fn := fun _ => fun
  | [d1, d2, d3] => { results := [.lit (.bool true)], args := [d1, d2, d3] }
  | _ => none }
def checkUsesRow : OpenClaim := { program := "ytgjajclncfhidaagreatdoor", sum := "d27ef0b9224d4616767fd0338614f956185eb0bf819c1da9f8c10307ada9e26c", func := "quaere/quaerelaw18.CheckUses", spec := "checkUses", inPlace := ["slices.overlaps[int]"], unfollowed := true, recurses := true, named := ["quaere/sign.equals"], apart := false, laid := [("quaere/sign.equals", laid_quaere_sign_equals)] }
def CheckUsesSaid : Prop := checkUsesRow.holds Tryz.pinned (OpenSpec.ofChange checkUsesSpec)

/-- ITS FALSE NEIGHBOUR: 'it returns false'. Refute it at one input. -/
def checkUsesWrong : ChangeSpec := { name := "checkUses", fn := fun _ => fun
  | [d1, d2, d3] => { results := [.lit (.bool false)], args := [d1, d2, d3] }
  | _ => none }
def CheckUsesWrongFalsely : Prop := checkUsesRow.holds Tryz.pinned (OpenSpec.ofChange checkUsesWrong)

/-- 'quaerelaw18.CheckGrows': WHATEVER THE INPUT: true; the input reads as it did. -/
def checkGrowsSpec : ChangeSpec := { name := "checkGrows", fn := fun _ => fun
  | [d1, d2, d3, d4] => { results := [.lit (.bool true)], args := [d1, d2, d3, d4] }
  | _ => none }
def checkGrowsRow : OpenClaim := { program := "ytgjajclncfhidaagreatdoor", sum := "d27ef0b9224d4616767fd0338614f956185eb0bf819c1da9f8c10307ada9e26c", func := "quaere/quaerelaw18.CheckGrows", spec := "checkGrows", inPlace := ["slices.overlaps[int]"], unfollowed := true, recurses := true, named := ["quaere/sign.equals"], apart := false, laid := [("quaere/sign.equals", laid_quaere_sign_equals)] }
def CheckGrowsSaid : Prop := checkGrowsRow.holds Tryz.pinned (OpenSpec.ofChange checkGrowsSpec)

/-- ITS FALSE NEIGHBOUR: 'it returns false'. Refute it at one input. -/
def checkGrowsWrong : ChangeSpec := { name := "checkGrows", fn := fun _ => fun
  | [d1, d2, d3, d4] => { results := [.lit (.bool false)], args := [d1, d2, d3, d4] }
  | _ => none }
def CheckGrowsWrongFalsely : Prop := checkGrowsRow.holds Tryz.pinned (OpenSpec.ofChange checkGrowsWrong)

/- THE SECOND FORM. 'bulk': how many values and letters a reading holds, each counted each time it is reached (what is shared counts as often as it is met; a slice's spare places count too). A statement '..UptoSaid' is the law's where the arguments, and the package variables that the reading takes, are together of bulk at most 1048576: NARROWER than '..Said'. Prove '..Said' where nothing that the law and all that it calls make is longer than what came in: it says more and counts as full. Else prove '..UptoSaid'. A law counts once. -/
mutual
def uptoBulk {H : Type} : DataW H → Nat
  | .lit (.string bytes) => bytes.length + 1
  | .lit _ => 1
  | .nil => 1
  | .ptr d => uptoBulk d + 1
  | .slice elems spare => uptoBulkAll elems + uptoBulkAll spare + 1
  | .agg parts => uptoBulkAll parts + 1
  | .iface _ d => uptoBulk d + 1
  | .map entries => uptoBulkEntries entries + 1
  | .held _ => 1
def uptoBulkAll {H : Type} : List (DataW H) → Nat
  | [] => 0
  | d :: r => uptoBulk d + uptoBulkAll r
def uptoBulkEntries {H : Type} : List (Lit × DataW H) → Nat
  | [] => 0
  | x :: r => uptoBulkEntry x + uptoBulkEntries r
def uptoBulkEntry {H : Type} : Lit × DataW H → Nat
  | (.string bytes, d) => bytes.length + uptoBulk d + 1
  | (_, d) => uptoBulk d + 1
 end
def uptoSmall : (H : Type) → List (DataW H) → Bool := fun _ ds => decide (uptoBulkAll ds ≤ 1048576)
def OpenSpec.upto (s : _root_.Go.ChangeSpec) : _root_.Go.OpenSpec := { _root_.Go.OpenSpec.ofChange s with cond := some uptoSmall }

/-- 'quaerelaw18.Checks', WHERE WHAT IT READS IS OF BULK AT MOST 1048576: true; the input reads as it did. -/
def checksUptoRow : OpenClaim := { program := "ytgjajclncfhidaagreatdoor", sum := "d27ef0b9224d4616767fd0338614f956185eb0bf819c1da9f8c10307ada9e26c", func := "quaere/quaerelaw18.Checks", spec := "checks", inPlace := ["slices.overlaps[int]"], unfollowed := true, recurses := true, named := ["quaere/sign.equals"], apart := false, laid := [("quaere/sign.equals", laid_quaere_sign_equals)], narrowed := true }
def ChecksUptoSaid : Prop := checksUptoRow.holds Tryz.pinned (OpenSpec.upto checksSpec)

/-- 'quaerelaw18.CheckHolds', WHERE WHAT IT READS IS OF BULK AT MOST 1048576: true; the input reads as it did. -/
def checkHoldsUptoRow : OpenClaim := { program := "ytgjajclncfhidaagreatdoor", sum := "d27ef0b9224d4616767fd0338614f956185eb0bf819c1da9f8c10307ada9e26c", func := "quaere/quaerelaw18.CheckHolds", spec := "checkHolds", inPlace := ["slices.overlaps[int]"], unfollowed := true, recurses := true, named := ["quaere/sign.equals"], apart := false, laid := [("quaere/sign.equals", laid_quaere_sign_equals)], narrowed := true }
def CheckHoldsUptoSaid : Prop := checkHoldsUptoRow.holds Tryz.pinned (OpenSpec.upto checkHoldsSpec)

/-- 'quaerelaw18.CheckSpoilt', WHERE WHAT IT READS IS OF BULK AT MOST 1048576: true; the input reads as it did. -/
def checkSpoiltUptoRow : OpenClaim := { program := "ytgjajclncfhidaagreatdoor", sum := "d27ef0b9224d4616767fd0338614f956185eb0bf819c1da9f8c10307ada9e26c", func := "quaere/quaerelaw18.CheckSpoilt", spec := "checkSpoilt", inPlace := ["slices.overlaps[int]"], unfollowed := true, recurses := true, named := ["quaere/sign.equals"], apart := false, laid := [("quaere/sign.equals", laid_quaere_sign_equals)], narrowed := true }
def CheckSpoiltUptoSaid : Prop := checkSpoiltUptoRow.holds Tryz.pinned (OpenSpec.upto checkSpoiltSpec)

/-- 'quaerelaw18.CheckUses', WHERE WHAT IT READS IS OF BULK AT MOST 1048576: true; the input reads as it did. -/
def checkUsesUptoRow : OpenClaim := { program := "ytgjajclncfhidaagreatdoor", sum := "d27ef0b9224d4616767fd0338614f956185eb0bf819c1da9f8c10307ada9e26c", func := "quaere/quaerelaw18.CheckUses", spec := "checkUses", inPlace := ["slices.overlaps[int]"], unfollowed := true, recurses := true, named := ["quaere/sign.equals"], apart := false, laid := [("quaere/sign.equals", laid_quaere_sign_equals)], narrowed := true }
def CheckUsesUptoSaid : Prop := checkUsesUptoRow.holds Tryz.pinned (OpenSpec.upto checkUsesSpec)

/-- 'quaerelaw18.CheckGrows', WHERE WHAT IT READS IS OF BULK AT MOST 1048576: true; the input reads as it did. -/
def checkGrowsUptoRow : OpenClaim := { program := "ytgjajclncfhidaagreatdoor", sum := "d27ef0b9224d4616767fd0338614f956185eb0bf819c1da9f8c10307ada9e26c", func := "quaere/quaerelaw18.CheckGrows", spec := "checkGrows", inPlace := ["slices.overlaps[int]"], unfollowed := true, recurses := true, named := ["quaere/sign.equals"], apart := false, laid := [("quaere/sign.equals", laid_quaere_sign_equals)], narrowed := true }
def CheckGrowsUptoSaid : Prop := checkGrowsUptoRow.holds Tryz.pinned (OpenSpec.upto checkGrowsSpec)

end Rows
end Go.Proofs.YtgjajclncfhidaaGreatDoor
