/-
  NARROWER THAN 'FOR EVERY INPUT', by the rows' own cells (each row's printed sentence says how): ParaAlls: laid · ParaGround: laid · ParaReflexes: laid.
  DERIVED. THE GIVEN ROWS OF THIS SEAT. 3 by the template 'for every input the law returns true; each argument reads behind the call as it read before'; 0 by the template 'total and deterministic' (their statements: YtjapmbbledbnfaaGreatDoorTotals.lean).
  GIVEN WITH THE SEED: the statements are not yours to turn. If you find one false, say at which input.
  Laid BY PROGRAM, IN A SANDBOX (cutbox-rows.mjs): the forced cells as the released guide's own fill.sh prints them over the translation 59e13c169e2004ca… (all of the seat's roots in one cut). By AI agents, Wed Nov 11 2026. No macro, syntax, notation, axiom, sorry.
-/
import Derived.Test.YtjapmbbledbnfaaGreatDoorChecked
import GoSem.Claim
import GoSem.ClaimJoined
import GoSem.ClaimMapViews
import Derived.JoinedTies
import Derived.KernelRfl
namespace Go.Proofs.YtjapmbbledbnfaaGreatDoor
/- THE CELL 'sum', in the pinned program and in every row, IS THE sha256 OF THE DUMP (.gsa) THAT YtjapmbbledbnfaaGreatDoorProg.lean LOADS. Nothing in Lean hashes anything: it is a label: what it is worth is what the hold of that sum in a sandbox is worth. -/
noncomputable def Tryz.pinned : Pinned := { name := "ytjapmbbledbnfaagreatdoor", sum := "59e13c169e2004ca2fd817e98f0ad620a50d00910863957a0d8dedfc5ab80613", checked := Tryz.checked }
namespace Rows
def none {H : Type} : Left H := { results := [], args := [] }

/- WHAT THE LISTED PACKAGE-LEVEL VARIABLES READ AS WHEN THE CALL BEGINS. Each datum BY PROGRAM (the guide's laid-datum.mjs) off the statement by which the dump's own 'gosem.cut.vars' lays the variable. In a bare row this is a premise. The card (YtjapmbbledbnfaaGreatDoorCards.lean) ties it to the program's text. -/
def laid_quaere_sign_equals {H : Type} : DataW H := .agg [.lit (.string [61]), .lit (.int .i64 0), .lit (.int .i64 2), .lit (.int .i64 1)]

/-- 'quaerelaw15.ParaAlls': WHATEVER THE INPUT: true; the input reads as it did. -/
def paraAllsSpec : ChangeSpec := { name := "paraAlls", fn := fun _ => fun
  | [d1, d2, d3, d4, d5] => { results := [.lit (.bool true)], args := [d1, d2, d3, d4, d5] }
  | _ => none }
def paraAllsRow : OpenClaim := { program := "ytjapmbbledbnfaagreatdoor", sum := "59e13c169e2004ca2fd817e98f0ad620a50d00910863957a0d8dedfc5ab80613", func := "quaere/quaerelaw15.ParaAlls", spec := "paraAlls", inPlace := ["slices.overlaps[int]"], unfollowed := true, recurses := true, named := ["quaere/sign.equals"], apart := false, laid := [("quaere/sign.equals", laid_quaere_sign_equals)] }
def ParaAllsSaid : Prop := paraAllsRow.holds Tryz.pinned (OpenSpec.ofChange paraAllsSpec)

/-- ITS FALSE NEIGHBOUR: 'it returns false'. Refute it at one input. -/
def paraAllsWrong : ChangeSpec := { name := "paraAlls", fn := fun _ => fun
  | [d1, d2, d3, d4, d5] => { results := [.lit (.bool false)], args := [d1, d2, d3, d4, d5] }
  | _ => none }
def ParaAllsWrongFalsely : Prop := paraAllsRow.holds Tryz.pinned (OpenSpec.ofChange paraAllsWrong)

/-- 'quaerelaw15.ParaGround': WHATEVER THE INPUT: true; the input reads as it did. -/
def paraGroundSpec : ChangeSpec := { name := "paraGround", fn := fun _ => fun
  | [d1, d2, d3, d4, d5] => { results := [.lit (.bool true)], args := [d1, d2, d3, d4, d5] }
  | _ => none }
def paraGroundRow : OpenClaim := { program := "ytjapmbbledbnfaagreatdoor", sum := "59e13c169e2004ca2fd817e98f0ad620a50d00910863957a0d8dedfc5ab80613", func := "quaere/quaerelaw15.ParaGround", spec := "paraGround", inPlace := ["slices.overlaps[int]"], unfollowed := true, recurses := true, named := ["quaere/sign.equals"], apart := false, laid := [("quaere/sign.equals", laid_quaere_sign_equals)] }
def ParaGroundSaid : Prop := paraGroundRow.holds Tryz.pinned (OpenSpec.ofChange paraGroundSpec)

/-- ITS FALSE NEIGHBOUR: 'it returns false'. Refute it at one input. -/
def paraGroundWrong : ChangeSpec := { name := "paraGround", fn := fun _ => fun
  | [d1, d2, d3, d4, d5] => { results := [.lit (.bool false)], args := [d1, d2, d3, d4, d5] }
  | _ => none }
def ParaGroundWrongFalsely : Prop := paraGroundRow.holds Tryz.pinned (OpenSpec.ofChange paraGroundWrong)

/-- 'quaerelaw15.ParaReflexes': WHATEVER THE INPUT: true; the input reads as it did. -/
def paraReflexesSpec : ChangeSpec := { name := "paraReflexes", fn := fun _ => fun
  | [d1, d2, d3, d4] => { results := [.lit (.bool true)], args := [d1, d2, d3, d4] }
  | _ => none }
def paraReflexesRow : OpenClaim := { program := "ytjapmbbledbnfaagreatdoor", sum := "59e13c169e2004ca2fd817e98f0ad620a50d00910863957a0d8dedfc5ab80613", func := "quaere/quaerelaw15.ParaReflexes", spec := "paraReflexes", inPlace := ["slices.overlaps[int]"], unfollowed := true, recurses := true, named := ["quaere/sign.equals"], apart := false, laid := [("quaere/sign.equals", laid_quaere_sign_equals)] }
def ParaReflexesSaid : Prop := paraReflexesRow.holds Tryz.pinned (OpenSpec.ofChange paraReflexesSpec)

/-- ITS FALSE NEIGHBOUR: 'it returns false'. Refute it at one input. -/
def paraReflexesWrong : ChangeSpec := { name := "paraReflexes", fn := fun _ => fun
  | [d1, d2, d3, d4] => { results := [.lit (.bool false)], args := [d1, d2, d3, d4] }
  | _ => none }
def ParaReflexesWrongFalsely : Prop := paraReflexesRow.holds Tryz.pinned (OpenSpec.ofChange paraReflexesWrong)

/- THE SECOND FORM. 'bulk': how many values and letters a reading holds, each counted each time it is reached (what is shared counts as often as it is met; a slice's spare places count too). A statement '..UptoSaid' is the law's where the arguments, and the package variables that the reading takes, are together of bulk at most 1048576: NARROWER than '..Said'. Prove '..Said' where nothing that the law and all that it calls make is longer than what came in: it says more and counts as full. Else prove '..UptoSaid'. A law counts once. -/
mutual
def uptoBulk {H : Type} : DataW H → Nat
  | .lit (.string bytes) => bytes.length + 1
  | .lit _ => 1
  | .nil => 1
  | .ptr d => uptoBulk d + 1
  | .slice elems spare => uptoBulkAll elems + uptoBulkAll spare + 1
  | .agg parts => uptoBulkAll parts + 1
  | .iface _ d => uptoBulk d + 1
  | .map entries => uptoBulkEntries entries + 1
  | .held _ => 1
def uptoBulkAll {H : Type} : List (DataW H) → Nat
  | [] => 0
  | d :: r => uptoBulk d + uptoBulkAll r
def uptoBulkEntries {H : Type} : List (Lit × DataW H) → Nat
  | [] => 0
  | x :: r => uptoBulkEntry x + uptoBulkEntries r
def uptoBulkEntry {H : Type} : Lit × DataW H → Nat
  | (.string bytes, d) => bytes.length + uptoBulk d + 1
  | (_, d) => uptoBulk d + 1
 end
def uptoSmall : (H : Type) → List (DataW H) → Bool := fun _ ds => decide (uptoBulkAll ds ≤ 1048576)
def OpenSpec.upto (s : _root_.Go.ChangeSpec) : _root_.Go.OpenSpec := { _root_.Go.OpenSpec.ofChange s with cond := some uptoSmall }

/-- 'quaerelaw15.ParaAlls', WHERE WHAT IT READS IS OF BULK AT MOST 1048576: true; the input reads as it did. -/
def paraAllsUptoRow : OpenClaim := { program := "ytjapmbbledbnfaagreatdoor", sum := "59e13c169e2004ca2fd817e98f0ad620a50d00910863957a0d8dedfc5ab80613", func := "quaere/quaerelaw15.ParaAlls", spec := "paraAlls", inPlace := ["slices.overlaps[int]"], unfollowed := true, recurses := true, named := ["quaere/sign.equals"], apart := false, laid := [("quaere/sign.equals", laid_quaere_sign_equals)], narrowed := true }
def ParaAllsUptoSaid : Prop := paraAllsUptoRow.holds Tryz.pinned (OpenSpec.upto paraAllsSpec)

/-- 'quaerelaw15.ParaGround', WHERE WHAT IT READS IS OF BULK AT MOST 1048576: true; the input reads as it did. -/
def paraGroundUptoRow : OpenClaim := { program := "ytjapmbbledbnfaagreatdoor", sum := "59e13c169e2004ca2fd817e98f0ad620a50d00910863957a0d8dedfc5ab80613", func := "quaere/quaerelaw15.ParaGround", spec := "paraGround", inPlace := ["slices.overlaps[int]"], unfollowed := true, recurses := true, named := ["quaere/sign.equals"], apart := false, laid := [("quaere/sign.equals", laid_quaere_sign_equals)], narrowed := true }
def ParaGroundUptoSaid : Prop := paraGroundUptoRow.holds Tryz.pinned (OpenSpec.upto paraGroundSpec)

/-- 'quaerelaw15.ParaReflexes', WHERE WHAT IT READS IS OF BULK AT MOST 1048576: true; the input reads as it did. -/
def paraReflexesUptoRow : OpenClaim := { program := "ytjapmbbledbnfaagreatdoor", sum := "59e13c169e2004ca2fd817e98f0ad620a50d00910863957a0d8dedfc5ab80613", func := "quaere/quaerelaw15.ParaReflexes", spec := "paraReflexes", inPlace := ["slices.overlaps[int]"], unfollowed := true, recurses := true, named := ["quaere/sign.equals"], apart := false, laid := [("quaere/sign.equals", laid_quaere_sign_equals)], narrowed := true }
def ParaReflexesUptoSaid : Prop := paraReflexesUptoRow.holds Tryz.pinned (OpenSpec.upto paraReflexesSpec)

end Rows
end Go.Proofs.YtjapmbbledbnfaaGreatDoor
