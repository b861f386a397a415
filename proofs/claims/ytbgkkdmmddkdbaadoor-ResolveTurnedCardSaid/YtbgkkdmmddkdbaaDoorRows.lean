/-
  NARROWER THAN 'FOR EVERY INPUT', by the rows' own cells (each row's printed sentence says how): FactorSays: laid · ResolveTurned: laid · ResolveOpposite: laid · ResolveNames: laid.
  DERIVED. THE GIVEN ROWS OF THIS SEAT. 4 by the template 'for every input the law returns true; each argument reads behind the call as it read before'; 0 by the template 'total and deterministic' (their statements: YtbgkkdmmddkdbaaDoorTotals.lean).
  GIVEN WITH THE SEED: the statements are not yours to turn. If you find one false, say at which input.
  Laid BY PROGRAM, IN A SANDBOX (cutbox-rows.mjs): the forced cells as the released guide's own fill.sh prints them over the translation 88ef8effd95eb08b… (all of the seat's roots in one cut). By AI agents, Wed Nov 11 2026. No macro, syntax, notation, axiom, sorry.
-/
import Derived.Test.YtbgkkdmmddkdbaaDoorChecked
import GoSem.Claim
import GoSem.ClaimJoined
import GoSem.ClaimMapViews
import Derived.JoinedTies
import Derived.KernelRfl
namespace Go.Proofs.YtbgkkdmmddkdbaaDoor
/- THE CELL 'sum', in the pinned program and in every row, IS THE sha256 OF THE DUMP (.gsa) THAT YtbgkkdmmddkdbaaDoorProg.lean LOADS. Nothing in Lean hashes anything: it is a label: what it is worth is what the hold of that sum in a sandbox is worth. -/
noncomputable def Tryd.pinned : Pinned := { name := "ytbgkkdmmddkdbaadoor", sum := "88ef8effd95eb08bf2c169024a083ec138ec9f86d80b4140e9faf1a99efffe03", checked := Tryd.checked }
namespace Rows
def none {H : Type} : Left H := { results := [], args := [] }

/- WHAT THE LISTED PACKAGE-LEVEL VARIABLES READ AS WHEN THE CALL BEGINS. Each datum BY PROGRAM (the guide's laid-datum.mjs) off the statement by which the dump's own 'gosem.cut.vars' lays the variable. In a bare row this is a premise. The card (YtbgkkdmmddkdbaaDoorCards.lean) ties it to the program's text. -/
def laid_quaere_sign_equals {H : Type} : DataW H := .agg [.lit (.string [61]), .lit (.int .i64 0), .lit (.int .i64 2), .lit (.int .i64 1)]

/-- 'quaerelaw14.FactorSays': WHATEVER THE INPUT: true; the input reads as it did. -/
def factorSaysSpec : ChangeSpec := { name := "factorSays", fn := fun _ => fun
  | [d1, d2, d3, d4] => { results := [.lit (.bool true)], args := [d1, d2, d3, d4] }
  | _ => none }
def factorSaysRow : OpenClaim := { program := "ytbgkkdmmddkdbaadoor", sum := "88ef8effd95eb08bf2c169024a083ec138ec9f86d80b4140e9faf1a99efffe03", func := "quaere/quaerelaw14.FactorSays", spec := "factorSays", unfollowed := true, recurses := true, named := ["quaere/sign.equals"], apart := false, laid := [("quaere/sign.equals", laid_quaere_sign_equals)] }
def FactorSaysSaid : Prop := factorSaysRow.holds Tryd.pinned (OpenSpec.ofChange factorSaysSpec)

/-- ITS FALSE NEIGHBOUR: 'it returns false'. Refute it at one input. -/
def factorSaysWrong : ChangeSpec := { name := "factorSays", fn := fun _ => fun
  | [d1, d2, d3, d4] => { results := [.lit (.bool false)], args := [d1, d2, d3, d4] }
  | _ => none }
def FactorSaysWrongFalsely : Prop := factorSaysRow.holds Tryd.pinned (OpenSpec.ofChange factorSaysWrong)

/-- 'quaerelaw13.ResolveTurned': WHATEVER THE INPUT: true; the input reads as it did. -/
def resolveTurnedSpec : ChangeSpec := { name := "resolveTurned", fn := fun _ => fun
  | [d1, d2, d3, d4, d5] => { results := [.lit (.bool true)], args := [d1, d2, d3, d4, d5] }
  | _ => none }
def resolveTurnedRow : OpenClaim := { program := "ytbgkkdmmddkdbaadoor", sum := "88ef8effd95eb08bf2c169024a083ec138ec9f86d80b4140e9faf1a99efffe03", func := "quaere/quaerelaw13.ResolveTurned", spec := "resolveTurned", inPlace := ["slices.overlaps[int]"], unfollowed := true, recurses := true, named := ["quaere/sign.equals"], apart := false, laid := [("quaere/sign.equals", laid_quaere_sign_equals)] }
def ResolveTurnedSaid : Prop := resolveTurnedRow.holds Tryd.pinned (OpenSpec.ofChange resolveTurnedSpec)

/-- ITS FALSE NEIGHBOUR: 'it returns false'. Refute it at one input. -/
def resolveTurnedWrong : ChangeSpec := { name := "resolveTurned", fn := fun _ => fun
  | [d1, d2, d3, d4, d5] => { results := [.lit (.bool false)], args := [d1, d2, d3, d4, d5] }
  | _ => none }
def ResolveTurnedWrongFalsely : Prop := resolveTurnedRow.holds Tryd.pinned (OpenSpec.ofChange resolveTurnedWrong)

/-- 'quaerelaw13.ResolveOpposite': WHATEVER THE INPUT: true; the input reads as it did. -/
def resolveOppositeSpec : ChangeSpec := { name := "resolveOpposite", fn := fun _ => fun
  | [d1, d2] => { results := [.lit (.bool true)], args := [d1, d2] }
  | _ => none }
def resolveOppositeRow : OpenClaim := { program := "ytbgkkdmmddkdbaadoor", sum := "88ef8effd95eb08bf2c169024a083ec138ec9f86d80b4140e9faf1a99efffe03", func := "quaere/quaerelaw13.ResolveOpposite", spec := "resolveOpposite", inPlace := ["slices.overlaps[int]"], unfollowed := true, recurses := true, named := ["quaere/sign.equals"], apart := false, laid := [("quaere/sign.equals", laid_quaere_sign_equals)] }
def ResolveOppositeSaid : Prop := resolveOppositeRow.holds Tryd.pinned (OpenSpec.ofChange resolveOppositeSpec)

/-- ITS FALSE NEIGHBOUR: 'it returns false'. Refute it at one input. -/
def resolveOppositeWrong : ChangeSpec := { name := "resolveOpposite", fn := fun _ => fun
  | [d1, d2] => { results := [.lit (.bool false)], args := [d1, d2] }
  | _ => none }
def ResolveOppositeWrongFalsely : Prop := resolveOppositeRow.holds Tryd.pinned (OpenSpec.ofChange resolveOppositeWrong)

/-- 'quaerelaw13.ResolveNames': WHATEVER THE INPUT: true; the input reads as it did. -/
def resolveNamesSpec : ChangeSpec := { name := "resolveNames", fn := fun _ => fun
  | [d1, d2, d3, d4, d5, d6] => { results := [.lit (.bool true)], args := [d1, d2, d3, d4, d5, d6] }
  | _ => none }
def resolveNamesRow : OpenClaim := { program := "ytbgkkdmmddkdbaadoor", sum := "88ef8effd95eb08bf2c169024a083ec138ec9f86d80b4140e9faf1a99efffe03", func := "quaere/quaerelaw13.ResolveNames", spec := "resolveNames", inPlace := ["slices.overlaps[int]"], unfollowed := true, recurses := true, named := ["quaere/sign.equals"], apart := false, laid := [("quaere/sign.equals", laid_quaere_sign_equals)] }
def ResolveNamesSaid : Prop := resolveNamesRow.holds Tryd.pinned (OpenSpec.ofChange resolveNamesSpec)

/-- ITS FALSE NEIGHBOUR: 'it returns false'. Refute it at one input. -/
def resolveNamesWrong : ChangeSpec := { name := "resolveNames", fn := fun _ => fun
  | [d1, d2, d3, d4, d5, d6] => { results := [.lit (.bool false)], args := [d1, d2, d3, d4, d5, d6] }
  | _ => none }
def ResolveNamesWrongFalsely : Prop := resolveNamesRow.holds Tryd.pinned (OpenSpec.ofChange resolveNamesWrong)

/- THE SECOND FORM. 'bulk': how many values and letters a reading holds, each counted each time it is reached (what is shared counts as often as it is met; a slice's spare places count too). A statement '..UptoSaid' is the law's where the arguments, and the package variables that the reading takes, are together of bulk at most 1048576: NARROWER than '..Said'. Prove '..Said' where nothing that the law and all that it calls make is longer than what came in: it says more and counts as full. Else prove '..UptoSaid'. A law counts once. -/
mutual
def uptoBulk {H : Type} : DataW H → Nat
  | .lit (.string bytes) => bytes.length + 1
  | .lit _ => 1
  | .nil => 1
  | .ptr d => uptoBulk d + 1
  | .slice elems spare => uptoBulkAll elems + uptoBulkAll spare + 1
  | .agg parts => uptoBulkAll parts + 1
  | .iface _ d => uptoBulk d + 1
  | .map entries => uptoBulkEntries entries + 1
  | .held _ => 1
def uptoBulkAll {H : Type} : List (DataW H) → Nat
  | [] => 0
  | d :: r => uptoBulk d + uptoBulkAll r
def uptoBulkEntries {H : Type} : List (Lit × DataW H) → Nat
  | [] => 0
  | x :: r => uptoBulkEntry x + uptoBulkEntries r
def uptoBulkEntry {H : Type} : Lit × DataW H → Nat
  | (.string bytes, d) => bytes.length + uptoBulk d + 1
  | (_, d) => uptoBulk d + 1
 end
def uptoSmall : (H : Type) → List (DataW H) → Bool := fun _ ds => decide (uptoBulkAll ds ≤ 1048576)
def OpenSpec.upto (s : _root_.Go.ChangeSpec) : _root_.Go.OpenSpec := { _root_.Go.OpenSpec.ofChange s with cond := some uptoSmall }

/-- 'quaerelaw14.FactorSays', WHERE WHAT IT READS IS OF BULK AT MOST 1048576: true; the input reads as it did. -/
def factorSaysUptoRow : OpenClaim := { program := "ytbgkkdmmddkdbaadoor", sum := "88ef8effd95eb08bf2c169024a083ec138ec9f86d80b4140e9faf1a99efffe03", func := "quaere/quaerelaw14.FactorSays", spec := "factorSays", unfollowed := true, recurses := true, named := ["quaere/sign.equals"], apart := false, laid := [("quaere/sign.equals", laid_quaere_sign_equals)], narrowed := true }
def FactorSaysUptoSaid : Prop := factorSaysUptoRow.holds Tryd.pinned (OpenSpec.upto factorSaysSpec)

/-- 'quaerelaw13.ResolveTurned', WHERE WHAT IT READS IS OF BULK AT MOST 1048576: true; the input reads as it did. -/
def resolveTurnedUptoRow : OpenClaim := { program := "ytbgkkdmmddkdbaadoor", sum := "88ef8effd95eb08bf2c169024a083ec138ec9f86d80b4140e9faf1a99efffe03", func := "quaere/quaerelaw13.ResolveTurned", spec := "resolveTurned", inPlace := ["slices.overlaps[int]"], unfollowed := true, recurses := true, named := ["quaere/sign.equals"], apart := false, laid := [("quaere/sign.equals", laid_quaere_sign_equals)], narrowed := true }
def ResolveTurnedUptoSaid : Prop := resolveTurnedUptoRow.holds Tryd.pinned (OpenSpec.upto resolveTurnedSpec)

/-- 'quaerelaw13.ResolveOpposite', WHERE WHAT IT READS IS OF BULK AT MOST 1048576: true; the input reads as it did. -/
def resolveOppositeUptoRow : OpenClaim := { program := "ytbgkkdmmddkdbaadoor", sum := "88ef8effd95eb08bf2c169024a083ec138ec9f86d80b4140e9faf1a99efffe03", func := "quaere/quaerelaw13.ResolveOpposite", spec := "resolveOpposite", inPlace := ["slices.overlaps[int]"], unfollowed := true, recurses := true, named := ["quaere/sign.equals"], apart := false, laid := [("quaere/sign.equals", laid_quaere_sign_equals)], narrowed := true }
def ResolveOppositeUptoSaid : Prop := resolveOppositeUptoRow.holds Tryd.pinned (OpenSpec.upto resolveOppositeSpec)

/-- 'quaerelaw13.ResolveNames', WHERE WHAT IT READS IS OF BULK AT MOST 1048576: true; the input reads as it did. -/
def resolveNamesUptoRow : OpenClaim := { program := "ytbgkkdmmddkdbaadoor", sum := "88ef8effd95eb08bf2c169024a083ec138ec9f86d80b4140e9faf1a99efffe03", func := "quaere/quaerelaw13.ResolveNames", spec := "resolveNames", inPlace := ["slices.overlaps[int]"], unfollowed := true, recurses := true, named := ["quaere/sign.equals"], apart := false, laid := [("quaere/sign.equals", laid_quaere_sign_equals)], narrowed := true }
def ResolveNamesUptoSaid : Prop := resolveNamesUptoRow.holds Tryd.pinned (OpenSpec.upto resolveNamesSpec)

end Rows
end Go.Proofs.YtbgkkdmmddkdbaaDoor
