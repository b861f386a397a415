/-
  NARROWER THAN 'FOR EVERY INPUT', by the rows' own cells (each row's printed sentence says how): Goals: laid · Factors: laid · FactorAlls: laid · Resolves: laid · Paras: laid · ParaAlls: laid · ParaGround: laid · ParaVars: laid · ParaReflexes: laid · ParaHolds: laid.
  DERIVED. THE GIVEN ROWS OF THIS SEAT. 10 by the template 'for every input the law returns true; each argument reads behind the call as it read before'; 0 by the template 'total and deterministic' (their statements: YtleengbobccdkaaGreatDoorTotals.lean).
  GIVEN WITH THE SEED: the statements are not yours to turn. If you find one false, say at which input.
  Laid BY PROGRAM, IN A SANDBOX (cutbox-rows.mjs): the forced cells as the released guide's own fill.sh prints them over the translation fb46718eb4c352e8… (all of the seat's roots in one cut). By AI agents, Wed Nov 11 2026. No macro, syntax, notation, axiom, sorry.
-/
import Derived.Test.YtleengbobccdkaaGreatDoorChecked
import GoSem.Claim
import GoSem.ClaimJoined
import GoSem.ClaimMapViews
import Derived.JoinedTies
import Derived.KernelRfl
namespace Go.Proofs.YtleengbobccdkaaGreatDoor
/- THE CELL 'sum', in the pinned program and in every row, IS THE sha256 OF THE DUMP (.gsa) THAT YtleengbobccdkaaGreatDoorProg.lean LOADS. Nothing in Lean hashes anything: it is a label: what it is worth is what the hold of that sum in a sandbox is worth. -/
noncomputable def Tryz.pinned : Pinned := { name := "ytleengbobccdkaagreatdoor", sum := "fb46718eb4c352e8e042e06be846b20d159b832c2a196cb77ad6ab58818f780d", checked := Tryz.checked }
namespace Rows
def none {H : Type} : Left H := { results := [], args := [] }

/- WHAT THE LISTED PACKAGE-LEVEL VARIABLES READ AS WHEN THE CALL BEGINS. Each datum BY PROGRAM (the guide's laid-datum.mjs) off the statement by which the dump's own 'gosem.cut.vars' lays the variable. In a bare row this is a premise. The card (YtleengbobccdkaaGreatDoorCards.lean) ties it to the program's text. -/
def laid_math_bits_deBruijn32tab {H : Type} : DataW H := .agg [.lit (.int .u8 0), .lit (.int .u8 1), .lit (.int .u8 28), .lit (.int .u8 2), .lit (.int .u8 29), .lit (.int .u8 14), .lit (.int .u8 24), .lit (.int .u8 3), .lit (.int .u8 30), .lit (.int .u8 22), .lit (.int .u8 20), .lit (.int .u8 15), .lit (.int .u8 25), .lit (.int .u8 17), .lit (.int .u8 4), .lit (.int .u8 8), .lit (.int .u8 31), .lit (.int .u8 27), .lit (.int .u8 13), .lit (.int .u8 23), .lit (.int .u8 21), .lit (.int .u8 19), .lit (.int .u8 16), .lit (.int .u8 7), .lit (.int .u8 26), .lit (.int .u8 12), .lit (.int .u8 18), .lit (.int .u8 6), .lit (.int .u8 11), .lit (.int .u8 5), .lit (.int .u8 10), .lit (.int .u8 9)]
def laid_math_bits_deBruijn64tab {H : Type} : DataW H := .agg [.lit (.int .u8 0), .lit (.int .u8 1), .lit (.int .u8 56), .lit (.int .u8 2), .lit (.int .u8 57), .lit (.int .u8 49), .lit (.int .u8 28), .lit (.int .u8 3), .lit (.int .u8 61), .lit (.int .u8 58), .lit (.int .u8 42), .lit (.int .u8 50), .lit (.int .u8 38), .lit (.int .u8 29), .lit (.int .u8 17), .lit (.int .u8 4), .lit (.int .u8 62), .lit (.int .u8 47), .lit (.int .u8 59), .lit (.int .u8 36), .lit (.int .u8 45), .lit (.int .u8 43), .lit (.int .u8 51), .lit (.int .u8 22), .lit (.int .u8 53), .lit (.int .u8 39), .lit (.int .u8 33), .lit (.int .u8 30), .lit (.int .u8 24), .lit (.int .u8 18), .lit (.int .u8 12), .lit (.int .u8 5), .lit (.int .u8 63), .lit (.int .u8 55), .lit (.int .u8 48), .lit (.int .u8 27), .lit (.int .u8 60), .lit (.int .u8 41), .lit (.int .u8 37), .lit (.int .u8 16), .lit (.int .u8 46), .lit (.int .u8 35), .lit (.int .u8 44), .lit (.int .u8 21), .lit (.int .u8 52), .lit (.int .u8 32), .lit (.int .u8 23), .lit (.int .u8 11), .lit (.int .u8 54), .lit (.int .u8 26), .lit (.int .u8 40), .lit (.int .u8 15), .lit (.int .u8 34), .lit (.int .u8 20), .lit (.int .u8 31), .lit (.int .u8 10), .lit (.int .u8 25), .lit (.int .u8 14), .lit (.int .u8 19), .lit (.int .u8 9), .lit (.int .u8 13), .lit (.int .u8 8), .lit (.int .u8 7), .lit (.int .u8 6)]
def laid_internal_strconv_uint64pow10 {H : Type} : DataW H := .agg [.lit (.int .u64 1), .lit (.int .u64 10), .lit (.int .u64 100), .lit (.int .u64 1000), .lit (.int .u64 10000), .lit (.int .u64 100000), .lit (.int .u64 1000000), .lit (.int .u64 10000000), .lit (.int .u64 100000000), .lit (.int .u64 1000000000), .lit (.int .u64 10000000000), .lit (.int .u64 100000000000), .lit (.int .u64 1000000000000), .lit (.int .u64 10000000000000), .lit (.int .u64 100000000000000), .lit (.int .u64 1000000000000000), .lit (.int .u64 10000000000000000), .lit (.int .u64 100000000000000000), .lit (.int .u64 1000000000000000000), .lit (.int .u64 10000000000000000000)]
def laid_quaere_sign_equals {H : Type} : DataW H := .agg [.lit (.string [61]), .lit (.int .i64 0), .lit (.int .i64 2), .lit (.int .i64 1)]

/-- 'quaerelaw24.Goals': WHATEVER THE INPUT: true; the input reads as it did. -/
def goalsSpec : ChangeSpec := { name := "goals", fn := fun _ => fun
  | [d1, d2, d3] => { results := [.lit (.bool true)], args := [d1, d2, d3] }
  | _ => none }
def goalsRow : OpenClaim := { program := "ytleengbobccdkaagreatdoor", sum := "fb46718eb4c352e8e042e06be846b20d159b832c2a196cb77ad6ab58818f780d", func := "quaere/quaerelaw24.Goals", spec := "goals", inPlace := ["internal/abi.NoEscape", "internal/bytealg.MakeNoZero"], unfollowed := true, recurses := true, named := ["quaere/sign.equals", "internal/strconv.uint64pow10", "math/bits.deBruijn32tab", "math/bits.deBruijn64tab"], apart := false, laid := [("math/bits.deBruijn32tab", laid_math_bits_deBruijn32tab), ("math/bits.deBruijn64tab", laid_math_bits_deBruijn64tab), ("internal/strconv.uint64pow10", laid_internal_strconv_uint64pow10), ("quaere/sign.equals", laid_quaere_sign_equals)] }
def GoalsSaid : Prop := goalsRow.holds Tryz.pinned (OpenSpec.ofChange goalsSpec)

/-- ITS FALSE NEIGHBOUR: 'it returns false'. Refute it at one input. -/
def goalsWrong : ChangeSpec := { name := "goals", fn := fun _ => fun
  | [d1, d2, d3] => { results := [.lit (.bool false)], args := [d1, d2, d3] }
  | _ => none }
def GoalsWrongFalsely : Prop := goalsRow.holds Tryz.pinned (OpenSpec.ofChange goalsWrong)

/-- 'quaerelaw14.Factors': WHATEVER THE INPUT: true; the input reads as it did. -/
def factorsSpec : ChangeSpec := { name := "factors", fn := fun _ => fun
  | [d1, d2, d3, d4] => { results := [.lit (.bool true)], args := [d1, d2, d3, d4] }
  | _ => none }
def factorsRow : OpenClaim := { program := "ytleengbobccdkaagreatdoor", sum := "fb46718eb4c352e8e042e06be846b20d159b832c2a196cb77ad6ab58818f780d", func := "quaere/quaerelaw14.Factors", spec := "factors", unfollowed := true, recurses := true, named := ["quaere/sign.equals"], apart := false, laid := [("quaere/sign.equals", laid_quaere_sign_equals)] }
def FactorsSaid : Prop := factorsRow.holds Tryz.pinned (OpenSpec.ofChange factorsSpec)

/-- ITS FALSE NEIGHBOUR: 'it returns false'. Refute it at one input. -/
def factorsWrong : ChangeSpec := { name := "factors", fn := fun _ => fun
  | [d1, d2, d3, d4] => { results := [.lit (.bool false)], args := [d1, d2, d3, d4] }
  | _ => none }
def FactorsWrongFalsely : Prop := factorsRow.holds Tryz.pinned (OpenSpec.ofChange factorsWrong)

/-- 'quaerelaw14.FactorAlls': WHATEVER THE INPUT: true; the input reads as it did. -/
def factorAllsSpec : ChangeSpec := { name := "factorAlls", fn := fun _ => fun
  | [d1, d2, d3] => { results := [.lit (.bool true)], args := [d1, d2, d3] }
  | _ => none }
def factorAllsRow : OpenClaim := { program := "ytleengbobccdkaagreatdoor", sum := "fb46718eb4c352e8e042e06be846b20d159b832c2a196cb77ad6ab58818f780d", func := "quaere/quaerelaw14.FactorAlls", spec := "factorAlls", unfollowed := true, recurses := true, named := ["quaere/sign.equals"], apart := false, laid := [("quaere/sign.equals", laid_quaere_sign_equals)] }
def FactorAllsSaid : Prop := factorAllsRow.holds Tryz.pinned (OpenSpec.ofChange factorAllsSpec)

/-- ITS FALSE NEIGHBOUR: 'it returns false'. Refute it at one input. -/
def factorAllsWrong : ChangeSpec := { name := "factorAlls", fn := fun _ => fun
  | [d1, d2, d3] => { results := [.lit (.bool false)], args := [d1, d2, d3] }
  | _ => none }
def FactorAllsWrongFalsely : Prop := factorAllsRow.holds Tryz.pinned (OpenSpec.ofChange factorAllsWrong)

/-- 'quaerelaw13.Resolves': WHATEVER THE INPUT: true; the input reads as it did. -/
def resolvesSpec : ChangeSpec := { name := "resolves", fn := fun _ => fun
  | [d1, d2, d3, d4, d5] => { results := [.lit (.bool true)], args := [d1, d2, d3, d4, d5] }
  | _ => none }
def resolvesRow : OpenClaim := { program := "ytleengbobccdkaagreatdoor", sum := "fb46718eb4c352e8e042e06be846b20d159b832c2a196cb77ad6ab58818f780d", func := "quaere/quaerelaw13.Resolves", spec := "resolves", inPlace := ["slices.overlaps[int]"], unfollowed := true, recurses := true, named := ["quaere/sign.equals"], apart := false, laid := [("quaere/sign.equals", laid_quaere_sign_equals)] }
def ResolvesSaid : Prop := resolvesRow.holds Tryz.pinned (OpenSpec.ofChange resolvesSpec)

/-- ITS FALSE NEIGHBOUR: 'it returns false'. Refute it at one input. -/
def resolvesWrong : ChangeSpec := { name := "resolves", fn := fun _ => fun
  | [d1, d2, d3, d4, d5] => { results := [.lit (.bool false)], args := [d1, d2, d3, d4, d5] }
  | _ => none }
def ResolvesWrongFalsely : Prop := resolvesRow.holds Tryz.pinned (OpenSpec.ofChange resolvesWrong)

/-- 'quaerelaw15.Paras': WHATEVER THE INPUT: true; the input reads as it did. -/
def parasSpec : ChangeSpec := { name := "paras", fn := fun _ => fun
  | [d1, d2, d3, d4, d5, d6, d7] => { results := [.lit (.bool true)], args := [d1, d2, d3, d4, d5, d6, d7] }
  | _ => none }
def parasRow : OpenClaim := { program := "ytleengbobccdkaagreatdoor", sum := "fb46718eb4c352e8e042e06be846b20d159b832c2a196cb77ad6ab58818f780d", func := "quaere/quaerelaw15.Paras", spec := "paras", inPlace := ["slices.overlaps[int]"], unfollowed := true, recurses := true, named := ["quaere/sign.equals"], apart := false, laid := [("quaere/sign.equals", laid_quaere_sign_equals)] }
def ParasSaid : Prop := parasRow.holds Tryz.pinned (OpenSpec.ofChange parasSpec)

/-- ITS FALSE NEIGHBOUR: 'it returns false'. Refute it at one input. -/
def parasWrong : ChangeSpec := { name := "paras", fn := fun _ => fun
  | [d1, d2, d3, d4, d5, d6, d7] => { results := [.lit (.bool false)], args := [d1, d2, d3, d4, d5, d6, d7] }
  | _ => none }
def ParasWrongFalsely : Prop := parasRow.holds Tryz.pinned (OpenSpec.ofChange parasWrong)

/-- 'quaerelaw15.ParaAlls': WHATEVER THE INPUT: true; the input reads as it did. -/
def paraAllsSpec : ChangeSpec := { name := "paraAlls", fn := fun _ => fun
  | [d1, d2, d3, d4, d5] => { results := [.lit (.bool true)], args := [d1, d2, d3, d4, d5] }
  | _ => none }
def paraAllsRow : OpenClaim := { program := "ytleengbobccdkaagreatdoor", sum := "fb46718eb4c352e8e042e06be846b20d159b832c2a196cb77ad6ab58818f780d", func := "quaere/quaerelaw15.ParaAlls", spec := "paraAlls", inPlace := ["slices.overlaps[int]"], unfollowed := true, recurses := true, named := ["quaere/sign.equals"], apart := false, laid := [("quaere/sign.equals", laid_quaere_sign_equals)] }
def ParaAllsSaid : Prop := paraAllsRow.holds Tryz.pinned (OpenSpec.ofChange paraAllsSpec)

/-- ITS FALSE NEIGHBOUR: 'it returns false'. Refute it at one input. -/
def paraAllsWrong : ChangeSpec := { name := "paraAlls", fn := fun _ => fun
  | [d1, d2, d3, d4, d5] => { results := [.lit (.bool false)], args := [d1, d2, d3, d4, d5] }
  | _ => none }
def ParaAllsWrongFalsely : Prop := paraAllsRow.holds Tryz.pinned (OpenSpec.ofChange paraAllsWrong)

/-- 'quaerelaw15.ParaGround': WHATEVER THE INPUT: true; the input reads as it did. -/
def paraGroundSpec : ChangeSpec := { name := "paraGround", fn := fun _ => fun
  | [d1, d2, d3, d4, d5] => { results := [.lit (.bool true)], args := [d1, d2, d3, d4, d5] }
  | _ => none }
def paraGroundRow : OpenClaim := { program := "ytleengbobccdkaagreatdoor", sum := "fb46718eb4c352e8e042e06be846b20d159b832c2a196cb77ad6ab58818f780d", func := "quaere/quaerelaw15.ParaGround", spec := "paraGround", inPlace := ["slices.overlaps[int]"], unfollowed := true, recurses := true, named := ["quaere/sign.equals"], apart := false, laid := [("quaere/sign.equals", laid_quaere_sign_equals)] }
def ParaGroundSaid : Prop := paraGroundRow.holds Tryz.pinned (OpenSpec.ofChange paraGroundSpec)

/-- ITS FALSE NEIGHBOUR: 'it returns false'. Refute it at one input. -/
def paraGroundWrong : ChangeSpec := { name := "paraGround", fn := fun _ => fun
  | [d1, d2, d3, d4, d5] => { results := [.lit (.bool false)], args := [d1, d2, d3, d4, d5] }
  | _ => none }
def ParaGroundWrongFalsely : Prop := paraGroundRow.holds Tryz.pinned (OpenSpec.ofChange paraGroundWrong)

/-- 'quaerelaw15.ParaVars': WHATEVER THE INPUT: true; the input reads as it did. -/
def paraVarsSpec : ChangeSpec := { name := "paraVars", fn := fun _ => fun
  | [d1, d2, d3] => { results := [.lit (.bool true)], args := [d1, d2, d3] }
  | _ => none }
def paraVarsRow : OpenClaim := { program := "ytleengbobccdkaagreatdoor", sum := "fb46718eb4c352e8e042e06be846b20d159b832c2a196cb77ad6ab58818f780d", func := "quaere/quaerelaw15.ParaVars", spec := "paraVars", inPlace := ["slices.overlaps[int]"], unfollowed := true, recurses := true, named := ["quaere/sign.equals"], apart := false, laid := [("quaere/sign.equals", laid_quaere_sign_equals)] }
def ParaVarsSaid : Prop := paraVarsRow.holds Tryz.pinned (OpenSpec.ofChange paraVarsSpec)

/-- ITS FALSE NEIGHBOUR: 'it returns false'. Refute it at one input. -/
def paraVarsWrong : ChangeSpec := { name := "paraVars", fn := fun _ => fun
  | [d1, d2, d3] => { results := [.lit (.bool false)], args := [d1, d2, d3] }
  | _ => none }
def ParaVarsWrongFalsely : Prop := paraVarsRow.holds Tryz.pinned (OpenSpec.ofChange paraVarsWrong)

/-- 'quaerelaw15.ParaReflexes': WHATEVER THE INPUT: true; the input reads as it did. -/
def paraReflexesSpec : ChangeSpec := { name := "paraReflexes", fn := fun _ => fun
  | [d1, d2, d3, d4] => { results := [.lit (.bool true)], args := [d1, d2, d3, d4] }
  | _ => none }
def paraReflexesRow : OpenClaim := { program := "ytleengbobccdkaagreatdoor", sum := "fb46718eb4c352e8e042e06be846b20d159b832c2a196cb77ad6ab58818f780d", func := "quaere/quaerelaw15.ParaReflexes", spec := "paraReflexes", inPlace := ["slices.overlaps[int]"], unfollowed := true, recurses := true, named := ["quaere/sign.equals"], apart := false, laid := [("quaere/sign.equals", laid_quaere_sign_equals)] }
def ParaReflexesSaid : Prop := paraReflexesRow.holds Tryz.pinned (OpenSpec.ofChange paraReflexesSpec)

/-- ITS FALSE NEIGHBOUR: 'it returns false'. Refute it at one input. -/
def paraReflexesWrong : ChangeSpec := { name := "paraReflexes", fn := fun _ => fun
  | [d1, d2, d3, d4] => { results := [.lit (.bool false)], args := [d1, d2, d3, d4] }
  | _ => none }
def ParaReflexesWrongFalsely : Prop := paraReflexesRow.holds Tryz.pinned (OpenSpec.ofChange paraReflexesWrong)

/-- 'quaerelaw15.ParaHolds': WHATEVER THE INPUT: true; the input reads as it did. -/
def paraHoldsSpec : ChangeSpec := { name := "paraHolds", fn := fun _ => fun
  | [d1, d2, d3, d4, d5] => { results := [.lit (.bool true)], args := [d1, d2, d3, d4, d5] }
  | _ => none }
def paraHoldsRow : OpenClaim := { program := "ytleengbobccdkaagreatdoor", sum := "fb46718eb4c352e8e042e06be846b20d159b832c2a196cb77ad6ab58818f780d", func := "quaere/quaerelaw15.ParaHolds", spec := "paraHolds", inPlace := ["slices.overlaps[int]"], unfollowed := true, recurses := true, named := ["quaere/sign.equals"], apart := false, laid := [("quaere/sign.equals", laid_quaere_sign_equals)] }
def ParaHoldsSaid : Prop := paraHoldsRow.holds Tryz.pinned (OpenSpec.ofChange paraHoldsSpec)

/-- ITS FALSE NEIGHBOUR: 'it returns false'. Refute it at one input. -/
def paraHoldsWrong : ChangeSpec := { name := "paraHolds", fn := fun _ => fun
  | [d1, d2, d3, d4, d5] => { results := [.lit (.bool false)], args := [d1, d2, d3, d4, d5] }
  | _ => none }
def ParaHoldsWrongFalsely : Prop := paraHoldsRow.holds Tryz.pinned (OpenSpec.ofChange paraHoldsWrong)

/- THE SECOND FORM. 'bulk': how many values and letters a reading holds, each counted each time it is reached (what is shared counts as often as it is met; a slice's spare places count too). A statement '..UptoSaid' is the law's where the arguments, and the package variables that the reading takes, are together of bulk at most 1048576: NARROWER than '..Said'. Prove '..Said' where nothing that the law and all that it calls make is longer than what came in: it says more and counts as full. Else prove '..UptoSaid'. A law counts once. -/
mutual
def uptoBulk {H : Type} : DataW H → Nat
  | .lit (.string bytes) => bytes.length + 1
  | .lit _ => 1
  | .nil => 1
  | .ptr d => uptoBulk d + 1
  | .slice elems spare => uptoBulkAll elems + uptoBulkAll spare + 1
  | .agg parts => uptoBulkAll parts + 1
  | .iface _ d => uptoBulk d + 1
  | .map entries => uptoBulkEntries entries + 1
  | .held _ => 1
def uptoBulkAll {H : Type} : List (DataW H) → Nat
  | [] => 0
  | d :: r => uptoBulk d + uptoBulkAll r
def uptoBulkEntries {H : Type} : List (Lit × DataW H) → Nat
  | [] => 0
  | x :: r => uptoBulkEntry x + uptoBulkEntries r
def uptoBulkEntry {H : Type} : Lit × DataW H → Nat
  | (.string bytes, d) => bytes.length + uptoBulk d + 1
  | (_, d) => uptoBulk d + 1
 end
def uptoSmall : (H : Type) → List (DataW H) → Bool := fun _ ds => decide (uptoBulkAll ds ≤ 1048576)
def OpenSpec.upto (s : _root_.Go.ChangeSpec) : _root_.Go.OpenSpec := { _root_.Go.OpenSpec.ofChange s with cond := some uptoSmall }

/-- 'quaerelaw24.Goals', WHERE WHAT IT READS IS OF BULK AT MOST 1048576: true; the input reads as it did. -/
def goalsUptoRow : OpenClaim := { program := "ytleengbobccdkaagreatdoor", sum := "fb46718eb4c352e8e042e06be846b20d159b832c2a196cb77ad6ab58818f780d", func := "quaere/quaerelaw24.Goals", spec := "goals", inPlace := ["internal/abi.NoEscape", "internal/bytealg.MakeNoZero"], unfollowed := true, recurses := true, named := ["quaere/sign.equals", "internal/strconv.uint64pow10", "math/bits.deBruijn32tab", "math/bits.deBruijn64tab"], apart := false, laid := [("math/bits.deBruijn32tab", laid_math_bits_deBruijn32tab), ("math/bits.deBruijn64tab", laid_math_bits_deBruijn64tab), ("internal/strconv.uint64pow10", laid_internal_strconv_uint64pow10), ("quaere/sign.equals", laid_quaere_sign_equals)], narrowed := true }
def GoalsUptoSaid : Prop := goalsUptoRow.holds Tryz.pinned (OpenSpec.upto goalsSpec)

/-- 'quaerelaw14.Factors', WHERE WHAT IT READS IS OF BULK AT MOST 1048576: true; the input reads as it did. -/
def factorsUptoRow : OpenClaim := { program := "ytleengbobccdkaagreatdoor", sum := "fb46718eb4c352e8e042e06be846b20d159b832c2a196cb77ad6ab58818f780d", func := "quaere/quaerelaw14.Factors", spec := "factors", unfollowed := true, recurses := true, named := ["quaere/sign.equals"], apart := false, laid := [("quaere/sign.equals", laid_quaere_sign_equals)], narrowed := true }
def FactorsUptoSaid : Prop := factorsUptoRow.holds Tryz.pinned (OpenSpec.upto factorsSpec)

/-- 'quaerelaw14.FactorAlls', WHERE WHAT IT READS IS OF BULK AT MOST 1048576: true; the input reads as it did. -/
def factorAllsUptoRow : OpenClaim := { program := "ytleengbobccdkaagreatdoor", sum := "fb46718eb4c352e8e042e06be846b20d159b832c2a196cb77ad6ab58818f780d", func := "quaere/quaerelaw14.FactorAlls", spec := "factorAlls", unfollowed := true, recurses := true, named := ["quaere/sign.equals"], apart := false, laid := [("quaere/sign.equals", laid_quaere_sign_equals)], narrowed := true }
def FactorAllsUptoSaid : Prop := factorAllsUptoRow.holds Tryz.pinned (OpenSpec.upto factorAllsSpec)

/-- 'quaerelaw13.Resolves', WHERE WHAT IT READS IS OF BULK AT MOST 1048576: true; the input reads as it did. -/
def resolvesUptoRow : OpenClaim := { program := "ytleengbobccdkaagreatdoor", sum := "fb46718eb4c352e8e042e06be846b20d159b832c2a196cb77ad6ab58818f780d", func := "quaere/quaerelaw13.Resolves", spec := "resolves", inPlace := ["slices.overlaps[int]"], unfollowed := true, recurses := true, named := ["quaere/sign.equals"], apart := false, laid := [("quaere/sign.equals", laid_quaere_sign_equals)], narrowed := true }
def ResolvesUptoSaid : Prop := resolvesUptoRow.holds Tryz.pinned (OpenSpec.upto resolvesSpec)

/-- 'quaerelaw15.Paras', WHERE WHAT IT READS IS OF BULK AT MOST 1048576: true; the input reads as it did. -/
def parasUptoRow : OpenClaim := { program := "ytleengbobccdkaagreatdoor", sum := "fb46718eb4c352e8e042e06be846b20d159b832c2a196cb77ad6ab58818f780d", func := "quaere/quaerelaw15.Paras", spec := "paras", inPlace := ["slices.overlaps[int]"], unfollowed := true, recurses := true, named := ["quaere/sign.equals"], apart := false, laid := [("quaere/sign.equals", laid_quaere_sign_equals)], narrowed := true }
def ParasUptoSaid : Prop := parasUptoRow.holds Tryz.pinned (OpenSpec.upto parasSpec)

/-- 'quaerelaw15.ParaAlls', WHERE WHAT IT READS IS OF BULK AT MOST 1048576: true; the input reads as it did. -/
def paraAllsUptoRow : OpenClaim := { program := "ytleengbobccdkaagreatdoor", sum := "fb46718eb4c352e8e042e06be846b20d159b832c2a196cb77ad6ab58818f780d", func := "quaere/quaerelaw15.ParaAlls", spec := "paraAlls", inPlace := ["slices.overlaps[int]"], unfollowed := true, recurses := true, named := ["quaere/sign.equals"], apart := false, laid := [("quaere/sign.equals", laid_quaere_sign_equals)], narrowed := true }
def ParaAllsUptoSaid : Prop := paraAllsUptoRow.holds Tryz.pinned (OpenSpec.upto paraAllsSpec)

/-- 'quaerelaw15.ParaGround', WHERE WHAT IT READS IS OF BULK AT MOST 1048576: true; the input reads as it did. -/
def paraGroundUptoRow : OpenClaim := { program := "ytleengbobccdkaagreatdoor", sum := "fb46718eb4c352e8e042e06be846b20d159b832c2a196cb77ad6ab58818f780d", func := "quaere/quaerelaw15.ParaGround", spec := "paraGround", inPlace := ["slices.overlaps[int]"], unfollowed := true, recurses := true, named := ["quaere/sign.equals"], apart := false, laid := [("quaere/sign.equals", laid_quaere_sign_equals)], narrowed := true }
def ParaGroundUptoSaid : Prop := paraGroundUptoRow.holds Tryz.pinned (OpenSpec.upto paraGroundSpec)

/-- 'quaerelaw15.ParaVars', WHERE WHAT IT READS IS OF BULK AT MOST 1048576: true; the input reads as it did. -/
def paraVarsUptoRow : OpenClaim := { program := "ytleengbobccdkaagreatdoor", sum := "fb46718eb4c352e8e042e06be846b20d159b832c2a196cb77ad6ab58818f780d", func := "quaere/quaerelaw15.ParaVars", spec := "paraVars", inPlace := ["slices.overlaps[int]"], unfollowed := true, recurses := true, named := ["quaere/sign.equals"], apart := false, laid := [("quaere/sign.equals", laid_quaere_sign_equals)], narrowed := true }
def ParaVarsUptoSaid : Prop := paraVarsUptoRow.holds Tryz.pinned (OpenSpec.upto paraVarsSpec)

/-- 'quaerelaw15.ParaReflexes', WHERE WHAT IT READS IS OF BULK AT MOST 1048576: true; the input reads as it did. -/
def paraReflexesUptoRow : OpenClaim := { program := "ytleengbobccdkaagreatdoor", sum := "fb46718eb4c352e8e042e06be846b20d159b832c2a196cb77ad6ab58818f780d", func := "quaere/quaerelaw15.ParaReflexes", spec := "paraReflexes", inPlace := ["slices.overlaps[int]"], unfollowed := true, recurses := true, named := ["quaere/sign.equals"], apart := false, laid := [("quaere/sign.equals", laid_quaere_sign_equals)], narrowed := true }
def ParaReflexesUptoSaid : Prop := paraReflexesUptoRow.holds Tryz.pinned (OpenSpec.upto paraReflexesSpec)

/-- 'quaerelaw15.ParaHolds', WHERE WHAT IT READS IS OF BULK AT MOST 1048576: true; the input reads as it did. -/
def paraHoldsUptoRow : OpenClaim := { program := "ytleengbobccdkaagreatdoor", sum := "fb46718eb4c352e8e042e06be846b20d159b832c2a196cb77ad6ab58818f780d", func := "quaere/quaerelaw15.ParaHolds", spec := "paraHolds", inPlace := ["slices.overlaps[int]"], unfollowed := true, recurses := true, named := ["quaere/sign.equals"], apart := false, laid := [("quaere/sign.equals", laid_quaere_sign_equals)], narrowed := true }
def ParaHoldsUptoSaid : Prop := paraHoldsUptoRow.holds Tryz.pinned (OpenSpec.upto paraHoldsSpec)

end Rows
end Go.Proofs.YtleengbobccdkaaGreatDoor
