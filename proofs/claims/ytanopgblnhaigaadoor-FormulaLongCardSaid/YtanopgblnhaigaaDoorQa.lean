import Derived.Test.YtanopgblnhaigaaDoorFc
/-
  What the functions make of plain values, and what the law says of that.
-/
/-
  What the functions make of plain values.
-/
namespace Go.Abs.Q
open Go Go.Abs
abbrev QSym := Str × Int × Int × Int
abbrev tSym : Tys := .cons .str (.cons (.int .i64) (.cons (.int .i64) (.one (.int .i64))))
abbrev QLit := Bool × List Int
abbrev tLit : Tys := .cons .bool (.one (.sl (.one (.int .i64))))

-- quaerelaw24.words
def law24_words : Option (List QSym) :=
  some ([(([61] : Str), 0, 2, 1), (([97] : Str), 1, 0, 1), (([98] : Str), 1, 0, 2), (([102] : Str), 1, 1, 1), (([103] : Str), 1, 2, 3), (([112] : Str), 0, 1, 1), (([114] : Str), 0, 2, 2)] : List QSym)

-- sign.small
def sign_small (a0 : Int) : Option Bool :=
  cond (decide (a0 ≥ 97))
  (some (decide (a0 ≤ 122)))
  (some false)

-- sign.called
def sign_called_L0 (rec : (Str × Int × Int) → Option (Unit ⊕ Bool)) (x : (Str × Int × Int)) : Option (Unit ⊕ Bool) :=
  cond (decide (x.2.2 < x.2.1))
  ((gx x.1 x.2.2).bind fun c7 =>
    (sign_small ((UInt8.toNat c7 : Nat) : Int)).bind fun r8 =>
    cond (!r8)
    ((gx x.1 x.2.2).bind fun c9 =>
      cond (decide (((UInt8.toNat c9 : Nat) : Int) < 48))
      (some (Sum.inr false))
      ((gx x.1 x.2.2).bind fun c10 =>
        cond (decide (((UInt8.toNat c10 : Nat) : Int) > 57))
        (some (Sum.inr false))
        (rec (x.1, x.2.1, (IntKind.wrap .i64 (x.2.2 + 1))))))
    (rec (x.1, x.2.1, (IntKind.wrap .i64 (x.2.2 + 1)))))
  (some (Sum.inl ()))

def sign_called (a0 : Str) : Option Bool :=
  cond (a0 == ([] : Str))
  (some false)
  (cond (decide (((List.length a0 : Nat) : Int) > 8))
    (some false)
    ((gx a0 0).bind fun c14 =>
      (sign_small ((UInt8.toNat c14 : Nat) : Int)).bind fun r15 =>
      cond (!r15)
      (some false)
      (((lp sign_called_L0 fuel) (a0, ((List.length a0 : Nat) : Int), 0)).bind fun r16 =>
        caseS r16
        (fun z17 => some true)
        (fun z18 => some z18))))

-- sign.SymMay
def sign_SymMay (a0 : Str) (a1 : Int) (a2 : Int) (a3 : Int) : Option Bool :=
  (sign_called a0).bind fun r2 =>
  cond r2
  (cond (decide (a1 ≥ 0))
    (cond (decide (a1 ≤ 2))
      (cond (decide (a2 ≥ 0))
        (cond (decide (a2 ≤ 3))
          (cond (decide (a3 ≥ 1))
            (some (decide (a3 ≤ 20)))
            (some false))
          (some false))
        (some false))
      (some false))
    (some false))
  (some false)

-- sign.find
def sign_find_L0 (rec : ((List QSym) × Str × Int × Int) → Option (Unit ⊕ Int)) (x : ((List QSym) × Str × Int × Int)) : Option (Unit ⊕ Int) :=
  cond (decide (x.2.2.2 < x.2.2.1))
  ((gx x.1 x.2.2.2).bind fun e2 =>
    cond (e2.1 == x.2.1)
    (some (Sum.inr x.2.2.2))
    (rec (x.1, x.2.1, x.2.2.1, (IntKind.wrap .i64 (x.2.2.2 + 1)))))
  (some (Sum.inl ()))

def sign_find (a0 : (List QSym)) (a1 : Str) : Option Int :=
  ((lp sign_find_L0 fuel) (a0, a1, ((List.length a0 : Nat) : Int), 0)).bind fun r6 =>
  caseS r6
  (fun z7 => some (-1))
  (fun z8 => some z8)

-- sign.May
def sign_May_L0 (rec : ((List QSym) × Int) → Option (Unit ⊕ Bool)) (x : ((List QSym) × Int)) : Option (Unit ⊕ Bool) :=
  cond (decide (x.2 < ((List.length x.1 : Nat) : Int)))
  ((gx x.1 x.2).bind fun e6 =>
    (sign_SymMay e6.1 e6.2.1 e6.2.2.1 e6.2.2.2).bind fun r7 =>
    cond (!r7)
    (some (Sum.inr false))
    ((gx x.1 x.2).bind fun e8 =>
      (sign_find x.1 e8.1).bind fun r9 =>
      cond (r9 != x.2)
      (some (Sum.inr false))
      (rec (x.1, (IntKind.wrap .i64 (x.2 + 1))))))
  (some (Sum.inl ()))

def sign_May (a0 : (List QSym)) : Option Bool :=
  cond (decide (((List.length a0 : Nat) : Int) < 1))
  (some false)
  (cond (decide (((List.length a0 : Nat) : Int) > 20))
    (some false)
    ((gx a0 0).bind fun e13 =>
      cond (!(cond (eqS e13.1 [61]) (cond (eqI e13.2.1 0) (cond (eqI e13.2.2.1 2) (cond (eqI e13.2.2.2 1) true false) false) false) false))
      (some false)
      (((lp sign_May_L0 fuel) (a0, 1)).bind fun r14 =>
        caseS r14
        (fun z15 => some true)
        (fun z16 => some z16))))

-- slices.Index[[]int,int]
def slices_Index_L0 (rec : ((List Int) × Int × Int × Int) → Option (Unit ⊕ Int)) (x : ((List Int) × Int × Int × Int)) : Option (Unit ⊕ Int) :=
  cond (decide (x.2.2.2 < x.2.2.1))
  ((gx x.1 x.2.2.2).bind fun e2 =>
    cond (x.2.1 == e2)
    (some (Sum.inr x.2.2.2))
    (rec (x.1, x.2.1, x.2.2.1, (IntKind.wrap .i64 (x.2.2.2 + 1)))))
  (some (Sum.inl ()))

def slices_Index (a0 : (List Int)) (a1 : Int) : Option Int :=
  ((lp slices_Index_L0 fuel) (a0, a1, ((List.length a0 : Nat) : Int), 0)).bind fun r6 =>
  caseS r6
  (fun z7 => some (-1))
  (fun z8 => some z8)

-- slices.Contains[[]int,int]
def slices_Contains (a0 : (List Int)) (a1 : Int) : Option Bool :=
  (slices_Index a0 a1).bind fun r2 =>
  some (decide (r2 ≥ 0))

-- ask.varsMay
def ask_varsMay_L0 (rec : ((List Int) × (List Int) × Int × Int) → Option (Unit ⊕ Bool)) (x : ((List Int) × (List Int) × Int × Int)) : Option (Unit ⊕ Bool) :=
  cond (decide (x.2.2.2 < x.2.2.1))
  ((gx x.2.1 x.2.2.2).bind fun e4 =>
    cond (decide (e4 < 0))
    (some (Sum.inr false))
    (cond (decide (e4 > 23))
      (some (Sum.inr false))
      ((slc2 x.1 none (some x.2.2.2)).bind fun y5 =>
        (slices_Contains y5 e4).bind fun r6 =>
        cond r6
        (some (Sum.inr false))
        (rec (x.1, x.2.1, x.2.2.1, (IntKind.wrap .i64 (x.2.2.2 + 1)))))))
  (some (Sum.inl ()))

def ask_varsMay (a0 : (List Int)) : Option Bool :=
  ((lp ask_varsMay_L0 fuel) (a0, a0, ((List.length a0 : Nat) : Int), 0)).bind fun r10 =>
  caseS r10
  (fun z11 => some true)
  (fun z12 => some z12)

-- slices.Clone[[]int,int]
def slices_Clone (a0 : (Option (List Int))) : Option (List Int) :=
  cond (Option.isNone a0)
  (some ([] : (List Int)))
  (cond (room (List.length ([] : List Int) + List.length (Option.getD a0 [])) 8)
    (some (([] : List Int) ++ (Option.getD a0 [])))
    (none))

-- slices.Clone[[]int,int]
def slices_Clone_1 : Option (List Int) :=
  some ([] : (List Int))

-- slices.Clone[[]int,int]
def slices_CloneN (a0 : (List Int)) : Option (List Int) := slices_Clone (some a0)

-- lit.Opposite
def lit_Opposite (a0 : Bool) (a1 : (List Int)) : Option QLit :=
  (slices_CloneN a1).bind fun r2 =>
  some ((!a0), r2)

-- term.Number
def term_Number (a0 : Int) : Option Int :=
  some (IntKind.wrap .i64 ((-1) - a0))

-- term.args
def term_args (a0 : (List QSym)) (a1 : Int) : Option (Int × Bool) :=
  cond (decide (a1 < 0))
  ((term_Number 23).bind fun r4 =>
    some (0, (decide (a1 ≥ r4))))
  (cond (decide (a1 ≥ ((List.length a0 : Nat) : Int)))
    (some (0, false))
    ((gx a0 a1).bind fun e5 =>
      cond (e5.2.1 == 0)
      (some (0, false))
      ((gx a0 a1).bind fun e6 =>
        some (e6.2.2.1, true))))

-- term.Skip
def term_Skip_L0 (rec : ((List QSym) × (List Int) × Int × Int) → Option (Int × Bool)) (x : ((List QSym) × (List Int) × Int × Int)) : Option (Int × Bool) :=
  cond (decide (x.2.2.1 ≥ ((List.length x.2.1 : Nat) : Int)))
  (some (0, false))
  ((gx x.2.1 x.2.2.1).bind fun e5 =>
    (term_args x.1 e5).bind fun r6 =>
    cond (!r6.2)
    (some (0, false))
    (cond (decide ((IntKind.wrap .i64 (x.2.2.2 + (IntKind.wrap .i64 (r6.1 - 1)))) > 0))
      (rec (x.1, x.2.1, (IntKind.wrap .i64 (x.2.2.1 + 1)), (IntKind.wrap .i64 (x.2.2.2 + (IntKind.wrap .i64 (r6.1 - 1))))))
      (some ((IntKind.wrap .i64 (x.2.2.1 + 1)), true))))

def term_Skip (a0 : (List QSym)) (a1 : (List Int)) (a2 : Int) : Option (Int × Bool) :=
  cond (decide (a2 ≥ ((List.length a1 : Nat) : Int)))
  (some (0, false))
  ((gx a1 a2).bind fun e8 =>
    (term_args a0 e8).bind fun r9 =>
    cond (!r9.2)
    (some (0, false))
    (cond (decide ((IntKind.wrap .i64 (1 + (IntKind.wrap .i64 (r9.1 - 1)))) > 0))
      ((((lp term_Skip_L0 fuel) (a0, a1, (IntKind.wrap .i64 (a2 + 1)), (IntKind.wrap .i64 (1 + (IntKind.wrap .i64 (r9.1 - 1))))))).bind fun r10 =>
        some (r10.1, r10.2))
      (some ((IntKind.wrap .i64 (a2 + 1)), true))))

-- term.begins
def term_begins_L0 (rec : ((List QSym) × (List Int) × Int × (List Int)) → Option QLit) (x : ((List QSym) × (List Int) × Int × (List Int))) : Option QLit :=
  cond (x.2.2.1 == ((List.length x.2.1 : Nat) : Int))
  (some (true, x.2.2.2))
  ((term_Skip x.1 x.2.1 x.2.2.1).bind fun r4 =>
    cond (!r4.2)
    (some (false, ([] : (List Int))))
    (cond (room (List.length x.2.2.2 + List.length ([x.2.2.1] : List Int)) 8)
      (rec (x.1, x.2.1, r4.1, (x.2.2.2 ++ ([x.2.2.1] : List Int))))
      (none)))

def term_begins (a0 : (List QSym)) (a1 : (List Int)) : Option QLit :=
  (sign_May a0).bind fun r6 =>
  cond (!r6)
  (some (false, ([] : (List Int))))
  (cond (decide (((List.length a1 : Nat) : Int) > 48))
    (some (false, ([] : (List Int))))
    (cond (0 == ((List.length a1 : Nat) : Int))
      (some (true, ([] : (List Int))))
      ((term_Skip a0 a1 0).bind fun r7 =>
        cond (!r7.2)
        (some (false, ([] : (List Int))))
        (cond (room (List.length ([0] : List Int)) 8)
          ((((lp term_begins_L0 fuel) (a0, a1, r7.1, ([0] : List Int)))).bind fun r8 =>
            some (r8.1, r8.2))
          (none)))))

-- term.IsAtom
def term_IsAtom (a0 : (List QSym)) (a1 : (List Int)) : Option Bool :=
  cond (((List.length a1 : Nat) : Int) == 0)
  (some false)
  ((gx a1 0).bind fun e9 =>
    cond (decide (e9 < 0))
    (some false)
    ((gx a1 0).bind fun e10 =>
      cond (decide (e10 ≥ ((List.length a0 : Nat) : Int)))
      (some false)
      ((gx a1 0).bind fun e11 =>
        (gx a0 e11).bind fun e12 =>
        cond (e12.2.1 != 0)
        (some false)
        ((slc2 a1 (some 1) none).bind fun y13 =>
          (term_begins a0 y13).bind fun r14 =>
          cond r14.1
          ((gx a1 0).bind fun e15 =>
            (gx a0 e15).bind fun e16 =>
            some (((List.length r14.2 : Nat) : Int) == e16.2.2.1))
          (some false)))))

-- lit.May
def lit_May (a0 : (List QSym)) (a1 : Bool) (a2 : (List Int)) : Option Bool :=
  (term_IsAtom a0 a2).bind fun r2 =>
  some r2

-- clause.litsMay
def clause_litsMay_L0 (rec : ((List QSym) × Int × (List QLit) × Int × Int) → Option (Int ⊕ (Int × Bool))) (x : ((List QSym) × Int × (List QLit) × Int × Int)) : Option (Int ⊕ (Int × Bool)) :=
  cond (decide (x.2.2.2.2 < x.2.2.2.1))
  ((gx x.2.2.1 x.2.2.2.2).bind fun e3 =>
    (lit_May x.1 e3.1 e3.2).bind fun r4 =>
    cond (!r4)
    (some (Sum.inr (0, false)))
    (rec (x.1, (IntKind.wrap .i64 (x.2.1 + ((List.length e3.2 : Nat) : Int))), x.2.2.1, x.2.2.2.1, (IntKind.wrap .i64 (x.2.2.2.2 + 1)))))
  (some (Sum.inl x.2.1))

def clause_litsMay (a0 : (List QSym)) (a1 : (List QLit)) : Option (Int × Bool) :=
  ((lp clause_litsMay_L0 fuel) (a0, 0, a1, ((List.length a1 : Nat) : Int), 0)).bind fun r8 =>
  caseS r8
  (fun z9 => some (z9, true))
  (fun z10 => some (z10.1, z10.2))

-- term.Row
def term_Row (a0 : (List QSym)) (a1 : (List Int)) : Option (Int × Int) :=
  (term_begins a0 a1).bind fun r2 =>
  cond (!r2.1)
  (some (0, 200))
  (some (((List.length r2.2 : Nat) : Int), 0))

-- clause.rowsMay
def clause_rowsMay_L0 (rec : ((List QSym) × Int × Int × (List (List Int)) × Int × Int) → Option (Int ⊕ (Int × Bool))) (x : ((List QSym) × Int × Int × (List (List Int)) × Int × Int)) : Option (Int ⊕ (Int × Bool)) :=
  cond (decide (x.2.2.2.2.2 < x.2.2.2.2.1))
  ((gx x.2.2.2.1 x.2.2.2.2.2).bind fun e3 =>
    (term_Row x.1 e3).bind fun r4 =>
    cond (x.2.2.2.2.2 == 0)
    (cond (r4.2 != 0)
      (some (Sum.inr (0, false)))
      (cond (r4.1 != r4.1)
        (some (Sum.inr (0, false)))
        (rec (x.1, (IntKind.wrap .i64 (x.2.1 + ((List.length e3 : Nat) : Int))), r4.1, x.2.2.2.1, x.2.2.2.2.1, (IntKind.wrap .i64 (x.2.2.2.2.2 + 1))))))
    (cond (r4.2 != 0)
      (some (Sum.inr (0, false)))
      (cond (r4.1 != x.2.2.1)
        (some (Sum.inr (0, false)))
        (rec (x.1, (IntKind.wrap .i64 (x.2.1 + ((List.length e3 : Nat) : Int))), x.2.2.1, x.2.2.2.1, x.2.2.2.2.1, (IntKind.wrap .i64 (x.2.2.2.2.2 + 1)))))))
  (some (Sum.inl x.2.1))

def clause_rowsMay (a0 : (List QSym)) (a1 : (List (List Int))) : Option (Int × Bool) :=
  ((lp clause_rowsMay_L0 fuel) (a0, 0, 0, a1, ((List.length a1 : Nat) : Int), 0)).bind fun r8 =>
  caseS r8
  (fun z9 => some (z9, true))
  (fun z10 => some (z10.1, z10.2))

-- clause.May
def clause_May (a0 : (List QSym)) (a1 : (List QLit)) (a2 : (List (List Int))) (a3 : (List QLit)) : Option Bool :=
  (sign_May a0).bind fun r5 =>
  cond (!r5)
  (some false)
  (cond (decide (((List.length a1 : Nat) : Int) > 5))
    (some false)
    (cond (decide (((List.length a2 : Nat) : Int) > 3))
      (some false)
      (cond (decide (((List.length a3 : Nat) : Int) > 3))
        (some false)
        ((clause_litsMay a0 a1).bind fun r6 =>
          (clause_rowsMay a0 a2).bind fun r7 =>
          (clause_litsMay a0 a3).bind fun r8 =>
          cond r6.2
          (cond r7.2
            (cond r8.2
              (some (decide ((IntKind.wrap .i64 ((IntKind.wrap .i64 (r6.1 + r7.1)) + r8.1)) ≤ 240)))
              (some false))
            (some false))
          (some false)))))

-- slices.Equal[[]int,int]
def slices_Equal_L0 (rec : ((List Int) × (List Int) × Int × Int) → Option (Unit ⊕ Bool)) (x : ((List Int) × (List Int) × Int × Int)) : Option (Unit ⊕ Bool) :=
  cond (decide (x.2.2.2 < x.2.2.1))
  ((gx x.1 x.2.2.2).bind fun e3 =>
    (gx x.2.1 x.2.2.2).bind fun e4 =>
    cond (e3 != e4)
    (some (Sum.inr false))
    (rec (x.1, x.2.1, x.2.2.1, (IntKind.wrap .i64 (x.2.2.2 + 1)))))
  (some (Sum.inl ()))

def slices_Equal (a0 : (List Int)) (a1 : (List Int)) : Option Bool :=
  cond (((List.length a0 : Nat) : Int) != ((List.length a1 : Nat) : Int))
  (some false)
  (((lp slices_Equal_L0 fuel) (a0, a1, ((List.length a0 : Nat) : Int), 0)).bind fun r8 =>
    caseS r8
    (fun z9 => some true)
    (fun z10 => some z10))

-- lit.Same
def lit_Same (a0 : Bool) (a1 : (List Int)) (a2 : Bool) (a3 : (List Int)) : Option Bool :=
  cond (a0 == a2)
  ((slices_Equal a1 a3).bind fun r2 =>
    some r2)
  (some false)

-- clause.once$1
def clause_once_c1 (a0 : Bool) (a1 : (List Int)) (a2 : Bool) (a3 : (List Int)) : Option Bool :=
  (lit_Same a2 a3 a0 a1).bind fun r2 =>
  some r2

-- slices.IndexFunc[[]api.Lit,api.Lit]
def slices_IndexFunc_L0 (rec : ((List QLit) × Int × Int × Bool × (List Int)) → Option (Unit ⊕ Int)) (x : ((List QLit) × Int × Int × Bool × (List Int))) : Option (Unit ⊕ Int) :=
  cond (decide (x.2.2.1 < x.2.1))
  ((gx x.1 x.2.2.1).bind fun e3 =>
    (clause_once_c1 e3.1 e3.2 x.2.2.2.1 x.2.2.2.2).bind fun r4 =>
    cond r4
    (some (Sum.inr x.2.2.1))
    (rec (x.1, x.2.1, (IntKind.wrap .i64 (x.2.2.1 + 1)), x.2.2.2.1, x.2.2.2.2)))
  (some (Sum.inl ()))

def slices_IndexFunc (a0 : (List QLit)) (a1 : Bool) (a2 : (List Int)) : Option Int :=
  ((lp slices_IndexFunc_L0 fuel) (a0, ((List.length a0 : Nat) : Int), 0, a1, a2)).bind fun r8 =>
  caseS r8
  (fun z9 => some (-1))
  (fun z10 => some z10)

-- slices.ContainsFunc[[]api.Lit,api.Lit]
def slices_ContainsFunc (a0 : (List QLit)) (a1 : Bool) (a2 : (List Int)) : Option Bool :=
  (slices_IndexFunc a0 a1 a2).bind fun r2 =>
  some (decide (r2 ≥ 0))

-- clause.once
def clause_once_L0 (rec : ((List QLit) × Int × Int × (List QLit)) → Option (List QLit)) (x : ((List QLit) × Int × Int × (List QLit))) : Option (List QLit) :=
  cond (decide (x.2.2.1 < x.2.1))
  ((gx x.1 x.2.2.1).bind fun e5 =>
    (slices_ContainsFunc x.2.2.2 e5.1 e5.2).bind fun r6 =>
    cond (!r6)
    (cond (room (List.length x.2.2.2 + List.length ([(e5.1, e5.2)] : List QLit)) 32)
      (rec (x.1, x.2.1, (IntKind.wrap .i64 (x.2.2.1 + 1)), (x.2.2.2 ++ ([(e5.1, e5.2)] : List QLit))))
      (none))
    (rec (x.1, x.2.1, (IntKind.wrap .i64 (x.2.2.1 + 1)), x.2.2.2)))
  (some x.2.2.2)

def clause_once (a0 : (List QLit)) : Option (List QLit) :=
  ((lp clause_once_L0 fuel) (a0, ((List.length a0 : Nat) : Int), 0, ([] : (List QLit)))).bind fun r8 =>
  some r8

-- clause.anew$1
def clause_anew_c1 (a0 : (List Int)) (a1 : (List Int)) : Option Bool :=
  (slices_Equal a1 a0).bind fun r2 =>
  some r2

-- slices.IndexFunc[[][]int,[]int]
def slices_IndexFunc_1_L0 (rec : ((List (List Int)) × Int × Int × (List Int)) → Option (Unit ⊕ Int)) (x : ((List (List Int)) × Int × Int × (List Int))) : Option (Unit ⊕ Int) :=
  cond (decide (x.2.2.1 < x.2.1))
  ((gx x.1 x.2.2.1).bind fun e3 =>
    (clause_anew_c1 e3 x.2.2.2).bind fun r4 =>
    cond r4
    (some (Sum.inr x.2.2.1))
    (rec (x.1, x.2.1, (IntKind.wrap .i64 (x.2.2.1 + 1)), x.2.2.2)))
  (some (Sum.inl ()))

def slices_IndexFunc_1 (a0 : (List (List Int))) (a1 : (List Int)) : Option Int :=
  ((lp slices_IndexFunc_1_L0 fuel) (a0, ((List.length a0 : Nat) : Int), 0, a1)).bind fun r8 =>
  caseS r8
  (fun z9 => some (-1))
  (fun z10 => some z10)

-- slices.ContainsFunc[[][]int,[]int]
def slices_ContainsFunc_1 (a0 : (List (List Int))) (a1 : (List Int)) : Option Bool :=
  (slices_IndexFunc_1 a0 a1).bind fun r2 =>
  some (decide (r2 ≥ 0))

-- clause.anew$2
def clause_anew_c2_1_L0 (rec : (Int × Int × (List Int) × Int × (List Int)) → Option ((List Int) × Int × (List Int))) (x : (Int × Int × (List Int) × Int × (List Int))) : Option ((List Int) × Int × (List Int)) :=
  cond (decide (x.2.1 < x.1))
  ((inR x.2.1 (List.length x.2.2.2.2)).bind fun k33 =>
    (x.2.2.2.2[k33]?).bind fun x34 =>
    cond (decide (x34 ≥ 0))
    (rec (x.1, (IntKind.wrap .i64 (x.2.1 + 1)), x.2.2.1, x.2.2.2.1, x.2.2.2.2))
    ((term_Number x34).bind fun r35 =>
      (inR r35 24).bind fun k36 =>
      (x.2.2.1[k36]?).bind fun x37 =>
      cond (x37 == 0)
      ((term_Number x34).bind fun r38 =>
        (inR r38 24).bind fun k39 =>
        (x.2.2.1[k39]?).bind fun x40 =>
        (term_Number x34).bind fun r41 =>
        (inR r41 24).bind fun k42 =>
        ((List.set x.2.2.1 k39 (IntKind.wrap .i64 (x.2.2.2.1 + 1)))[k42]?).bind fun x43 =>
        (inR x.2.1 (List.length x.2.2.2.2)).bind fun k44 =>
        (x.2.2.2.2[k44]?).bind fun x45 =>
        rec (x.1, (IntKind.wrap .i64 (x.2.1 + 1)), (List.set x.2.2.1 k39 (IntKind.wrap .i64 (x.2.2.2.1 + 1))), (IntKind.wrap .i64 (x.2.2.2.1 + 1)), (List.set x.2.2.2.2 k44 (negI .i64 x43))))
      ((term_Number x34).bind fun r46 =>
        (inR r46 24).bind fun k47 =>
        (x.2.2.1[k47]?).bind fun x48 =>
        (inR x.2.1 (List.length x.2.2.2.2)).bind fun k49 =>
        (x.2.2.2.2[k49]?).bind fun x50 =>
        rec (x.1, (IntKind.wrap .i64 (x.2.1 + 1)), x.2.2.1, x.2.2.2.1, (List.set x.2.2.2.2 k49 (negI .i64 x48))))))
  (some (x.2.2.1, x.2.2.2.1, x.2.2.2.2))

def clause_anew_c2_1 (a0 : (List Int)) (a1 : (List Int)) (a2 : Int) : Option ((List Int) × (List Int) × Int) :=
  (slices_CloneN a0).bind fun r52 =>
  ((lp clause_anew_c2_1_L0 fuel) (((List.length r52 : Nat) : Int), 0, a1, a2, r52)).bind fun r53 =>
  cond (Nat.beq (List.length a1) (List.length r53.1) && true)
  (some (r53.2.2, r53.1, r53.2.1))
  (none)

-- clause.each
def clause_each_1_L2 (rec : ((List QLit) × Int × Int × (List Int) × Int × (List QLit) × (List (List Int)) × (List QLit)) → Option ((List Int) × Int × (List QLit) × (List (List Int)) × (List QLit))) (x : ((List QLit) × Int × Int × (List Int) × Int × (List QLit) × (List (List Int)) × (List QLit))) : Option ((List Int) × Int × (List QLit) × (List (List Int)) × (List QLit)) :=
  cond (decide (x.2.2.1 < x.2.1))
  ((gx x.1 x.2.2.1).bind fun e19 =>
    (clause_anew_c2_1 e19.2 x.2.2.2.1 x.2.2.2.2.1).bind fun r20 =>
    cond (room (List.length x.2.2.2.2.2.2.2 + List.length ([(e19.1, r20.1)] : List QLit)) 32)
    (rec (x.1, x.2.1, (IntKind.wrap .i64 (x.2.2.1 + 1)), r20.2.1, r20.2.2, x.2.2.2.2.2.1, x.2.2.2.2.2.2.1, (x.2.2.2.2.2.2.2 ++ ([(e19.1, r20.1)] : List QLit))))
    (none))
  (some (x.2.2.2.1, x.2.2.2.2.1, x.2.2.2.2.2.1, x.2.2.2.2.2.2.1, x.2.2.2.2.2.2.2))

def clause_each_1_L1 (rec : ((List (List Int)) × Int × Int × (List Int) × Int × (List QLit) × (List (List Int)) × (List QLit) × (List QLit) × (List (List Int))) → Option ((List Int) × Int × (List QLit) × (List (List Int)))) (x : ((List (List Int)) × Int × Int × (List Int) × Int × (List QLit) × (List (List Int)) × (List QLit) × (List QLit) × (List (List Int)))) : Option ((List Int) × Int × (List QLit) × (List (List Int))) :=
  cond (decide (x.2.2.1 < x.2.1))
  ((gx x.1 x.2.2.1).bind fun e12 =>
    (clause_anew_c2_1 e12 x.2.2.2.1 x.2.2.2.2.1).bind fun r13 =>
    cond (room (List.length x.2.2.2.2.2.2.2.2.2 + List.length ([r13.1] : List (List Int))) 24)
    (rec (x.1, x.2.1, (IntKind.wrap .i64 (x.2.2.1 + 1)), r13.2.1, r13.2.2, x.2.2.2.2.2.1, x.2.2.2.2.2.2.1, x.2.2.2.2.2.2.2.1, x.2.2.2.2.2.2.2.2.1, (x.2.2.2.2.2.2.2.2.2 ++ ([r13.1] : List (List Int)))))
    (none))
  (some (x.2.2.2.1, x.2.2.2.2.1, x.2.2.2.2.2.2.2.2.1, x.2.2.2.2.2.2.2.2.2))

def clause_each_1_L0 (rec : ((List QLit) × Int × Int × (List Int) × Int × (List QLit) × (List (List Int)) × (List QLit) × (List QLit)) → Option ((List Int) × Int × (List QLit))) (x : ((List QLit) × Int × Int × (List Int) × Int × (List QLit) × (List (List Int)) × (List QLit) × (List QLit))) : Option ((List Int) × Int × (List QLit)) :=
  cond (decide (x.2.2.1 < x.2.1))
  ((gx x.1 x.2.2.1).bind fun e5 =>
    (clause_anew_c2_1 e5.2 x.2.2.2.1 x.2.2.2.2.1).bind fun r6 =>
    cond (room (List.length x.2.2.2.2.2.2.2.2 + List.length ([(e5.1, r6.1)] : List QLit)) 32)
    (rec (x.1, x.2.1, (IntKind.wrap .i64 (x.2.2.1 + 1)), r6.2.1, r6.2.2, x.2.2.2.2.2.1, x.2.2.2.2.2.2.1, x.2.2.2.2.2.2.2.1, (x.2.2.2.2.2.2.2.2 ++ ([(e5.1, r6.1)] : List QLit))))
    (none))
  (some (x.2.2.2.1, x.2.2.2.2.1, x.2.2.2.2.2.2.2.2))

def clause_each_1 (a0 : (List QLit)) (a1 : (List (List Int))) (a2 : (List QLit)) (a3 : (List Int)) (a4 : Int) : Option ((List QLit) × (List (List Int)) × (List QLit) × (List Int) × Int) :=
  ((lp clause_each_1_L0 fuel) (a0, ((List.length a0 : Nat) : Int), 0, a3, a4, a0, a1, a2, ([] : (List QLit)))).bind fun r22 =>
  ((lp clause_each_1_L1 fuel) (a1, ((List.length a1 : Nat) : Int), 0, r22.1, r22.2.1, a0, a1, a2, r22.2.2, ([] : (List (List Int))))).bind fun r23 =>
  ((lp clause_each_1_L2 fuel) (a2, ((List.length a2 : Nat) : Int), 0, r23.1, r23.2.1, r23.2.2.1, r23.2.2.2, ([] : (List QLit)))).bind fun r24 =>
  cond (Nat.beq (List.length a3) (List.length r24.1) && true)
  (some (r24.2.2.1, r24.2.2.2.1, r24.2.2.2.2, r24.1, r24.2.1))
  (none)

-- clause.anew
def clause_anew_L0 (rec : ((List (List Int)) × Int × Int × (List QLit) × (List QLit) × (List (List Int))) → Option ((List QLit) × (List QLit) × (List (List Int)))) (x : ((List (List Int)) × Int × Int × (List QLit) × (List QLit) × (List (List Int)))) : Option ((List QLit) × (List QLit) × (List (List Int))) :=
  cond (decide (x.2.2.1 < x.2.1))
  ((gx x.1 x.2.2.1).bind fun e7 =>
    (slices_ContainsFunc_1 x.2.2.2.2.2 e7).bind fun r8 =>
    cond (!r8)
    (cond (room (List.length x.2.2.2.2.2 + List.length ([e7] : List (List Int))) 24)
      (rec (x.1, x.2.1, (IntKind.wrap .i64 (x.2.2.1 + 1)), x.2.2.2.1, x.2.2.2.2.1, (x.2.2.2.2.2 ++ ([e7] : List (List Int)))))
      (none))
    (rec (x.1, x.2.1, (IntKind.wrap .i64 (x.2.2.1 + 1)), x.2.2.2.1, x.2.2.2.2.1, x.2.2.2.2.2)))
  (some (x.2.2.2.1, x.2.2.2.2.1, x.2.2.2.2.2))

def clause_anew (a0 : (List QLit)) (a1 : (List (List Int))) (a2 : (List QLit)) : Option ((List QLit) × (List (List Int)) × (List QLit)) :=
  (clause_once a0).bind fun r11 =>
  (clause_once a2).bind fun r12 =>
  ((lp clause_anew_L0 fuel) (a1, ((List.length a1 : Nat) : Int), 0, r11, r12, ([] : (List (List Int))))).bind fun r13 =>
  (clause_each_1 r13.1 r13.2.2 r13.2.1 (List.replicate 24 (0 : Int)) 0).bind fun r14 =>
  some (r14.1, r14.2.1, r14.2.2.1)

-- clause.Normal
def clause_Normal (a0 : (List QSym)) (a1 : (List QLit)) (a2 : (List (List Int))) (a3 : (List QLit)) : Option ((List QLit) × (List (List Int)) × Int × (List QLit)) :=
  (clause_May a0 a1 a2 a3).bind fun r3 =>
  cond (!r3)
  (some (([] : (List QLit)), ([] : (List (List Int))), 800, ([] : (List QLit))))
  ((clause_anew a1 a2 a3).bind fun r4 =>
    some (r4.1, r4.2.1, 0, r4.2.2))

-- ask.Goal
def ask_Goal_L1 (rec : ((List QSym) × (List Int) × Int × Int × (List QLit) × (List Int)) → Option (List Int)) (x : ((List QSym) × (List Int) × Int × Int × (List QLit) × (List Int))) : Option (List Int) :=
  cond (decide (x.2.2.2.1 < x.2.2.1))
  ((gx x.2.1 x.2.2.2.1).bind fun e14 =>
    (term_Number e14).bind fun r15 =>
    (inR x.2.2.2.1 (List.length x.2.2.2.2.2)).bind fun k16 =>
    (x.2.2.2.2.2[k16]?).bind fun x17 =>
    rec (x.1, x.2.1, x.2.2.1, (IntKind.wrap .i64 (x.2.2.2.1 + 1)), x.2.2.2.2.1, (List.set x.2.2.2.2.2 k16 r15)))
  (some x.2.2.2.2.2)

def ask_Goal_L0 (rec : ((List QSym) × (List Int) × (List QLit) × Int × Int × (List QLit)) → Option (List QLit)) (x : ((List QSym) × (List Int) × (List QLit) × Int × Int × (List QLit))) : Option (List QLit) :=
  cond (decide (x.2.2.2.2.1 < x.2.2.2.1))
  ((gx x.2.2.1 x.2.2.2.2.1).bind fun e7 =>
    (lit_Opposite e7.1 e7.2).bind fun r8 =>
    cond (room (List.length x.2.2.2.2.2 + List.length ([(r8.1, r8.2)] : List QLit)) 32)
    (rec (x.1, x.2.1, x.2.2.1, x.2.2.2.1, (IntKind.wrap .i64 (x.2.2.2.2.1 + 1)), (x.2.2.2.2.2 ++ ([(r8.1, r8.2)] : List QLit))))
    (none))
  (some x.2.2.2.2.2)

def ask_Goal (a0 : (List QSym)) (a1 : (List Int)) (a2 : (List QLit)) : Option ((List QLit) × (List (List Int)) × Int × (List QLit)) :=
  (sign_May a0).bind fun r20 =>
  cond (!r20)
  (some (([] : (List QLit)), ([] : (List (List Int))), 2400, ([] : (List QLit))))
  (cond (((List.length a2 : Nat) : Int) == 0)
    (some (([] : (List QLit)), ([] : (List (List Int))), 2400, ([] : (List QLit))))
    (cond (decide (((List.length a2 : Nat) : Int) > 5))
      (some (([] : (List QLit)), ([] : (List (List Int))), 2400, ([] : (List QLit))))
      ((ask_varsMay a1).bind fun r21 =>
        cond (!r21)
        (some (([] : (List QLit)), ([] : (List (List Int))), 2400, ([] : (List QLit))))
        (((lp ask_Goal_L0 fuel) (a0, a1, a2, ((List.length a2 : Nat) : Int), 0, ([] : (List QLit)))).bind fun r22 =>
          cond (eqI ((List.length a1 : Nat) : Int) ((List.length a1 : Nat) : Int))
          (cond (nneg ((List.length a1 : Nat) : Int))
            (cond (room (Int.toNat ((List.length a1 : Nat) : Int)) 8)
              (((lp ask_Goal_L1 fuel) (a0, a1, ((List.length a1 : Nat) : Int), 0, r22, (List.replicate (Int.toNat ((List.length a1 : Nat) : Int)) (0 : Int)))).bind fun r23 =>
                (clause_Normal a0 r22 ([r23] : List (List Int)) ([] : (List QLit))).bind fun r24 =>
                cond (r24.2.2.1 != 0)
                (some (([] : (List QLit)), ([] : (List (List Int))), 2400, ([] : (List QLit))))
                (some (r24.1, r24.2.1, 0, r24.2.2.2)))
              (none))
            (none))
          (none)))))

-- term.Pieces
def term_Pieces_L0 (rec : ((List QSym) × (List Int) × Int × (List (List Int))) → Option ((List (List Int)) ⊕ (List (List Int)))) (x : ((List QSym) × (List Int) × Int × (List (List Int)))) : Option ((List (List Int)) ⊕ (List (List Int))) :=
  cond (decide (x.2.2.1 < ((List.length x.2.1 : Nat) : Int)))
  ((term_Skip x.1 x.2.1 x.2.2.1).bind fun r5 =>
    cond (!r5.2)
    (some (Sum.inr x.2.2.2))
    ((slc2 x.2.1 (some x.2.2.1) (some r5.1)).bind fun y6 =>
      cond (room (List.length x.2.2.2 + List.length ([y6] : List (List Int))) 24)
      (rec (x.1, x.2.1, r5.1, (x.2.2.2 ++ ([y6] : List (List Int)))))
      (none)))
  (some (Sum.inl x.2.2.2))

def term_Pieces (a0 : (List QSym)) (a1 : (List Int)) : Option (List (List Int)) :=
  ((lp term_Pieces_L0 fuel) (a0, a1, 0, ([] : (List (List Int))))).bind fun r10 =>
  caseS r10
  (fun z11 => some z11)
  (fun z12 => some z12)

-- strconv.Itoa
def strconv_Itoa (a0 : Int) : Option Str := itoaF a0

-- strings.Join
def strings_Join (a0 : List Str) (a1 : Str) : Option Str := joinF a0 a1

-- formula.ShowTerms
def formula_ShowTerms_L0 (rf : (((List QSym) × (List Int)) → Option Str)) (rec : ((List QSym) × (List (List Int)) × Int × Int × (List Str)) → Option (List Str)) (x : ((List QSym) × (List (List Int)) × Int × Int × (List Str))) : Option (List Str) :=
  cond (decide (x.2.2.2.1 < x.2.2.1))
  ((gx x.2.1 x.2.2.2.1).bind fun e18 =>
    (gx e18 0).bind fun e19 =>
    cond (decide (e19 < 0))
    ((gx e18 0).bind fun e20 =>
      (term_Number e20).bind fun r21 =>
      (strconv_Itoa r21).bind fun r22 =>
      cond (decide ((List.length ([88] : Str) + List.length r22 : Nat) < 4611686018427387904))
      (cond (room (List.length x.2.2.2.2 + List.length ([(([88] : Str) ++ r22)] : List Str)) 16)
        (rec (x.1, x.2.1, x.2.2.1, (IntKind.wrap .i64 (x.2.2.2.1 + 1)), (x.2.2.2.2 ++ ([(([88] : Str) ++ r22)] : List Str))))
        (none))
      (none))
    (cond (((List.length e18 : Nat) : Int) == 1)
      ((gx e18 0).bind fun e23 =>
        (gx x.1 e23).bind fun e24 =>
        cond (room (List.length x.2.2.2.2 + List.length ([e24.1] : List Str)) 16)
        (rec (x.1, x.2.1, x.2.2.1, (IntKind.wrap .i64 (x.2.2.2.1 + 1)), (x.2.2.2.2 ++ ([e24.1] : List Str))))
        (none))
      ((gx e18 0).bind fun e25 =>
        (gx x.1 e25).bind fun e26 =>
        cond (decide ((List.length e26.1 + List.length ([40] : Str) : Nat) < 4611686018427387904))
        ((slc2 e18 (some 1) none).bind fun y27 =>
          (rf (x.1, y27)).bind fun r28 =>
          cond (decide ((List.length (e26.1 ++ ([40] : Str)) + List.length r28 : Nat) < 4611686018427387904))
          (cond (decide ((List.length ((e26.1 ++ ([40] : Str)) ++ r28) + List.length ([41] : Str) : Nat) < 4611686018427387904))
            (cond (room (List.length x.2.2.2.2 + List.length ([(((e26.1 ++ ([40] : Str)) ++ r28) ++ ([41] : Str))] : List Str)) 16)
              (rec (x.1, x.2.1, x.2.2.1, (IntKind.wrap .i64 (x.2.2.2.1 + 1)), (x.2.2.2.2 ++ ([(((e26.1 ++ ([40] : Str)) ++ r28) ++ ([41] : Str))] : List Str))))
              (none))
            (none))
          (none))
        (none))))
  (some x.2.2.2.2)

def formula_ShowTerms_S (rf : (((List QSym) × (List Int)) → Option Str)) (a0 : (List QSym)) (a1 : (List Int)) : Option Str :=
  (term_Pieces a0 a1).bind fun r31 =>
  ((lp (formula_ShowTerms_L0 rf) fuel) (a0, r31, ((List.length r31 : Nat) : Int), 0, ([] : (List Str)))).bind fun r32 =>
  (strings_Join r32 ([44, 32] : Str)).bind fun r33 =>
  some r33

def formula_ShowTerms_R_step (rf : (((List QSym) × (List Int)) → Option Str)) : (((List QSym) × (List Int)) → Option Str) :=
  fun (x : ((List QSym) × (List Int))) => formula_ShowTerms_S rf x.1 x.2

def formula_ShowTerms_R_base : (((List QSym) × (List Int)) → Option Str) := fun _ => none
def formula_ShowTerms_R (k : Nat) : (((List QSym) × (List Int)) → Option Str) := lpR formula_ShowTerms_R_base formula_ShowTerms_R_step k

def formula_ShowTerms (a0 : (List QSym)) (a1 : (List Int)) : Option Str := (formula_ShowTerms_R fuel) (a0, a1)
-- formula.ShowAtom
def formula_ShowAtom (a0 : (List QSym)) (a1 : (List Int)) : Option Str :=
  (gx a1 0).bind fun e16 =>
  cond (e16 == 0)
  ((slc2 a1 (some 1) none).bind fun y17 =>
    (term_Pieces a0 y17).bind fun r18 =>
    (inR 0 (List.length r18)).bind fun k19 =>
    (r18[k19]?).bind fun x20 =>
    (formula_ShowTerms a0 x20).bind fun r21 =>
    cond (decide ((List.length r21 + List.length ([32, 61, 32] : Str) : Nat) < 4611686018427387904))
    ((inR 1 (List.length r18)).bind fun k22 =>
      (r18[k22]?).bind fun x23 =>
      (formula_ShowTerms a0 x23).bind fun r24 =>
      cond (decide ((List.length (r21 ++ ([32, 61, 32] : Str)) + List.length r24 : Nat) < 4611686018427387904))
      (some ((r21 ++ ([32, 61, 32] : Str)) ++ r24))
      (none))
    (none))
  (cond (((List.length a1 : Nat) : Int) == 1)
    ((gx a1 0).bind fun e25 =>
      (gx a0 e25).bind fun e26 =>
      some e26.1)
    ((gx a1 0).bind fun e27 =>
      (gx a0 e27).bind fun e28 =>
      cond (decide ((List.length e28.1 + List.length ([40] : Str) : Nat) < 4611686018427387904))
      ((slc2 a1 (some 1) none).bind fun y29 =>
        (formula_ShowTerms a0 y29).bind fun r30 =>
        cond (decide ((List.length (e28.1 ++ ([40] : Str)) + List.length r30 : Nat) < 4611686018427387904))
        (cond (decide ((List.length ((e28.1 ++ ([40] : Str)) ++ r30) + List.length ([41] : Str) : Nat) < 4611686018427387904))
          (some (((e28.1 ++ ([40] : Str)) ++ r30) ++ ([41] : Str)))
          (none))
        (none))
      (none)))

-- ask.Show
def ask_Show_L1 (rec : ((List QSym) × (List Str) × (List QLit) × Int × Int × (List Str)) → Option (List Str)) (x : ((List QSym) × (List Str) × (List QLit) × Int × Int × (List Str))) : Option (List Str) :=
  cond (decide (x.2.2.2.2.1 < x.2.2.2.1))
  ((gx x.2.2.1 x.2.2.2.2.1).bind fun e13 =>
    (formula_ShowAtom x.1 e13.2).bind fun r14 =>
    cond e13.1
    (cond (decide ((List.length ([126] : Str) + List.length r14 : Nat) < 4611686018427387904))
      (cond (room (List.length x.2.2.2.2.2 + List.length ([(([126] : Str) ++ r14)] : List Str)) 16)
        (rec (x.1, x.2.1, x.2.2.1, x.2.2.2.1, (IntKind.wrap .i64 (x.2.2.2.2.1 + 1)), (x.2.2.2.2.2 ++ ([(([126] : Str) ++ r14)] : List Str))))
        (none))
      (none))
    (cond (room (List.length x.2.2.2.2.2 + List.length ([r14] : List Str)) 16)
      (rec (x.1, x.2.1, x.2.2.1, x.2.2.2.1, (IntKind.wrap .i64 (x.2.2.2.2.1 + 1)), (x.2.2.2.2.2 ++ ([r14] : List Str))))
      (none)))
  (some x.2.2.2.2.2)

def ask_Show_L0 (rec : ((List QSym) × (List (List Int)) × Int × Int × (List QLit) × (List (List Int)) × (List QLit) × (List Str)) → Option (List Str)) (x : ((List QSym) × (List (List Int)) × Int × Int × (List QLit) × (List (List Int)) × (List QLit) × (List Str))) : Option (List Str) :=
  cond (decide (x.2.2.2.1 < x.2.2.1))
  ((gx x.2.1 x.2.2.2.1).bind fun e6 =>
    (formula_ShowTerms x.1 e6).bind fun r7 =>
    cond (decide ((List.length ([40] : Str) + List.length r7 : Nat) < 4611686018427387904))
    (cond (decide ((List.length (([40] : Str) ++ r7) + List.length ([41] : Str) : Nat) < 4611686018427387904))
      (cond (room (List.length x.2.2.2.2.2.2.2 + List.length ([((([40] : Str) ++ r7) ++ ([41] : Str))] : List Str)) 16)
        (rec (x.1, x.2.1, x.2.2.1, (IntKind.wrap .i64 (x.2.2.2.1 + 1)), x.2.2.2.2.1, x.2.2.2.2.2.1, x.2.2.2.2.2.2.1, (x.2.2.2.2.2.2.2 ++ ([((([40] : Str) ++ r7) ++ ([41] : Str))] : List Str))))
        (none))
      (none))
    (none))
  (some x.2.2.2.2.2.2.2)

def ask_Show (a0 : (List QSym)) (a1 : (List QLit)) (a2 : (List (List Int))) (a3 : (List QLit)) : Option (Str × Int) :=
  (clause_May a0 a1 a2 a3).bind fun r18 =>
  cond (!r18)
  (some (([] : Str), 2400))
  (cond (decide (((List.length a1 : Nat) : Int) > 0))
    (some (([] : Str), 2400))
    (cond (((List.length a2 : Nat) : Int) == 0)
      (some (([] : Str), 2400))
      (((lp ask_Show_L0 fuel) (a0, a2, ((List.length a2 : Nat) : Int), 0, a1, a2, a3, ([] : (List Str)))).bind fun r19 =>
        ((lp ask_Show_L1 fuel) (a0, r19, a3, ((List.length a3 : Nat) : Int), 0, ([] : (List Str)))).bind fun r20 =>
        (strings_Join r19 ([32, 111, 114, 32] : Str)).bind fun r21 =>
        cond (decide (((List.length r20 : Nat) : Int) > 0))
        ((strings_Join r20 ([32, 38, 32] : Str)).bind fun r22 =>
          cond (decide ((List.length ([32, 105, 102, 32] : Str) + List.length r22 : Nat) < 4611686018427387904))
          (cond (decide ((List.length r21 + List.length (([32, 105, 102, 32] : Str) ++ r22) : Nat) < 4611686018427387904))
            (some ((r21 ++ (([32, 105, 102, 32] : Str) ++ r22)), 0))
            (none))
          (none))
        (some (r21, 0)))))

-- ask.own$1
def ask_own_c1 (a0 : Int) (a1 : (List QSym)) : Option Bool :=
  cond (decide (a0 ≥ 0))
  ((gx a1 a0).bind fun e2 =>
    some (e2.2.1 == 2))
  (some false)

-- slices.IndexFunc[[]int,int]
def slices_IndexFunc_3_L0 (rec : ((List Int) × Int × Int × (List QSym)) → Option (Unit ⊕ Int)) (x : ((List Int) × Int × Int × (List QSym))) : Option (Unit ⊕ Int) :=
  cond (decide (x.2.2.1 < x.2.1))
  ((gx x.1 x.2.2.1).bind fun e3 =>
    (ask_own_c1 e3 x.2.2.2).bind fun r4 =>
    cond r4
    (some (Sum.inr x.2.2.1))
    (rec (x.1, x.2.1, (IntKind.wrap .i64 (x.2.2.1 + 1)), x.2.2.2)))
  (some (Sum.inl ()))

def slices_IndexFunc_3 (a0 : (List Int)) (a1 : (List QSym)) : Option Int :=
  ((lp slices_IndexFunc_3_L0 fuel) (a0, ((List.length a0 : Nat) : Int), 0, a1)).bind fun r8 =>
  caseS r8
  (fun z9 => some (-1))
  (fun z10 => some z10)

-- slices.ContainsFunc[[]int,int]
def slices_ContainsFunc_3 (a0 : (List Int)) (a1 : (List QSym)) : Option Bool :=
  (slices_IndexFunc_3 a0 a1).bind fun r2 =>
  some (decide (r2 ≥ 0))

-- ask.own
def ask_own (a0 : (List QSym)) (a1 : (List Int)) : Option Bool :=
  (slices_ContainsFunc_3 a1 a0).bind fun r2 =>
  some r2

-- ask.Fine$1
def ask_Fine_c1 (a0 : (List Int)) (a1 : (List QSym)) : Option Bool :=
  (ask_own a1 a0).bind fun r2 =>
  some r2

-- slices.IndexFunc[[][]int,[]int]
def slices_IndexFunc_2_L0 (rec : ((List (List Int)) × Int × Int × (List QSym)) → Option (Unit ⊕ Int)) (x : ((List (List Int)) × Int × Int × (List QSym))) : Option (Unit ⊕ Int) :=
  cond (decide (x.2.2.1 < x.2.1))
  ((gx x.1 x.2.2.1).bind fun e3 =>
    (ask_Fine_c1 e3 x.2.2.2).bind fun r4 =>
    cond r4
    (some (Sum.inr x.2.2.1))
    (rec (x.1, x.2.1, (IntKind.wrap .i64 (x.2.2.1 + 1)), x.2.2.2)))
  (some (Sum.inl ()))

def slices_IndexFunc_2 (a0 : (List (List Int))) (a1 : (List QSym)) : Option Int :=
  ((lp slices_IndexFunc_2_L0 fuel) (a0, ((List.length a0 : Nat) : Int), 0, a1)).bind fun r8 =>
  caseS r8
  (fun z9 => some (-1))
  (fun z10 => some z10)

-- slices.ContainsFunc[[][]int,[]int]
def slices_ContainsFunc_2 (a0 : (List (List Int))) (a1 : (List QSym)) : Option Bool :=
  (slices_IndexFunc_2 a0 a1).bind fun r2 =>
  some (decide (r2 ≥ 0))

-- ask.Fine$2
def ask_Fine_c2 (a0 : Bool) (a1 : (List Int)) (a2 : (List QSym)) : Option Bool :=
  (ask_Fine_c1 a1 a2).bind fun r2 =>
  some r2

-- slices.IndexFunc[[]api.Lit,api.Lit]
def slices_IndexFunc_4_L0 (rec : ((List QLit) × Int × Int × (List QSym)) → Option (Unit ⊕ Int)) (x : ((List QLit) × Int × Int × (List QSym))) : Option (Unit ⊕ Int) :=
  cond (decide (x.2.2.1 < x.2.1))
  ((gx x.1 x.2.2.1).bind fun e3 =>
    (ask_Fine_c2 e3.1 e3.2 x.2.2.2).bind fun r4 =>
    cond r4
    (some (Sum.inr x.2.2.1))
    (rec (x.1, x.2.1, (IntKind.wrap .i64 (x.2.2.1 + 1)), x.2.2.2)))
  (some (Sum.inl ()))

def slices_IndexFunc_4 (a0 : (List QLit)) (a1 : (List QSym)) : Option Int :=
  ((lp slices_IndexFunc_4_L0 fuel) (a0, ((List.length a0 : Nat) : Int), 0, a1)).bind fun r8 =>
  caseS r8
  (fun z9 => some (-1))
  (fun z10 => some z10)

-- slices.ContainsFunc[[]api.Lit,api.Lit]
def slices_ContainsFunc_4 (a0 : (List QLit)) (a1 : (List QSym)) : Option Bool :=
  (slices_IndexFunc_4 a0 a1).bind fun r2 =>
  some (decide (r2 ≥ 0))

-- ask.Fine
def ask_Fine (a0 : (List QSym)) (a1 : (List QLit)) (a2 : (List (List Int))) (a3 : (List QLit)) : Option (Bool × Int) :=
  (clause_May a0 a1 a2 a3).bind fun r4 =>
  cond (!r4)
  (some (false, 2400))
  ((slices_ContainsFunc_2 a2 a0).bind fun r5 =>
    cond (!r5)
    ((slices_ContainsFunc_4 a3 a0).bind fun r6 =>
      some ((!r6), 0))
    (some (false, 0)))

-- quaerelaw0.Num
def law0_Num (a0 : Int) : Option Int :=
  some a0

-- quaerelaw0.SameInts
def law0_SameInts_L0 (rec : ((List Int) × (List Int) × Int) → Option (Unit ⊕ Bool)) (x : ((List Int) × (List Int) × Int)) : Option (Unit ⊕ Bool) :=
  cond (decide (x.2.2 < ((List.length x.1 : Nat) : Int)))
  ((gx x.1 x.2.2).bind fun e3 =>
    (gx x.2.1 x.2.2).bind fun e4 =>
    cond (e3 != e4)
    (some (Sum.inr false))
    (rec (x.1, x.2.1, (IntKind.wrap .i64 (x.2.2 + 1)))))
  (some (Sum.inl ()))

def law0_SameInts (a0 : (List Int)) (a1 : (List Int)) : Option Bool :=
  cond (((List.length a0 : Nat) : Int) != ((List.length a1 : Nat) : Int))
  (some false)
  (((lp law0_SameInts_L0 fuel) (a0, a1, 0)).bind fun r8 =>
    caseS r8
    (fun z9 => some true)
    (fun z10 => some z10))

-- quaerelaw0.SameLits
def law0_SameLits_L0 (rec : ((List QLit) × (List QLit) × Int) → Option (Unit ⊕ Bool)) (x : ((List QLit) × (List QLit) × Int)) : Option (Unit ⊕ Bool) :=
  cond (decide (x.2.2 < ((List.length x.1 : Nat) : Int)))
  ((gx x.1 x.2.2).bind fun e6 =>
    (gx x.2.1 x.2.2).bind fun e7 =>
    cond (!(e6.1 == e7.1))
    (some (Sum.inr false))
    ((gx x.1 x.2.2).bind fun e8 =>
      (gx x.2.1 x.2.2).bind fun e9 =>
      (law0_SameInts e8.2 e9.2).bind fun r10 =>
      cond (!r10)
      (some (Sum.inr false))
      (rec (x.1, x.2.1, (IntKind.wrap .i64 (x.2.2 + 1))))))
  (some (Sum.inl ()))

def law0_SameLits (a0 : (List QLit)) (a1 : (List QLit)) : Option Bool :=
  cond (((List.length a0 : Nat) : Int) != ((List.length a1 : Nat) : Int))
  (some false)
  (((lp law0_SameLits_L0 fuel) (a0, a1, 0)).bind fun r14 =>
    caseS r14
    (fun z15 => some true)
    (fun z16 => some z16))

-- quaerelaw0.SameRows
def law0_SameRows_L0 (rec : ((List (List Int)) × (List (List Int)) × Int) → Option (Unit ⊕ Bool)) (x : ((List (List Int)) × (List (List Int)) × Int)) : Option (Unit ⊕ Bool) :=
  cond (decide (x.2.2 < ((List.length x.1 : Nat) : Int)))
  ((gx x.1 x.2.2).bind fun e4 =>
    (gx x.2.1 x.2.2).bind fun e5 =>
    (law0_SameInts e4 e5).bind fun r6 =>
    cond (!r6)
    (some (Sum.inr false))
    (rec (x.1, x.2.1, (IntKind.wrap .i64 (x.2.2 + 1)))))
  (some (Sum.inl ()))

def law0_SameRows (a0 : (List (List Int))) (a1 : (List (List Int))) : Option Bool :=
  cond (((List.length a0 : Nat) : Int) != ((List.length a1 : Nat) : Int))
  (some false)
  (((lp law0_SameRows_L0 fuel) (a0, a1, 0)).bind fun r10 =>
    caseS r10
    (fun z11 => some true)
    (fun z12 => some z12))

-- quaerelaw0.SameClause
def law0_SameClause (a0 : (List QLit)) (a1 : (List (List Int))) (a2 : (List QLit)) (a3 : (List QLit)) (a4 : (List (List Int))) (a5 : (List QLit)) : Option Bool :=
  (law0_SameLits a0 a3).bind fun r4 =>
  cond r4
  ((law0_SameRows a1 a4).bind fun r5 =>
    cond r5
    ((law0_SameLits a2 a5).bind fun r6 =>
      some r6)
    (some false))
  (some false)

-- quaerelaw24.awake
def law24_awake : Option Bool :=
  (law24_words).bind fun r17 =>
  (ask_Goal r17 ([2] : List Int) ([(false, ([6, (-3), (-1)] : List Int))] : List QLit)).bind fun r18 =>
  (law24_words).bind fun r19 =>
  (ask_Show r19 ([] : (List QLit)) ([([1, 3, (-1)] : List Int), ([2, 2] : List Int)] : List (List Int)) ([(true, ([0, (-1), 1] : List Int)), (false, ([5, 1] : List Int))] : List QLit)).bind fun r20 =>
  (law24_words).bind fun r21 =>
  (ask_Fine r21 r18.1 r18.2.1 r18.2.2.2).bind fun r22 =>
  (law24_words).bind fun r23 =>
  (ask_Goal r23 ([1, 1] : List Int) ([(false, ([5, 1] : List Int))] : List QLit)).bind fun r24 =>
  (law24_words).bind fun r25 =>
  (ask_Show r25 r18.1 r18.2.1 r18.2.2.2).bind fun r26 =>
  (law0_Num r18.2.2.1).bind fun r27 =>
  cond (r27 == 0)
  ((law0_SameClause r18.1 r18.2.1 r18.2.2.2 ([(true, ([6, (-1), (-2)] : List Int))] : List QLit) ([([(-1)] : List Int)] : List (List Int)) ([] : (List QLit))).bind fun r28 =>
    cond r28
    (cond (r20.1 == ([40, 97, 44, 32, 102, 40, 88, 48, 41, 41, 32, 111, 114, 32, 40, 98, 44, 32, 98, 41, 32, 105, 102, 32, 126, 88, 48, 32, 61, 32, 97, 32, 38, 32, 112, 40, 97, 41] : Str))
      ((law0_Num r20.2).bind fun r29 =>
        cond (r29 == 0)
        (cond r22.1
          ((law0_Num r22.2).bind fun r30 =>
            cond (r30 == 0)
            ((law0_Num r24.2.2.1).bind fun r31 =>
              cond (r31 == 2400)
              ((law0_Num r26.2).bind fun r32 =>
                some (r32 == 2400))
              (some false))
            (some false))
          (some false))
        (some false))
      (some false))
    (some false))
  (some false)

-- quaerelaw24.TellParts
def law24_TellParts_L0 (rec : ((List QSym) × Str × Int × Str × Int × (List QLit) × (List (List Int)) × (List QLit)) → Option (Str ⊕ Bool)) (x : ((List QSym) × Str × Int × Str × Int × (List QLit) × (List (List Int)) × (List QLit))) : Option (Str ⊕ Bool) :=
  cond (decide (x.2.2.2.2.1 < ((List.length x.2.2.2.2.2.2.1 : Nat) : Int)))
  ((gx x.2.2.2.2.2.2.1 x.2.2.2.2.1).bind fun e7 =>
    (ask_Show x.1 ([] : (List QLit)) ([e7] : List (List Int)) ([] : (List QLit))).bind fun r8 =>
    (law0_Num r8.2).bind fun r9 =>
    cond (r9 != 0)
    (some (Sum.inr false))
    (cond (decide (x.2.2.2.2.1 > 0))
      (cond (decide ((List.length x.2.2.2.1 + List.length ([32, 111, 114, 32] : Str) : Nat) < 4611686018427387904))
        (cond (decide ((List.length (x.2.2.2.1 ++ ([32, 111, 114, 32] : Str)) + List.length r8.1 : Nat) < 4611686018427387904))
          (rec (x.1, x.2.1, x.2.2.1, ((x.2.2.2.1 ++ ([32, 111, 114, 32] : Str)) ++ r8.1), (IntKind.wrap .i64 (x.2.2.2.2.1 + 1)), x.2.2.2.2.2.1, x.2.2.2.2.2.2.1, x.2.2.2.2.2.2.2))
          (none))
        (none))
      (cond (decide ((List.length x.2.2.2.1 + List.length r8.1 : Nat) < 4611686018427387904))
        (rec (x.1, x.2.1, x.2.2.1, (x.2.2.2.1 ++ r8.1), (IntKind.wrap .i64 (x.2.2.2.2.1 + 1)), x.2.2.2.2.2.1, x.2.2.2.2.2.2.1, x.2.2.2.2.2.2.2))
        (none))))
  (some (Sum.inl x.2.2.2.1))

def law24_TellParts (a0 : (List QSym)) (a1 : (List QLit)) (a2 : (List (List Int))) (a3 : (List QLit)) : Option Bool :=
  (law24_awake).bind fun r14 =>
  cond (!r14)
  (some false)
  ((clause_May a0 a1 a2 a3).bind fun r15 =>
    cond (!r15)
    (some true)
    (cond (((List.length a2 : Nat) : Int) == 0)
      (some true)
      ((ask_Show a0 ([] : (List QLit)) a2 ([] : (List QLit))).bind fun r16 =>
        ((lp law24_TellParts_L0 fuel) (a0, r16.1, r16.2, ([] : Str), 0, a1, a2, a3)).bind fun r17 =>
        caseS r17
        (fun z18 => (law0_Num r16.2).bind fun r19 =>
          cond (r19 == 0)
          (some (r16.1 == z18))
          (some false))
        (fun z20 => some z20))))

-- quaerelaw24.TellFirst
def law24_TellFirst_L1 (rec : (Str × Int × Int × Int × Int × (List QLit) × (List (List Int)) × (List QLit)) → Option (Int × Int × Int)) (x : (Str × Int × Int × Int × Int × (List QLit) × (List (List Int)) × (List QLit))) : Option (Int × Int × Int) :=
  cond (decide ((IntKind.wrap .i64 (x.2.2.2.2.1 + 4)) ≤ ((List.length x.1 : Nat) : Int)))
  ((slc2 x.1 (some x.2.2.2.2.1) (some (IntKind.wrap .i64 (x.2.2.2.2.1 + 4)))).bind fun y18 =>
    cond (y18 == ([32, 111, 114, 32] : Str))
    ((slc2 x.1 (some x.2.2.2.2.1) (some (IntKind.wrap .i64 (x.2.2.2.2.1 + 4)))).bind fun y19 =>
      cond (y19 == ([32, 105, 102, 32] : Str))
      ((slc2 x.1 (some x.2.2.2.2.1) (some (IntKind.wrap .i64 (x.2.2.2.2.1 + 3)))).bind fun y20 =>
        cond (y20 == ([32, 38, 32] : Str))
        (rec (x.1, (IntKind.wrap .i64 (x.2.1 + 1)), (IntKind.wrap .i64 (x.2.2.1 + 1)), (IntKind.wrap .i64 (x.2.2.2.1 + 1)), (IntKind.wrap .i64 (x.2.2.2.2.1 + 1)), x.2.2.2.2.2.1, x.2.2.2.2.2.2.1, x.2.2.2.2.2.2.2))
        (rec (x.1, (IntKind.wrap .i64 (x.2.1 + 1)), (IntKind.wrap .i64 (x.2.2.1 + 1)), x.2.2.2.1, (IntKind.wrap .i64 (x.2.2.2.2.1 + 1)), x.2.2.2.2.2.1, x.2.2.2.2.2.2.1, x.2.2.2.2.2.2.2)))
      ((slc2 x.1 (some x.2.2.2.2.1) (some (IntKind.wrap .i64 (x.2.2.2.2.1 + 3)))).bind fun y21 =>
        cond (y21 == ([32, 38, 32] : Str))
        (rec (x.1, (IntKind.wrap .i64 (x.2.1 + 1)), x.2.2.1, (IntKind.wrap .i64 (x.2.2.2.1 + 1)), (IntKind.wrap .i64 (x.2.2.2.2.1 + 1)), x.2.2.2.2.2.1, x.2.2.2.2.2.2.1, x.2.2.2.2.2.2.2))
        (rec (x.1, (IntKind.wrap .i64 (x.2.1 + 1)), x.2.2.1, x.2.2.2.1, (IntKind.wrap .i64 (x.2.2.2.2.1 + 1)), x.2.2.2.2.2.1, x.2.2.2.2.2.2.1, x.2.2.2.2.2.2.2))))
    ((slc2 x.1 (some x.2.2.2.2.1) (some (IntKind.wrap .i64 (x.2.2.2.2.1 + 4)))).bind fun y22 =>
      cond (y22 == ([32, 105, 102, 32] : Str))
      ((slc2 x.1 (some x.2.2.2.2.1) (some (IntKind.wrap .i64 (x.2.2.2.2.1 + 3)))).bind fun y23 =>
        cond (y23 == ([32, 38, 32] : Str))
        (rec (x.1, x.2.1, (IntKind.wrap .i64 (x.2.2.1 + 1)), (IntKind.wrap .i64 (x.2.2.2.1 + 1)), (IntKind.wrap .i64 (x.2.2.2.2.1 + 1)), x.2.2.2.2.2.1, x.2.2.2.2.2.2.1, x.2.2.2.2.2.2.2))
        (rec (x.1, x.2.1, (IntKind.wrap .i64 (x.2.2.1 + 1)), x.2.2.2.1, (IntKind.wrap .i64 (x.2.2.2.2.1 + 1)), x.2.2.2.2.2.1, x.2.2.2.2.2.2.1, x.2.2.2.2.2.2.2)))
      ((slc2 x.1 (some x.2.2.2.2.1) (some (IntKind.wrap .i64 (x.2.2.2.2.1 + 3)))).bind fun y24 =>
        cond (y24 == ([32, 38, 32] : Str))
        (rec (x.1, x.2.1, x.2.2.1, (IntKind.wrap .i64 (x.2.2.2.1 + 1)), (IntKind.wrap .i64 (x.2.2.2.2.1 + 1)), x.2.2.2.2.2.1, x.2.2.2.2.2.2.1, x.2.2.2.2.2.2.2))
        (rec (x.1, x.2.1, x.2.2.1, x.2.2.2.1, (IntKind.wrap .i64 (x.2.2.2.2.1 + 1)), x.2.2.2.2.2.1, x.2.2.2.2.2.2.1, x.2.2.2.2.2.2.2)))))
  (some (x.2.1, x.2.2.1, x.2.2.2.1))

def law24_TellFirst_L0 (rec : ((List QSym) × Str × Int × (List QLit) × (List (List Int)) × (List QLit)) → Option (Unit ⊕ Bool)) (x : ((List QSym) × Str × Int × (List QLit) × (List (List Int)) × (List QLit))) : Option (Unit ⊕ Bool) :=
  cond (decide (x.2.2.1 < ((List.length x.1 : Nat) : Int)))
  ((gx x.1 x.2.2.1).bind fun e7 =>
    cond (e7.1 == ([111, 114] : Str))
    (some (Sum.inr true))
    ((gx x.1 x.2.2.1).bind fun e8 =>
      cond (e8.1 == ([105, 102] : Str))
      (some (Sum.inr true))
      (rec (x.1, x.2.1, (IntKind.wrap .i64 (x.2.2.1 + 1)), x.2.2.2.1, x.2.2.2.2.1, x.2.2.2.2.2))))
  (some (Sum.inl ()))

def law24_TellFirst (a0 : (List QSym)) (a1 : (List QLit)) (a2 : (List (List Int))) (a3 : (List QLit)) : Option Bool :=
  (law24_awake).bind fun r29 =>
  cond (!r29)
  (some false)
  ((ask_Show a0 a1 a2 a3).bind fun r30 =>
    (law0_Num r30.2).bind fun r31 =>
    cond (r31 != 0)
    (cond (r30.1 == ([] : Str))
      ((clause_May a0 a1 a2 a3).bind fun r32 =>
        cond (!r32)
        (some true)
        (cond (decide (((List.length a1 : Nat) : Int) > 0))
          (some true)
          (some (((List.length a2 : Nat) : Int) == 0))))
      (some false))
    (((lp law24_TellFirst_L0 fuel) (a0, r30.1, 0, a1, a2, a3)).bind fun r33 =>
      caseS r33
      (fun z34 => ((lp law24_TellFirst_L1 fuel) (r30.1, 0, 0, 0, 0, a1, a2, a3)).bind fun r35 =>
        cond (decide (((List.length r30.1 : Nat) : Int) < 2))
        (some false)
        ((gx r30.1 0).bind fun c36 =>
          cond (((UInt8.toNat c36 : Nat) : Int) != 40)
          (some false)
          (cond (r35.1 != (IntKind.wrap .i64 (((List.length a2 : Nat) : Int) - 1)))
            (some false)
            (cond (((List.length a3 : Nat) : Int) == 0)
              (cond (r35.2.1 == 0)
                (cond (r35.2.2 == 0)
                  ((gx r30.1 (IntKind.wrap .i64 (((List.length r30.1 : Nat) : Int) - 1))).bind fun c37 =>
                    some (((UInt8.toNat c37 : Nat) : Int) == 41))
                  (some false))
                (some false))
              (cond (r35.2.1 == 1)
                (some (r35.2.2 == (IntKind.wrap .i64 (((List.length a3 : Nat) : Int) - 1))))
                (some false))))))
      (fun z38 => some z38)))

end Go.Abs.Q
/-
  What the functions make of plain values.
-/
namespace Go.Abs.Q
open Go Go.Abs

-- formula.SigMay$1
def formula_SigMay_c1 (a0 : Str) (a1 : Int) (a2 : Int) (a3 : Int) : Option Bool :=
  cond (a0 == ([97, 108, 108] : Str))
  (some true)
  (some (a0 == ([101, 120] : Str)))

-- slices.IndexFunc[[]api.Sym,api.Sym]
def slices_IndexFunc_5_L0 (rec : ((List QSym) × Int × Int) → Option (Unit ⊕ Int)) (x : ((List QSym) × Int × Int)) : Option (Unit ⊕ Int) :=
  cond (decide (x.2.2 < x.2.1))
  ((gx x.1 x.2.2).bind fun e3 =>
    (formula_SigMay_c1 e3.1 e3.2.1 e3.2.2.1 e3.2.2.2).bind fun r4 =>
    cond r4
    (some (Sum.inr x.2.2))
    (rec (x.1, x.2.1, (IntKind.wrap .i64 (x.2.2 + 1)))))
  (some (Sum.inl ()))

def slices_IndexFunc_5 (a0 : (List QSym)) : Option Int :=
  ((lp slices_IndexFunc_5_L0 fuel) (a0, ((List.length a0 : Nat) : Int), 0)).bind fun r8 =>
  caseS r8
  (fun z9 => some (-1))
  (fun z10 => some z10)

-- slices.ContainsFunc[[]api.Sym,api.Sym]
def slices_ContainsFunc_5 (a0 : (List QSym)) : Option Bool :=
  (slices_IndexFunc_5 a0).bind fun r2 =>
  some (decide (r2 ≥ 0))

-- formula.SigMay
def formula_SigMay (a0 : (List QSym)) : Option Bool :=
  (sign_May a0).bind fun r3 =>
  cond r3
  ((slices_ContainsFunc_5 a0).bind fun r4 =>
    some (!r4))
  (some false)

-- formula.parts
def formula_parts (a0 : Int) : Option Int :=
  cond (a0 == 0)
  (some 0)
  (cond (a0 == 1)
    (cond (a0 == 1)
      (some 1)
      (cond (a0 == 2)
        (cond (a0 == 2)
          (some 2)
          (some (-1)))
        (cond (a0 == 3)
          (cond (a0 == 3)
            (some 2)
            (some (-1)))
          (cond (a0 == 4)
            (some 2)
            (some (-1))))))
    (cond (a0 == 5)
      (cond (a0 == 5)
        (some 1)
        (cond (a0 == 2)
          (cond (a0 == 2)
            (some 2)
            (some (-1)))
          (cond (a0 == 3)
            (cond (a0 == 3)
              (some 2)
              (some (-1)))
            (cond (a0 == 4)
              (some 2)
              (some (-1))))))
      (cond (a0 == 6)
        (some 1)
        (cond (a0 == 2)
          (cond (a0 == 2)
            (some 2)
            (some (-1)))
          (cond (a0 == 3)
            (cond (a0 == 3)
              (some 2)
              (some (-1)))
            (cond (a0 == 4)
              (some 2)
              (some (-1))))))))

-- formula.nodeMay
def formula_nodeMay (a0 : (List QSym)) (a1 : Int) (a2 : Int) (a3 : (List Int)) : Option Bool :=
  cond (a1 == 0)
  (cond (a2 == 0)
    ((term_IsAtom a0 a3).bind fun r2 =>
      some r2)
    (some false))
  (cond (a1 == 5)
    (cond (a1 == 5)
      (cond (decide (a2 ≥ 0))
        (cond (decide (a2 ≤ 23))
          (some (((List.length a3 : Nat) : Int) == 0))
          (some false))
        (some false))
      (cond (a2 == 0)
        (some (((List.length a3 : Nat) : Int) == 0))
        (some false)))
    (cond (a1 == 6)
      (cond (decide (a2 ≥ 0))
        (cond (decide (a2 ≤ 23))
          (some (((List.length a3 : Nat) : Int) == 0))
          (some false))
        (some false))
      (cond (a2 == 0)
        (some (((List.length a3 : Nat) : Int) == 0))
        (some false))))

-- formula.May
def formula_May_L0 (rec : ((List QSym) × Int × (List (Int × Int × (List Int))) × Int × Int) → Option (Int ⊕ Bool)) (x : ((List QSym) × Int × (List (Int × Int × (List Int))) × Int × Int)) : Option (Int ⊕ Bool) :=
  cond (decide (x.2.2.2.2 < x.2.2.2.1))
  ((gx x.2.2.1 x.2.2.2.2).bind fun e5 =>
    (formula_parts e5.1).bind fun r6 =>
    cond (x.2.1 == 0)
    (some (Sum.inr false))
    (cond (decide (r6 < 0))
      (some (Sum.inr false))
      ((formula_nodeMay x.1 e5.1 e5.2.1 e5.2.2).bind fun r7 =>
        cond (!r7)
        (some (Sum.inr false))
        (rec (x.1, (IntKind.wrap .i64 (x.2.1 + (IntKind.wrap .i64 (r6 - 1)))), x.2.2.1, x.2.2.2.1, (IntKind.wrap .i64 (x.2.2.2.2 + 1)))))))
  (some (Sum.inl x.2.1))

def formula_May (a0 : (List QSym)) (a1 : (List (Int × Int × (List Int)))) : Option Bool :=
  (formula_SigMay a0).bind fun r11 =>
  cond (!r11)
  (some false)
  (cond (((List.length a1 : Nat) : Int) == 0)
    (some false)
    (cond (decide (((List.length a1 : Nat) : Int) > 40))
      (some false)
      (((lp formula_May_L0 fuel) (a0, 1, a1, ((List.length a1 : Nat) : Int), 0)).bind fun r12 =>
        caseS r12
        (fun z13 => some (z13 == 0))
        (fun z14 => some z14))))

-- formula.show
def formula_show_S (rf : (((List QSym) × (List (Int × Int × (List Int)))) → Option (Str × (List (Int × Int × (List Int)))))) (a0 : (List QSym)) (a1 : (List (Int × Int × (List Int)))) : Option (Str × (List (Int × Int × (List Int)))) :=
  (gx a1 0).bind fun e21 =>
  (slc2 a1 (some 1) none).bind fun y22 =>
  cond (e21.1 == 0)
  ((formula_ShowAtom a0 e21.2.2).bind fun r23 =>
    some (r23, y22))
  (cond (e21.1 == 1)
    ((rf (a0, y22)).bind fun r24 =>
      cond (decide ((List.length ([126] : Str) + List.length r24.1 : Nat) < 4611686018427387904))
      (some ((([126] : Str) ++ r24.1), r24.2))
      (none))
    (cond (e21.1 == 5)
      (cond (e21.1 == 5)
        ((rf (a0, y22)).bind fun r25 =>
          (inR (IntKind.wrap .i64 (e21.1 - 5)) (List.length ([([97, 108, 108] : Str), ([101, 120] : Str)] : List Str))).bind fun k26 =>
          (([([97, 108, 108] : Str), ([101, 120] : Str)] : List Str)[k26]?).bind fun x27 =>
          cond (decide ((List.length x27 + List.length ([32, 88] : Str) : Nat) < 4611686018427387904))
          ((strconv_Itoa e21.2.1).bind fun r28 =>
            cond (decide ((List.length (x27 ++ ([32, 88] : Str)) + List.length r28 : Nat) < 4611686018427387904))
            (cond (decide ((List.length ((x27 ++ ([32, 88] : Str)) ++ r28) + List.length ([32] : Str) : Nat) < 4611686018427387904))
              (cond (decide ((List.length (((x27 ++ ([32, 88] : Str)) ++ r28) ++ ([32] : Str)) + List.length r25.1 : Nat) < 4611686018427387904))
                (some (((((x27 ++ ([32, 88] : Str)) ++ r28) ++ ([32] : Str)) ++ r25.1), r25.2))
                (none))
              (none))
            (none))
          (none))
        ((rf (a0, y22)).bind fun r29 =>
          (rf (a0, r29.2)).bind fun r30 =>
          cond (decide ((List.length ([40] : Str) + List.length r29.1 : Nat) < 4611686018427387904))
          ((inR (IntKind.wrap .i64 (e21.1 - 2)) (List.length ([([32, 38, 32] : Str), ([32, 124, 32] : Str), ([32, 45, 62, 32] : Str)] : List Str))).bind fun k31 =>
            (([([32, 38, 32] : Str), ([32, 124, 32] : Str), ([32, 45, 62, 32] : Str)] : List Str)[k31]?).bind fun x32 =>
            cond (decide ((List.length (([40] : Str) ++ r29.1) + List.length x32 : Nat) < 4611686018427387904))
            (cond (decide ((List.length ((([40] : Str) ++ r29.1) ++ x32) + List.length r30.1 : Nat) < 4611686018427387904))
              (cond (decide ((List.length (((([40] : Str) ++ r29.1) ++ x32) ++ r30.1) + List.length ([41] : Str) : Nat) < 4611686018427387904))
                (some (((((([40] : Str) ++ r29.1) ++ x32) ++ r30.1) ++ ([41] : Str)), r30.2))
                (none))
              (none))
            (none))
          (none)))
      (cond (e21.1 == 6)
        ((rf (a0, y22)).bind fun r33 =>
          (inR (IntKind.wrap .i64 (e21.1 - 5)) (List.length ([([97, 108, 108] : Str), ([101, 120] : Str)] : List Str))).bind fun k34 =>
          (([([97, 108, 108] : Str), ([101, 120] : Str)] : List Str)[k34]?).bind fun x35 =>
          cond (decide ((List.length x35 + List.length ([32, 88] : Str) : Nat) < 4611686018427387904))
          ((strconv_Itoa e21.2.1).bind fun r36 =>
            cond (decide ((List.length (x35 ++ ([32, 88] : Str)) + List.length r36 : Nat) < 4611686018427387904))
            (cond (decide ((List.length ((x35 ++ ([32, 88] : Str)) ++ r36) + List.length ([32] : Str) : Nat) < 4611686018427387904))
              (cond (decide ((List.length (((x35 ++ ([32, 88] : Str)) ++ r36) ++ ([32] : Str)) + List.length r33.1 : Nat) < 4611686018427387904))
                (some (((((x35 ++ ([32, 88] : Str)) ++ r36) ++ ([32] : Str)) ++ r33.1), r33.2))
                (none))
              (none))
            (none))
          (none))
        ((rf (a0, y22)).bind fun r37 =>
          (rf (a0, r37.2)).bind fun r38 =>
          cond (decide ((List.length ([40] : Str) + List.length r37.1 : Nat) < 4611686018427387904))
          ((inR (IntKind.wrap .i64 (e21.1 - 2)) (List.length ([([32, 38, 32] : Str), ([32, 124, 32] : Str), ([32, 45, 62, 32] : Str)] : List Str))).bind fun k39 =>
            (([([32, 38, 32] : Str), ([32, 124, 32] : Str), ([32, 45, 62, 32] : Str)] : List Str)[k39]?).bind fun x40 =>
            cond (decide ((List.length (([40] : Str) ++ r37.1) + List.length x40 : Nat) < 4611686018427387904))
            (cond (decide ((List.length ((([40] : Str) ++ r37.1) ++ x40) + List.length r38.1 : Nat) < 4611686018427387904))
              (cond (decide ((List.length (((([40] : Str) ++ r37.1) ++ x40) ++ r38.1) + List.length ([41] : Str) : Nat) < 4611686018427387904))
                (some (((((([40] : Str) ++ r37.1) ++ x40) ++ r38.1) ++ ([41] : Str)), r38.2))
                (none))
              (none))
            (none))
          (none)))))

def formula_show_R_step (rf : (((List QSym) × (List (Int × Int × (List Int)))) → Option (Str × (List (Int × Int × (List Int)))))) : (((List QSym) × (List (Int × Int × (List Int)))) → Option (Str × (List (Int × Int × (List Int))))) :=
  fun (x : ((List QSym) × (List (Int × Int × (List Int))))) => formula_show_S rf x.1 x.2

def formula_show_R_base : (((List QSym) × (List (Int × Int × (List Int)))) → Option (Str × (List (Int × Int × (List Int))))) := fun _ => none
def formula_show_R (k : Nat) : (((List QSym) × (List (Int × Int × (List Int)))) → Option (Str × (List (Int × Int × (List Int))))) := lpR formula_show_R_base formula_show_R_step k

def formula_show (a0 : (List QSym)) (a1 : (List (Int × Int × (List Int)))) : Option (Str × (List (Int × Int × (List Int)))) := (formula_show_R fuel) (a0, a1)
-- formula.Show
def formula_Show (a0 : (List QSym)) (a1 : (List (Int × Int × (List Int)))) : Option (Str × Int) :=
  (formula_May a0 a1).bind fun r3 =>
  cond (!r3)
  (some (([] : Str), 2200))
  ((formula_show a0 a1).bind fun r4 =>
    some (r4.1, 0))

-- quaerelaw24.TellAtoms
def law24_TellAtoms (a0 : (List QSym)) (a1 : Bool) (a2 : (List Int)) : Option Bool :=
  (law24_awake).bind fun r10 =>
  cond (!r10)
  (some false)
  (cond a1
    (cond (room (List.length ([(1, 0, ([] : (List Int)))] : List (Int × Int × (List Int)))) 40)
      (cond (room (List.length ([(1, 0, ([] : (List Int)))] : List (Int × Int × (List Int))) + List.length ([(0, 0, a2)] : List (Int × Int × (List Int)))) 40)
        ((formula_Show a0 (([(1, 0, ([] : (List Int)))] : List (Int × Int × (List Int))) ++ ([(0, 0, a2)] : List (Int × Int × (List Int))))).bind fun r11 =>
          (law0_Num r11.2).bind fun r12 =>
          cond (r12 != 0)
          (some (r11.1 == ([] : Str)))
          ((ask_Show a0 ([] : (List QLit)) ([([] : List Int)] : List (List Int)) ([(a1, a2)] : List QLit)).bind fun r13 =>
            (law0_Num r13.2).bind fun r14 =>
            cond (r14 == 0)
            (cond (decide ((List.length ([40, 41, 32, 105, 102, 32] : Str) + List.length r11.1 : Nat) < 4611686018427387904))
              (some (r13.1 == (([40, 41, 32, 105, 102, 32] : Str) ++ r11.1)))
              (none))
            (some false)))
        (none))
      (none))
    (cond (room (List.length ([(0, 0, a2)] : List (Int × Int × (List Int)))) 40)
      ((formula_Show a0 ([(0, 0, a2)] : List (Int × Int × (List Int)))).bind fun r15 =>
        (law0_Num r15.2).bind fun r16 =>
        cond (r16 != 0)
        (some (r15.1 == ([] : Str)))
        ((ask_Show a0 ([] : (List QLit)) ([([] : List Int)] : List (List Int)) ([(a1, a2)] : List QLit)).bind fun r17 =>
          (law0_Num r17.2).bind fun r18 =>
          cond (r18 == 0)
          (cond (decide ((List.length ([40, 41, 32, 105, 102, 32] : Str) + List.length r15.1 : Nat) < 4611686018427387904))
            (some (r17.1 == (([40, 41, 32, 105, 102, 32] : Str) ++ r15.1)))
            (none))
          (some false)))
      (none)))

end Go.Abs.Q
/-
  What the functions make of plain values.
-/
namespace Go.Abs.Q
open Go Go.Abs

-- quaerelaw22.words
def law22_words : Option (List QSym) :=
  some ([(([61] : Str), 0, 2, 1), (([97] : Str), 1, 0, 1), (([98] : Str), 1, 0, 2), (([102] : Str), 1, 1, 1), (([103] : Str), 1, 2, 3), (([112] : Str), 0, 1, 1), (([114] : Str), 0, 2, 2)] : List QSym)

-- lex.small
def lex_small (a0 : Int) : Option Bool :=
  cond (decide (a0 ≥ 97))
  (some (decide (a0 ≤ 122)))
  (some false)

-- lex.digit
def lex_digit (a0 : Int) : Option Bool :=
  cond (decide (a0 ≥ 48))
  (some (decide (a0 ≤ 57)))
  (some false)

-- lex.run
def lex_run_L0 (rec : (Str × Int × Bool) → Option Int) (x : (Str × Int × Bool)) : Option Int :=
  cond (decide (x.2.1 < ((List.length x.1 : Nat) : Int)))
  ((gx x.1 x.2.1).bind fun c5 =>
    (lex_digit ((UInt8.toNat c5 : Nat) : Int)).bind fun r6 =>
    cond r6
    (rec (x.1, (IntKind.wrap .i64 (x.2.1 + 1)), x.2.2))
    (cond x.2.2
      ((gx x.1 x.2.1).bind fun c7 =>
        (lex_small ((UInt8.toNat c7 : Nat) : Int)).bind fun r8 =>
        cond r8
        (rec (x.1, (IntKind.wrap .i64 (x.2.1 + 1)), x.2.2))
        (some x.2.1))
      (some x.2.1)))
  (some x.2.1)

def lex_run (a0 : Str) (a1 : Int) (a2 : Bool) : Option Int :=
  ((lp lex_run_L0 fuel) (a0, a1, a2)).bind fun r10 =>
  some r10

-- internal/stringslite.HasPrefix
def internal_stringslite_HasPrefix (a0 : Str) (a1 : Str) : Option Bool :=
  cond (decide (((List.length a0 : Nat) : Int) ≥ ((List.length a1 : Nat) : Int)))
  ((slc2 a0 none (some ((List.length a1 : Nat) : Int))).bind fun y2 =>
    some (y2 == a1))
  (some false)

-- strings.HasPrefix
def strings_HasPrefix (a0 : Str) (a1 : Str) : Option Bool :=
  (internal_stringslite_HasPrefix a0 a1).bind fun r2 =>
  some r2

-- strings.Contains
def strings_Contains (a0 : Str) (a1 : Str) : Option Bool := containsF a0 a1

-- lex.number
def lex_number (a0 : Str) (a1 : Int) : Option Bool :=
  cond (!(a0 == ([] : Str)))
  (cond (decide (((List.length a0 : Nat) : Int) ≤ a1))
    ((gx a0 0).bind fun c2 =>
      cond (((UInt8.toNat c2 : Nat) : Int) != 48)
      (some true)
      (some (((List.length a0 : Nat) : Int) == 1)))
    (some false))
  (some false)

-- lex.Number
def lex_Number_L0 (rec : QSym → Option Int) (x : QSym) : Option Int :=
  cond (decide (x.2.2.2 < x.2.2.1))
  ((gx x.1 x.2.2.2).bind fun c2 =>
    rec (x.1, (IntKind.wrap .i64 ((IntKind.wrap .i64 (10 * x.2.1)) + (IntKind.wrap .i64 (IntKind.wrap .u8 (((UInt8.toNat c2 : Nat) : Int) - 48))))), x.2.2.1, (IntKind.wrap .i64 (x.2.2.2 + 1))))
  (some x.2.1)

def lex_Number (a0 : Str) : Option Int :=
  ((lp lex_Number_L0 fuel) (a0, 0, ((List.length a0 : Nat) : Int), 0)).bind fun r4 =>
  some r4

-- lex.Lex
def lex_Lex_L2 (rec : (Str × Int) → Option Int) (x : (Str × Int)) : Option Int :=
  cond (decide (x.2 < ((List.length x.1 : Nat) : Int)))
  ((gx x.1 x.2).bind fun c11 =>
    cond (((UInt8.toNat c11 : Nat) : Int) == 32)
    (rec (x.1, (IntKind.wrap .i64 (x.2 + 1))))
    (some x.2))
  (some x.2)

def lex_Lex_L1 (rec : (Str × Int) → Option Int) (x : (Str × Int)) : Option Int :=
  cond (decide (x.2 < ((List.length x.1 : Nat) : Int)))
  ((gx x.1 x.2).bind fun c3 =>
    cond (((UInt8.toNat c3 : Nat) : Int) == 32)
    (rec (x.1, (IntKind.wrap .i64 (x.2 + 1))))
    (some x.2))
  (some x.2)

def lex_Lex_L0 (rec : (Unit ⊕ ((Str × Int × (List (Int × Str))) ⊕ ((Str × Int × (List (Int × Str))) ⊕ ((Str × Int × (List (Int × Str))) ⊕ ((Str × Int × (List (Int × Str))) ⊕ (Str × Int × Int × Int × (List (Int × Str)))))))) → Option (Int × (List (Int × Str)))) (y : (Unit ⊕ ((Str × Int × (List (Int × Str))) ⊕ ((Str × Int × (List (Int × Str))) ⊕ ((Str × Int × (List (Int × Str))) ⊕ ((Str × Int × (List (Int × Str))) ⊕ (Str × Int × Int × Int × (List (Int × Str))))))))) : Option (Int × (List (Int × Str))) :=
  caseS y
  (fun x => some (2100, ([] : (List (Int × Str)))))
  (fun q1 => caseS q1
    (fun x => ((lp lex_Lex_L2 fuel) (x.1, x.2.1)).bind fun r33 =>
      cond (r33 == ((List.length x.1 : Nat) : Int))
      (some (0, x.2.2))
      ((gx x.1 r33).bind fun c34 =>
        (lex_small ((UInt8.toNat c34 : Nat) : Int)).bind fun r35 =>
        cond r35
        (rec (Sum.inr (Sum.inr (Sum.inl (x.1, r33, x.2.2)))))
        ((gx x.1 r33).bind fun c36 =>
          cond (((UInt8.toNat c36 : Nat) : Int) == 88)
          (rec (Sum.inr (Sum.inr (Sum.inr (Sum.inl (x.1, r33, x.2.2))))))
          ((gx x.1 r33).bind fun c37 =>
            (lex_digit ((UInt8.toNat c37 : Nat) : Int)).bind fun r38 =>
            cond r38
            (rec (Sum.inr (Sum.inr (Sum.inr (Sum.inr (Sum.inl (x.1, r33, x.2.2)))))))
            ((slc2 x.1 (some r33) none).bind fun y39 =>
              (strings_HasPrefix y39 ([45, 62] : Str)).bind fun r40 =>
              cond r40
              (rec (Sum.inr (Sum.inr (Sum.inr (Sum.inr (Sum.inr (x.1, r33, (IntKind.wrap .i64 ((IntKind.wrap .i64 (r33 + 1)) + 1)), 3, x.2.2)))))))
              ((slc2 x.1 (some r33) (some (IntKind.wrap .i64 (r33 + 1)))).bind fun y41 =>
                (strings_Contains ([40, 41, 44, 61, 126, 38, 124, 58] : Str) y41).bind fun r42 =>
                cond (!r42)
                (rec (Sum.inl ()))
                (rec (Sum.inr (Sum.inr (Sum.inr (Sum.inr (Sum.inr (x.1, r33, (IntKind.wrap .i64 (r33 + 1)), 3, x.2.2)))))))))))))
    (fun q2 => caseS q2
      (fun x => (lex_run x.1 x.2.1 true).bind fun r43 =>
        cond (decide ((IntKind.wrap .i64 (r43 - x.2.1)) > 8))
        (rec (Sum.inl ()))
        (rec (Sum.inr (Sum.inr (Sum.inr (Sum.inr (Sum.inr (x.1, x.2.1, r43, 0, x.2.2))))))))
      (fun q3 => caseS q3
        (fun x => (lex_run x.1 (IntKind.wrap .i64 (x.2.1 + 1)) false).bind fun r44 =>
          (slc2 x.1 (some (IntKind.wrap .i64 (x.2.1 + 1))) (some r44)).bind fun y45 =>
          (lex_number y45 2).bind fun r46 =>
          cond (!r46)
          (rec (Sum.inl ()))
          ((slc2 x.1 (some (IntKind.wrap .i64 (x.2.1 + 1))) (some r44)).bind fun y47 =>
            (lex_Number y47).bind fun r48 =>
            cond (decide (r48 > 23))
            (rec (Sum.inl ()))
            (rec (Sum.inr (Sum.inr (Sum.inr (Sum.inr (Sum.inr (x.1, x.2.1, r44, 1, x.2.2)))))))))
        (fun q4 => caseS q4
          (fun x => (lex_run x.1 x.2.1 false).bind fun r49 =>
            (slc2 x.1 (some x.2.1) (some r49)).bind fun y50 =>
            (lex_number y50 4).bind fun r51 =>
            cond (!r51)
            (rec (Sum.inl ()))
            ((slc2 x.1 (some x.2.1) (some r49)).bind fun y52 =>
              cond (room (List.length x.2.2 + List.length ([(2, y52)] : List (Int × Str))) 24)
              (rec (Sum.inr (Sum.inl (x.1, r49, (x.2.2 ++ ([(2, y52)] : List (Int × Str)))))))
              (none)))
          (fun x => (slc2 x.1 (some x.2.1) (some x.2.2.1)).bind fun y53 =>
            cond (room (List.length x.2.2.2.2 + List.length ([(x.2.2.2.1, y53)] : List (Int × Str))) 24)
            (rec (Sum.inr (Sum.inl (x.1, x.2.2.1, (x.2.2.2.2 ++ ([(x.2.2.2.1, y53)] : List (Int × Str)))))))
            (none))))))

def lex_Lex (a0 : Str) : Option (Int × (List (Int × Str))) :=
  cond (decide (((List.length a0 : Nat) : Int) > 2048))
  ((((lp lex_Lex_L0 fuel) (Sum.inl ()))).bind fun r67 =>
    some (r67.1, r67.2))
  (((lp lex_Lex_L1 fuel) (a0, 0)).bind fun r68 =>
    cond (r68 == ((List.length a0 : Nat) : Int))
    (some (0, ([] : (List (Int × Str)))))
    ((gx a0 r68).bind fun c69 =>
      (lex_small ((UInt8.toNat c69 : Nat) : Int)).bind fun r70 =>
      cond r70
      ((((lp lex_Lex_L0 fuel) (Sum.inr (Sum.inr (Sum.inl (a0, r68, ([] : (List (Int × Str))))))))).bind fun r71 =>
        some (r71.1, r71.2))
      ((gx a0 r68).bind fun c72 =>
        cond (((UInt8.toNat c72 : Nat) : Int) == 88)
        ((((lp lex_Lex_L0 fuel) (Sum.inr (Sum.inr (Sum.inr (Sum.inl (a0, r68, ([] : (List (Int × Str)))))))))).bind fun r73 =>
          some (r73.1, r73.2))
        ((gx a0 r68).bind fun c74 =>
          (lex_digit ((UInt8.toNat c74 : Nat) : Int)).bind fun r75 =>
          cond r75
          ((((lp lex_Lex_L0 fuel) (Sum.inr (Sum.inr (Sum.inr (Sum.inr (Sum.inl (a0, r68, ([] : (List (Int × Str))))))))))).bind fun r76 =>
            some (r76.1, r76.2))
          ((slc2 a0 (some r68) none).bind fun y77 =>
            (strings_HasPrefix y77 ([45, 62] : Str)).bind fun r78 =>
            cond r78
            ((((lp lex_Lex_L0 fuel) (Sum.inr (Sum.inr (Sum.inr (Sum.inr (Sum.inr (a0, r68, (IntKind.wrap .i64 ((IntKind.wrap .i64 (r68 + 1)) + 1)), 3, ([] : (List (Int × Str))))))))))).bind fun r79 =>
              some (r79.1, r79.2))
            ((slc2 a0 (some r68) (some (IntKind.wrap .i64 (r68 + 1)))).bind fun y80 =>
              (strings_Contains ([40, 41, 44, 61, 126, 38, 124, 58] : Str) y80).bind fun r81 =>
              cond (!r81)
              ((((lp lex_Lex_L0 fuel) (Sum.inl ()))).bind fun r82 =>
                some (r82.1, r82.2))
              ((((lp lex_Lex_L0 fuel) (Sum.inr (Sum.inr (Sum.inr (Sum.inr (Sum.inr (a0, r68, (IntKind.wrap .i64 (r68 + 1)), 3, ([] : (List (Int × Str))))))))))).bind fun r83 =>
                some (r83.1, r83.2))))))))

-- (*formula.Reader).Is
def formula_Reader_Is_1 (a0 : Str) (a1 : (List QSym)) (a2 : (List (Int × Str))) (a3 : Bool) : Option (Bool × (List QSym) × (List (Int × Str)) × Bool) :=
  cond (((List.length a2 : Nat) : Int) == 0)
  (some (false, a1, a2, a3))
  ((gx a2 0).bind fun e4 =>
    cond (e4.1 != 3)
    (some (false, a1, a2, a3))
    ((gx a2 0).bind fun e5 =>
      cond (!(e5.2 == a0))
      (some (false, a1, a2, a3))
      ((slc2 a2 (some 1) none).bind fun y6 =>
        some (true, a1, y6, a3))))

-- (*formula.Reader).binder
def formula_Reader_binder_1 (a0 : (List QSym)) (a1 : (List (Int × Str))) (a2 : Bool) : Option (Int × Int × Bool × (List QSym) × (List (Int × Str)) × Bool) :=
  cond (decide (((List.length a1 : Nat) : Int) < 2))
  (some (0, 0, false, a0, a1, a2))
  ((gx a1 0).bind fun e9 =>
    cond (e9.1 != 0)
    (some (0, 0, false, a0, a1, a2))
    ((gx a1 1).bind fun e10 =>
      cond (e10.1 != 1)
      (some (0, 0, false, a0, a1, a2))
      ((gx a1 1).bind fun e11 =>
        (slc2 e11.2 (some 1) none).bind fun y12 =>
        (lex_Number y12).bind fun r13 =>
        (gx a1 0).bind fun e14 =>
        cond (e14.2 == ([101, 120] : Str))
        ((slc2 a1 (some 2) none).bind fun y15 =>
          some (6, r13, true, a0, y15, a2))
        (cond (e14.2 == ([97, 108, 108] : Str))
          ((slc2 a1 (some 2) none).bind fun y16 =>
            some (5, r13, true, a0, y16, a2))
          (some (0, 0, false, a0, a1, a2))))))

-- sign.Find
def sign_Find (a0 : (List QSym)) (a1 : Str) : Option (Int × Int) :=
  (sign_May a0).bind fun r3 =>
  cond (!r3)
  (some (0, 100))
  ((sign_find a0 a1).bind fun r4 =>
    some (r4, 0))

-- (*formula.Reader).symbol
def formula_Reader_symbol_1 (a0 : (List QSym)) (a1 : (List (Int × Str))) (a2 : Bool) : Option (Int × Bool × (List QSym) × (List (Int × Str)) × Bool) :=
  cond (((List.length a1 : Nat) : Int) == 0)
  (some (0, false, a0, a1, a2))
  ((gx a1 0).bind fun e5 =>
    cond (e5.1 != 0)
    (some (0, false, a0, a1, a2))
    ((gx a1 0).bind fun e6 =>
      (sign_Find a0 e6.2).bind fun r7 =>
      cond (decide (r7.1 < 0))
      (some (0, false, a0, a1, a2))
      ((slc2 a1 (some 1) none).bind fun y8 =>
        some (r7.1, true, a0, y8, a2))))

-- (*formula.Reader).Var
def formula_Reader_Var_1 (a0 : (List QSym)) (a1 : (List (Int × Str))) (a2 : Bool) : Option (Int × Bool × (List QSym) × (List (Int × Str)) × Bool) :=
  cond (((List.length a1 : Nat) : Int) == 0)
  (some (0, false, a0, a1, a2))
  ((gx a1 0).bind fun e6 =>
    cond (e6.1 != 1)
    (some (0, false, a0, a1, a2))
    ((gx a1 0).bind fun e7 =>
      (slc2 e7.2 (some 1) none).bind fun y8 =>
      (lex_Number y8).bind fun r9 =>
      (slc2 a1 (some 1) none).bind fun y10 =>
      some (r9, true, a0, y10, a2)))

-- (*formula.Reader).term
def formula_Reader_term_1_S (rf : ((((List QSym) × (List (Int × Str)) × Bool) → Option (Bool × (List Int) × (List QSym) × (List (Int × Str)) × Bool)) × ((Int × (List QSym) × (List (Int × Str)) × Bool) → Option (Bool × (List Int) × (List QSym) × (List (Int × Str)) × Bool)))) (a0 : (List QSym)) (a1 : (List (Int × Str))) (a2 : Bool) : Option (Bool × (List Int) × (List QSym) × (List (Int × Str)) × Bool) :=
  (formula_Reader_Var_1 a0 a1 a2).bind fun r6 =>
  cond r6.2.1
  ((term_Number r6.1).bind fun r7 =>
    some (true, ([r7] : List Int), r6.2.2.1, r6.2.2.2.1, r6.2.2.2.2))
  ((formula_Reader_symbol_1 r6.2.2.1 r6.2.2.2.1 r6.2.2.2.2).bind fun r8 =>
    cond (!r8.2.1)
    (some (false, ([] : (List Int)), r8.2.2.1, r8.2.2.2.1, r8.2.2.2.2))
    ((gx r8.2.2.1 r8.1).bind fun e9 =>
      cond (e9.2.1 == 0)
      (some (false, ([] : (List Int)), r8.2.2.1, r8.2.2.2.1, r8.2.2.2.2))
      ((rf.2 (r8.1, r8.2.2.1, r8.2.2.2.1, r8.2.2.2.2)).bind fun r10 =>
        some (r10.1, r10.2.1, r10.2.2.1, r10.2.2.2.1, r10.2.2.2.2))))

-- (*formula.Reader).behind
def formula_Reader_behind_1_L0 (rf : ((((List QSym) × (List (Int × Str)) × Bool) → Option (Bool × (List Int) × (List QSym) × (List (Int × Str)) × Bool)) × ((Int × (List QSym) × (List (Int × Str)) × Bool) → Option (Bool × (List Int) × (List QSym) × (List (Int × Str)) × Bool)))) (rec : (Int × Int × Int × (List QSym) × (List (Int × Str)) × Bool × (List Int)) → Option (((List QSym) × (List (Int × Str)) × Bool × (List Int)) ⊕ (Bool × (List QSym) × (List (Int × Str)) × Bool))) (x : (Int × Int × Int × (List QSym) × (List (Int × Str)) × Bool × (List Int))) : Option (((List QSym) × (List (Int × Str)) × Bool × (List Int)) ⊕ (Bool × (List QSym) × (List (Int × Str)) × Bool)) :=
  cond (decide (x.2.2.1 < x.2.1))
  (cond (x.2.2.1 == 0)
    ((formula_Reader_Is_1 ([40] : Str) x.2.2.2.1 x.2.2.2.2.1 x.2.2.2.2.2.1).bind fun r8 =>
      cond (!r8.1)
      (some (Sum.inr (false, r8.2.1, r8.2.2.1, r8.2.2.2)))
      ((rf.1 (r8.2.1, r8.2.2.1, r8.2.2.2)).bind fun r9 =>
        cond (!r9.1)
        (some (Sum.inr (false, r9.2.2.1, r9.2.2.2.1, r9.2.2.2.2)))
        (cond (room (List.length x.2.2.2.2.2.2 + List.length r9.2.1) 8)
          (rec (x.1, x.2.1, (IntKind.wrap .i64 (x.2.2.1 + 1)), r9.2.2.1, r9.2.2.2.1, r9.2.2.2.2, (x.2.2.2.2.2.2 ++ r9.2.1)))
          (none))))
    ((formula_Reader_Is_1 ([44] : Str) x.2.2.2.1 x.2.2.2.2.1 x.2.2.2.2.2.1).bind fun r10 =>
      cond (!r10.1)
      (some (Sum.inr (false, r10.2.1, r10.2.2.1, r10.2.2.2)))
      ((rf.1 (r10.2.1, r10.2.2.1, r10.2.2.2)).bind fun r11 =>
        cond (!r11.1)
        (some (Sum.inr (false, r11.2.2.1, r11.2.2.2.1, r11.2.2.2.2)))
        (cond (room (List.length x.2.2.2.2.2.2 + List.length r11.2.1) 8)
          (rec (x.1, x.2.1, (IntKind.wrap .i64 (x.2.2.1 + 1)), r11.2.2.1, r11.2.2.2.1, r11.2.2.2.2, (x.2.2.2.2.2.2 ++ r11.2.1)))
          (none)))))
  (some (Sum.inl (x.2.2.2.1, x.2.2.2.2.1, x.2.2.2.2.2.1, x.2.2.2.2.2.2)))

def formula_Reader_behind_1_S (rf : ((((List QSym) × (List (Int × Str)) × Bool) → Option (Bool × (List Int) × (List QSym) × (List (Int × Str)) × Bool)) × ((Int × (List QSym) × (List (Int × Str)) × Bool) → Option (Bool × (List Int) × (List QSym) × (List (Int × Str)) × Bool)))) (a0 : Int) (a1 : (List QSym)) (a2 : (List (Int × Str))) (a3 : Bool) : Option (Bool × (List Int) × (List QSym) × (List (Int × Str)) × Bool) :=
  (gx a1 a0).bind fun e17 =>
  ((lp (formula_Reader_behind_1_L0 rf) fuel) (a0, e17.2.2.1, 0, a1, a2, a3, ([a0] : List Int))).bind fun r18 =>
  caseS r18
  (fun z19 => (gx z19.1 a0).bind fun e20 =>
    cond (e20.2.2.1 == 0)
    (some (true, z19.2.2.2, z19.1, z19.2.1, z19.2.2.1))
    ((formula_Reader_Is_1 ([41] : Str) z19.1 z19.2.1 z19.2.2.1).bind fun r21 =>
      some (r21.1, z19.2.2.2, r21.2.1, r21.2.2.1, r21.2.2.2)))
  (fun z22 => some (z22.1, ([] : (List Int)), z22.2.1, z22.2.2.1, z22.2.2.2))

def formula_Reader_behind_1_R_step (rf : ((((List QSym) × (List (Int × Str)) × Bool) → Option (Bool × (List Int) × (List QSym) × (List (Int × Str)) × Bool)) × ((Int × (List QSym) × (List (Int × Str)) × Bool) → Option (Bool × (List Int) × (List QSym) × (List (Int × Str)) × Bool)))) : ((((List QSym) × (List (Int × Str)) × Bool) → Option (Bool × (List Int) × (List QSym) × (List (Int × Str)) × Bool)) × ((Int × (List QSym) × (List (Int × Str)) × Bool) → Option (Bool × (List Int) × (List QSym) × (List (Int × Str)) × Bool))) :=
  (fun (x : ((List QSym) × (List (Int × Str)) × Bool)) => formula_Reader_term_1_S rf x.1 x.2.1 x.2.2, fun (x : (Int × (List QSym) × (List (Int × Str)) × Bool)) => formula_Reader_behind_1_S rf x.1 x.2.1 x.2.2.1 x.2.2.2)

def formula_Reader_behind_1_R_base : ((((List QSym) × (List (Int × Str)) × Bool) → Option (Bool × (List Int) × (List QSym) × (List (Int × Str)) × Bool)) × ((Int × (List QSym) × (List (Int × Str)) × Bool) → Option (Bool × (List Int) × (List QSym) × (List (Int × Str)) × Bool))) := (fun _ => none, fun _ => none)
def formula_Reader_behind_1_R (k : Nat) : ((((List QSym) × (List (Int × Str)) × Bool) → Option (Bool × (List Int) × (List QSym) × (List (Int × Str)) × Bool)) × ((Int × (List QSym) × (List (Int × Str)) × Bool) → Option (Bool × (List Int) × (List QSym) × (List (Int × Str)) × Bool))) := lpR formula_Reader_behind_1_R_base formula_Reader_behind_1_R_step k

def formula_Reader_term_1 (a0 : (List QSym)) (a1 : (List (Int × Str))) (a2 : Bool) : Option (Bool × (List Int) × (List QSym) × (List (Int × Str)) × Bool) := (formula_Reader_behind_1_R fuel).1 (a0, a1, a2)
def formula_Reader_behind_1 (a0 : Int) (a1 : (List QSym)) (a2 : (List (Int × Str))) (a3 : Bool) : Option (Bool × (List Int) × (List QSym) × (List (Int × Str)) × Bool) := (formula_Reader_behind_1_R fuel).2 (a0, a1, a2, a3)
-- slices.Grow[[]int,int]
def slices_Grow_2 (a0 : Int) : Option (List Int) :=
  cond (decide (a0 < 0))
  (none)
  (cond (decide ((IntKind.wrap .i64 (a0 - 0)) > 0))
    (cond (eqI 0 0 && eqI 0 0)
      (cond (posI (IntKind.wrap .i64 (a0 - 0)))
        (cond (room (Int.toNat (IntKind.wrap .i64 (a0 - 0))) 8)
          ((slc2 (List.replicate (Int.toNat (IntKind.wrap .i64 (a0 - 0))) (0 : Int)) none (some 0)).bind fun y2 =>
            some y2)
          (none))
        (none))
      (none))
    (some ([] : (List Int))))

-- slices.Concat[[]int,int]
def slices_Concat_2_L1 (rec : ((List (List Int)) × Int × Int × (List Int)) → Option (List Int)) (x : ((List (List Int)) × Int × Int × (List Int))) : Option (List Int) :=
  cond (decide (x.2.2.1 < x.2.1))
  ((gx x.1 x.2.2.1).bind fun e7 =>
    cond (room (List.length x.2.2.2 + List.length e7) 8)
    (rec (x.1, x.2.1, (IntKind.wrap .i64 (x.2.2.1 + 1)), (x.2.2.2 ++ e7)))
    (none))
  (some x.2.2.2)

def slices_Concat_2_L0 (rec : ((List (List Int)) × Int × (List (List Int)) × Int × Int) → Option Int) (x : ((List (List Int)) × Int × (List (List Int)) × Int × Int)) : Option Int :=
  cond (decide (x.2.2.2.2 < x.2.2.2.1))
  ((gx x.2.2.1 x.2.2.2.2).bind fun e2 =>
    cond (decide ((IntKind.wrap .i64 (x.2.1 + ((List.length e2 : Nat) : Int))) < 0))
    (none)
    (rec (x.1, (IntKind.wrap .i64 (x.2.1 + ((List.length e2 : Nat) : Int))), x.2.2.1, x.2.2.2.1, (IntKind.wrap .i64 (x.2.2.2.2 + 1)))))
  (some x.2.1)

def slices_Concat_2 (a0 : (List (List Int))) : Option (List Int) :=
  ((lp slices_Concat_2_L0 fuel) (a0, 0, a0, ((List.length a0 : Nat) : Int), 0)).bind fun r9 =>
  (slices_Grow_2 r9).bind fun r10 =>
  ((lp slices_Concat_2_L1 fuel) (a0, ((List.length a0 : Nat) : Int), 0, r10)).bind fun r11 =>
  some r11

-- (*formula.Reader).Atom
def formula_Reader_Atom_1 (a0 : (List QSym)) (a1 : (List (Int × Str))) (a2 : Bool) : Option (Bool × (List Int) × (List QSym) × (List (Int × Str)) × Bool) :=
  (formula_Reader_symbol_1 a0 a1 a2).bind fun r12 =>
  cond r12.2.1
  ((gx r12.2.2.1 r12.1).bind fun e13 =>
    cond (e13.2.1 == 0)
    ((formula_Reader_behind_1 r12.1 r12.2.2.1 r12.2.2.2.1 r12.2.2.2.2).bind fun r14 =>
      cond r14.2.2.2.2
      (some (r14.1, r14.2.1, r14.2.2.1, r14.2.2.2.1, true))
      (some (r14.1, r14.2.1, r14.2.2.1, r14.2.2.2.1, (decide (((List.length r14.2.1 : Nat) : Int) > 49)))))
    ((formula_Reader_term_1 r12.2.2.1 a1 r12.2.2.2.2).bind fun r15 =>
      cond (!r15.1)
      (some (false, ([] : (List Int)), r15.2.2.1, r15.2.2.2.1, r15.2.2.2.2))
      ((formula_Reader_Is_1 ([61] : Str) r15.2.2.1 r15.2.2.2.1 r15.2.2.2.2).bind fun r16 =>
        cond (!r16.1)
        (some (false, ([] : (List Int)), r16.2.1, r16.2.2.1, r16.2.2.2))
        ((formula_Reader_term_1 r16.2.1 r16.2.2.1 r16.2.2.2).bind fun r17 =>
          (slices_Concat_2 ([([0] : List Int), r15.2.1, r17.2.1] : List (List Int))).bind fun r18 =>
          cond r17.2.2.2.2
          (some (r17.1, r18, r17.2.2.1, r17.2.2.2.1, true))
          (some (r17.1, r18, r17.2.2.1, r17.2.2.2.1, (decide (((List.length r18 : Nat) : Int) > 49))))))))
  ((formula_Reader_term_1 r12.2.2.1 a1 r12.2.2.2.2).bind fun r19 =>
    cond (!r19.1)
    (some (false, ([] : (List Int)), r19.2.2.1, r19.2.2.2.1, r19.2.2.2.2))
    ((formula_Reader_Is_1 ([61] : Str) r19.2.2.1 r19.2.2.2.1 r19.2.2.2.2).bind fun r20 =>
      cond (!r20.1)
      (some (false, ([] : (List Int)), r20.2.1, r20.2.2.1, r20.2.2.2))
      ((formula_Reader_term_1 r20.2.1 r20.2.2.1 r20.2.2.2).bind fun r21 =>
        (slices_Concat_2 ([([0] : List Int), r19.2.1, r21.2.1] : List (List Int))).bind fun r22 =>
        cond r21.2.2.2.2
        (some (r21.1, r22, r21.2.2.1, r21.2.2.2.1, true))
        (some (r21.1, r22, r21.2.2.1, r21.2.2.2.1, (decide (((List.length r22 : Nat) : Int) > 49)))))))

-- (*formula.Reader).joint
def formula_Reader_joint_1_L0 (rec : ((List Str) × Int × Int × (List QSym) × (List (Int × Str)) × Bool) → Option (((List QSym) × (List (Int × Str)) × Bool) ⊕ (Int × Bool × (List QSym) × (List (Int × Str)) × Bool))) (x : ((List Str) × Int × Int × (List QSym) × (List (Int × Str)) × Bool)) : Option (((List QSym) × (List (Int × Str)) × Bool) ⊕ (Int × Bool × (List QSym) × (List (Int × Str)) × Bool)) :=
  cond (decide (x.2.2.1 < x.2.1))
  ((gx x.1 x.2.2.1).bind fun e5 =>
    (formula_Reader_Is_1 e5 x.2.2.2.1 x.2.2.2.2.1 x.2.2.2.2.2).bind fun r6 =>
    cond r6.1
    (some (Sum.inr ((IntKind.wrap .i64 (2 + x.2.2.1)), true, r6.2.1, r6.2.2.1, r6.2.2.2)))
    (rec (x.1, x.2.1, (IntKind.wrap .i64 (x.2.2.1 + 1)), r6.2.1, r6.2.2.1, r6.2.2.2)))
  (some (Sum.inl (x.2.2.2.1, x.2.2.2.2.1, x.2.2.2.2.2)))

def formula_Reader_joint_1 (a0 : (List QSym)) (a1 : (List (Int × Str))) (a2 : Bool) : Option (Int × Bool × (List QSym) × (List (Int × Str)) × Bool) :=
  ((lp formula_Reader_joint_1_L0 fuel) (([([38] : Str), ([124] : Str), ([45, 62] : Str)] : List Str), ((List.length ([([38] : Str), ([124] : Str), ([45, 62] : Str)] : List Str) : Nat) : Int), 0, a0, a1, a2)).bind fun r10 =>
  caseS r10
  (fun z11 => some (0, false, z11.1, z11.2.1, z11.2.2))
  (fun z12 => some (z12.1, z12.2.1, z12.2.2.1, z12.2.2.2.1, z12.2.2.2.2))

-- (*formula.Reader).formula
def formula_Reader_formula_1_L0 (rec : (((List QSym) × (List (Int × Str)) × Bool × (List (Int × Int × (List Int))) × (List (Int × Bool))) ⊕ ((List QSym) × (List (Int × Str)) × Bool × (List (Int × Int × (List Int))) × (List (Int × Bool)))) → Option (Bool × (List QSym) × (List (Int × Str)) × Bool × (List (Int × Int × (List Int))))) (y : (((List QSym) × (List (Int × Str)) × Bool × (List (Int × Int × (List Int))) × (List (Int × Bool))) ⊕ ((List QSym) × (List (Int × Str)) × Bool × (List (Int × Int × (List Int))) × (List (Int × Bool))))) : Option (Bool × (List QSym) × (List (Int × Str)) × Bool × (List (Int × Int × (List Int)))) :=
  caseS y
  (fun x => (formula_Reader_Is_1 ([126] : Str) x.1 x.2.1 x.2.2.1).bind fun r26 =>
    cond r26.1
    (cond (room (List.length x.2.2.2.1 + List.length ([(1, 0, ([] : (List Int)))] : List (Int × Int × (List Int)))) 40)
      (rec (Sum.inl (r26.2.1, r26.2.2.1, r26.2.2.2, (x.2.2.2.1 ++ ([(1, 0, ([] : (List Int)))] : List (Int × Int × (List Int)))), x.2.2.2.2)))
      (none))
    ((formula_Reader_binder_1 r26.2.1 r26.2.2.1 r26.2.2.2).bind fun r27 =>
      cond r27.2.2.1
      (cond (room (List.length x.2.2.2.1 + List.length ([(r27.1, r27.2.1, ([] : (List Int)))] : List (Int × Int × (List Int)))) 40)
        (rec (Sum.inl (r27.2.2.2.1, r27.2.2.2.2.1, r27.2.2.2.2.2, (x.2.2.2.1 ++ ([(r27.1, r27.2.1, ([] : (List Int)))] : List (Int × Int × (List Int)))), x.2.2.2.2)))
        (none))
      ((formula_Reader_Is_1 ([40] : Str) r27.2.2.2.1 r27.2.2.2.2.1 r27.2.2.2.2.2).bind fun r28 =>
        cond r28.1
        (cond (room (List.length x.2.2.2.2 + List.length ([(((List.length x.2.2.2.1 : Nat) : Int), false)] : List (Int × Bool))) 16)
          (cond (room (List.length x.2.2.2.1 + List.length ([(0, 0, ([] : (List Int)))] : List (Int × Int × (List Int)))) 40)
            (rec (Sum.inl (r28.2.1, r28.2.2.1, r28.2.2.2, (x.2.2.2.1 ++ ([(0, 0, ([] : (List Int)))] : List (Int × Int × (List Int)))), (x.2.2.2.2 ++ ([(((List.length x.2.2.2.1 : Nat) : Int), false)] : List (Int × Bool))))))
            (none))
          (none))
        ((formula_Reader_Atom_1 r28.2.1 r28.2.2.1 r28.2.2.2).bind fun r29 =>
          cond r29.1
          (cond (room (List.length x.2.2.2.1 + List.length ([(0, 0, r29.2.1)] : List (Int × Int × (List Int)))) 40)
            (rec (Sum.inr (r29.2.2.1, r29.2.2.2.1, r29.2.2.2.2, (x.2.2.2.1 ++ ([(0, 0, r29.2.1)] : List (Int × Int × (List Int)))), x.2.2.2.2)))
            (none))
          (some (false, r29.2.2.1, r29.2.2.2.1, r29.2.2.2.2, ([] : (List (Int × Int × (List Int))))))))))
  (fun x => cond (((List.length x.2.2.2.2 : Nat) : Int) == 0)
    (some (true, x.1, x.2.1, x.2.2.1, x.2.2.2.1))
    ((inR (IntKind.wrap .i64 (((List.length x.2.2.2.2 : Nat) : Int) - 1)) (List.length x.2.2.2.2)).bind fun k30 =>
      (formula_Reader_joint_1 x.1 x.2.1 x.2.2.1).bind fun r31 =>
      cond r31.2.1
      ((x.2.2.2.2[k30]?).bind fun x32 =>
        cond (!x32.2)
        ((x.2.2.2.2[k30]?).bind fun x33 =>
          (inR x33.1 (List.length x.2.2.2.1)).bind fun k34 =>
          (x.2.2.2.1[k34]?).bind fun x35 =>
          (x.2.2.2.2[k30]?).bind fun x36 =>
          rec (Sum.inl (r31.2.2.1, r31.2.2.2.1, r31.2.2.2.2, (List.set x.2.2.2.1 k34 (r31.1, x35.2)), (List.set x.2.2.2.2 k30 (x36.1, true)))))
        (cond r31.2.1
          (some (false, r31.2.2.1, r31.2.2.2.1, r31.2.2.2.2, ([] : (List (Int × Int × (List Int))))))
          ((x.2.2.2.2[k30]?).bind fun x37 =>
            cond (!x37.2)
            (some (false, r31.2.2.1, r31.2.2.2.1, r31.2.2.2.2, ([] : (List (Int × Int × (List Int))))))
            ((formula_Reader_Is_1 ([41] : Str) r31.2.2.1 r31.2.2.2.1 r31.2.2.2.2).bind fun r38 =>
              cond (!r38.1)
              (some (false, r38.2.1, r38.2.2.1, r38.2.2.2, ([] : (List (Int × Int × (List Int))))))
              ((slc2 x.2.2.2.2 none (some (IntKind.wrap .i64 (((List.length x.2.2.2.2 : Nat) : Int) - 1)))).bind fun y39 =>
                rec (Sum.inr (r38.2.1, r38.2.2.1, r38.2.2.2, x.2.2.2.1, y39)))))))
      (cond r31.2.1
        (some (false, r31.2.2.1, r31.2.2.2.1, r31.2.2.2.2, ([] : (List (Int × Int × (List Int))))))
        ((x.2.2.2.2[k30]?).bind fun x40 =>
          cond (!x40.2)
          (some (false, r31.2.2.1, r31.2.2.2.1, r31.2.2.2.2, ([] : (List (Int × Int × (List Int))))))
          ((formula_Reader_Is_1 ([41] : Str) r31.2.2.1 r31.2.2.2.1 r31.2.2.2.2).bind fun r41 =>
            cond (!r41.1)
            (some (false, r41.2.1, r41.2.2.1, r41.2.2.2, ([] : (List (Int × Int × (List Int))))))
            ((slc2 x.2.2.2.2 none (some (IntKind.wrap .i64 (((List.length x.2.2.2.2 : Nat) : Int) - 1)))).bind fun y42 =>
              rec (Sum.inr (r41.2.1, r41.2.2.1, r41.2.2.2, x.2.2.2.1, y42))))))))

def formula_Reader_formula_1 (a0 : (List QSym)) (a1 : (List (Int × Str))) (a2 : Bool) : Option (Bool × (List (Int × Int × (List Int))) × (List QSym) × (List (Int × Str)) × Bool) :=
  (formula_Reader_Is_1 ([126] : Str) a0 a1 a2).bind fun r50 =>
  cond r50.1
  (cond (room (List.length ([(1, 0, ([] : (List Int)))] : List (Int × Int × (List Int)))) 40)
    ((((lp formula_Reader_formula_1_L0 fuel) (Sum.inl (r50.2.1, r50.2.2.1, r50.2.2.2, ([(1, 0, ([] : (List Int)))] : List (Int × Int × (List Int))), ([] : (List (Int × Bool))))))).bind fun r51 =>
      some (r51.1, r51.2.2.2.2, r51.2.1, r51.2.2.1, r51.2.2.2.1))
    (none))
  ((formula_Reader_binder_1 r50.2.1 r50.2.2.1 r50.2.2.2).bind fun r52 =>
    cond r52.2.2.1
    (cond (room (List.length ([(r52.1, r52.2.1, ([] : (List Int)))] : List (Int × Int × (List Int)))) 40)
      ((((lp formula_Reader_formula_1_L0 fuel) (Sum.inl (r52.2.2.2.1, r52.2.2.2.2.1, r52.2.2.2.2.2, ([(r52.1, r52.2.1, ([] : (List Int)))] : List (Int × Int × (List Int))), ([] : (List (Int × Bool))))))).bind fun r53 =>
        some (r53.1, r53.2.2.2.2, r53.2.1, r53.2.2.1, r53.2.2.2.1))
      (none))
    ((formula_Reader_Is_1 ([40] : Str) r52.2.2.2.1 r52.2.2.2.2.1 r52.2.2.2.2.2).bind fun r54 =>
      cond r54.1
      (cond (room (List.length ([(0, false)] : List (Int × Bool))) 16)
        (cond (room (List.length ([(0, 0, ([] : (List Int)))] : List (Int × Int × (List Int)))) 40)
          ((((lp formula_Reader_formula_1_L0 fuel) (Sum.inl (r54.2.1, r54.2.2.1, r54.2.2.2, ([(0, 0, ([] : (List Int)))] : List (Int × Int × (List Int))), ([(0, false)] : List (Int × Bool)))))).bind fun r55 =>
            some (r55.1, r55.2.2.2.2, r55.2.1, r55.2.2.1, r55.2.2.2.1))
          (none))
        (none))
      ((formula_Reader_Atom_1 r54.2.1 r54.2.2.1 r54.2.2.2).bind fun r56 =>
        cond r56.1
        (cond (room (List.length ([(0, 0, r56.2.1)] : List (Int × Int × (List Int)))) 40)
          ((((lp formula_Reader_formula_1_L0 fuel) (Sum.inr (r56.2.2.1, r56.2.2.2.1, r56.2.2.2.2, ([(0, 0, r56.2.1)] : List (Int × Int × (List Int))), ([] : (List (Int × Bool))))))).bind fun r57 =>
            some (r57.1, r57.2.2.2.2, r57.2.1, r57.2.2.1, r57.2.2.2.1))
          (none))
        (some (false, ([] : (List (Int × Int × (List Int)))), r56.2.2.1, r56.2.2.2.1, r56.2.2.2.2)))))

-- formula.Read
def formula_Read (a0 : (List QSym)) (a1 : (List (Int × Str))) : Option (Int × (List (Int × Int × (List Int)))) :=
  (formula_SigMay a0).bind fun r3 =>
  cond (!r3)
  (some (2200, ([] : (List (Int × Int × (List Int))))))
  ((formula_Reader_formula_1 a0 a1 false).bind fun r4 =>
    cond (!r4.1)
    (some (2200, ([] : (List (Int × Int × (List Int))))))
    (cond (decide (((List.length r4.2.2.2.1 : Nat) : Int) > 0))
      (some (2200, ([] : (List (Int × Int × (List Int))))))
      (cond r4.2.2.2.2
        (some (2201, ([] : (List (Int × Int × (List Int))))))
        (cond (decide (((List.length r4.2.1 : Nat) : Int) > 40))
          (some (2201, ([] : (List (Int × Int × (List Int))))))
          (some (0, r4.2.1))))))

-- formula.Parse
def formula_Parse (a0 : (List QSym)) (a1 : Str) : Option (Int × (List (Int × Int × (List Int)))) :=
  (lex_Lex a1).bind fun r3 =>
  cond (r3.1 != 0)
  (some (2200, ([] : (List (Int × Int × (List Int))))))
  ((formula_Read a0 r3.2).bind fun r4 =>
    some (r4.1, r4.2))

-- quaerelaw22.awake
def law22_awake : Option Bool :=
  (law22_words).bind fun r17 =>
  (formula_Parse r17 ([97, 108, 108, 32, 88, 48, 32, 40, 112, 40, 88, 48, 41, 32, 45, 62, 32, 101, 120, 32, 88, 49, 32, 126, 102, 40, 88, 48, 41, 32, 61, 32, 88, 49, 41] : Str)).bind fun r18 =>
  (law22_words).bind fun r19 =>
  (formula_Show r19 r18.2).bind fun r20 =>
  (law22_words).bind fun r21 =>
  (formula_Parse r21 ([112, 40, 88, 48, 41, 32, 38, 32, 112, 40, 88, 49, 41] : Str)).bind fun r22 =>
  (law22_words).bind fun r23 =>
  (formula_Parse r23 ([112, 40, 97, 44, 32, 98, 41] : Str)).bind fun r24 =>
  (law0_Num r18.1).bind fun r25 =>
  cond (r25 == 0)
  (cond (((List.length r18.2 : Nat) : Int) == 6)
    (cond (r20.1 == ([97, 108, 108, 32, 88, 48, 32, 40, 112, 40, 88, 48, 41, 32, 45, 62, 32, 101, 120, 32, 88, 49, 32, 126, 102, 40, 88, 48, 41, 32, 61, 32, 88, 49, 41] : Str))
      ((law0_Num r20.2).bind fun r26 =>
        cond (r26 == 0)
        ((law0_Num r22.1).bind fun r27 =>
          cond (r27 == 2200)
          ((law0_Num r24.1).bind fun r28 =>
            cond (r28 == 2200)
            ((law22_words).bind fun r29 =>
              (formula_May r29 r18.2).bind fun r30 =>
              cond r30
              ((law22_words).bind fun r31 =>
                (formula_May r31 ([] : (List (Int × Int × (List Int))))).bind fun r32 =>
                some (!r32))
              (some false))
            (some false))
          (some false))
        (some false))
      (some false))
    (some false))
  (some false)

-- quaerelaw0.SameNodes
def law0_SameNodes_L0 (rec : ((List (Int × Int × (List Int))) × (List (Int × Int × (List Int))) × Int) → Option (Unit ⊕ Bool)) (x : ((List (Int × Int × (List Int))) × (List (Int × Int × (List Int))) × Int)) : Option (Unit ⊕ Bool) :=
  cond (decide (x.2.2 < ((List.length x.1 : Nat) : Int)))
  ((gx x.1 x.2.2).bind fun e8 =>
    (gx x.2.1 x.2.2).bind fun e9 =>
    cond (e8.1 != e9.1)
    (some (Sum.inr false))
    ((gx x.1 x.2.2).bind fun e10 =>
      (gx x.2.1 x.2.2).bind fun e11 =>
      cond (e10.2.1 != e11.2.1)
      (some (Sum.inr false))
      ((gx x.1 x.2.2).bind fun e12 =>
        (gx x.2.1 x.2.2).bind fun e13 =>
        (law0_SameInts e12.2.2 e13.2.2).bind fun r14 =>
        cond (!r14)
        (some (Sum.inr false))
        (rec (x.1, x.2.1, (IntKind.wrap .i64 (x.2.2 + 1)))))))
  (some (Sum.inl ()))

def law0_SameNodes (a0 : (List (Int × Int × (List Int)))) (a1 : (List (Int × Int × (List Int)))) : Option Bool :=
  cond (((List.length a0 : Nat) : Int) != ((List.length a1 : Nat) : Int))
  (some false)
  (((lp law0_SameNodes_L0 fuel) (a0, a1, 0)).bind fun r18 =>
    caseS r18
    (fun z19 => some true)
    (fun z20 => some z20))

-- quaerelaw22.FormulaLong
def law22_FormulaLong_L0 (rec : (Int × Str × Int × (List (Int × Int × (List Int)))) → Option (Str × (List (Int × Int × (List Int))))) (x : (Int × Str × Int × (List (Int × Int × (List Int))))) : Option (Str × (List (Int × Int × (List Int)))) :=
  cond (decide (x.2.2.1 < x.1))
  (cond (decide ((List.length x.2.1 + List.length ([126] : Str) : Nat) < 4611686018427387904))
    (cond (room (List.length x.2.2.2 + List.length ([(1, 0, ([] : (List Int)))] : List (Int × Int × (List Int)))) 40)
      (rec (x.1, (x.2.1 ++ ([126] : Str)), (IntKind.wrap .i64 (x.2.2.1 + 1)), (x.2.2.2 ++ ([(1, 0, ([] : (List Int)))] : List (Int × Int × (List Int))))))
      (none))
    (none))
  (some (x.2.1, x.2.2.2))

def law22_FormulaLong (a0 : Int) : Option Bool :=
  (law22_awake).bind fun r16 =>
  cond (!r16)
  (some false)
  (((lp law22_FormulaLong_L0 fuel) ((IntKind.wrap .i64 (30 + (IntKind.wrap .i64 (Int.tmod (IntKind.wrap .u64 a0) 20)))), ([] : Str), 0, ([] : (List (Int × Int × (List Int)))))).bind fun r17 =>
    cond (room (List.length r17.2 + List.length ([(0, 0, ([5, 1] : List Int))] : List (Int × Int × (List Int)))) 40)
    ((law22_words).bind fun r18 =>
      cond (decide ((List.length r17.1 + List.length ([112, 40, 97, 41] : Str) : Nat) < 4611686018427387904))
      ((formula_Parse r18 (r17.1 ++ ([112, 40, 97, 41] : Str))).bind fun r19 =>
        (law22_words).bind fun r20 =>
        cond (decide ((List.length r17.1 + List.length ([112, 40, 97] : Str) : Nat) < 4611686018427387904))
        ((formula_Parse r20 (r17.1 ++ ([112, 40, 97] : Str))).bind fun r21 =>
          cond (decide ((IntKind.wrap .i64 ((IntKind.wrap .i64 (30 + (IntKind.wrap .i64 (Int.tmod (IntKind.wrap .u64 a0) 20)))) + 1)) > 40))
          ((law0_Num r19.1).bind fun r22 =>
            cond (r22 == 2201)
            (cond (((List.length r19.2 : Nat) : Int) == 0)
              ((law22_words).bind fun r23 =>
                (formula_May r23 (r17.2 ++ ([(0, 0, ([5, 1] : List Int))] : List (Int × Int × (List Int))))).bind fun r24 =>
                cond (!r24)
                ((law0_Num r21.1).bind fun r25 =>
                  some (r25 == 2200))
                (some false))
              (some false))
            (some false))
          ((law0_Num r19.1).bind fun r26 =>
            cond (r26 == 0)
            ((law0_SameNodes (r17.2 ++ ([(0, 0, ([5, 1] : List Int))] : List (Int × Int × (List Int)))) r19.2).bind fun r27 =>
              cond r27
              ((law22_words).bind fun r28 =>
                (formula_May r28 (r17.2 ++ ([(0, 0, ([5, 1] : List Int))] : List (Int × Int × (List Int))))).bind fun r29 =>
                cond r29
                ((law0_Num r21.1).bind fun r30 =>
                  some (r30 == 2200))
                (some false))
              (some false))
            (some false)))
        (none))
      (none))
    (none))

-- quaerelaw22.FormulaBack
def law22_FormulaBack (a0 : (List QSym)) (a1 : (List (Int × Int × (List Int)))) : Option Bool :=
  (law22_awake).bind fun r8 =>
  cond (!r8)
  (some false)
  ((formula_Show a0 a1).bind fun r9 =>
    (law0_Num r9.2).bind fun r10 =>
    cond (r10 != 0)
    ((formula_May a0 a1).bind fun r11 =>
      cond (!r11)
      (some (r9.1 == ([] : Str)))
      (some false))
    (cond (decide (((List.length r9.1 : Nat) : Int) > 2048))
      (some true)
      ((formula_Parse a0 r9.1).bind fun r12 =>
        (law0_Num r12.1).bind fun r13 =>
        cond (r13 == 0)
        ((law0_SameNodes a1 r12.2).bind fun r14 =>
          some r14)
        (some false))))

-- quaerelaw22.FormulaAgain
def law22_FormulaAgain (a0 : (List QSym)) (a1 : Str) : Option Bool :=
  (law22_awake).bind fun r12 =>
  cond (!r12)
  (some false)
  ((formula_Parse a0 a1).bind fun r13 =>
    (law0_Num r13.1).bind fun r14 =>
    cond (r14 != 0)
    (some (((List.length r13.2 : Nat) : Int) == 0))
    ((formula_Show a0 r13.2).bind fun r15 =>
      (law0_Num r15.2).bind fun r16 =>
      cond (r16 != 0)
      (some false)
      ((formula_May a0 r13.2).bind fun r17 =>
        cond (!r17)
        (some false)
        (cond (decide (((List.length r15.1 : Nat) : Int) > 2048))
          (some true)
          ((formula_Parse a0 r15.1).bind fun r18 =>
            (formula_Show a0 r18.2).bind fun r19 =>
            (law0_Num r18.1).bind fun r20 =>
            cond (r20 == 0)
            ((law0_SameNodes r13.2 r18.2).bind fun r21 =>
              cond r21
              ((law0_Num r19.2).bind fun r22 =>
                cond (r22 == 0)
                (some (r19.1 == r15.1))
                (some false))
              (some false))
            (some false))))))

-- quaerelaw22.FormulaJoins
def law22_FormulaJoins (a0 : (List QSym)) (a1 : (List (Int × Int × (List Int)))) (a2 : (List (Int × Int × (List Int)))) (a3 : Int) : Option Bool :=
  (law22_awake).bind fun r17 =>
  cond (!r17)
  (some false)
  ((formula_Show a0 a1).bind fun r18 =>
    (formula_Show a0 a2).bind fun r19 =>
    (law0_Num r18.2).bind fun r20 =>
    cond (r20 != 0)
    (some true)
    ((law0_Num r19.2).bind fun r21 =>
      cond (r21 != 0)
      (some true)
      (cond (decide ((IntKind.wrap .i64 (((List.length a1 : Nat) : Int) + ((List.length a2 : Nat) : Int))) ≥ 40))
        (some true)
        (cond (decide ((IntKind.wrap .i64 ((IntKind.wrap .i64 (((List.length r18.1 : Nat) : Int) + ((List.length r19.1 : Nat) : Int))) + 6)) > 2048))
          (some true)
          ((inR (IntKind.wrap .i64 (Int.tmod (IntKind.wrap .u64 a3) 3)) (List.length ([2, 3, 4] : List Int))).bind fun k22 =>
            (([2, 3, 4] : List Int)[k22]?).bind fun x23 =>
            cond (room (List.length ([(x23, 0, ([] : (List Int)))] : List (Int × Int × (List Int))) + List.length a1) 40)
            (cond (room (List.length (([(x23, 0, ([] : (List Int)))] : List (Int × Int × (List Int))) ++ a1) + List.length a2) 40)
              (cond (decide ((List.length ([40] : Str) + List.length r18.1 : Nat) < 4611686018427387904))
                ((inR (IntKind.wrap .i64 (Int.tmod (IntKind.wrap .u64 a3) 3)) (List.length ([([38] : Str), ([124] : Str), ([45, 62] : Str)] : List Str))).bind fun k24 =>
                  (([([38] : Str), ([124] : Str), ([45, 62] : Str)] : List Str)[k24]?).bind fun x25 =>
                  cond (decide ((List.length (([40] : Str) ++ r18.1) + List.length x25 : Nat) < 4611686018427387904))
                  (cond (decide ((List.length ((([40] : Str) ++ r18.1) ++ x25) + List.length r19.1 : Nat) < 4611686018427387904))
                    (cond (decide ((List.length (((([40] : Str) ++ r18.1) ++ x25) ++ r19.1) + List.length ([41] : Str) : Nat) < 4611686018427387904))
                      ((formula_Parse a0 ((((([40] : Str) ++ r18.1) ++ x25) ++ r19.1) ++ ([41] : Str))).bind fun r26 =>
                        (formula_Show a0 ((([(x23, 0, ([] : (List Int)))] : List (Int × Int × (List Int))) ++ a1) ++ a2)).bind fun r27 =>
                        (law0_Num r26.1).bind fun r28 =>
                        cond (r28 == 0)
                        ((law0_SameNodes ((([(x23, 0, ([] : (List Int)))] : List (Int × Int × (List Int))) ++ a1) ++ a2) r26.2).bind fun r29 =>
                          cond r29
                          ((law0_Num r27.2).bind fun r30 =>
                            cond (r30 == 0)
                            (cond (decide ((List.length ([40] : Str) + List.length r18.1 : Nat) < 4611686018427387904))
                              (cond (decide ((List.length (([40] : Str) ++ r18.1) + List.length ([32] : Str) : Nat) < 4611686018427387904))
                                ((inR (IntKind.wrap .i64 (Int.tmod (IntKind.wrap .u64 a3) 3)) (List.length ([([38] : Str), ([124] : Str), ([45, 62] : Str)] : List Str))).bind fun k31 =>
                                  (([([38] : Str), ([124] : Str), ([45, 62] : Str)] : List Str)[k31]?).bind fun x32 =>
                                  cond (decide ((List.length ((([40] : Str) ++ r18.1) ++ ([32] : Str)) + List.length x32 : Nat) < 4611686018427387904))
                                  (cond (decide ((List.length (((([40] : Str) ++ r18.1) ++ ([32] : Str)) ++ x32) + List.length ([32] : Str) : Nat) < 4611686018427387904))
                                    (cond (decide ((List.length ((((([40] : Str) ++ r18.1) ++ ([32] : Str)) ++ x32) ++ ([32] : Str)) + List.length r19.1 : Nat) < 4611686018427387904))
                                      (cond (decide ((List.length (((((([40] : Str) ++ r18.1) ++ ([32] : Str)) ++ x32) ++ ([32] : Str)) ++ r19.1) + List.length ([41] : Str) : Nat) < 4611686018427387904))
                                        (some (r27.1 == ((((((([40] : Str) ++ r18.1) ++ ([32] : Str)) ++ x32) ++ ([32] : Str)) ++ r19.1) ++ ([41] : Str))))
                                        (none))
                                      (none))
                                    (none))
                                  (none))
                                (none))
                              (none))
                            (some false))
                          (some false))
                        (some false))
                      (none))
                    (none))
                  (none))
                (none))
              (none))
            (none))))))

end Go.Abs.Q
/-
  Formulas: what a program answers that is one; so many nodes there may be.
-/
namespace Go.Abs.Q
open Go Go.Abs
section

theorem law22_awake_eq : law22_awake = some true := by kernel_rfl

theorem law22_FormulaLong_mod (a0 : Int) : ∃ m : Nat, m < 20 ∧ law22_FormulaLong a0 = law22_FormulaLong (m : Int) := by
  have h1 : (0 : Int) ≤ IntKind.wrap .u64 a0 := by simp [IntKind.wrap, IntKind.bits, IntKind.signed]; omega
  refine ⟨(Int.tmod (IntKind.wrap .u64 a0) 20).toNat, ?_, ?_⟩
  · rw [Int.tmod_eq_emod_of_nonneg h1]; omega
  · have h2 : Int.tmod (IntKind.wrap .u64 (((Int.tmod (IntKind.wrap .u64 a0) 20).toNat : Nat) : Int)) 20 = Int.tmod (IntKind.wrap .u64 a0) 20 := by
      rw [Int.tmod_eq_emod_of_nonneg h1]
      have h3 : 0 ≤ (IntKind.wrap .u64 a0) % 20 := by omega
      rw [Int.toNat_of_nonneg h3]
      have h4 : IntKind.wrap .u64 ((IntKind.wrap .u64 a0) % 20) = (IntKind.wrap .u64 a0) % 20 := by
        have h5 : (IntKind.wrap .u64 a0) % 20 < 20 := by omega
        generalize (IntKind.wrap .u64 a0) % 20 = y at h3 h5 ⊢
        simp [IntKind.wrap, IntKind.bits, IntKind.signed]
        omega
      rw [h4, Int.tmod_eq_emod_of_nonneg h3]
      omega
    unfold law22_FormulaLong
    rw [h2]

theorem long_all : ∀ m : Nat, m < 20 → law22_FormulaLong (m : Int) = some true
  | 0, _ => by kernel_rfl
  | 1, _ => by kernel_rfl
  | 2, _ => by kernel_rfl
  | 3, _ => by kernel_rfl
  | 4, _ => by kernel_rfl
  | 5, _ => by kernel_rfl
  | 6, _ => by kernel_rfl
  | 7, _ => by kernel_rfl
  | 8, _ => by kernel_rfl
  | 9, _ => by kernel_rfl
  | 10, _ => by kernel_rfl
  | 11, _ => by kernel_rfl
  | 12, _ => by kernel_rfl
  | 13, _ => by kernel_rfl
  | 14, _ => by kernel_rfl
  | 15, _ => by kernel_rfl
  | 16, _ => by kernel_rfl
  | 17, _ => by kernel_rfl
  | 18, _ => by kernel_rfl
  | 19, _ => by kernel_rfl
  | m + 20, h => by omega

theorem law22_FormulaLong_eq (a0 : Int) : law22_FormulaLong a0 = some true := by
  obtain ⟨m, hm, h⟩ := law22_FormulaLong_mod a0
  rw [h]
  exact long_all m hm
end
end Go.Abs.Q
