import Derived.Test.YtanopgblnhaigaaDoorFc
/-
  What the functions make of plain values, and what the law says of that.
-/
/-
  What the functions make of plain values.
-/
namespace Go.Abs.Q
open Go Go.Abs
abbrev QSym := Str × Int × Int × Int
abbrev tSym : Tys := .cons .str (.cons (.int .i64) (.cons (.int .i64) (.one (.int .i64))))
abbrev QLit := Bool × List Int
abbrev tLit : Tys := .cons .bool (.one (.sl (.one (.int .i64))))

-- quaerelaw24.words
def law24_words : Option (List QSym) :=
  some ([(([61] : Str), 0, 2, 1), (([97] : Str), 1, 0, 1), (([98] : Str), 1, 0, 2), (([102] : Str), 1, 1, 1), (([103] : Str), 1, 2, 3), (([112] : Str), 0, 1, 1), (([114] : Str), 0, 2, 2)] : List QSym)

-- sign.small
def sign_small (a0 : Int) : Option Bool :=
  cond (decide (a0 ≥ 97))
  (some (decide (a0 ≤ 122)))
  (some false)

-- sign.called
def sign_called_L0 (rec : (Str × Int × Int) → Option (Unit ⊕ Bool)) (x : (Str × Int × Int)) : Option (Unit ⊕ Bool) :=
  cond (decide (x.2.2 < x.2.1))
  ((gx x.1 x.2.2).bind fun c7 =>
    (sign_small ((UInt8.toNat c7 : Nat) : Int)).bind fun r8 =>
    cond (!r8)
    ((gx x.1 x.2.2).bind fun c9 =>
      cond (decide (((UInt8.toNat c9 : Nat) : Int) < 48))
      (some (Sum.inr false))
      ((gx x.1 x.2.2).bind fun c10 =>
        cond (decide (((UInt8.toNat c10 : Nat) : Int) > 57))
        (some (Sum.inr false))
        (rec (x.1, x.2.1, (IntKind.wrap .i64 (x.2.2 + 1))))))
    (rec (x.1, x.2.1, (IntKind.wrap .i64 (x.2.2 + 1)))))
  (some (Sum.inl ()))

def sign_called (a0 : Str) : Option Bool :=
  cond (a0 == ([] : Str))
  (some false)
  (cond (decide (((List.length a0 : Nat) : Int) > 8))
    (some false)
    ((gx a0 0).bind fun c14 =>
      (sign_small ((UInt8.toNat c14 : Nat) : Int)).bind fun r15 =>
      cond (!r15)
      (some false)
      (((lp sign_called_L0 fuel) (a0, ((List.length a0 : Nat) : Int), 0)).bind fun r16 =>
        caseS r16
        (fun z17 => some true)
        (fun z18 => some z18))))

-- sign.SymMay
def sign_SymMay (a0 : Str) (a1 : Int) (a2 : Int) (a3 : Int) : Option Bool :=
  (sign_called a0).bind fun r2 =>
  cond r2
  (cond (decide (a1 ≥ 0))
    (cond (decide (a1 ≤ 2))
      (cond (decide (a2 ≥ 0))
        (cond (decide (a2 ≤ 3))
          (cond (decide (a3 ≥ 1))
            (some (decide (a3 ≤ 20)))
            (some false))
          (some false))
        (some false))
      (some false))
    (some false))
  (some false)

-- sign.find
def sign_find_L0 (rec : ((List QSym) × Str × Int × Int) → Option (Unit ⊕ Int)) (x : ((List QSym) × Str × Int × Int)) : Option (Unit ⊕ Int) :=
  cond (decide (x.2.2.2 < x.2.2.1))
  ((gx x.1 x.2.2.2).bind fun e2 =>
    cond (e2.1 == x.2.1)
    (some (Sum.inr x.2.2.2))
    (rec (x.1, x.2.1, x.2.2.1, (IntKind.wrap .i64 (x.2.2.2 + 1)))))
  (some (Sum.inl ()))

def sign_find (a0 : (List QSym)) (a1 : Str) : Option Int :=
  ((lp sign_find_L0 fuel) (a0, a1, ((List.length a0 : Nat) : Int), 0)).bind fun r6 =>
  caseS r6
  (fun z7 => some (-1))
  (fun z8 => some z8)

-- sign.May
def sign_May_L0 (rec : ((List QSym) × Int) → Option (Unit ⊕ Bool)) (x : ((List QSym) × Int)) : Option (Unit ⊕ Bool) :=
  cond (decide (x.2 < ((List.length x.1 : Nat) : Int)))
  ((gx x.1 x.2).bind fun e6 =>
    (sign_SymMay e6.1 e6.2.1 e6.2.2.1 e6.2.2.2).bind fun r7 =>
    cond (!r7)
    (some (Sum.inr false))
    ((gx x.1 x.2).bind fun e8 =>
      (sign_find x.1 e8.1).bind fun r9 =>
      cond (r9 != x.2)
      (some (Sum.inr false))
      (rec (x.1, (IntKind.wrap .i64 (x.2 + 1))))))
  (some (Sum.inl ()))

def sign_May (a0 : (List QSym)) : Option Bool :=
  cond (decide (((List.length a0 : Nat) : Int) < 1))
  (some false)
  (cond (decide (((List.length a0 : Nat) : Int) > 20))
    (some false)
    ((gx a0 0).bind fun e13 =>
      cond (!(cond (eqS e13.1 [61]) (cond (eqI e13.2.1 0) (cond (eqI e13.2.2.1 2) (cond (eqI e13.2.2.2 1) true false) false) false) false))
      (some false)
      (((lp sign_May_L0 fuel) (a0, 1)).bind fun r14 =>
        caseS r14
        (fun z15 => some true)
        (fun z16 => some z16))))

-- slices.Index[[]int,int]
def slices_Index_L0 (rec : ((List Int) × Int × Int × Int) → Option (Unit ⊕ Int)) (x : ((List Int) × Int × Int × Int)) : Option (Unit ⊕ Int) :=
  cond (decide (x.2.2.2 < x.2.2.1))
  ((gx x.1 x.2.2.2).bind fun e2 =>
    cond (x.2.1 == e2)
    (some (Sum.inr x.2.2.2))
    (rec (x.1, x.2.1, x.2.2.1, (IntKind.wrap .i64 (x.2.2.2 + 1)))))
  (some (Sum.inl ()))

def slices_Index (a0 : (List Int)) (a1 : Int) : Option Int :=
  ((lp slices_Index_L0 fuel) (a0, a1, ((List.length a0 : Nat) : Int), 0)).bind fun r6 =>
  caseS r6
  (fun z7 => some (-1))
  (fun z8 => some z8)

-- slices.Contains[[]int,int]
def slices_Contains (a0 : (List Int)) (a1 : Int) : Option Bool :=
  (slices_Index a0 a1).bind fun r2 =>
  some (decide (r2 ≥ 0))

-- ask.varsMay
def ask_varsMay_L0 (rec : ((List Int) × (List Int) × Int × Int) → Option (Unit ⊕ Bool)) (x : ((List Int) × (List Int) × Int × Int)) : Option (Unit ⊕ Bool) :=
  cond (decide (x.2.2.2 < x.2.2.1))
  ((gx x.2.1 x.2.2.2).bind fun e4 =>
    cond (decide (e4 < 0))
    (some (Sum.inr false))
    (cond (decide (e4 > 23))
      (some (Sum.inr false))
      ((slc2 x.1 none (some x.2.2.2)).bind fun y5 =>
        (slices_Contains y5 e4).bind fun r6 =>
        cond r6
        (some (Sum.inr false))
        (rec (x.1, x.2.1, x.2.2.1, (IntKind.wrap .i64 (x.2.2.2 + 1)))))))
  (some (Sum.inl ()))

def ask_varsMay (a0 : (List Int)) : Option Bool :=
  ((lp ask_varsMay_L0 fuel) (a0, a0, ((List.length a0 : Nat) : Int), 0)).bind fun r10 =>
  caseS r10
  (fun z11 => some true)
  (fun z12 => some z12)

-- slices.Clone[[]int,int]
def slices_Clone (a0 : (Option (List Int))) : Option (List Int) :=
  cond (Option.isNone a0)
  (some ([] : (List Int)))
  (cond (room (List.length ([] : List Int) + List.length (Option.getD a0 [])) 8)
    (some (([] : List Int) ++ (Option.getD a0 [])))
    (none))

-- slices.Clone[[]int,int]
def slices_Clone_1 : Option (List Int) :=
  some ([] : (List Int))

-- slices.Clone[[]int,int]
def slices_CloneN (a0 : (List Int)) : Option (List Int) := slices_Clone (some a0)

-- lit.Opposite
def lit_Opposite (a0 : Bool) (a1 : (List Int)) : Option QLit :=
  (slices_CloneN a1).bind fun r2 =>
  some ((!a0), r2)

-- term.Number
def term_Number (a0 : Int) : Option Int :=
  some (IntKind.wrap .i64 ((-1) - a0))

-- term.args
def term_args (a0 : (List QSym)) (a1 : Int) : Option (Int × Bool) :=
  cond (decide (a1 < 0))
  ((term_Number 23).bind fun r4 =>
    some (0, (decide (a1 ≥ r4))))
  (cond (decide (a1 ≥ ((List.length a0 : Nat) : Int)))
    (some (0, false))
    ((gx a0 a1).bind fun e5 =>
      cond (e5.2.1 == 0)
      (some (0, false))
      ((gx a0 a1).bind fun e6 =>
        some (e6.2.2.1, true))))

-- term.Skip
def term_Skip_L0 (rec : ((List QSym) × (List Int) × Int × Int) → Option (Int × Bool)) (x : ((List QSym) × (List Int) × Int × Int)) : Option (Int × Bool) :=
  cond (decide (x.2.2.1 ≥ ((List.length x.2.1 : Nat) : Int)))
  (some (0, false))
  ((gx x.2.1 x.2.2.1).bind fun e5 =>
    (term_args x.1 e5).bind fun r6 =>
    cond (!r6.2)
    (some (0, false))
    (cond (decide ((IntKind.wrap .i64 (x.2.2.2 + (IntKind.wrap .i64 (r6.1 - 1)))) > 0))
      (rec (x.1, x.2.1, (IntKind.wrap .i64 (x.2.2.1 + 1)), (IntKind.wrap .i64 (x.2.2.2 + (IntKind.wrap .i64 (r6.1 - 1))))))
      (some ((IntKind.wrap .i64 (x.2.2.1 + 1)), true))))

def term_Skip (a0 : (List QSym)) (a1 : (List Int)) (a2 : Int) : Option (Int × Bool) :=
  cond (decide (a2 ≥ ((List.length a1 : Nat) : Int)))
  (some (0, false))
  ((gx a1 a2).bind fun e8 =>
    (term_args a0 e8).bind fun r9 =>
    cond (!r9.2)
    (some (0, false))
    (cond (decide ((IntKind.wrap .i64 (1 + (IntKind.wrap .i64 (r9.1 - 1)))) > 0))
      ((((lp term_Skip_L0 fuel) (a0, a1, (IntKind.wrap .i64 (a2 + 1)), (IntKind.wrap .i64 (1 + (IntKind.wrap .i64 (r9.1 - 1))))))).bind fun r10 =>
        some (r10.1, r10.2))
      (some ((IntKind.wrap .i64 (a2 + 1)), true))))

-- term.begins
def term_begins_L0 (rec : ((List QSym) × (List Int) × Int × (List Int)) → Option QLit) (x : ((List QSym) × (List Int) × Int × (List Int))) : Option QLit :=
  cond (x.2.2.1 == ((List.length x.2.1 : Nat) : Int))
  (some (true, x.2.2.2))
  ((term_Skip x.1 x.2.1 x.2.2.1).bind fun r4 =>
    cond (!r4.2)
    (some (false, ([] : (List Int))))
    (cond (room (List.length x.2.2.2 + List.length ([x.2.2.1] : List Int)) 8)
      (rec (x.1, x.2.1, r4.1, (x.2.2.2 ++ ([x.2.2.1] : List Int))))
      (none)))

def term_begins (a0 : (List QSym)) (a1 : (List Int)) : Option QLit :=
  (sign_May a0).bind fun r6 =>
  cond (!r6)
  (some (false, ([] : (List Int))))
  (cond (decide (((List.length a1 : Nat) : Int) > 48))
    (some (false, ([] : (List Int))))
    (cond (0 == ((List.length a1 : Nat) : Int))
      (some (true, ([] : (List Int))))
      ((term_Skip a0 a1 0).bind fun r7 =>
        cond (!r7.2)
        (some (false, ([] : (List Int))))
        (cond (room (List.length ([0] : List Int)) 8)
          ((((lp term_begins_L0 fuel) (a0, a1, r7.1, ([0] : List Int)))).bind fun r8 =>
            some (r8.1, r8.2))
          (none)))))

-- term.IsAtom
def term_IsAtom (a0 : (List QSym)) (a1 : (List Int)) : Option Bool :=
  cond (((List.length a1 : Nat) : Int) == 0)
  (some false)
  ((gx a1 0).bind fun e9 =>
    cond (decide (e9 < 0))
    (some false)
    ((gx a1 0).bind fun e10 =>
      cond (decide (e10 ≥ ((List.length a0 : Nat) : Int)))
      (some false)
      ((gx a1 0).bind fun e11 =>
        (gx a0 e11).bind fun e12 =>
        cond (e12.2.1 != 0)
        (some false)
        ((slc2 a1 (some 1) none).bind fun y13 =>
          (term_begins a0 y13).bind fun r14 =>
          cond r14.1
          ((gx a1 0).bind fun e15 =>
            (gx a0 e15).bind fun e16 =>
            some (((List.length r14.2 : Nat) : Int) == e16.2.2.1))
          (some false)))))

-- lit.May
def lit_May (a0 : (List QSym)) (a1 : Bool) (a2 : (List Int)) : Option Bool :=
  (term_IsAtom a0 a2).bind fun r2 =>
  some r2

-- clause.litsMay
def clause_litsMay_L0 (rec : ((List QSym) × Int × (List QLit) × Int × Int) → Option (Int ⊕ (Int × Bool))) (x : ((List QSym) × Int × (List QLit) × Int × Int)) : Option (Int ⊕ (Int × Bool)) :=
  cond (decide (x.2.2.2.2 < x.2.2.2.1))
  ((gx x.2.2.1 x.2.2.2.2).bind fun e3 =>
    (lit_May x.1 e3.1 e3.2).bind fun r4 =>
    cond (!r4)
    (some (Sum.inr (0, false)))
    (rec (x.1, (IntKind.wrap .i64 (x.2.1 + ((List.length e3.2 : Nat) : Int))), x.2.2.1, x.2.2.2.1, (IntKind.wrap .i64 (x.2.2.2.2 + 1)))))
  (some (Sum.inl x.2.1))

def clause_litsMay (a0 : (List QSym)) (a1 : (List QLit)) : Option (Int × Bool) :=
  ((lp clause_litsMay_L0 fuel) (a0, 0, a1, ((List.length a1 : Nat) : Int), 0)).bind fun r8 =>
  caseS r8
  (fun z9 => some (z9, true))
  (fun z10 => some (z10.1, z10.2))

-- term.Row
def term_Row (a0 : (List QSym)) (a1 : (List Int)) : Option (Int × Int) :=
  (term_begins a0 a1).bind fun r2 =>
  cond (!r2.1)
  (some (0, 200))
  (some (((List.length r2.2 : Nat) : Int), 0))

-- clause.rowsMay
def clause_rowsMay_L0 (rec : ((List QSym) × Int × Int × (List (List Int)) × Int × Int) → Option (Int ⊕ (Int × Bool))) (x : ((List QSym) × Int × Int × (List (List Int)) × Int × Int)) : Option (Int ⊕ (Int × Bool)) :=
  cond (decide (x.2.2.2.2.2 < x.2.2.2.2.1))
  ((gx x.2.2.2.1 x.2.2.2.2.2).bind fun e3 =>
    (term_Row x.1 e3).bind fun r4 =>
    cond (x.2.2.2.2.2 == 0)
    (cond (r4.2 != 0)
      (some (Sum.inr (0, false)))
      (cond (r4.1 != r4.1)
        (some (Sum.inr (0, false)))
        (rec (x.1, (IntKind.wrap .i64 (x.2.1 + ((List.length e3 : Nat) : Int))), r4.1, x.2.2.2.1, x.2.2.2.2.1, (IntKind.wrap .i64 (x.2.2.2.2.2 + 1))))))
    (cond (r4.2 != 0)
      (some (Sum.inr (0, false)))
      (cond (r4.1 != x.2.2.1)
        (some (Sum.inr (0, false)))
        (rec (x.1, (IntKind.wrap .i64 (x.2.1 + ((List.length e3 : Nat) : Int))), x.2.2.1, x.2.2.2.1, x.2.2.2.2.1, (IntKind.wrap .i64 (x.2.2.2.2.2 + 1)))))))
  (some (Sum.inl x.2.1))

def clause_rowsMay (a0 : (List QSym)) (a1 : (List (List Int))) : Option (Int × Bool) :=
  ((lp clause_rowsMay_L0 fuel) (a0, 0, 0, a1, ((List.length a1 : Nat) : Int), 0)).bind fun r8 =>
  caseS r8
  (fun z9 => some (z9, true))
  (fun z10 => some (z10.1, z10.2))

-- clause.May
def clause_May (a0 : (List QSym)) (a1 : (List QLit)) (a2 : (List (List Int))) (a3 : (List QLit)) : Option Bool :=
  (sign_May a0).bind fun r5 =>
  cond (!r5)
  (some false)
  (cond (decide (((List.length a1 : Nat) : Int) > 5))
    (some false)
    (cond (decide (((List.length a2 : Nat) : Int) > 3))
      (some false)
      (cond (decide (((List.length a3 : Nat) : Int) > 3))
        (some false)
        ((clause_litsMay a0 a1).bind fun r6 =>
          (clause_rowsMay a0 a2).bind fun r7 =>
          (clause_litsMay a0 a3).bind fun r8 =>
          cond r6.2
          (cond r7.2
            (cond r8.2
              (some (decide ((IntKind.wrap .i64 ((IntKind.wrap .i64 (r6.1 + r7.1)) + r8.1)) ≤ 240)))
              (some false))
            (some false))
          (some false)))))

-- slices.Equal[[]int,int]
def slices_Equal_L0 (rec : ((List Int) × (List Int) × Int × Int) → Option (Unit ⊕ Bool)) (x : ((List Int) × (List Int) × Int × Int)) : Option (Unit ⊕ Bool) :=
  cond (decide (x.2.2.2 < x.2.2.1))
  ((gx x.1 x.2.2.2).bind fun e3 =>
    (gx x.2.1 x.2.2.2).bind fun e4 =>
    cond (e3 != e4)
    (some (Sum.inr false))
    (rec (x.1, x.2.1, x.2.2.1, (IntKind.wrap .i64 (x.2.2.2 + 1)))))
  (some (Sum.inl ()))

def slices_Equal (a0 : (List Int)) (a1 : (List Int)) : Option Bool :=
  cond (((List.length a0 : Nat) : Int) != ((List.length a1 : Nat) : Int))
  (some false)
  (((lp slices_Equal_L0 fuel) (a0, a1, ((List.length a0 : Nat) : Int), 0)).bind fun r8 =>
    caseS r8
    (fun z9 => some true)
    (fun z10 => some z10))

-- lit.Same
def lit_Same (a0 : Bool) (a1 : (List Int)) (a2 : Bool) (a3 : (List Int)) : Option Bool :=
  cond (a0 == a2)
  ((slices_Equal a1 a3).bind fun r2 =>
    some r2)
  (some false)

-- clause.once$1
def clause_once_c1 (a0 : Bool) (a1 : (List Int)) (a2 : Bool) (a3 : (List Int)) : Option Bool :=
  (lit_Same a2 a3 a0 a1).bind fun r2 =>
  some r2

-- slices.IndexFunc[[]api.Lit,api.Lit]
def slices_IndexFunc_L0 (rec : ((List QLit) × Int × Int × Bool × (List Int)) → Option (Unit ⊕ Int)) (x : ((List QLit) × Int × Int × Bool × (List Int))) : Option (Unit ⊕ Int) :=
  cond (decide (x.2.2.1 < x.2.1))
  ((gx x.1 x.2.2.1).bind fun e3 =>
    (clause_once_c1 e3.1 e3.2 x.2.2.2.1 x.2.2.2.2).bind fun r4 =>
    cond r4
    (some (Sum.inr x.2.2.1))
    (rec (x.1, x.2.1, (IntKind.wrap .i64 (x.2.2.1 + 1)), x.2.2.2.1, x.2.2.2.2)))
  (some (Sum.inl ()))

def slices_IndexFunc (a0 : (List QLit)) (a1 : Bool) (a2 : (List Int)) : Option Int :=
  ((lp slices_IndexFunc_L0 fuel) (a0, ((List.length a0 : Nat) : Int), 0, a1, a2)).bind fun r8 =>
  caseS r8
  (fun z9 => some (-1))
  (fun z10 => some z10)

-- slices.ContainsFunc[[]api.Lit,api.Lit]
def slices_ContainsFunc (a0 : (List QLit)) (a1 : Bool) (a2 : (List Int)) : Option Bool :=
  (slices_IndexFunc a0 a1 a2).bind fun r2 =>
  some (decide (r2 ≥ 0))

-- clause.once
def clause_once_L0 (rec : ((List QLit) × Int × Int × (List QLit)) → Option (List QLit)) (x : ((List QLit) × Int × Int × (List QLit))) : Option (List QLit) :=
  cond (decide (x.2.2.1 < x.2.1))
  ((gx x.1 x.2.2.1).bind fun e5 =>
    (slices_ContainsFunc x.2.2.2 e5.1 e5.2).bind fun r6 =>
    cond (!r6)
    (cond (room (List.length x.2.2.2 + List.length ([(e5.1, e5.2)] : List QLit)) 32)
      (rec (x.1, x.2.1, (IntKind.wrap .i64 (x.2.2.1 + 1)), (x.2.2.2 ++ ([(e5.1, e5.2)] : List QLit))))
      (none))
    (rec (x.1, x.2.1, (IntKind.wrap .i64 (x.2.2.1 + 1)), x.2.2.2)))
  (some x.2.2.2)

def clause_once (a0 : (List QLit)) : Option (List QLit) :=
  ((lp clause_once_L0 fuel) (a0, ((List.length a0 : Nat) : Int), 0, ([] : (List QLit)))).bind fun r8 =>
  some r8

-- clause.anew$1
def clause_anew_c1 (a0 : (List Int)) (a1 : (List Int)) : Option Bool :=
  (slices_Equal a1 a0).bind fun r2 =>
  some r2

-- slices.IndexFunc[[][]int,[]int]
def slices_IndexFunc_1_L0 (rec : ((List (List Int)) × Int × Int × (List Int)) → Option (Unit ⊕ Int)) (x : ((List (List Int)) × Int × Int × (List Int))) : Option (Unit ⊕ Int) :=
  cond (decide (x.2.2.1 < x.2.1))
  ((gx x.1 x.2.2.1).bind fun e3 =>
    (clause_anew_c1 e3 x.2.2.2).bind fun r4 =>
    cond r4
    (some (Sum.inr x.2.2.1))
    (rec (x.1, x.2.1, (IntKind.wrap .i64 (x.2.2.1 + 1)), x.2.2.2)))
  (some (Sum.inl ()))

def slices_IndexFunc_1 (a0 : (List (List Int))) (a1 : (List Int)) : Option Int :=
  ((lp slices_IndexFunc_1_L0 fuel) (a0, ((List.length a0 : Nat) : Int), 0, a1)).bind fun r8 =>
  caseS r8
  (fun z9 => some (-1))
  (fun z10 => some z10)

-- slices.ContainsFunc[[][]int,[]int]
def slices_ContainsFunc_1 (a0 : (List (List Int))) (a1 : (List Int)) : Option Bool :=
  (slices_IndexFunc_1 a0 a1).bind fun r2 =>
  some (decide (r2 ≥ 0))

-- clause.anew$2
def clause_anew_c2_1_L0 (rec : (Int × Int × (List Int) × Int × (List Int)) → Option ((List Int) × Int × (List Int))) (x : (Int × Int × (List Int) × Int × (List Int))) : Option ((List Int) × Int × (List Int)) :=
  cond (decide (x.2.1 < x.1))
  ((inR x.2.1 (List.length x.2.2.2.2)).bind fun k33 =>
    (x.2.2.2.2[k33]?).bind fun x34 =>
    cond (decide (x34 ≥ 0))
    (rec (x.1, (IntKind.wrap .i64 (x.2.1 + 1)), x.2.2.1, x.2.2.2.1, x.2.2.2.2))
    ((term_Number x34).bind fun r35 =>
      (inR r35 24).bind fun k36 =>
      (x.2.2.1[k36]?).bind fun x37 =>
      cond (x37 == 0)
      ((term_Number x34).bind fun r38 =>
        (inR r38 24).bind fun k39 =>
        (x.2.2.1[k39]?).bind fun x40 =>
        (term_Number x34).bind fun r41 =>
        (inR r41 24).bind fun k42 =>
        ((List.set x.2.2.1 k39 (IntKind.wrap .i64 (x.2.2.2.1 + 1)))[k42]?).bind fun x43 =>
        (inR x.2.1 (List.length x.2.2.2.2)).bind fun k44 =>
        (x.2.2.2.2[k44]?).bind fun x45 =>
        rec (x.1, (IntKind.wrap .i64 (x.2.1 + 1)), (List.set x.2.2.1 k39 (IntKind.wrap .i64 (x.2.2.2.1 + 1))), (IntKind.wrap .i64 (x.2.2.2.1 + 1)), (List.set x.2.2.2.2 k44 (negI .i64 x43))))
      ((term_Number x34).bind fun r46 =>
        (inR r46 24).bind fun k47 =>
        (x.2.2.1[k47]?).bind fun x48 =>
        (inR x.2.1 (List.length x.2.2.2.2)).bind fun k49 =>
        (x.2.2.2.2[k49]?).bind fun x50 =>
        rec (x.1, (IntKind.wrap .i64 (x.2.1 + 1)), x.2.2.1, x.2.2.2.1, (List.set x.2.2.2.2 k49 (negI .i64 x48))))))
  (some (x.2.2.1, x.2.2.2.1, x.2.2.2.2))

def clause_anew_c2_1 (a0 : (List Int)) (a1 : (List Int)) (a2 : Int) : Option ((List Int) × (List Int) × Int) :=
  (slices_CloneN a0).bind fun r52 =>
  ((lp clause_anew_c2_1_L0 fuel) (((List.length r52 : Nat) : Int), 0, a1, a2, r52)).bind fun r53 =>
  cond (Nat.beq (List.length a1) (List.length r53.1) && true)
  (some (r53.2.2, r53.1, r53.2.1))
  (none)

-- clause.each
def clause_each_1_L2 (rec : ((List QLit) × Int × Int × (List Int) × Int × (List QLit) × (List (List Int)) × (List QLit)) → Option ((List Int) × Int × (List QLit) × (List (List Int)) × (List QLit))) (x : ((List QLit) × Int × Int × (List Int) × Int × (List QLit) × (List (List Int)) × (List QLit))) : Option ((List Int) × Int × (List QLit) × (List (List Int)) × (List QLit)) :=
  cond (decide (x.2.2.1 < x.2.1))
  ((gx x.1 x.2.2.1).bind fun e19 =>
    (clause_anew_c2_1 e19.2 x.2.2.2.1 x.2.2.2.2.1).bind fun r20 =>
    cond (room (List.length x.2.2.2.2.2.2.2 + List.length ([(e19.1, r20.1)] : List QLit)) 32)
    (rec (x.1, x.2.1, (IntKind.wrap .i64 (x.2.2.1 + 1)), r20.2.1, r20.2.2, x.2.2.2.2.2.1, x.2.2.2.2.2.2.1, (x.2.2.2.2.2.2.2 ++ ([(e19.1, r20.1)] : List QLit))))
    (none))
  (some (x.2.2.2.1, x.2.2.2.2.1, x.2.2.2.2.2.1, x.2.2.2.2.2.2.1, x.2.2.2.2.2.2.2))

def clause_each_1_L1 (rec : ((List (List Int)) × Int × Int × (List Int) × Int × (List QLit) × (List (List Int)) × (List QLit) × (List QLit) × (List (List Int))) → Option ((List Int) × Int × (List QLit) × (List (List Int)))) (x : ((List (List Int)) × Int × Int × (List Int) × Int × (List QLit) × (List (List Int)) × (List QLit) × (List QLit) × (List (List Int)))) : Option ((List Int) × Int × (List QLit) × (List (List Int))) :=
  cond (decide (x.2.2.1 < x.2.1))
  ((gx x.1 x.2.2.1).bind fun e12 =>
    (clause_anew_c2_1 e12 x.2.2.2.1 x.2.2.2.2.1).bind fun r13 =>
    cond (room (List.length x.2.2.2.2.2.2.2.2.2 + List.length ([r13.1] : List (List Int))) 24)
    (rec (x.1, x.2.1, (IntKind.wrap .i64 (x.2.2.1 + 1)), r13.2.1, r13.2.2, x.2.2.2.2.2.1, x.2.2.2.2.2.2.1, x.2.2.2.2.2.2.2.1, x.2.2.2.2.2.2.2.2.1, (x.2.2.2.2.2.2.2.2.2 ++ ([r13.1] : List (List Int)))))
    (none))
  (some (x.2.2.2.1, x.2.2.2.2.1, x.2.2.2.2.2.2.2.2.1, x.2.2.2.2.2.2.2.2.2))

def clause_each_1_L0 (rec : ((List QLit) × Int × Int × (List Int) × Int × (List QLit) × (List (List Int)) × (List QLit) × (List QLit)) → Option ((List Int) × Int × (List QLit))) (x : ((List QLit) × Int × Int × (List Int) × Int × (List QLit) × (List (List Int)) × (List QLit) × (List QLit))) : Option ((List Int) × Int × (List QLit)) :=
  cond (decide (x.2.2.1 < x.2.1))
  ((gx x.1 x.2.2.1).bind fun e5 =>
    (clause_anew_c2_1 e5.2 x.2.2.2.1 x.2.2.2.2.1).bind fun r6 =>
    cond (room (List.length x.2.2.2.2.2.2.2.2 + List.length ([(e5.1, r6.1)] : List QLit)) 32)
    (rec (x.1, x.2.1, (IntKind.wrap .i64 (x.2.2.1 + 1)), r6.2.1, r6.2.2, x.2.2.2.2.2.1, x.2.2.2.2.2.2.1, x.2.2.2.2.2.2.2.1, (x.2.2.2.2.2.2.2.2 ++ ([(e5.1, r6.1)] : List QLit))))
    (none))
  (some (x.2.2.2.1, x.2.2.2.2.1, x.2.2.2.2.2.2.2.2))

def clause_each_1 (a0 : (List QLit)) (a1 : (List (List Int))) (a2 : (List QLit)) (a3 : (List Int)) (a4 : Int) : Option ((List QLit) × (List (List Int)) × (List QLit) × (List Int) × Int) :=
  ((lp clause_each_1_L0 fuel) (a0, ((List.length a0 : Nat) : Int), 0, a3, a4, a0, a1, a2, ([] : (List QLit)))).bind fun r22 =>
  ((lp clause_each_1_L1 fuel) (a1, ((List.length a1 : Nat) : Int), 0, r22.1, r22.2.1, a0, a1, a2, r22.2.2, ([] : (List (List Int))))).bind fun r23 =>
  ((lp clause_each_1_L2 fuel) (a2, ((List.length a2 : Nat) : Int), 0, r23.1, r23.2.1, r23.2.2.1, r23.2.2.2, ([] : (List QLit)))).bind fun r24 =>
  cond (Nat.beq (List.length a3) (List.length r24.1) && true)
  (some (r24.2.2.1, r24.2.2.2.1, r24.2.2.2.2, r24.1, r24.2.1))
  (none)

-- clause.anew
def clause_anew_L0 (rec : ((List (List Int)) × Int × Int × (List QLit) × (List QLit) × (List (List Int))) → Option ((List QLit) × (List QLit) × (List (List Int)))) (x : ((List (List Int)) × Int × Int × (List QLit) × (List QLit) × (List (List Int)))) : Option ((List QLit) × (List QLit) × (List (List Int))) :=
  cond (decide (x.2.2.1 < x.2.1))
  ((gx x.1 x.2.2.1).bind fun e7 =>
    (slices_ContainsFunc_1 x.2.2.2.2.2 e7).bind fun r8 =>
    cond (!r8)
    (cond (room (List.length x.2.2.2.2.2 + List.length ([e7] : List (List Int))) 24)
      (rec (x.1, x.2.1, (IntKind.wrap .i64 (x.2.2.1 + 1)), x.2.2.2.1, x.2.2.2.2.1, (x.2.2.2.2.2 ++ ([e7] : List (List Int)))))
      (none))
    (rec (x.1, x.2.1, (IntKind.wrap .i64 (x.2.2.1 + 1)), x.2.2.2.1, x.2.2.2.2.1, x.2.2.2.2.2)))
  (some (x.2.2.2.1, x.2.2.2.2.1, x.2.2.2.2.2))

def clause_anew (a0 : (List QLit)) (a1 : (List (List Int))) (a2 : (List QLit)) : Option ((List QLit) × (List (List Int)) × (List QLit)) :=
  (clause_once a0).bind fun r11 =>
  (clause_once a2).bind fun r12 =>
  ((lp clause_anew_L0 fuel) (a1, ((List.length a1 : Nat) : Int), 0, r11, r12, ([] : (List (List Int))))).bind fun r13 =>
  (clause_each_1 r13.1 r13.2.2 r13.2.1 (List.replicate 24 (0 : Int)) 0).bind fun r14 =>
  some (r14.1, r14.2.1, r14.2.2.1)

-- clause.Normal
def clause_Normal (a0 : (List QSym)) (a1 : (List QLit)) (a2 : (List (List Int))) (a3 : (List QLit)) : Option ((List QLit) × (List (List Int)) × Int × (List QLit)) :=
  (clause_May a0 a1 a2 a3).bind fun r3 =>
  cond (!r3)
  (some (([] : (List QLit)), ([] : (List (List Int))), 800, ([] : (List QLit))))
  ((clause_anew a1 a2 a3).bind fun r4 =>
    some (r4.1, r4.2.1, 0, r4.2.2))

-- ask.Goal
def ask_Goal_L1 (rec : ((List QSym) × (List Int) × Int × Int × (List QLit) × (List Int)) → Option (List Int)) (x : ((List QSym) × (List Int) × Int × Int × (List QLit) × (List Int))) : Option (List Int) :=
  cond (decide (x.2.2.2.1 < x.2.2.1))
  ((gx x.2.1 x.2.2.2.1).bind fun e14 =>
    (term_Number e14).bind fun r15 =>
    (inR x.2.2.2.1 (List.length x.2.2.2.2.2)).bind fun k16 =>
    (x.2.2.2.2.2[k16]?).bind fun x17 =>
    rec (x.1, x.2.1, x.2.2.1, (IntKind.wrap .i64 (x.2.2.2.1 + 1)), x.2.2.2.2.1, (List.set x.2.2.2.2.2 k16 r15)))
  (some x.2.2.2.2.2)

def ask_Goal_L0 (rec : ((List QSym) × (List Int) × (List QLit) × Int × Int × (List QLit)) → Option (List QLit)) (x : ((List QSym) × (List Int) × (List QLit) × Int × Int × (List QLit))) : Option (List QLit) :=
  cond (decide (x.2.2.2.2.1 < x.2.2.2.1))
  ((gx x.2.2.1 x.2.2.2.2.1).bind fun e7 =>
    (lit_Opposite e7.1 e7.2).bind fun r8 =>
    cond (room (List.length x.2.2.2.2.2 + List.length ([(r8.1, r8.2)] : List QLit)) 32)
    (rec (x.1, x.2.1, x.2.2.1, x.2.2.2.1, (IntKind.wrap .i64 (x.2.2.2.2.1 + 1)), (x.2.2.2.2.2 ++ ([(r8.1, r8.2)] : List QLit))))
    (none))
  (some x.2.2.2.2.2)

def ask_Goal (a0 : (List QSym)) (a1 : (List Int)) (a2 : (List QLit)) : Option ((List QLit) × (List (List Int)) × Int × (List QLit)) :=
  (sign_May a0).bind fun r20 =>
  cond (!r20)
  (some (([] : (List QLit)), ([] : (List (List Int))), 2400, ([] : (List QLit))))
  (cond (((List.length a2 : Nat) : Int) == 0)
    (some (([] : (List QLit)), ([] : (List (List Int))), 2400, ([] : (List QLit))))
    (cond (decide (((List.length a2 : Nat) : Int) > 5))
      (some (([] : (List QLit)), ([] : (List (List Int))), 2400, ([] : (List QLit))))
      ((ask_varsMay a1).bind fun r21 =>
        cond (!r21)
        (some (([] : (List QLit)), ([] : (List (List Int))), 2400, ([] : (List QLit))))
        (((lp ask_Goal_L0 fuel) (a0, a1, a2, ((List.length a2 : Nat) : Int), 0, ([] : (List QLit)))).bind fun r22 =>
          cond (eqI ((List.length a1 : Nat) : Int) ((List.length a1 : Nat) : Int))
          (cond (nneg ((List.length a1 : Nat) : Int))
            (cond (room (Int.toNat ((List.length a1 : Nat) : Int)) 8)
              (((lp ask_Goal_L1 fuel) (a0, a1, ((List.length a1 : Nat) : Int), 0, r22, (List.replicate (Int.toNat ((List.length a1 : Nat) : Int)) (0 : Int)))).bind fun r23 =>
                (clause_Normal a0 r22 ([r23] : List (List Int)) ([] : (List QLit))).bind fun r24 =>
                cond (r24.2.2.1 != 0)
                (some (([] : (List QLit)), ([] : (List (List Int))), 2400, ([] : (List QLit))))
                (some (r24.1, r24.2.1, 0, r24.2.2.2)))
              (none))
            (none))
          (none)))))

-- term.Pieces
def term_Pieces_L0 (rec : ((List QSym) × (List Int) × Int × (List (List Int))) → Option ((List (List Int)) ⊕ (List (List Int)))) (x : ((List QSym) × (List Int) × Int × (List (List Int)))) : Option ((List (List Int)) ⊕ (List (List Int))) :=
  cond (decide (x.2.2.1 < ((List.length x.2.1 : Nat) : Int)))
  ((term_Skip x.1 x.2.1 x.2.2.1).bind fun r5 =>
    cond (!r5.2)
    (some (Sum.inr x.2.2.2))
    ((slc2 x.2.1 (some x.2.2.1) (some r5.1)).bind fun y6 =>
      cond (room (List.length x.2.2.2 + List.length ([y6] : List (List Int))) 24)
      (rec (x.1, x.2.1, r5.1, (x.2.2.2 ++ ([y6] : List (List Int)))))
      (none)))
  (some (Sum.inl x.2.2.2))

def term_Pieces (a0 : (List QSym)) (a1 : (List Int)) : Option (List (List Int)) :=
  ((lp term_Pieces_L0 fuel) (a0, a1, 0, ([] : (List (List Int))))).bind fun r10 =>
  caseS r10
  (fun z11 => some z11)
  (fun z12 => some z12)

-- strconv.Itoa
def strconv_Itoa (a0 : Int) : Option Str := itoaF a0

-- strings.Join
def strings_Join (a0 : List Str) (a1 : Str) : Option Str := joinF a0 a1

-- formula.ShowTerms
def formula_ShowTerms_L0 (rf : (((List QSym) × (List Int)) → Option Str)) (rec : ((List QSym) × (List (List Int)) × Int × Int × (List Str)) → Option (List Str)) (x : ((List QSym) × (List (List Int)) × Int × Int × (List Str))) : Option (List Str) :=
  cond (decide (x.2.2.2.1 < x.2.2.1))
  ((gx x.2.1 x.2.2.2.1).bind fun e18 =>
    (gx e18 0).bind fun e19 =>
    cond (decide (e19 < 0))
    ((gx e18 0).bind fun e20 =>
      (term_Number e20).bind fun r21 =>
      (strconv_Itoa r21).bind fun r22 =>
      cond (decide ((List.length ([88] : Str) + List.length r22 : Nat) < 4611686018427387904))
      (cond (room (List.length x.2.2.2.2 + List.length ([(([88] : Str) ++ r22)] : List Str)) 16)
        (rec (x.1, x.2.1, x.2.2.1, (IntKind.wrap .i64 (x.2.2.2.1 + 1)), (x.2.2.2.2 ++ ([(([88] : Str) ++ r22)] : List Str))))
        (none))
      (none))
    (cond (((List.length e18 : Nat) : Int) == 1)
      ((gx e18 0).bind fun e23 =>
        (gx x.1 e23).bind fun e24 =>
        cond (room (List.length x.2.2.2.2 + List.length ([e24.1] : List Str)) 16)
        (rec (x.1, x.2.1, x.2.2.1, (IntKind.wrap .i64 (x.2.2.2.1 + 1)), (x.2.2.2.2 ++ ([e24.1] : List Str))))
        (none))
      ((gx e18 0).bind fun e25 =>
        (gx x.1 e25).bind fun e26 =>
        cond (decide ((List.length e26.1 + List.length ([40] : Str) : Nat) < 4611686018427387904))
        ((slc2 e18 (some 1) none).bind fun y27 =>
          (rf (x.1, y27)).bind fun r28 =>
          cond (decide ((List.length (e26.1 ++ ([40] : Str)) + List.length r28 : Nat) < 4611686018427387904))
          (cond (decide ((List.length ((e26.1 ++ ([40] : Str)) ++ r28) + List.length ([41] : Str) : Nat) < 4611686018427387904))
            (cond (room (List.length x.2.2.2.2 + List.length ([(((e26.1 ++ ([40] : Str)) ++ r28) ++ ([41] : Str))] : List Str)) 16)
              (rec (x.1, x.2.1, x.2.2.1, (IntKind.wrap .i64 (x.2.2.2.1 + 1)), (x.2.2.2.2 ++ ([(((e26.1 ++ ([40] : Str)) ++ r28) ++ ([41] : Str))] : List Str))))
              (none))
            (none))
          (none))
        (none))))
  (some x.2.2.2.2)

def formula_ShowTerms_S (rf : (((List QSym) × (List Int)) → Option Str)) (a0 : (List QSym)) (a1 : (List Int)) : Option Str :=
  (term_Pieces a0 a1).bind fun r31 =>
  ((lp (formula_ShowTerms_L0 rf) fuel) (a0, r31, ((List.length r31 : Nat) : Int), 0, ([] : (List Str)))).bind fun r32 =>
  (strings_Join r32 ([44, 32] : Str)).bind fun r33 =>
  some r33

def formula_ShowTerms_R_step (rf : (((List QSym) × (List Int)) → Option Str)) : (((List QSym) × (List Int)) → Option Str) :=
  fun (x : ((List QSym) × (List Int))) => formula_ShowTerms_S rf x.1 x.2

def formula_ShowTerms_R_base : (((List QSym) × (List Int)) → Option Str) := fun _ => none
def formula_ShowTerms_R (k : Nat) : (((List QSym) × (List Int)) → Option Str) := lpR formula_ShowTerms_R_base formula_ShowTerms_R_step k

def formula_ShowTerms (a0 : (List QSym)) (a1 : (List Int)) : Option Str := (formula_ShowTerms_R fuel) (a0, a1)
-- formula.ShowAtom
def formula_ShowAtom (a0 : (List QSym)) (a1 : (List Int)) : Option Str :=
  (gx a1 0).bind fun e16 =>
  cond (e16 == 0)
  ((slc2 a1 (some 1) none).bind fun y17 =>
    (term_Pieces a0 y17).bind fun r18 =>
    (inR 0 (List.length r18)).bind fun k19 =>
    (r18[k19]?).bind fun x20 =>
    (formula_ShowTerms a0 x20).bind fun r21 =>
    cond (decide ((List.length r21 + List.length ([32, 61, 32] : Str) : Nat) < 4611686018427387904))
    ((inR 1 (List.length r18)).bind fun k22 =>
      (r18[k22]?).bind fun x23 =>
      (formula_ShowTerms a0 x23).bind fun r24 =>
      cond (decide ((List.length (r21 ++ ([32, 61, 32] : Str)) + List.length r24 : Nat) < 4611686018427387904))
      (some ((r21 ++ ([32, 61, 32] : Str)) ++ r24))
      (none))
    (none))
  (cond (((List.length a1 : Nat) : Int) == 1)
    ((gx a1 0).bind fun e25 =>
      (gx a0 e25).bind fun e26 =>
      some e26.1)
    ((gx a1 0).bind fun e27 =>
      (gx a0 e27).bind fun e28 =>
      cond (decide ((List.length e28.1 + List.length ([40] : Str) : Nat) < 4611686018427387904))
      ((slc2 a1 (some 1) none).bind fun y29 =>
        (formula_ShowTerms a0 y29).bind fun r30 =>
        cond (decide ((List.length (e28.1 ++ ([40] : Str)) + List.length r30 : Nat) < 4611686018427387904))
        (cond (decide ((List.length ((e28.1 ++ ([40] : Str)) ++ r30) + List.length ([41] : Str) : Nat) < 4611686018427387904))
          (some (((e28.1 ++ ([40] : Str)) ++ r30) ++ ([41] : Str)))
          (none))
        (none))
      (none)))

-- ask.Show
def ask_Show_L1 (rec : ((List QSym) × (List Str) × (List QLit) × Int × Int × (List Str)) → Option (List Str)) (x : ((List QSym) × (List Str) × (List QLit) × Int × Int × (List Str))) : Option (List Str) :=
  cond (decide (x.2.2.2.2.1 < x.2.2.2.1))
  ((gx x.2.2.1 x.2.2.2.2.1).bind fun e13 =>
    (formula_ShowAtom x.1 e13.2).bind fun r14 =>
    cond e13.1
    (cond (decide ((List.length ([126] : Str) + List.length r14 : Nat) < 4611686018427387904))
      (cond (room (List.length x.2.2.2.2.2 + List.length ([(([126] : Str) ++ r14)] : List Str)) 16)
        (rec (x.1, x.2.1, x.2.2.1, x.2.2.2.1, (IntKind.wrap .i64 (x.2.2.2.2.1 + 1)), (x.2.2.2.2.2 ++ ([(([126] : Str) ++ r14)] : List Str))))
        (none))
      (none))
    (cond (room (List.length x.2.2.2.2.2 + List.length ([r14] : List Str)) 16)
      (rec (x.1, x.2.1, x.2.2.1, x.2.2.2.1, (IntKind.wrap .i64 (x.2.2.2.2.1 + 1)), (x.2.2.2.2.2 ++ ([r14] : List Str))))
      (none)))
  (some x.2.2.2.2.2)

def ask_Show_L0 (rec : ((List QSym) × (List (List Int)) × Int × Int × (List QLit) × (List (List Int)) × (List QLit) × (List Str)) → Option (List Str)) (x : ((List QSym) × (List (List Int)) × Int × Int × (List QLit) × (List (List Int)) × (List QLit) × (List Str))) : Option (List Str) :=
  cond (decide (x.2.2.2.1 < x.2.2.1))
  ((gx x.2.1 x.2.2.2.1).bind fun e6 =>
    (formula_ShowTerms x.1 e6).bind fun r7 =>
    cond (decide ((List.length ([40] : Str) + List.length r7 : Nat) < 4611686018427387904))
    (cond (decide ((List.length (([40] : Str) ++ r7) + List.length ([41] : Str) : Nat) < 4611686018427387904))
      (cond (room (List.length x.2.2.2.2.2.2.2 + List.length ([((([40] : Str) ++ r7) ++ ([41] : Str))] : List Str)) 16)
        (rec (x.1, x.2.1, x.2.2.1, (IntKind.wrap .i64 (x.2.2.2.1 + 1)), x.2.2.2.2.1, x.2.2.2.2.2.1, x.2.2.2.2.2.2.1, (x.2.2.2.2.2.2.2 ++ ([((([40] : Str) ++ r7) ++ ([41] : Str))] : List Str))))
        (none))
      (none))
    (none))
  (some x.2.2.2.2.2.2.2)

def ask_Show (a0 : (List QSym)) (a1 : (List QLit)) (a2 : (List (List Int))) (a3 : (List QLit)) : Option (Str × Int) :=
  (clause_May a0 a1 a2 a3).bind fun r18 =>
  cond (!r18)
  (some (([] : Str), 2400))
  (cond (decide (((List.length a1 : Nat) : Int) > 0))
    (some (([] : Str), 2400))
    (cond (((List.length a2 : Nat) : Int) == 0)
      (some (([] : Str), 2400))
      (((lp ask_Show_L0 fuel) (a0, a2, ((List.length a2 : Nat) : Int), 0, a1, a2, a3, ([] : (List Str)))).bind fun r19 =>
        ((lp ask_Show_L1 fuel) (a0, r19, a3, ((List.length a3 : Nat) : Int), 0, ([] : (List Str)))).bind fun r20 =>
        (strings_Join r19 ([32, 111, 114, 32] : Str)).bind fun r21 =>
        cond (decide (((List.length r20 : Nat) : Int) > 0))
        ((strings_Join r20 ([32, 38, 32] : Str)).bind fun r22 =>
          cond (decide ((List.length ([32, 105, 102, 32] : Str) + List.length r22 : Nat) < 4611686018427387904))
          (cond (decide ((List.length r21 + List.length (([32, 105, 102, 32] : Str) ++ r22) : Nat) < 4611686018427387904))
            (some ((r21 ++ (([32, 105, 102, 32] : Str) ++ r22)), 0))
            (none))
          (none))
        (some (r21, 0)))))

-- ask.own$1
def ask_own_c1 (a0 : Int) (a1 : (List QSym)) : Option Bool :=
  cond (decide (a0 ≥ 0))
  ((gx a1 a0).bind fun e2 =>
    some (e2.2.1 == 2))
  (some false)

-- slices.IndexFunc[[]int,int]
def slices_IndexFunc_3_L0 (rec : ((List Int) × Int × Int × (List QSym)) → Option (Unit ⊕ Int)) (x : ((List Int) × Int × Int × (List QSym))) : Option (Unit ⊕ Int) :=
  cond (decide (x.2.2.1 < x.2.1))
  ((gx x.1 x.2.2.1).bind fun e3 =>
    (ask_own_c1 e3 x.2.2.2).bind fun r4 =>
    cond r4
    (some (Sum.inr x.2.2.1))
    (rec (x.1, x.2.1, (IntKind.wrap .i64 (x.2.2.1 + 1)), x.2.2.2)))
  (some (Sum.inl ()))

def slices_IndexFunc_3 (a0 : (List Int)) (a1 : (List QSym)) : Option Int :=
  ((lp slices_IndexFunc_3_L0 fuel) (a0, ((List.length a0 : Nat) : Int), 0, a1)).bind fun r8 =>
  caseS r8
  (fun z9 => some (-1))
  (fun z10 => some z10)

-- slices.ContainsFunc[[]int,int]
def slices_ContainsFunc_3 (a0 : (List Int)) (a1 : (List QSym)) : Option Bool :=
  (slices_IndexFunc_3 a0 a1).bind fun r2 =>
  some (decide (r2 ≥ 0))

-- ask.own
def ask_own (a0 : (List QSym)) (a1 : (List Int)) : Option Bool :=
  (slices_ContainsFunc_3 a1 a0).bind fun r2 =>
  some r2

-- ask.Fine$1
def ask_Fine_c1 (a0 : (List Int)) (a1 : (List QSym)) : Option Bool :=
  (ask_own a1 a0).bind fun r2 =>
  some r2

-- slices.IndexFunc[[][]int,[]int]
def slices_IndexFunc_2_L0 (rec : ((List (List Int)) × Int × Int × (List QSym)) → Option (Unit ⊕ Int)) (x : ((List (List Int)) × Int × Int × (List QSym))) : Option (Unit ⊕ Int) :=
  cond (decide (x.2.2.1 < x.2.1))
  ((gx x.1 x.2.2.1).bind fun e3 =>
    (ask_Fine_c1 e3 x.2.2.2).bind fun r4 =>
    cond r4
    (some (Sum.inr x.2.2.1))
    (rec (x.1, x.2.1, (IntKind.wrap .i64 (x.2.2.1 + 1)), x.2.2.2)))
  (some (Sum.inl ()))

def slices_IndexFunc_2 (a0 : (List (List Int))) (a1 : (List QSym)) : Option Int :=
  ((lp slices_IndexFunc_2_L0 fuel) (a0, ((List.length a0 : Nat) : Int), 0, a1)).bind fun r8 =>
  caseS r8
  (fun z9 => some (-1))
  (fun z10 => some z10)

-- slices.ContainsFunc[[][]int,[]int]
def slices_ContainsFunc_2 (a0 : (List (List Int))) (a1 : (List QSym)) : Option Bool :=
  (slices_IndexFunc_2 a0 a1).bind fun r2 =>
  some (decide (r2 ≥ 0))

-- ask.Fine$2
def ask_Fine_c2 (a0 : Bool) (a1 : (List Int)) (a2 : (List QSym)) : Option Bool :=
  (ask_Fine_c1 a1 a2).bind fun r2 =>
  some r2

-- slices.IndexFunc[[]api.Lit,api.Lit]
def slices_IndexFunc_4_L0 (rec : ((List QLit) × Int × Int × (List QSym)) → Option (Unit ⊕ Int)) (x : ((List QLit) × Int × Int × (List QSym))) : Option (Unit ⊕ Int) :=
  cond (decide (x.2.2.1 < x.2.1))
  ((gx x.1 x.2.2.1).bind fun e3 =>
    (ask_Fine_c2 e3.1 e3.2 x.2.2.2).bind fun r4 =>
    cond r4
    (some (Sum.inr x.2.2.1))
    (rec (x.1, x.2.1, (IntKind.wrap .i64 (x.2.2.1 + 1)), x.2.2.2)))
  (some (Sum.inl ()))

def slices_IndexFunc_4 (a0 : (List QLit)) (a1 : (List QSym)) : Option Int :=
  ((lp slices_IndexFunc_4_L0 fuel) (a0, ((List.length a0 : Nat) : Int), 0, a1)).bind fun r8 =>
  caseS r8
  (fun z9 => some (-1))
  (fun z10 => some z10)

-- slices.ContainsFunc[[]api.Lit,api.Lit]
def slices_ContainsFunc_4 (a0 : (List QLit)) (a1 : (List QSym)) : Option Bool :=
  (slices_IndexFunc_4 a0 a1).bind fun r2 =>
  some (decide (r2 ≥ 0))

-- ask.Fine
def ask_Fine (a0 : (List QSym)) (a1 : (List QLit)) (a2 : (List (List Int))) (a3 : (List QLit)) : Option (Bool × Int) :=
  (clause_May a0 a1 a2 a3).bind fun r4 =>
  cond (!r4)
  (some (false, 2400))
  ((slices_ContainsFunc_2 a2 a0).bind fun r5 =>
    cond (!r5)
    ((slices_ContainsFunc_4 a3 a0).bind fun r6 =>
      some ((!r6), 0))
    (some (false, 0)))

-- quaerelaw0.Num
def law0_Num (a0 : Int) : Option Int :=
  some a0

-- quaerelaw0.SameInts
def law0_SameInts_L0 (rec : ((List Int) × (List Int) × Int) → Option (Unit ⊕ Bool)) (x : ((List Int) × (List Int) × Int)) : Option (Unit ⊕ Bool) :=
  cond (decide (x.2.2 < ((List.length x.1 : Nat) : Int)))
  ((gx x.1 x.2.2).bind fun e3 =>
    (gx x.2.1 x.2.2).bind fun e4 =>
    cond (e3 != e4)
    (some (Sum.inr false))
    (rec (x.1, x.2.1, (IntKind.wrap .i64 (x.2.2 + 1)))))
  (some (Sum.inl ()))

def law0_SameInts (a0 : (List Int)) (a1 : (List Int)) : Option Bool :=
  cond (((List.length a0 : Nat) : Int) != ((List.length a1 : Nat) : Int))
  (some false)
  (((lp law0_SameInts_L0 fuel) (a0, a1, 0)).bind fun r8 =>
    caseS r8
    (fun z9 => some true)
    (fun z10 => some z10))

-- quaerelaw0.SameLits
def law0_SameLits_L0 (rec : ((List QLit) × (List QLit) × Int) → Option (Unit ⊕ Bool)) (x : ((List QLit) × (List QLit) × Int)) : Option (Unit ⊕ Bool) :=
  cond (decide (x.2.2 < ((List.length x.1 : Nat) : Int)))
  ((gx x.1 x.2.2).bind fun e6 =>
    (gx x.2.1 x.2.2).bind fun e7 =>
    cond (!(e6.1 == e7.1))
    (some (Sum.inr false))
    ((gx x.1 x.2.2).bind fun e8 =>
      (gx x.2.1 x.2.2).bind fun e9 =>
      (law0_SameInts e8.2 e9.2).bind fun r10 =>
      cond (!r10)
      (some (Sum.inr false))
      (rec (x.1, x.2.1, (IntKind.wrap .i64 (x.2.2 + 1))))))
  (some (Sum.inl ()))

def law0_SameLits (a0 : (List QLit)) (a1 : (List QLit)) : Option Bool :=
  cond (((List.length a0 : Nat) : Int) != ((List.length a1 : Nat) : Int))
  (some false)
  (((lp law0_SameLits_L0 fuel) (a0, a1, 0)).bind fun r14 =>
    caseS r14
    (fun z15 => some true)
    (fun z16 => some z16))

-- quaerelaw0.SameRows
def law0_SameRows_L0 (rec : ((List (List Int)) × (List (List Int)) × Int) → Option (Unit ⊕ Bool)) (x : ((List (List Int)) × (List (List Int)) × Int)) : Option (Unit ⊕ Bool) :=
  cond (decide (x.2.2 < ((List.length x.1 : Nat) : Int)))
  ((gx x.1 x.2.2).bind fun e4 =>
    (gx x.2.1 x.2.2).bind fun e5 =>
    (law0_SameInts e4 e5).bind fun r6 =>
    cond (!r6)
    (some (Sum.inr false))
    (rec (x.1, x.2.1, (IntKind.wrap .i64 (x.2.2 + 1)))))
  (some (Sum.inl ()))

def law0_SameRows (a0 : (List (List Int))) (a1 : (List (List Int))) : Option Bool :=
  cond (((List.length a0 : Nat) : Int) != ((List.length a1 : Nat) : Int))
  (some false)
  (((lp law0_SameRows_L0 fuel) (a0, a1, 0)).bind fun r10 =>
    caseS r10
    (fun z11 => some true)
    (fun z12 => some z12))

-- quaerelaw0.SameClause
def law0_SameClause (a0 : (List QLit)) (a1 : (List (List Int))) (a2 : (List QLit)) (a3 : (List QLit)) (a4 : (List (List Int))) (a5 : (List QLit)) : Option Bool :=
  (law0_SameLits a0 a3).bind fun r4 =>
  cond r4
  ((law0_SameRows a1 a4).bind fun r5 =>
    cond r5
    ((law0_SameLits a2 a5).bind fun r6 =>
      some r6)
    (some false))
  (some false)

-- quaerelaw24.awake
def law24_awake : Option Bool :=
  (law24_words).bind fun r17 =>
  (ask_Goal r17 ([2] : List Int) ([(false, ([6, (-3), (-1)] : List Int))] : List QLit)).bind fun r18 =>
  (law24_words).bind fun r19 =>
  (ask_Show r19 ([] : (List QLit)) ([([1, 3, (-1)] : List Int), ([2, 2] : List Int)] : List (List Int)) ([(true, ([0, (-1), 1] : List Int)), (false, ([5, 1] : List Int))] : List QLit)).bind fun r20 =>
  (law24_words).bind fun r21 =>
  (ask_Fine r21 r18.1 r18.2.1 r18.2.2.2).bind fun r22 =>
  (law24_words).bind fun r23 =>
  (ask_Goal r23 ([1, 1] : List Int) ([(false, ([5, 1] : List Int))] : List QLit)).bind fun r24 =>
  (law24_words).bind fun r25 =>
  (ask_Show r25 r18.1 r18.2.1 r18.2.2.2).bind fun r26 =>
  (law0_Num r18.2.2.1).bind fun r27 =>
  cond (r27 == 0)
  ((law0_SameClause r18.1 r18.2.1 r18.2.2.2 ([(true, ([6, (-1), (-2)] : List Int))] : List QLit) ([([(-1)] : List Int)] : List (List Int)) ([] : (List QLit))).bind fun r28 =>
    cond r28
    (cond (r20.1 == ([40, 97, 44, 32, 102, 40, 88, 48, 41, 41, 32, 111, 114, 32, 40, 98, 44, 32, 98, 41, 32, 105, 102, 32, 126, 88, 48, 32, 61, 32, 97, 32, 38, 32, 112, 40, 97, 41] : Str))
      ((law0_Num r20.2).bind fun r29 =>
        cond (r29 == 0)
        (cond r22.1
          ((law0_Num r22.2).bind fun r30 =>
            cond (r30 == 0)
            ((law0_Num r24.2.2.1).bind fun r31 =>
              cond (r31 == 2400)
              ((law0_Num r26.2).bind fun r32 =>
                some (r32 == 2400))
              (some false))
            (some false))
          (some false))
        (some false))
      (some false))
    (some false))
  (some false)

-- quaerelaw24.TellParts
def law24_TellParts_L0 (rec : ((List QSym) × Str × Int × Str × Int × (List QLit) × (List (List Int)) × (List QLit)) → Option (Str ⊕ Bool)) (x : ((List QSym) × Str × Int × Str × Int × (List QLit) × (List (List Int)) × (List QLit))) : Option (Str ⊕ Bool) :=
  cond (decide (x.2.2.2.2.1 < ((List.length x.2.2.2.2.2.2.1 : Nat) : Int)))
  ((gx x.2.2.2.2.2.2.1 x.2.2.2.2.1).bind fun e7 =>
    (ask_Show x.1 ([] : (List QLit)) ([e7] : List (List Int)) ([] : (List QLit))).bind fun r8 =>
    (law0_Num r8.2).bind fun r9 =>
    cond (r9 != 0)
    (some (Sum.inr false))
    (cond (decide (x.2.2.2.2.1 > 0))
      (cond (decide ((List.length x.2.2.2.1 + List.length ([32, 111, 114, 32] : Str) : Nat) < 4611686018427387904))
        (cond (decide ((List.length (x.2.2.2.1 ++ ([32, 111, 114, 32] : Str)) + List.length r8.1 : Nat) < 4611686018427387904))
          (rec (x.1, x.2.1, x.2.2.1, ((x.2.2.2.1 ++ ([32, 111, 114, 32] : Str)) ++ r8.1), (IntKind.wrap .i64 (x.2.2.2.2.1 + 1)), x.2.2.2.2.2.1, x.2.2.2.2.2.2.1, x.2.2.2.2.2.2.2))
          (none))
        (none))
      (cond (decide ((List.length x.2.2.2.1 + List.length r8.1 : Nat) < 4611686018427387904))
        (rec (x.1, x.2.1, x.2.2.1, (x.2.2.2.1 ++ r8.1), (IntKind.wrap .i64 (x.2.2.2.2.1 + 1)), x.2.2.2.2.2.1, x.2.2.2.2.2.2.1, x.2.2.2.2.2.2.2))
        (none))))
  (some (Sum.inl x.2.2.2.1))

def law24_TellParts (a0 : (List QSym)) (a1 : (List QLit)) (a2 : (List (List Int))) (a3 : (List QLit)) : Option Bool :=
  (law24_awake).bind fun r14 =>
  cond (!r14)
  (some false)
  ((clause_May a0 a1 a2 a3).bind fun r15 =>
    cond (!r15)
    (some true)
    (cond (((List.length a2 : Nat) : Int) == 0)
      (some true)
      ((ask_Show a0 ([] : (List QLit)) a2 ([] : (List QLit))).bind fun r16 =>
        ((lp law24_TellParts_L0 fuel) (a0, r16.1, r16.2, ([] : Str), 0, a1, a2, a3)).bind fun r17 =>
        caseS r17
        (fun z18 => (law0_Num r16.2).bind fun r19 =>
          cond (r19 == 0)
          (some (r16.1 == z18))
          (some false))
        (fun z20 => some z20))))

-- quaerelaw24.TellFirst
def law24_TellFirst_L1 (rec : (Str × Int × Int × Int × Int × (List QLit) × (List (List Int)) × (List QLit)) → Option (Int × Int × Int)) (x : (Str × Int × Int × Int × Int × (List QLit) × (List (List Int)) × (List QLit))) : Option (Int × Int × Int) :=
  cond (decide ((IntKind.wrap .i64 (x.2.2.2.2.1 + 4)) ≤ ((List.length x.1 : Nat) : Int)))
  ((slc2 x.1 (some x.2.2.2.2.1) (some (IntKind.wrap .i64 (x.2.2.2.2.1 + 4)))).bind fun y18 =>
    cond (y18 == ([32, 111, 114, 32] : Str))
    ((slc2 x.1 (some x.2.2.2.2.1) (some (IntKind.wrap .i64 (x.2.2.2.2.1 + 4)))).bind fun y19 =>
      cond (y19 == ([32, 105, 102, 32] : Str))
      ((slc2 x.1 (some x.2.2.2.2.1) (some (IntKind.wrap .i64 (x.2.2.2.2.1 + 3)))).bind fun y20 =>
        cond (y20 == ([32, 38, 32] : Str))
        (rec (x.1, (IntKind.wrap .i64 (x.2.1 + 1)), (IntKind.wrap .i64 (x.2.2.1 + 1)), (IntKind.wrap .i64 (x.2.2.2.1 + 1)), (IntKind.wrap .i64 (x.2.2.2.2.1 + 1)), x.2.2.2.2.2.1, x.2.2.2.2.2.2.1, x.2.2.2.2.2.2.2))
        (rec (x.1, (IntKind.wrap .i64 (x.2.1 + 1)), (IntKind.wrap .i64 (x.2.2.1 + 1)), x.2.2.2.1, (IntKind.wrap .i64 (x.2.2.2.2.1 + 1)), x.2.2.2.2.2.1, x.2.2.2.2.2.2.1, x.2.2.2.2.2.2.2)))
      ((slc2 x.1 (some x.2.2.2.2.1) (some (IntKind.wrap .i64 (x.2.2.2.2.1 + 3)))).bind fun y21 =>
        cond (y21 == ([32, 38, 32] : Str))
        (rec (x.1, (IntKind.wrap .i64 (x.2.1 + 1)), x.2.2.1, (IntKind.wrap .i64 (x.2.2.2.1 + 1)), (IntKind.wrap .i64 (x.2.2.2.2.1 + 1)), x.2.2.2.2.2.1, x.2.2.2.2.2.2.1, x.2.2.2.2.2.2.2))
        (rec (x.1, (IntKind.wrap .i64 (x.2.1 + 1)), x.2.2.1, x.2.2.2.1, (IntKind.wrap .i64 (x.2.2.2.2.1 + 1)), x.2.2.2.2.2.1, x.2.2.2.2.2.2.1, x.2.2.2.2.2.2.2))))
    ((slc2 x.1 (some x.2.2.2.2.1) (some (IntKind.wrap .i64 (x.2.2.2.2.1 + 4)))).bind fun y22 =>
      cond (y22 == ([32, 105, 102, 32] : Str))
      ((slc2 x.1 (some x.2.2.2.2.1) (some (IntKind.wrap .i64 (x.2.2.2.2.1 + 3)))).bind fun y23 =>
        cond (y23 == ([32, 38, 32] : Str))
        (rec (x.1, x.2.1, (IntKind.wrap .i64 (x.2.2.1 + 1)), (IntKind.wrap .i64 (x.2.2.2.1 + 1)), (IntKind.wrap .i64 (x.2.2.2.2.1 + 1)), x.2.2.2.2.2.1, x.2.2.2.2.2.2.1, x.2.2.2.2.2.2.2))
        (rec (x.1, x.2.1, (IntKind.wrap .i64 (x.2.2.1 + 1)), x.2.2.2.1, (IntKind.wrap .i64 (x.2.2.2.2.1 + 1)), x.2.2.2.2.2.1, x.2.2.2.2.2.2.1, x.2.2.2.2.2.2.2)))
      ((slc2 x.1 (some x.2.2.2.2.1) (some (IntKind.wrap .i64 (x.2.2.2.2.1 + 3)))).bind fun y24 =>
        cond (y24 == ([32, 38, 32] : Str))
        (rec (x.1, x.2.1, x.2.2.1, (IntKind.wrap .i64 (x.2.2.2.1 + 1)), (IntKind.wrap .i64 (x.2.2.2.2.1 + 1)), x.2.2.2.2.2.1, x.2.2.2.2.2.2.1, x.2.2.2.2.2.2.2))
        (rec (x.1, x.2.1, x.2.2.1, x.2.2.2.1, (IntKind.wrap .i64 (x.2.2.2.2.1 + 1)), x.2.2.2.2.2.1, x.2.2.2.2.2.2.1, x.2.2.2.2.2.2.2)))))
  (some (x.2.1, x.2.2.1, x.2.2.2.1))

def law24_TellFirst_L0 (rec : ((List QSym) × Str × Int × (List QLit) × (List (List Int)) × (List QLit)) → Option (Unit ⊕ Bool)) (x : ((List QSym) × Str × Int × (List QLit) × (List (List Int)) × (List QLit))) : Option (Unit ⊕ Bool) :=
  cond (decide (x.2.2.1 < ((List.length x.1 : Nat) : Int)))
  ((gx x.1 x.2.2.1).bind fun e7 =>
    cond (e7.1 == ([111, 114] : Str))
    (some (Sum.inr true))
    ((gx x.1 x.2.2.1).bind fun e8 =>
      cond (e8.1 == ([105, 102] : Str))
      (some (Sum.inr true))
      (rec (x.1, x.2.1, (IntKind.wrap .i64 (x.2.2.1 + 1)), x.2.2.2.1, x.2.2.2.2.1, x.2.2.2.2.2))))
  (some (Sum.inl ()))

def law24_TellFirst (a0 : (List QSym)) (a1 : (List QLit)) (a2 : (List (List Int))) (a3 : (List QLit)) : Option Bool :=
  (law24_awake).bind fun r29 =>
  cond (!r29)
  (some false)
  ((ask_Show a0 a1 a2 a3).bind fun r30 =>
    (law0_Num r30.2).bind fun r31 =>
    cond (r31 != 0)
    (cond (r30.1 == ([] : Str))
      ((clause_May a0 a1 a2 a3).bind fun r32 =>
        cond (!r32)
        (some true)
        (cond (decide (((List.length a1 : Nat) : Int) > 0))
          (some true)
          (some (((List.length a2 : Nat) : Int) == 0))))
      (some false))
    (((lp law24_TellFirst_L0 fuel) (a0, r30.1, 0, a1, a2, a3)).bind fun r33 =>
      caseS r33
      (fun z34 => ((lp law24_TellFirst_L1 fuel) (r30.1, 0, 0, 0, 0, a1, a2, a3)).bind fun r35 =>
        cond (decide (((List.length r30.1 : Nat) : Int) < 2))
        (some false)
        ((gx r30.1 0).bind fun c36 =>
          cond (((UInt8.toNat c36 : Nat) : Int) != 40)
          (some false)
          (cond (r35.1 != (IntKind.wrap .i64 (((List.length a2 : Nat) : Int) - 1)))
            (some false)
            (cond (((List.length a3 : Nat) : Int) == 0)
              (cond (r35.2.1 == 0)
                (cond (r35.2.2 == 0)
                  ((gx r30.1 (IntKind.wrap .i64 (((List.length r30.1 : Nat) : Int) - 1))).bind fun c37 =>
                    some (((UInt8.toNat c37 : Nat) : Int) == 41))
                  (some false))
                (some false))
              (cond (r35.2.1 == 1)
                (some (r35.2.2 == (IntKind.wrap .i64 (((List.length a3 : Nat) : Int) - 1))))
                (some false))))))
      (fun z38 => some z38)))

end Go.Abs.Q
/-
  What the functions make of plain values.
-/
namespace Go.Abs.Q
open Go Go.Abs

-- quaerelaw0.CopyInts
def law0_CopyInts (a0 : (List Int)) : Option (List Int) :=
  cond (room (List.length ([] : List Int) + List.length a0) 8)
  (some (([] : List Int) ++ a0))
  (none)

-- quaerelaw0.CopyLits
def law0_CopyLits_L0 (rec : ((List QLit) × Int × (List QLit)) → Option (List QLit)) (x : ((List QLit) × Int × (List QLit))) : Option (List QLit) :=
  cond (decide (x.2.1 < ((List.length x.1 : Nat) : Int)))
  ((gx x.1 x.2.1).bind fun e7 =>
    (gx x.1 x.2.1).bind fun e8 =>
    (law0_CopyInts e8.2).bind fun r9 =>
    cond (room (List.length x.2.2 + List.length ([(e7.1, r9)] : List QLit)) 32)
    (rec (x.1, (IntKind.wrap .i64 (x.2.1 + 1)), (x.2.2 ++ ([(e7.1, r9)] : List QLit))))
    (none))
  (some x.2.2)

def law0_CopyLits (a0 : (List QLit)) : Option (List QLit) :=
  ((lp law0_CopyLits_L0 fuel) (a0, 0, ([] : (List QLit)))).bind fun r11 =>
  some r11

-- quaerelaw0.CopyRows
def law0_CopyRows_L0 (rec : ((List (List Int)) × Int × (List (List Int))) → Option (List (List Int))) (x : ((List (List Int)) × Int × (List (List Int)))) : Option (List (List Int)) :=
  cond (decide (x.2.1 < ((List.length x.1 : Nat) : Int)))
  ((gx x.1 x.2.1).bind fun e5 =>
    (law0_CopyInts e5).bind fun r6 =>
    cond (room (List.length x.2.2 + List.length ([r6] : List (List Int))) 24)
    (rec (x.1, (IntKind.wrap .i64 (x.2.1 + 1)), (x.2.2 ++ ([r6] : List (List Int)))))
    (none))
  (some x.2.2)

def law0_CopyRows (a0 : (List (List Int))) : Option (List (List Int)) :=
  ((lp law0_CopyRows_L0 fuel) (a0, 0, ([] : (List (List Int))))).bind fun r8 =>
  some r8

-- quaerelaw0.CopyClause
def law0_CopyClause (a0 : (List QLit)) (a1 : (List (List Int))) (a2 : (List QLit)) : Option ((List QLit) × (List (List Int)) × (List QLit)) :=
  (law0_CopyLits a0).bind fun r4 =>
  (law0_CopyRows a1).bind fun r5 =>
  (law0_CopyLits a2).bind fun r6 =>
  some (r4, r5, r6)

-- quaereref1.small
def ref1_small (a0 : Int) : Option Bool :=
  cond (decide (a0 ≥ 97))
  (some (decide (a0 ≤ 122)))
  (some false)

-- quaereref1.SymMay
def ref1_SymMay_L0 (rec : (Int × Str × Int × Int × Int) → Option (Unit ⊕ Bool)) (x : (Int × Str × Int × Int × Int)) : Option (Unit ⊕ Bool) :=
  cond (decide (x.1 < ((List.length x.2.1 : Nat) : Int)))
  ((gx x.2.1 x.1).bind fun c7 =>
    (ref1_small ((UInt8.toNat c7 : Nat) : Int)).bind fun r8 =>
    cond (!r8)
    ((gx x.2.1 x.1).bind fun c9 =>
      cond (decide (((UInt8.toNat c9 : Nat) : Int) < 48))
      (some (Sum.inr false))
      ((gx x.2.1 x.1).bind fun c10 =>
        cond (decide (((UInt8.toNat c10 : Nat) : Int) > 57))
        (some (Sum.inr false))
        (rec ((IntKind.wrap .i64 (x.1 + 1)), x.2.1, x.2.2.1, x.2.2.2.1, x.2.2.2.2))))
    (rec ((IntKind.wrap .i64 (x.1 + 1)), x.2.1, x.2.2.1, x.2.2.2.1, x.2.2.2.2)))
  (some (Sum.inl ()))

def ref1_SymMay (a0 : Str) (a1 : Int) (a2 : Int) (a3 : Int) : Option Bool :=
  cond (decide (((List.length a0 : Nat) : Int) < 1))
  (some false)
  (cond (decide (((List.length a0 : Nat) : Int) > 8))
    (some false)
    ((gx a0 0).bind fun c14 =>
      (ref1_small ((UInt8.toNat c14 : Nat) : Int)).bind fun r15 =>
      cond (!r15)
      (some false)
      (((lp ref1_SymMay_L0 fuel) (0, a0, a1, a2, a3)).bind fun r16 =>
        caseS r16
        (fun z17 => cond (decide (a1 ≥ 0))
          (cond (decide (a1 ≤ 2))
            (cond (decide (a2 ≥ 0))
              (cond (decide (a2 ≤ 3))
                (cond (decide (a3 ≥ 1))
                  (some (decide (a3 ≤ 20)))
                  (some false))
                (some false))
              (some false))
            (some false))
          (some false))
        (fun z18 => some z18))))

-- quaereref1.Code
def ref1_Code_L0 (rec : ((List QSym) × Str × Int) → Option (Unit ⊕ Int)) (x : ((List QSym) × Str × Int)) : Option (Unit ⊕ Int) :=
  cond (decide (x.2.2 < ((List.length x.1 : Nat) : Int)))
  ((gx x.1 x.2.2).bind fun e2 =>
    cond (e2.1 == x.2.1)
    (some (Sum.inr x.2.2))
    (rec (x.1, x.2.1, (IntKind.wrap .i64 (x.2.2 + 1)))))
  (some (Sum.inl ()))

def ref1_Code (a0 : (List QSym)) (a1 : Str) : Option Int :=
  ((lp ref1_Code_L0 fuel) (a0, a1, 0)).bind fun r6 =>
  caseS r6
  (fun z7 => some (-1))
  (fun z8 => some z8)

-- quaereref1.SignMay
def ref1_SignMay_L0 (rec : ((List QSym) × Int) → Option (Unit ⊕ Bool)) (x : ((List QSym) × Int)) : Option (Unit ⊕ Bool) :=
  cond (decide (x.2 < ((List.length x.1 : Nat) : Int)))
  ((gx x.1 x.2).bind fun e6 =>
    (ref1_SymMay e6.1 e6.2.1 e6.2.2.1 e6.2.2.2).bind fun r7 =>
    cond (!r7)
    (some (Sum.inr false))
    ((gx x.1 x.2).bind fun e8 =>
      (ref1_Code x.1 e8.1).bind fun r9 =>
      cond (r9 != x.2)
      (some (Sum.inr false))
      (rec (x.1, (IntKind.wrap .i64 (x.2 + 1))))))
  (some (Sum.inl ()))

def ref1_SignMay (a0 : (List QSym)) : Option Bool :=
  cond (decide (((List.length a0 : Nat) : Int) < 1))
  (some false)
  (cond (decide (((List.length a0 : Nat) : Int) > 20))
    (some false)
    ((gx a0 0).bind fun e13 =>
      cond (!(cond (eqS e13.1 ([61] : Str)) (cond (eqI e13.2.1 0) (cond (eqI e13.2.2.1 2) (cond (eqI e13.2.2.2 1) true false) false) false) false))
      (some false)
      (((lp ref1_SignMay_L0 fuel) (a0, 1)).bind fun r14 =>
        caseS r14
        (fun z15 => some true)
        (fun z16 => some z16))))

-- quaereref1.End
def ref1_End_L0 (rec : ((List QSym) × (List Int) × Int × Int) → Option (Int ⊕ Int)) (x : ((List QSym) × (List Int) × Int × Int)) : Option (Int ⊕ Int) :=
  cond (decide (x.2.2.1 > 0))
  (cond (decide (x.2.2.2 ≥ ((List.length x.2.1 : Nat) : Int)))
    (some (Sum.inr (-1)))
    ((gx x.2.1 x.2.2.2).bind fun e8 =>
      cond (decide (e8 < (-24)))
      (some (Sum.inr (-1)))
      ((gx x.2.1 x.2.2.2).bind fun e9 =>
        cond (decide (e9 ≥ ((List.length x.1 : Nat) : Int)))
        (some (Sum.inr (-1)))
        ((gx x.2.1 x.2.2.2).bind fun e10 =>
          cond (decide (e10 ≥ 0))
          ((gx x.2.1 x.2.2.2).bind fun e11 =>
            (gx x.1 e11).bind fun e12 =>
            cond (e12.2.1 == 0)
            (some (Sum.inr (-1)))
            ((gx x.2.1 x.2.2.2).bind fun e13 =>
              (gx x.1 e13).bind fun e14 =>
              rec (x.1, x.2.1, (IntKind.wrap .i64 ((IntKind.wrap .i64 (x.2.2.1 - 1)) + e14.2.2.1)), (IntKind.wrap .i64 (x.2.2.2 + 1)))))
          (rec (x.1, x.2.1, (IntKind.wrap .i64 (x.2.2.1 - 1)), (IntKind.wrap .i64 (x.2.2.2 + 1))))))))
  (some (Sum.inl x.2.2.2))

def ref1_End (a0 : (List QSym)) (a1 : (List Int)) (a2 : Int) : Option Int :=
  ((lp ref1_End_L0 fuel) (a0, a1, 1, a2)).bind fun r18 =>
  caseS r18
  (fun z19 => some z19)
  (fun z20 => some z20)

-- quaereref1.Terms
def ref1_Terms_L0 (rec : ((List QSym) × (List Int) × Int × Int) → Option (Int ⊕ Int)) (x : ((List QSym) × (List Int) × Int × Int)) : Option (Int ⊕ Int) :=
  cond (decide (x.2.2.2 < ((List.length x.2.1 : Nat) : Int)))
  ((ref1_End x.1 x.2.1 x.2.2.2).bind fun r2 =>
    cond (decide (r2 < 0))
    (some (Sum.inr (-1)))
    (rec (x.1, x.2.1, (IntKind.wrap .i64 (x.2.2.1 + 1)), r2)))
  (some (Sum.inl x.2.2.1))

def ref1_Terms (a0 : (List QSym)) (a1 : (List Int)) : Option Int :=
  cond (decide (((List.length a1 : Nat) : Int) > 48))
  (some (-1))
  (((lp ref1_Terms_L0 fuel) (a0, a1, 0, 0)).bind fun r6 =>
    caseS r6
    (fun z7 => some z7)
    (fun z8 => some z8))

-- quaereref1.IsAtom
def ref1_IsAtom (a0 : (List QSym)) (a1 : (List Int)) : Option Bool :=
  cond (decide (((List.length a1 : Nat) : Int) > 0))
  ((gx a1 0).bind fun e9 =>
    cond (decide (e9 ≥ 0))
    ((gx a1 0).bind fun e10 =>
      cond (decide (e10 < ((List.length a0 : Nat) : Int)))
      ((gx a1 0).bind fun e11 =>
        (gx a0 e11).bind fun e12 =>
        cond (e12.2.1 == 0)
        ((slc2 a1 (some 1) none).bind fun y13 =>
          (ref1_Terms a0 y13).bind fun r14 =>
          (gx a1 0).bind fun e15 =>
          (gx a0 e15).bind fun e16 =>
          some (r14 == e16.2.2.1))
        (some false))
      (some false))
    (some false))
  (some false)

-- quaereref8.LitMay
def ref8_LitMay (a0 : (List QSym)) (a1 : Bool) (a2 : (List Int)) : Option Bool :=
  (ref1_SignMay a0).bind fun r3 =>
  cond r3
  ((ref1_IsAtom a0 a2).bind fun r4 =>
    some r4)
  (some false)

-- quaereref8.rows
def ref8_rows_L2 (rec : (Int × (List QLit) × (List (List Int)) × (List QLit) × (List (List Int))) → Option (List (List Int))) (x : (Int × (List QLit) × (List (List Int)) × (List QLit) × (List (List Int)))) : Option (List (List Int)) :=
  cond (decide (x.1 < ((List.length x.2.2.2.1 : Nat) : Int)))
  ((gx x.2.2.2.1 x.1).bind fun e9 =>
    cond (room (List.length x.2.2.2.2 + List.length ([e9.2] : List (List Int))) 24)
    (rec ((IntKind.wrap .i64 (x.1 + 1)), x.2.1, x.2.2.1, x.2.2.2.1, (x.2.2.2.2 ++ ([e9.2] : List (List Int)))))
    (none))
  (some x.2.2.2.2)

def ref8_rows_L1 (rec : (Int × (List QLit) × (List (List Int)) × (List QLit) × (List (List Int))) → Option (List (List Int))) (x : (Int × (List QLit) × (List (List Int)) × (List QLit) × (List (List Int)))) : Option (List (List Int)) :=
  cond (decide (x.1 < ((List.length x.2.2.1 : Nat) : Int)))
  ((gx x.2.2.1 x.1).bind fun e6 =>
    cond (room (List.length x.2.2.2.2 + List.length ([e6] : List (List Int))) 24)
    (rec ((IntKind.wrap .i64 (x.1 + 1)), x.2.1, x.2.2.1, x.2.2.2.1, (x.2.2.2.2 ++ ([e6] : List (List Int)))))
    (none))
  (some x.2.2.2.2)

def ref8_rows_L0 (rec : (Int × (List QLit) × (List (List Int)) × (List QLit) × (List (List Int))) → Option (List (List Int))) (x : (Int × (List QLit) × (List (List Int)) × (List QLit) × (List (List Int)))) : Option (List (List Int)) :=
  cond (decide (x.1 < ((List.length x.2.1 : Nat) : Int)))
  ((gx x.2.1 x.1).bind fun e3 =>
    cond (room (List.length x.2.2.2.2 + List.length ([e3.2] : List (List Int))) 24)
    (rec ((IntKind.wrap .i64 (x.1 + 1)), x.2.1, x.2.2.1, x.2.2.2.1, (x.2.2.2.2 ++ ([e3.2] : List (List Int)))))
    (none))
  (some x.2.2.2.2)

def ref8_rows (a0 : (List QLit)) (a1 : (List (List Int))) (a2 : (List QLit)) : Option (List (List Int)) :=
  ((lp ref8_rows_L0 fuel) (0, a0, a1, a2, ([] : (List (List Int))))).bind fun r11 =>
  ((lp ref8_rows_L1 fuel) (0, a0, a1, a2, r11)).bind fun r12 =>
  ((lp ref8_rows_L2 fuel) (0, a0, a1, a2, r12)).bind fun r13 =>
  some r13

-- quaereref8.May
def ref8_May_L3 (rec : ((List (List Int)) × Int × Int) → Option Int) (x : ((List (List Int)) × Int × Int)) : Option Int :=
  cond (decide (x.2.2 < ((List.length x.1 : Nat) : Int)))
  ((gx x.1 x.2.2).bind fun e26 =>
    rec (x.1, (IntKind.wrap .i64 (x.2.1 + ((List.length e26 : Nat) : Int))), (IntKind.wrap .i64 (x.2.2 + 1))))
  (some x.2.1)

def ref8_May_L2 (rec : ((List QSym) × Int × (List QLit) × (List (List Int)) × (List QLit)) → Option (Unit ⊕ Bool)) (x : ((List QSym) × Int × (List QLit) × (List (List Int)) × (List QLit))) : Option (Unit ⊕ Bool) :=
  cond (decide (x.2.1 < ((List.length x.2.2.2.1 : Nat) : Int)))
  ((gx x.2.2.2.1 x.2.1).bind fun e18 =>
    (ref1_Terms x.1 e18).bind fun r19 =>
    cond (decide (r19 < 0))
    (some (Sum.inr false))
    ((gx x.2.2.2.1 0).bind fun e20 =>
      (ref1_Terms x.1 e20).bind fun r21 =>
      cond (r19 != r21)
      (some (Sum.inr false))
      (rec (x.1, (IntKind.wrap .i64 (x.2.1 + 1)), x.2.2.1, x.2.2.2.1, x.2.2.2.2))))
  (some (Sum.inl ()))

def ref8_May_L1 (rec : ((List QSym) × Int × (List QLit) × (List (List Int)) × (List QLit)) → Option (Unit ⊕ Bool)) (x : ((List QSym) × Int × (List QLit) × (List (List Int)) × (List QLit))) : Option (Unit ⊕ Bool) :=
  cond (decide (x.2.1 < ((List.length x.2.2.2.2 : Nat) : Int)))
  ((gx x.2.2.2.2 x.2.1).bind fun e10 =>
    (ref8_LitMay x.1 e10.1 e10.2).bind fun r11 =>
    cond (!r11)
    (some (Sum.inr false))
    (rec (x.1, (IntKind.wrap .i64 (x.2.1 + 1)), x.2.2.1, x.2.2.2.1, x.2.2.2.2)))
  (some (Sum.inl ()))

def ref8_May_L0 (rec : ((List QSym) × Int × (List QLit) × (List (List Int)) × (List QLit)) → Option (Unit ⊕ Bool)) (x : ((List QSym) × Int × (List QLit) × (List (List Int)) × (List QLit))) : Option (Unit ⊕ Bool) :=
  cond (decide (x.2.1 < ((List.length x.2.2.1 : Nat) : Int)))
  ((gx x.2.2.1 x.2.1).bind fun e4 =>
    (ref8_LitMay x.1 e4.1 e4.2).bind fun r5 =>
    cond (!r5)
    (some (Sum.inr false))
    (rec (x.1, (IntKind.wrap .i64 (x.2.1 + 1)), x.2.2.1, x.2.2.2.1, x.2.2.2.2)))
  (some (Sum.inl ()))

def ref8_May (a0 : (List QSym)) (a1 : (List QLit)) (a2 : (List (List Int))) (a3 : (List QLit)) : Option Bool :=
  (ref1_SignMay a0).bind fun r31 =>
  cond (!r31)
  (some false)
  (cond (decide (((List.length a1 : Nat) : Int) > 5))
    (some false)
    (cond (decide (((List.length a3 : Nat) : Int) > 3))
      (some false)
      (cond (decide (((List.length a2 : Nat) : Int) > 3))
        (some false)
        (((lp ref8_May_L0 fuel) (a0, 0, a1, a2, a3)).bind fun r32 =>
          caseS r32
          (fun z33 => ((lp ref8_May_L1 fuel) (a0, 0, a1, a2, a3)).bind fun r34 =>
            caseS r34
            (fun z35 => ((lp ref8_May_L2 fuel) (a0, 0, a1, a2, a3)).bind fun r36 =>
              caseS r36
              (fun z37 => (ref8_rows a1 a2 a3).bind fun r38 =>
                ((lp ref8_May_L3 fuel) (r38, 0, 0)).bind fun r39 =>
                some (decide (r39 ≤ 240)))
              (fun z40 => some z40))
            (fun z41 => some z41))
          (fun z42 => some z42)))))

-- quaereref21.own
def ref21_own_L0 (rec : ((List QSym) × (List Int) × Int) → Option (Unit ⊕ Bool)) (x : ((List QSym) × (List Int) × Int)) : Option (Unit ⊕ Bool) :=
  cond (decide (x.2.2 < ((List.length x.2.1 : Nat) : Int)))
  ((gx x.2.1 x.2.2).bind fun e4 =>
    cond (decide (e4 ≥ 0))
    ((gx x.2.1 x.2.2).bind fun e5 =>
      (gx x.1 e5).bind fun e6 =>
      cond (e6.2.1 == 2)
      (some (Sum.inr true))
      (rec (x.1, x.2.1, (IntKind.wrap .i64 (x.2.2 + 1)))))
    (rec (x.1, x.2.1, (IntKind.wrap .i64 (x.2.2 + 1)))))
  (some (Sum.inl ()))

def ref21_own (a0 : (List QSym)) (a1 : (List Int)) : Option Bool :=
  ((lp ref21_own_L0 fuel) (a0, a1, 0)).bind fun r10 =>
  caseS r10
  (fun z11 => some false)
  (fun z12 => some z12)

-- quaereref21.Fine
def ref21_Fine_L1 (rec : ((List QSym) × Int × (List QLit) × (List (List Int)) × (List QLit)) → Option (Unit ⊕ (Bool × Int))) (x : ((List QSym) × Int × (List QLit) × (List (List Int)) × (List QLit))) : Option (Unit ⊕ (Bool × Int)) :=
  cond (decide (x.2.1 < ((List.length x.2.2.2.2 : Nat) : Int)))
  ((gx x.2.2.2.2 x.2.1).bind fun e10 =>
    (ref21_own x.1 e10.2).bind fun r11 =>
    cond r11
    (some (Sum.inr (false, 0)))
    (rec (x.1, (IntKind.wrap .i64 (x.2.1 + 1)), x.2.2.1, x.2.2.2.1, x.2.2.2.2)))
  (some (Sum.inl ()))

def ref21_Fine_L0 (rec : ((List QSym) × Int × (List QLit) × (List (List Int)) × (List QLit)) → Option (Unit ⊕ (Bool × Int))) (x : ((List QSym) × Int × (List QLit) × (List (List Int)) × (List QLit))) : Option (Unit ⊕ (Bool × Int)) :=
  cond (decide (x.2.1 < ((List.length x.2.2.2.1 : Nat) : Int)))
  ((gx x.2.2.2.1 x.2.1).bind fun e4 =>
    (ref21_own x.1 e4).bind fun r5 =>
    cond r5
    (some (Sum.inr (false, 0)))
    (rec (x.1, (IntKind.wrap .i64 (x.2.1 + 1)), x.2.2.1, x.2.2.2.1, x.2.2.2.2)))
  (some (Sum.inl ()))

def ref21_Fine (a0 : (List QSym)) (a1 : (List QLit)) (a2 : (List (List Int))) (a3 : (List QLit)) : Option (Bool × Int) :=
  (ref8_May a0 a1 a2 a3).bind fun r16 =>
  cond (!r16)
  (some (false, 2400))
  (((lp ref21_Fine_L0 fuel) (a0, 0, a1, a2, a3)).bind fun r17 =>
    caseS r17
    (fun z18 => ((lp ref21_Fine_L1 fuel) (a0, 0, a1, a2, a3)).bind fun r19 =>
      caseS r19
      (fun z20 => some (true, 0))
      (fun z21 => some (z21.1, z21.2)))
    (fun z22 => some (z22.1, z22.2)))

-- quaereref1.behind
def ref1_behind_L0 (rec : ((List QSym) × (List Int) × Int × Int) → Option Int) (x : ((List QSym) × (List Int) × Int × Int)) : Option Int :=
  cond (decide (x.2.2.1 > 0))
  ((gx x.2.1 x.2.2.2).bind fun e4 =>
    cond (decide (e4 ≥ 0))
    ((gx x.2.1 x.2.2.2).bind fun e5 =>
      (gx x.1 e5).bind fun e6 =>
      rec (x.1, x.2.1, (IntKind.wrap .i64 ((IntKind.wrap .i64 (x.2.2.1 - 1)) + e6.2.2.1)), (IntKind.wrap .i64 (x.2.2.2 + 1))))
    (rec (x.1, x.2.1, (IntKind.wrap .i64 (x.2.2.1 - 1)), (IntKind.wrap .i64 (x.2.2.2 + 1)))))
  (some x.2.2.2)

def ref1_behind (a0 : (List QSym)) (a1 : (List Int)) (a2 : Int) : Option Int :=
  ((lp ref1_behind_L0 fuel) (a0, a1, 1, a2)).bind fun r8 =>
  some r8

-- quaereref1.Parts
def ref1_Parts_L0 (rec : ((List QSym) × (List Int) × Int × (List (List Int))) → Option (List (List Int))) (x : ((List QSym) × (List Int) × Int × (List (List Int)))) : Option (List (List Int)) :=
  cond (decide (x.2.2.1 < ((List.length x.2.1 : Nat) : Int)))
  ((ref1_behind x.1 x.2.1 x.2.2.1).bind fun r5 =>
    (slc2 x.2.1 (some x.2.2.1) (some r5)).bind fun y6 =>
    cond (room (List.length x.2.2.2 + List.length ([y6] : List (List Int))) 24)
    (rec (x.1, x.2.1, r5, (x.2.2.2 ++ ([y6] : List (List Int)))))
    (none))
  (some x.2.2.2)

def ref1_Parts (a0 : (List QSym)) (a1 : (List Int)) : Option (List (List Int)) :=
  ((lp ref1_Parts_L0 fuel) (a0, a1, 0, ([] : (List (List Int))))).bind fun r8 =>
  some r8

-- quaereref17.Decimal
def ref17_Decimal_S (rf : (Int → Option Str)) (a0 : Int) : Option Str :=
  cond (decide (a0 < 0))
  ((rf (negI .i64 a0)).bind fun r3 =>
    cond (decide ((List.length ([45] : Str) + List.length r3 : Nat) < 4611686018427387904))
    (some (([45] : Str) ++ r3))
    (none))
  (cond (decide (a0 < 10))
    (some (bytesStr ([(IntKind.wrap .u8 (IntKind.wrap .i64 (48 + a0)))] : List Int)))
    ((rf (IntKind.wrap .i64 (Int.tdiv a0 10))).bind fun r4 =>
      cond (decide ((List.length r4 + List.length (bytesStr ([(IntKind.wrap .u8 (IntKind.wrap .i64 (48 + (Int.tmod a0 10))))] : List Int)) : Nat) < 4611686018427387904))
      (some (r4 ++ (bytesStr ([(IntKind.wrap .u8 (IntKind.wrap .i64 (48 + (Int.tmod a0 10))))] : List Int))))
      (none)))

def ref17_Decimal_R_step (rf : (Int → Option Str)) : (Int → Option Str) :=
  fun (x : Int) => ref17_Decimal_S rf x

def ref17_Decimal_R_base : (Int → Option Str) := fun _ => none
def ref17_Decimal_R (k : Nat) : (Int → Option Str) := lpR ref17_Decimal_R_base ref17_Decimal_R_step k

def ref17_Decimal (a0 : Int) : Option Str := (ref17_Decimal_R fuel) a0
-- quaereref21.Args
def ref21_Args_S (rf : ((((List QSym) × (List Int)) → Option Str) × (((List QSym) × (List Int)) → Option Str) × (((List QSym) × (List Int)) → Option Str))) (a0 : (List QSym)) (a1 : (List Int)) : Option Str :=
  cond (((List.length a1 : Nat) : Int) == 0)
  (some ([] : Str))
  ((rf.2.2 (a0, a1)).bind fun r2 =>
    cond (decide ((List.length ([40] : Str) + List.length r2 : Nat) < 4611686018427387904))
    (cond (decide ((List.length (([40] : Str) ++ r2) + List.length ([41] : Str) : Nat) < 4611686018427387904))
      (some ((([40] : Str) ++ r2) ++ ([41] : Str)))
      (none))
    (none))

-- quaereref21.Term
def ref21_Term_S (rf : ((((List QSym) × (List Int)) → Option Str) × (((List QSym) × (List Int)) → Option Str) × (((List QSym) × (List Int)) → Option Str))) (a0 : (List QSym)) (a1 : (List Int)) : Option Str :=
  (gx a1 0).bind fun e8 =>
  cond (decide (e8 < 0))
  ((gx a1 0).bind fun e9 =>
    (ref17_Decimal (IntKind.wrap .i64 ((-1) - e9))).bind fun r10 =>
    cond (decide ((List.length ([88] : Str) + List.length r10 : Nat) < 4611686018427387904))
    (some (([88] : Str) ++ r10))
    (none))
  ((gx a1 0).bind fun e11 =>
    (gx a0 e11).bind fun e12 =>
    (slc2 a1 (some 1) none).bind fun y13 =>
    (rf.1 (a0, y13)).bind fun r14 =>
    cond (decide ((List.length e12.1 + List.length r14 : Nat) < 4611686018427387904))
    (some (e12.1 ++ r14))
    (none))

-- quaereref21.Terms
def ref21_Terms_L0 (rf : ((((List QSym) × (List Int)) → Option Str) × (((List QSym) × (List Int)) → Option Str) × (((List QSym) × (List Int)) → Option Str))) (rec : ((List QSym) × Str × (List (List Int)) × Int) → Option Str) (x : ((List QSym) × Str × (List (List Int)) × Int)) : Option Str :=
  cond (decide (x.2.2.2 < ((List.length x.2.2.1 : Nat) : Int)))
  (cond (decide (x.2.2.2 > 0))
    (cond (decide ((List.length x.2.1 + List.length ([44, 32] : Str) : Nat) < 4611686018427387904))
      ((gx x.2.2.1 x.2.2.2).bind fun e6 =>
        (rf.2.1 (x.1, e6)).bind fun r7 =>
        cond (decide ((List.length (x.2.1 ++ ([44, 32] : Str)) + List.length r7 : Nat) < 4611686018427387904))
        (rec (x.1, ((x.2.1 ++ ([44, 32] : Str)) ++ r7), x.2.2.1, (IntKind.wrap .i64 (x.2.2.2 + 1))))
        (none))
      (none))
    ((gx x.2.2.1 x.2.2.2).bind fun e8 =>
      (rf.2.1 (x.1, e8)).bind fun r9 =>
      cond (decide ((List.length x.2.1 + List.length r9 : Nat) < 4611686018427387904))
      (rec (x.1, (x.2.1 ++ r9), x.2.2.1, (IntKind.wrap .i64 (x.2.2.2 + 1))))
      (none)))
  (some x.2.1)

def ref21_Terms_S (rf : ((((List QSym) × (List Int)) → Option Str) × (((List QSym) × (List Int)) → Option Str) × (((List QSym) × (List Int)) → Option Str))) (a0 : (List QSym)) (a1 : (List Int)) : Option Str :=
  (ref1_Parts a0 a1).bind fun r11 =>
  ((lp (ref21_Terms_L0 rf) fuel) (a0, ([] : Str), r11, 0)).bind fun r12 =>
  some r12

def ref21_Terms_R_step (rf : ((((List QSym) × (List Int)) → Option Str) × (((List QSym) × (List Int)) → Option Str) × (((List QSym) × (List Int)) → Option Str))) : ((((List QSym) × (List Int)) → Option Str) × (((List QSym) × (List Int)) → Option Str) × (((List QSym) × (List Int)) → Option Str)) :=
  (fun (x : ((List QSym) × (List Int))) => ref21_Args_S rf x.1 x.2, fun (x : ((List QSym) × (List Int))) => ref21_Term_S rf x.1 x.2, fun (x : ((List QSym) × (List Int))) => ref21_Terms_S rf x.1 x.2)

def ref21_Terms_R_base : ((((List QSym) × (List Int)) → Option Str) × (((List QSym) × (List Int)) → Option Str) × (((List QSym) × (List Int)) → Option Str)) := (fun _ => none, fun _ => none, fun _ => none)
def ref21_Terms_R (k : Nat) : ((((List QSym) × (List Int)) → Option Str) × (((List QSym) × (List Int)) → Option Str) × (((List QSym) × (List Int)) → Option Str)) := lpR ref21_Terms_R_base ref21_Terms_R_step k

def ref21_Args (a0 : (List QSym)) (a1 : (List Int)) : Option Str := (ref21_Terms_R fuel).1 (a0, a1)
def ref21_Term (a0 : (List QSym)) (a1 : (List Int)) : Option Str := (ref21_Terms_R fuel).2.1 (a0, a1)
def ref21_Terms (a0 : (List QSym)) (a1 : (List Int)) : Option Str := (ref21_Terms_R fuel).2.2 (a0, a1)
-- quaereref21.Atom
def ref21_Atom (a0 : (List QSym)) (a1 : (List Int)) : Option Str :=
  (gx a1 0).bind fun e14 =>
  cond (e14 == 0)
  ((slc2 a1 (some 1) none).bind fun y15 =>
    (ref1_Parts a0 y15).bind fun r16 =>
    (inR 0 (List.length r16)).bind fun k17 =>
    (r16[k17]?).bind fun x18 =>
    (ref21_Term a0 x18).bind fun r19 =>
    cond (decide ((List.length r19 + List.length ([32, 61, 32] : Str) : Nat) < 4611686018427387904))
    ((inR 1 (List.length r16)).bind fun k20 =>
      (r16[k20]?).bind fun x21 =>
      (ref21_Term a0 x21).bind fun r22 =>
      cond (decide ((List.length (r19 ++ ([32, 61, 32] : Str)) + List.length r22 : Nat) < 4611686018427387904))
      (some ((r19 ++ ([32, 61, 32] : Str)) ++ r22))
      (none))
    (none))
  ((gx a1 0).bind fun e23 =>
    (gx a0 e23).bind fun e24 =>
    (slc2 a1 (some 1) none).bind fun y25 =>
    (ref21_Args a0 y25).bind fun r26 =>
    cond (decide ((List.length e24.1 + List.length r26 : Nat) < 4611686018427387904))
    (some (e24.1 ++ r26))
    (none))

-- quaereref21.Tell
def ref21_Tell_L1 (rec : ((List QSym) × Str × Int × (List QLit) × (List (List Int)) × (List QLit)) → Option Str) (x : ((List QSym) × Str × Int × (List QLit) × (List (List Int)) × (List QLit))) : Option Str :=
  cond (decide (x.2.2.1 < ((List.length x.2.2.2.2.2 : Nat) : Int)))
  (cond (x.2.2.1 == 0)
    (cond (decide ((List.length x.2.1 + List.length ([32, 105, 102, 32] : Str) : Nat) < 4611686018427387904))
      ((gx x.2.2.2.2.2 x.2.2.1).bind fun e21 =>
        cond e21.1
        (cond (decide ((List.length (x.2.1 ++ ([32, 105, 102, 32] : Str)) + List.length ([126] : Str) : Nat) < 4611686018427387904))
          ((gx x.2.2.2.2.2 x.2.2.1).bind fun e22 =>
            (ref21_Atom x.1 e22.2).bind fun r23 =>
            cond (decide ((List.length ((x.2.1 ++ ([32, 105, 102, 32] : Str)) ++ ([126] : Str)) + List.length r23 : Nat) < 4611686018427387904))
            (rec (x.1, (((x.2.1 ++ ([32, 105, 102, 32] : Str)) ++ ([126] : Str)) ++ r23), (IntKind.wrap .i64 (x.2.2.1 + 1)), x.2.2.2.1, x.2.2.2.2.1, x.2.2.2.2.2))
            (none))
          (none))
        ((gx x.2.2.2.2.2 x.2.2.1).bind fun e24 =>
          (ref21_Atom x.1 e24.2).bind fun r25 =>
          cond (decide ((List.length (x.2.1 ++ ([32, 105, 102, 32] : Str)) + List.length r25 : Nat) < 4611686018427387904))
          (rec (x.1, ((x.2.1 ++ ([32, 105, 102, 32] : Str)) ++ r25), (IntKind.wrap .i64 (x.2.2.1 + 1)), x.2.2.2.1, x.2.2.2.2.1, x.2.2.2.2.2))
          (none)))
      (none))
    (cond (decide ((List.length x.2.1 + List.length ([32, 38, 32] : Str) : Nat) < 4611686018427387904))
      ((gx x.2.2.2.2.2 x.2.2.1).bind fun e26 =>
        cond e26.1
        (cond (decide ((List.length (x.2.1 ++ ([32, 38, 32] : Str)) + List.length ([126] : Str) : Nat) < 4611686018427387904))
          ((gx x.2.2.2.2.2 x.2.2.1).bind fun e27 =>
            (ref21_Atom x.1 e27.2).bind fun r28 =>
            cond (decide ((List.length ((x.2.1 ++ ([32, 38, 32] : Str)) ++ ([126] : Str)) + List.length r28 : Nat) < 4611686018427387904))
            (rec (x.1, (((x.2.1 ++ ([32, 38, 32] : Str)) ++ ([126] : Str)) ++ r28), (IntKind.wrap .i64 (x.2.2.1 + 1)), x.2.2.2.1, x.2.2.2.2.1, x.2.2.2.2.2))
            (none))
          (none))
        ((gx x.2.2.2.2.2 x.2.2.1).bind fun e29 =>
          (ref21_Atom x.1 e29.2).bind fun r30 =>
          cond (decide ((List.length (x.2.1 ++ ([32, 38, 32] : Str)) + List.length r30 : Nat) < 4611686018427387904))
          (rec (x.1, ((x.2.1 ++ ([32, 38, 32] : Str)) ++ r30), (IntKind.wrap .i64 (x.2.2.1 + 1)), x.2.2.2.1, x.2.2.2.2.1, x.2.2.2.2.2))
          (none)))
      (none)))
  (some x.2.1)

def ref21_Tell_L0 (rec : ((List QSym) × Str × Int × (List QLit) × (List (List Int)) × (List QLit)) → Option Str) (x : ((List QSym) × Str × Int × (List QLit) × (List (List Int)) × (List QLit))) : Option Str :=
  cond (decide (x.2.2.1 < ((List.length x.2.2.2.2.1 : Nat) : Int)))
  (cond (decide (x.2.2.1 > 0))
    (cond (decide ((List.length x.2.1 + List.length ([32, 111, 114, 32] : Str) : Nat) < 4611686018427387904))
      (cond (decide ((List.length (x.2.1 ++ ([32, 111, 114, 32] : Str)) + List.length ([40] : Str) : Nat) < 4611686018427387904))
        ((gx x.2.2.2.2.1 x.2.2.1).bind fun e6 =>
          (ref21_Terms x.1 e6).bind fun r7 =>
          cond (decide ((List.length ((x.2.1 ++ ([32, 111, 114, 32] : Str)) ++ ([40] : Str)) + List.length r7 : Nat) < 4611686018427387904))
          (cond (decide ((List.length (((x.2.1 ++ ([32, 111, 114, 32] : Str)) ++ ([40] : Str)) ++ r7) + List.length ([41] : Str) : Nat) < 4611686018427387904))
            (rec (x.1, ((((x.2.1 ++ ([32, 111, 114, 32] : Str)) ++ ([40] : Str)) ++ r7) ++ ([41] : Str)), (IntKind.wrap .i64 (x.2.2.1 + 1)), x.2.2.2.1, x.2.2.2.2.1, x.2.2.2.2.2))
            (none))
          (none))
        (none))
      (none))
    (cond (decide ((List.length x.2.1 + List.length ([40] : Str) : Nat) < 4611686018427387904))
      ((gx x.2.2.2.2.1 x.2.2.1).bind fun e8 =>
        (ref21_Terms x.1 e8).bind fun r9 =>
        cond (decide ((List.length (x.2.1 ++ ([40] : Str)) + List.length r9 : Nat) < 4611686018427387904))
        (cond (decide ((List.length ((x.2.1 ++ ([40] : Str)) ++ r9) + List.length ([41] : Str) : Nat) < 4611686018427387904))
          (rec (x.1, (((x.2.1 ++ ([40] : Str)) ++ r9) ++ ([41] : Str)), (IntKind.wrap .i64 (x.2.2.1 + 1)), x.2.2.2.1, x.2.2.2.2.1, x.2.2.2.2.2))
          (none))
        (none))
      (none)))
  (some x.2.1)

def ref21_Tell (a0 : (List QSym)) (a1 : (List QLit)) (a2 : (List (List Int))) (a3 : (List QLit)) : Option (Str × Int) :=
  (ref8_May a0 a1 a2 a3).bind fun r32 =>
  cond (!r32)
  (some (([] : Str), 2400))
  (cond (decide (((List.length a1 : Nat) : Int) > 0))
    (some (([] : Str), 2400))
    (cond (((List.length a2 : Nat) : Int) == 0)
      (some (([] : Str), 2400))
      (((lp ref21_Tell_L0 fuel) (a0, ([] : Str), 0, a1, a2, a3)).bind fun r33 =>
        ((lp ref21_Tell_L1 fuel) (a0, r33, 0, a1, a2, a3)).bind fun r34 =>
        some (r34, 0))))

-- quaerelaw24.Tells
def law24_Tells (a0 : (List QSym)) (a1 : (List QLit)) (a2 : (List (List Int))) (a3 : (List QLit)) : Option Bool :=
  (law0_CopyClause a1 a2 a3).bind fun r10 =>
  (ask_Fine a0 a1 a2 a3).bind fun r11 =>
  (ref21_Fine a0 a1 a2 a3).bind fun r12 =>
  (ask_Show a0 a1 a2 a3).bind fun r13 =>
  (ref21_Tell a0 a1 a2 a3).bind fun r14 =>
  cond (r11.1 == r12.1)
  ((law0_Num r11.2).bind fun r15 =>
    cond (r15 == r12.2)
    (cond (r13.1 == r14.1)
      ((law0_Num r13.2).bind fun r16 =>
        cond (r16 == r14.2)
        ((law0_SameClause a1 a2 a3 r10.1 r10.2.1 r10.2.2).bind fun r17 =>
          cond r17
          ((law24_awake).bind fun r18 =>
            some r18)
          (some false))
        (some false))
      (some false))
    (some false))
  (some false)

end Go.Abs.Q
/-
  What the functions make of plain values.
-/
namespace Go.Abs.Q
open Go Go.Abs

-- formula.SigMay$1
def formula_SigMay_c1 (a0 : Str) (a1 : Int) (a2 : Int) (a3 : Int) : Option Bool :=
  cond (a0 == ([97, 108, 108] : Str))
  (some true)
  (some (a0 == ([101, 120] : Str)))

-- slices.IndexFunc[[]api.Sym,api.Sym]
def slices_IndexFunc_5_L0 (rec : ((List QSym) × Int × Int) → Option (Unit ⊕ Int)) (x : ((List QSym) × Int × Int)) : Option (Unit ⊕ Int) :=
  cond (decide (x.2.2 < x.2.1))
  ((gx x.1 x.2.2).bind fun e3 =>
    (formula_SigMay_c1 e3.1 e3.2.1 e3.2.2.1 e3.2.2.2).bind fun r4 =>
    cond r4
    (some (Sum.inr x.2.2))
    (rec (x.1, x.2.1, (IntKind.wrap .i64 (x.2.2 + 1)))))
  (some (Sum.inl ()))

def slices_IndexFunc_5 (a0 : (List QSym)) : Option Int :=
  ((lp slices_IndexFunc_5_L0 fuel) (a0, ((List.length a0 : Nat) : Int), 0)).bind fun r8 =>
  caseS r8
  (fun z9 => some (-1))
  (fun z10 => some z10)

-- slices.ContainsFunc[[]api.Sym,api.Sym]
def slices_ContainsFunc_5 (a0 : (List QSym)) : Option Bool :=
  (slices_IndexFunc_5 a0).bind fun r2 =>
  some (decide (r2 ≥ 0))

-- formula.SigMay
def formula_SigMay (a0 : (List QSym)) : Option Bool :=
  (sign_May a0).bind fun r3 =>
  cond r3
  ((slices_ContainsFunc_5 a0).bind fun r4 =>
    some (!r4))
  (some false)

-- formula.parts
def formula_parts (a0 : Int) : Option Int :=
  cond (a0 == 0)
  (some 0)
  (cond (a0 == 1)
    (cond (a0 == 1)
      (some 1)
      (cond (a0 == 2)
        (cond (a0 == 2)
          (some 2)
          (some (-1)))
        (cond (a0 == 3)
          (cond (a0 == 3)
            (some 2)
            (some (-1)))
          (cond (a0 == 4)
            (some 2)
            (some (-1))))))
    (cond (a0 == 5)
      (cond (a0 == 5)
        (some 1)
        (cond (a0 == 2)
          (cond (a0 == 2)
            (some 2)
            (some (-1)))
          (cond (a0 == 3)
            (cond (a0 == 3)
              (some 2)
              (some (-1)))
            (cond (a0 == 4)
              (some 2)
              (some (-1))))))
      (cond (a0 == 6)
        (some 1)
        (cond (a0 == 2)
          (cond (a0 == 2)
            (some 2)
            (some (-1)))
          (cond (a0 == 3)
            (cond (a0 == 3)
              (some 2)
              (some (-1)))
            (cond (a0 == 4)
              (some 2)
              (some (-1))))))))

-- formula.nodeMay
def formula_nodeMay (a0 : (List QSym)) (a1 : Int) (a2 : Int) (a3 : (List Int)) : Option Bool :=
  cond (a1 == 0)
  (cond (a2 == 0)
    ((term_IsAtom a0 a3).bind fun r2 =>
      some r2)
    (some false))
  (cond (a1 == 5)
    (cond (a1 == 5)
      (cond (decide (a2 ≥ 0))
        (cond (decide (a2 ≤ 23))
          (some (((List.length a3 : Nat) : Int) == 0))
          (some false))
        (some false))
      (cond (a2 == 0)
        (some (((List.length a3 : Nat) : Int) == 0))
        (some false)))
    (cond (a1 == 6)
      (cond (decide (a2 ≥ 0))
        (cond (decide (a2 ≤ 23))
          (some (((List.length a3 : Nat) : Int) == 0))
          (some false))
        (some false))
      (cond (a2 == 0)
        (some (((List.length a3 : Nat) : Int) == 0))
        (some false))))

-- formula.May
def formula_May_L0 (rec : ((List QSym) × Int × (List (Int × Int × (List Int))) × Int × Int) → Option (Int ⊕ Bool)) (x : ((List QSym) × Int × (List (Int × Int × (List Int))) × Int × Int)) : Option (Int ⊕ Bool) :=
  cond (decide (x.2.2.2.2 < x.2.2.2.1))
  ((gx x.2.2.1 x.2.2.2.2).bind fun e5 =>
    (formula_parts e5.1).bind fun r6 =>
    cond (x.2.1 == 0)
    (some (Sum.inr false))
    (cond (decide (r6 < 0))
      (some (Sum.inr false))
      ((formula_nodeMay x.1 e5.1 e5.2.1 e5.2.2).bind fun r7 =>
        cond (!r7)
        (some (Sum.inr false))
        (rec (x.1, (IntKind.wrap .i64 (x.2.1 + (IntKind.wrap .i64 (r6 - 1)))), x.2.2.1, x.2.2.2.1, (IntKind.wrap .i64 (x.2.2.2.2 + 1)))))))
  (some (Sum.inl x.2.1))

def formula_May (a0 : (List QSym)) (a1 : (List (Int × Int × (List Int)))) : Option Bool :=
  (formula_SigMay a0).bind fun r11 =>
  cond (!r11)
  (some false)
  (cond (((List.length a1 : Nat) : Int) == 0)
    (some false)
    (cond (decide (((List.length a1 : Nat) : Int) > 40))
      (some false)
      (((lp formula_May_L0 fuel) (a0, 1, a1, ((List.length a1 : Nat) : Int), 0)).bind fun r12 =>
        caseS r12
        (fun z13 => some (z13 == 0))
        (fun z14 => some z14))))

-- formula.show
def formula_show_S (rf : (((List QSym) × (List (Int × Int × (List Int)))) → Option (Str × (List (Int × Int × (List Int)))))) (a0 : (List QSym)) (a1 : (List (Int × Int × (List Int)))) : Option (Str × (List (Int × Int × (List Int)))) :=
  (gx a1 0).bind fun e21 =>
  (slc2 a1 (some 1) none).bind fun y22 =>
  cond (e21.1 == 0)
  ((formula_ShowAtom a0 e21.2.2).bind fun r23 =>
    some (r23, y22))
  (cond (e21.1 == 1)
    ((rf (a0, y22)).bind fun r24 =>
      cond (decide ((List.length ([126] : Str) + List.length r24.1 : Nat) < 4611686018427387904))
      (some ((([126] : Str) ++ r24.1), r24.2))
      (none))
    (cond (e21.1 == 5)
      (cond (e21.1 == 5)
        ((rf (a0, y22)).bind fun r25 =>
          (inR (IntKind.wrap .i64 (e21.1 - 5)) (List.length ([([97, 108, 108] : Str), ([101, 120] : Str)] : List Str))).bind fun k26 =>
          (([([97, 108, 108] : Str), ([101, 120] : Str)] : List Str)[k26]?).bind fun x27 =>
          cond (decide ((List.length x27 + List.length ([32, 88] : Str) : Nat) < 4611686018427387904))
          ((strconv_Itoa e21.2.1).bind fun r28 =>
            cond (decide ((List.length (x27 ++ ([32, 88] : Str)) + List.length r28 : Nat) < 4611686018427387904))
            (cond (decide ((List.length ((x27 ++ ([32, 88] : Str)) ++ r28) + List.length ([32] : Str) : Nat) < 4611686018427387904))
              (cond (decide ((List.length (((x27 ++ ([32, 88] : Str)) ++ r28) ++ ([32] : Str)) + List.length r25.1 : Nat) < 4611686018427387904))
                (some (((((x27 ++ ([32, 88] : Str)) ++ r28) ++ ([32] : Str)) ++ r25.1), r25.2))
                (none))
              (none))
            (none))
          (none))
        ((rf (a0, y22)).bind fun r29 =>
          (rf (a0, r29.2)).bind fun r30 =>
          cond (decide ((List.length ([40] : Str) + List.length r29.1 : Nat) < 4611686018427387904))
          ((inR (IntKind.wrap .i64 (e21.1 - 2)) (List.length ([([32, 38, 32] : Str), ([32, 124, 32] : Str), ([32, 45, 62, 32] : Str)] : List Str))).bind fun k31 =>
            (([([32, 38, 32] : Str), ([32, 124, 32] : Str), ([32, 45, 62, 32] : Str)] : List Str)[k31]?).bind fun x32 =>
            cond (decide ((List.length (([40] : Str) ++ r29.1) + List.length x32 : Nat) < 4611686018427387904))
            (cond (decide ((List.length ((([40] : Str) ++ r29.1) ++ x32) + List.length r30.1 : Nat) < 4611686018427387904))
              (cond (decide ((List.length (((([40] : Str) ++ r29.1) ++ x32) ++ r30.1) + List.length ([41] : Str) : Nat) < 4611686018427387904))
                (some (((((([40] : Str) ++ r29.1) ++ x32) ++ r30.1) ++ ([41] : Str)), r30.2))
                (none))
              (none))
            (none))
          (none)))
      (cond (e21.1 == 6)
        ((rf (a0, y22)).bind fun r33 =>
          (inR (IntKind.wrap .i64 (e21.1 - 5)) (List.length ([([97, 108, 108] : Str), ([101, 120] : Str)] : List Str))).bind fun k34 =>
          (([([97, 108, 108] : Str), ([101, 120] : Str)] : List Str)[k34]?).bind fun x35 =>
          cond (decide ((List.length x35 + List.length ([32, 88] : Str) : Nat) < 4611686018427387904))
          ((strconv_Itoa e21.2.1).bind fun r36 =>
            cond (decide ((List.length (x35 ++ ([32, 88] : Str)) + List.length r36 : Nat) < 4611686018427387904))
            (cond (decide ((List.length ((x35 ++ ([32, 88] : Str)) ++ r36) + List.length ([32] : Str) : Nat) < 4611686018427387904))
              (cond (decide ((List.length (((x35 ++ ([32, 88] : Str)) ++ r36) ++ ([32] : Str)) + List.length r33.1 : Nat) < 4611686018427387904))
                (some (((((x35 ++ ([32, 88] : Str)) ++ r36) ++ ([32] : Str)) ++ r33.1), r33.2))
                (none))
              (none))
            (none))
          (none))
        ((rf (a0, y22)).bind fun r37 =>
          (rf (a0, r37.2)).bind fun r38 =>
          cond (decide ((List.length ([40] : Str) + List.length r37.1 : Nat) < 4611686018427387904))
          ((inR (IntKind.wrap .i64 (e21.1 - 2)) (List.length ([([32, 38, 32] : Str), ([32, 124, 32] : Str), ([32, 45, 62, 32] : Str)] : List Str))).bind fun k39 =>
            (([([32, 38, 32] : Str), ([32, 124, 32] : Str), ([32, 45, 62, 32] : Str)] : List Str)[k39]?).bind fun x40 =>
            cond (decide ((List.length (([40] : Str) ++ r37.1) + List.length x40 : Nat) < 4611686018427387904))
            (cond (decide ((List.length ((([40] : Str) ++ r37.1) ++ x40) + List.length r38.1 : Nat) < 4611686018427387904))
              (cond (decide ((List.length (((([40] : Str) ++ r37.1) ++ x40) ++ r38.1) + List.length ([41] : Str) : Nat) < 4611686018427387904))
                (some (((((([40] : Str) ++ r37.1) ++ x40) ++ r38.1) ++ ([41] : Str)), r38.2))
                (none))
              (none))
            (none))
          (none)))))

def formula_show_R_step (rf : (((List QSym) × (List (Int × Int × (List Int)))) → Option (Str × (List (Int × Int × (List Int)))))) : (((List QSym) × (List (Int × Int × (List Int)))) → Option (Str × (List (Int × Int × (List Int))))) :=
  fun (x : ((List QSym) × (List (Int × Int × (List Int))))) => formula_show_S rf x.1 x.2

def formula_show_R_base : (((List QSym) × (List (Int × Int × (List Int)))) → Option (Str × (List (Int × Int × (List Int))))) := fun _ => none
def formula_show_R (k : Nat) : (((List QSym) × (List (Int × Int × (List Int)))) → Option (Str × (List (Int × Int × (List Int))))) := lpR formula_show_R_base formula_show_R_step k

def formula_show (a0 : (List QSym)) (a1 : (List (Int × Int × (List Int)))) : Option (Str × (List (Int × Int × (List Int)))) := (formula_show_R fuel) (a0, a1)
-- formula.Show
def formula_Show (a0 : (List QSym)) (a1 : (List (Int × Int × (List Int)))) : Option (Str × Int) :=
  (formula_May a0 a1).bind fun r3 =>
  cond (!r3)
  (some (([] : Str), 2200))
  ((formula_show a0 a1).bind fun r4 =>
    some (r4.1, 0))

-- quaerelaw24.TellAtoms
def law24_TellAtoms (a0 : (List QSym)) (a1 : Bool) (a2 : (List Int)) : Option Bool :=
  (law24_awake).bind fun r10 =>
  cond (!r10)
  (some false)
  (cond a1
    (cond (room (List.length ([(1, 0, ([] : (List Int)))] : List (Int × Int × (List Int)))) 40)
      (cond (room (List.length ([(1, 0, ([] : (List Int)))] : List (Int × Int × (List Int))) + List.length ([(0, 0, a2)] : List (Int × Int × (List Int)))) 40)
        ((formula_Show a0 (([(1, 0, ([] : (List Int)))] : List (Int × Int × (List Int))) ++ ([(0, 0, a2)] : List (Int × Int × (List Int))))).bind fun r11 =>
          (law0_Num r11.2).bind fun r12 =>
          cond (r12 != 0)
          (some (r11.1 == ([] : Str)))
          ((ask_Show a0 ([] : (List QLit)) ([([] : List Int)] : List (List Int)) ([(a1, a2)] : List QLit)).bind fun r13 =>
            (law0_Num r13.2).bind fun r14 =>
            cond (r14 == 0)
            (cond (decide ((List.length ([40, 41, 32, 105, 102, 32] : Str) + List.length r11.1 : Nat) < 4611686018427387904))
              (some (r13.1 == (([40, 41, 32, 105, 102, 32] : Str) ++ r11.1)))
              (none))
            (some false)))
        (none))
      (none))
    (cond (room (List.length ([(0, 0, a2)] : List (Int × Int × (List Int)))) 40)
      ((formula_Show a0 ([(0, 0, a2)] : List (Int × Int × (List Int)))).bind fun r15 =>
        (law0_Num r15.2).bind fun r16 =>
        cond (r16 != 0)
        (some (r15.1 == ([] : Str)))
        ((ask_Show a0 ([] : (List QLit)) ([([] : List Int)] : List (List Int)) ([(a1, a2)] : List QLit)).bind fun r17 =>
          (law0_Num r17.2).bind fun r18 =>
          cond (r18 == 0)
          (cond (decide ((List.length ([40, 41, 32, 105, 102, 32] : Str) + List.length r15.1 : Nat) < 4611686018427387904))
            (some (r17.1 == (([40, 41, 32, 105, 102, 32] : Str) ++ r15.1)))
            (none))
          (some false)))
      (none)))

end Go.Abs.Q
/-
  Plain laws: rounds, places, numbers.
-/
namespace Go.Abs.Q
open Go Go.Abs
section

theorem lp_succ {X Y : Type} (s : (X → Option Y) → X → Option Y) (k : Nat) : lp s (k + 1) = s (lp s k) := rfl
theorem lp_fuel {X Y : Type} (s : (X → Option Y) → X → Option Y) : lp s fuel = s (lp s 18446744073709551615) := rfl

/-- Rounds with a measure: whatever the state, what comes out stands so to it. -/
theorem lp_post {X Y : Type} {s : (X → Option Y) → X → Option Y} (Pre : Nat → X → Prop) (Q : X → Y → Prop)
    (h : ∀ n x (rec : X → Option Y), Pre n x → (∀ m x', m < n → Pre m x' → ∃ y, rec x' = some y ∧ Q x' y) → ∃ y, s rec x = some y ∧ Q x y) :
    ∀ n x k, Pre n x → n < k → ∃ y, lp s k x = some y ∧ Q x y := by
  intro n
  induction n using Nat.strongRecOn with
  | _ n ih =>
    intro x k hp hk
    obtain ⟨k, rfl⟩ : ∃ k', k = k' + 1 := ⟨k - 1, by omega⟩
    rw [lp_succ]
    exact h n x _ hp fun m x' hm hx => ih m hm x' k hx (by omega)

theorem lp_spec {X Y : Type} {s : (X → Option Y) → X → Option Y} (Pre : Nat → X → Prop) (R : X → Y)
    (h : ∀ n x (rec : X → Option Y), Pre n x → (∀ m x', m < n → Pre m x' → rec x' = some (R x')) → s rec x = some (R x)) :
    ∀ n x k, Pre n x → n < k → lp s k x = some (R x) := by
  intro n x k hp hk
  obtain ⟨y, hy, rfl⟩ := lp_post Pre (fun x y => y = R x) (fun n x rec hp hr => ⟨_, h n x rec hp fun m x' hm hx => by
    obtain ⟨y, hy, rfl⟩ := hr m x' hm hx
    exact hy, rfl⟩) n x k hp hk
  exact hy

theorem gx_nat {α : Type} (xs : List α) (i : Nat) : gx xs (i : Int) = xs[i]? := by
  unfold gx
  rw [show decide ((0 : Int) ≤ (i : Int)) = true from by simp]
  rfl
theorem gx_zero {α : Type} (xs : List α) : gx xs 0 = xs[0]? := gx_nat xs 0
theorem gx_neg {α : Type} (xs : List α) {i : Int} (h : i < 0) : gx xs i = none := by
  unfold gx
  rw [show decide ((0 : Int) ≤ i) = false from by simp; omega]
  rfl
theorem gx_at {α : Type} {xs : List α} {i : Int} (h0 : 0 ≤ i) (h : i < xs.length) : ∃ x, gx xs i = some x ∧ x ∈ xs ∧ xs[i.toNat]? = some x := by
  have hi : i.toNat < xs.length := by omega
  refine ⟨xs[i.toNat], ?_, List.getElem_mem hi, List.getElem?_eq_getElem hi⟩
  unfold gx
  rw [show decide ((0 : Int) ≤ i) = true from by simp; omega, cond_true, List.getElem?_eq_getElem hi]

theorem inR_nat {i l : Nat} (h : i < l) : inR (i : Int) l = some i := by
  unfold inR
  simp [h]

theorem wrap64 {n : Int} (h1 : -9223372036854775808 ≤ n) (h2 : n ≤ 9223372036854775807) : IntKind.wrap .i64 n = n := by
  simp [IntKind.wrap, IntKind.signed, IntKind.bits]
  omega

theorem wrap_i1 {i l : Nat} (h : i < l) (hl : l ≤ maxLen) : IntKind.wrap .i64 ((i : Int) + 1) = ((i + 1 : Nat) : Int) := by
  unfold maxLen at hl
  rw [wrap64] <;> omega

theorem lt_true {i l : Nat} (h : i < l) : decide ((i : Int) < (l : Int)) = true := by simp [h]
theorem lt_false {i l : Nat} (h : l ≤ i) : decide ((i : Int) < (l : Int)) = false := by simp; omega

theorem drop_nil_le {α : Type} {xs : List α} {i : Nat} (h : xs.drop i = []) : xs.length ≤ i := by simpa using h
theorem drop_cons_lt {α : Type} {xs es : List α} {e : α} {i : Nat} (h : xs.drop i = e :: es) : i < xs.length := by
  rw [← Nat.not_le]
  intro hn
  rw [List.drop_eq_nil_iff.2 hn] at h
  cases h
theorem drop_cons_get {α : Type} {xs es : List α} {e : α} {i : Nat} (h : xs.drop i = e :: es) : xs[i]? = some e := by
  have := congrArg (·[0]?) h
  simpa using this
theorem drop_cons_next {α : Type} {xs es : List α} {e : α} {i : Nat} (h : xs.drop i = e :: es) : xs.drop (i + 1) = es := by
  rw [← List.drop_drop, h]
  rfl

end
end Go.Abs.Q
/-
  Rounds over a list, as recursion over it.
-/
namespace Go.Abs.Q
open Go Go.Abs
def sign_called_L0_go : List UInt8 → Option (Unit ⊕ Bool)
  | [] => some (Sum.inl ())
  | e :: es =>
    (sign_small ((UInt8.toNat e : Nat) : Int)).bind fun r8 =>
    cond (!r8)
    (cond (decide (((UInt8.toNat e : Nat) : Int) < 48))
      (some (Sum.inr false))
      (cond (decide (((UInt8.toNat e : Nat) : Int) > 57))
        (some (Sum.inr false))
        (sign_called_L0_go es)))
    (sign_called_L0_go es)
theorem sign_called_L0_go_eq (s0 : Str) (hl : List.length s0 ≤ maxLen) : ∀ (es : List UInt8) (i : Nat) (k : Nat), s0.drop i = es → es.length < k → lp sign_called_L0 k (s0, ((List.length s0 : Nat) : Int), (i : Int)) = sign_called_L0_go es := by
  intro es
  induction es with
  | nil =>
    intro i k h hk
    obtain ⟨k, rfl⟩ : ∃ k', k = k' + 1 := ⟨k - 1, by omega⟩
    rw [lp_succ]
    generalize lp sign_called_L0 k = rec
    unfold sign_called_L0 sign_called_L0_go
    simp only [lt_false (drop_nil_le h), cond_false]
  | cons e es ih =>
    intro i k h hk
    obtain ⟨k, rfl⟩ : ∃ k', k = k' + 1 := ⟨k - 1, by omega⟩
    rw [lp_succ]
    have hi := drop_cons_lt h
    have hk2 : es.length < k := Nat.lt_of_succ_lt_succ hk
    have key := fun (_ : Unit) => ih (i + 1) k (drop_cons_next h) hk2
    generalize lp sign_called_L0 k = rec at key ⊢
    unfold sign_called_L0 sign_called_L0_go
    simp only [lt_true hi, cond_true, gx_nat, drop_cons_get h, Option.bind_some, wrap_i1 hi hl, key ()]
theorem sign_called_L0_go_at0 (s0 : Str) (hl : List.length s0 ≤ maxLen) : lp sign_called_L0 fuel (s0, ((List.length s0 : Nat) : Int), 0) = sign_called_L0_go s0 :=
  sign_called_L0_go_eq s0 hl s0 0 fuel rfl (Nat.lt_of_le_of_lt hl (by decide))

def sign_find_L0_go (s1 : Str) : List QSym → Nat → Option (Unit ⊕ Int)
  | [], i => some (Sum.inl ())
  | e :: es, i =>
    cond (e.1 == s1)
    (some (Sum.inr (i : Int)))
    (sign_find_L0_go s1 es (i + 1))
theorem sign_find_L0_go_eq (s0 : (List QSym)) (s1 : Str) (hl : List.length s0 ≤ maxLen) : ∀ (es : List QSym) (i : Nat) (k : Nat), s0.drop i = es → es.length < k → lp sign_find_L0 k (s0, s1, ((List.length s0 : Nat) : Int), (i : Int)) = sign_find_L0_go s1 es i := by
  intro es
  induction es with
  | nil =>
    intro i k h hk
    obtain ⟨k, rfl⟩ : ∃ k', k = k' + 1 := ⟨k - 1, by omega⟩
    rw [lp_succ]
    generalize lp sign_find_L0 k = rec
    unfold sign_find_L0 sign_find_L0_go
    simp only [lt_false (drop_nil_le h), cond_false]
  | cons e es ih =>
    intro i k h hk
    obtain ⟨k, rfl⟩ : ∃ k', k = k' + 1 := ⟨k - 1, by omega⟩
    rw [lp_succ]
    have hi := drop_cons_lt h
    have hk2 : es.length < k := Nat.lt_of_succ_lt_succ hk
    have key := fun (_ : Unit) => ih (i + 1) k (drop_cons_next h) hk2
    generalize lp sign_find_L0 k = rec at key ⊢
    unfold sign_find_L0 sign_find_L0_go
    simp only [lt_true hi, cond_true, gx_nat, drop_cons_get h, Option.bind_some, wrap_i1 hi hl, key ()]
theorem sign_find_L0_go_at0 (s0 : (List QSym)) (s1 : Str) (hl : List.length s0 ≤ maxLen) : lp sign_find_L0 fuel (s0, s1, ((List.length s0 : Nat) : Int), 0) = sign_find_L0_go s1 s0 0 :=
  sign_find_L0_go_eq s0 s1 hl s0 0 fuel rfl (Nat.lt_of_le_of_lt hl (by decide))

def sign_May_L0_go (s0 : (List QSym)) : List QSym → Nat → Option (Unit ⊕ Bool)
  | [], i => some (Sum.inl ())
  | e :: es, i =>
    (sign_SymMay e.1 e.2.1 e.2.2.1 e.2.2.2).bind fun r7 =>
    cond (!r7)
    (some (Sum.inr false))
    ((sign_find s0 e.1).bind fun r9 =>
      cond (r9 != (i : Int))
      (some (Sum.inr false))
      (sign_May_L0_go s0 es (i + 1)))
theorem sign_May_L0_go_eq (s0 : (List QSym)) (hl : List.length s0 ≤ maxLen) : ∀ (es : List QSym) (i : Nat) (k : Nat), s0.drop i = es → es.length < k → lp sign_May_L0 k (s0, (i : Int)) = sign_May_L0_go s0 es i := by
  intro es
  induction es with
  | nil =>
    intro i k h hk
    obtain ⟨k, rfl⟩ : ∃ k', k = k' + 1 := ⟨k - 1, by omega⟩
    rw [lp_succ]
    generalize lp sign_May_L0 k = rec
    unfold sign_May_L0 sign_May_L0_go
    simp only [lt_false (drop_nil_le h), cond_false]
  | cons e es ih =>
    intro i k h hk
    obtain ⟨k, rfl⟩ : ∃ k', k = k' + 1 := ⟨k - 1, by omega⟩
    rw [lp_succ]
    have hi := drop_cons_lt h
    have hk2 : es.length < k := Nat.lt_of_succ_lt_succ hk
    have key := fun (_ : Unit) => ih (i + 1) k (drop_cons_next h) hk2
    generalize lp sign_May_L0 k = rec at key ⊢
    unfold sign_May_L0 sign_May_L0_go
    simp only [lt_true hi, cond_true, gx_nat, drop_cons_get h, Option.bind_some, wrap_i1 hi hl, key ()]
theorem sign_May_L0_go_at0 (s0 : (List QSym)) (hl : List.length s0 ≤ maxLen) : lp sign_May_L0 fuel (s0, 0) = sign_May_L0_go s0 s0 0 :=
  sign_May_L0_go_eq s0 hl s0 0 fuel rfl (Nat.lt_of_le_of_lt hl (by decide))

def slices_Index_L0_go (s1 : Int) : List Int → Nat → Option (Unit ⊕ Int)
  | [], i => some (Sum.inl ())
  | e :: es, i =>
    cond (s1 == e)
    (some (Sum.inr (i : Int)))
    (slices_Index_L0_go s1 es (i + 1))
theorem slices_Index_L0_go_eq (s0 : (List Int)) (s1 : Int) (hl : List.length s0 ≤ maxLen) : ∀ (es : List Int) (i : Nat) (k : Nat), s0.drop i = es → es.length < k → lp slices_Index_L0 k (s0, s1, ((List.length s0 : Nat) : Int), (i : Int)) = slices_Index_L0_go s1 es i := by
  intro es
  induction es with
  | nil =>
    intro i k h hk
    obtain ⟨k, rfl⟩ : ∃ k', k = k' + 1 := ⟨k - 1, by omega⟩
    rw [lp_succ]
    generalize lp slices_Index_L0 k = rec
    unfold slices_Index_L0 slices_Index_L0_go
    simp only [lt_false (drop_nil_le h), cond_false]
  | cons e es ih =>
    intro i k h hk
    obtain ⟨k, rfl⟩ : ∃ k', k = k' + 1 := ⟨k - 1, by omega⟩
    rw [lp_succ]
    have hi := drop_cons_lt h
    have hk2 : es.length < k := Nat.lt_of_succ_lt_succ hk
    have key := fun (_ : Unit) => ih (i + 1) k (drop_cons_next h) hk2
    generalize lp slices_Index_L0 k = rec at key ⊢
    unfold slices_Index_L0 slices_Index_L0_go
    simp only [lt_true hi, cond_true, gx_nat, drop_cons_get h, Option.bind_some, wrap_i1 hi hl, key ()]
theorem slices_Index_L0_go_at0 (s0 : (List Int)) (s1 : Int) (hl : List.length s0 ≤ maxLen) : lp slices_Index_L0 fuel (s0, s1, ((List.length s0 : Nat) : Int), 0) = slices_Index_L0_go s1 s0 0 :=
  slices_Index_L0_go_eq s0 s1 hl s0 0 fuel rfl (Nat.lt_of_le_of_lt hl (by decide))

def ask_varsMay_L0_go (s0 : (List Int)) : List Int → Nat → Option (Unit ⊕ Bool)
  | [], i => some (Sum.inl ())
  | e :: es, i =>
    cond (decide (e < 0))
    (some (Sum.inr false))
    (cond (decide (e > 23))
      (some (Sum.inr false))
      ((slc2 s0 none (some (i : Int))).bind fun y5 =>
        (slices_Contains y5 e).bind fun r6 =>
        cond r6
        (some (Sum.inr false))
        (ask_varsMay_L0_go s0 es (i + 1))))
theorem ask_varsMay_L0_go_eq (s0 : (List Int)) (s1 : (List Int)) (hl : List.length s1 ≤ maxLen) : ∀ (es : List Int) (i : Nat) (k : Nat), s1.drop i = es → es.length < k → lp ask_varsMay_L0 k (s0, s1, ((List.length s1 : Nat) : Int), (i : Int)) = ask_varsMay_L0_go s0 es i := by
  intro es
  induction es with
  | nil =>
    intro i k h hk
    obtain ⟨k, rfl⟩ : ∃ k', k = k' + 1 := ⟨k - 1, by omega⟩
    rw [lp_succ]
    generalize lp ask_varsMay_L0 k = rec
    unfold ask_varsMay_L0 ask_varsMay_L0_go
    simp only [lt_false (drop_nil_le h), cond_false]
  | cons e es ih =>
    intro i k h hk
    obtain ⟨k, rfl⟩ : ∃ k', k = k' + 1 := ⟨k - 1, by omega⟩
    rw [lp_succ]
    have hi := drop_cons_lt h
    have hk2 : es.length < k := Nat.lt_of_succ_lt_succ hk
    have key := fun (_ : Unit) => ih (i + 1) k (drop_cons_next h) hk2
    generalize lp ask_varsMay_L0 k = rec at key ⊢
    unfold ask_varsMay_L0 ask_varsMay_L0_go
    simp only [lt_true hi, cond_true, gx_nat, drop_cons_get h, Option.bind_some, wrap_i1 hi hl, key ()]
theorem ask_varsMay_L0_go_at0 (s0 : (List Int)) (s1 : (List Int)) (hl : List.length s1 ≤ maxLen) : lp ask_varsMay_L0 fuel (s0, s1, ((List.length s1 : Nat) : Int), 0) = ask_varsMay_L0_go s0 s1 0 :=
  ask_varsMay_L0_go_eq s0 s1 hl s1 0 fuel rfl (Nat.lt_of_le_of_lt hl (by decide))

def clause_litsMay_L0_go (s0 : (List QSym)) : List QLit → Int → Option (Int ⊕ (Int × Bool))
  | [], s1 => some (Sum.inl s1)
  | e :: es, s1 =>
    (lit_May s0 e.1 e.2).bind fun r4 =>
    cond (!r4)
    (some (Sum.inr (0, false)))
    (clause_litsMay_L0_go s0 es (IntKind.wrap .i64 (s1 + ((List.length e.2 : Nat) : Int))))
theorem clause_litsMay_L0_go_eq (s0 : (List QSym)) (s2 : (List QLit)) (hl : List.length s2 ≤ maxLen) : ∀ (es : List QLit) (i : Nat) (k : Nat) (s1 : Int), s2.drop i = es → es.length < k → lp clause_litsMay_L0 k (s0, s1, s2, ((List.length s2 : Nat) : Int), (i : Int)) = clause_litsMay_L0_go s0 es s1 := by
  intro es
  induction es with
  | nil =>
    intro i k s1 h hk
    obtain ⟨k, rfl⟩ : ∃ k', k = k' + 1 := ⟨k - 1, by omega⟩
    rw [lp_succ]
    generalize lp clause_litsMay_L0 k = rec
    unfold clause_litsMay_L0 clause_litsMay_L0_go
    simp only [lt_false (drop_nil_le h), cond_false]
  | cons e es ih =>
    intro i k s1 h hk
    obtain ⟨k, rfl⟩ : ∃ k', k = k' + 1 := ⟨k - 1, by omega⟩
    rw [lp_succ]
    have hi := drop_cons_lt h
    have hk2 : es.length < k := Nat.lt_of_succ_lt_succ hk
    have key := fun s1 => ih (i + 1) k s1 (drop_cons_next h) hk2
    generalize lp clause_litsMay_L0 k = rec at key ⊢
    unfold clause_litsMay_L0 clause_litsMay_L0_go
    simp only [lt_true hi, cond_true, gx_nat, drop_cons_get h, Option.bind_some, wrap_i1 hi hl, key]
theorem clause_litsMay_L0_go_at0 (s0 : (List QSym)) (s2 : (List QLit)) (s1 : Int) (hl : List.length s2 ≤ maxLen) : lp clause_litsMay_L0 fuel (s0, s1, s2, ((List.length s2 : Nat) : Int), 0) = clause_litsMay_L0_go s0 s2 s1 :=
  clause_litsMay_L0_go_eq s0 s2 hl s2 0 fuel s1 rfl (Nat.lt_of_le_of_lt hl (by decide))

def clause_rowsMay_L0_go (s0 : (List QSym)) : List (List Int) → Nat → Int → Int → Option (Int ⊕ (Int × Bool))
  | [], i, s1, s2 => some (Sum.inl s1)
  | e :: es, i, s1, s2 =>
    (term_Row s0 e).bind fun r4 =>
    cond ((i : Int) == 0)
    (cond (r4.2 != 0)
      (some (Sum.inr (0, false)))
      (cond (r4.1 != r4.1)
        (some (Sum.inr (0, false)))
        (clause_rowsMay_L0_go s0 es (i + 1) (IntKind.wrap .i64 (s1 + ((List.length e : Nat) : Int))) r4.1)))
    (cond (r4.2 != 0)
      (some (Sum.inr (0, false)))
      (cond (r4.1 != s2)
        (some (Sum.inr (0, false)))
        (clause_rowsMay_L0_go s0 es (i + 1) (IntKind.wrap .i64 (s1 + ((List.length e : Nat) : Int))) s2)))
theorem clause_rowsMay_L0_go_eq (s0 : (List QSym)) (s3 : (List (List Int))) (hl : List.length s3 ≤ maxLen) : ∀ (es : List (List Int)) (i : Nat) (k : Nat) (s1 : Int) (s2 : Int), s3.drop i = es → es.length < k → lp clause_rowsMay_L0 k (s0, s1, s2, s3, ((List.length s3 : Nat) : Int), (i : Int)) = clause_rowsMay_L0_go s0 es i s1 s2 := by
  intro es
  induction es with
  | nil =>
    intro i k s1 s2 h hk
    obtain ⟨k, rfl⟩ : ∃ k', k = k' + 1 := ⟨k - 1, by omega⟩
    rw [lp_succ]
    generalize lp clause_rowsMay_L0 k = rec
    unfold clause_rowsMay_L0 clause_rowsMay_L0_go
    simp only [lt_false (drop_nil_le h), cond_false]
  | cons e es ih =>
    intro i k s1 s2 h hk
    obtain ⟨k, rfl⟩ : ∃ k', k = k' + 1 := ⟨k - 1, by omega⟩
    rw [lp_succ]
    have hi := drop_cons_lt h
    have hk2 : es.length < k := Nat.lt_of_succ_lt_succ hk
    have key := fun s1 s2 => ih (i + 1) k s1 s2 (drop_cons_next h) hk2
    generalize lp clause_rowsMay_L0 k = rec at key ⊢
    unfold clause_rowsMay_L0 clause_rowsMay_L0_go
    simp only [lt_true hi, cond_true, gx_nat, drop_cons_get h, Option.bind_some, wrap_i1 hi hl, key]
theorem clause_rowsMay_L0_go_at0 (s0 : (List QSym)) (s3 : (List (List Int))) (s1 : Int) (s2 : Int) (hl : List.length s3 ≤ maxLen) : lp clause_rowsMay_L0 fuel (s0, s1, s2, s3, ((List.length s3 : Nat) : Int), 0) = clause_rowsMay_L0_go s0 s3 0 s1 s2 :=
  clause_rowsMay_L0_go_eq s0 s3 hl s3 0 fuel s1 s2 rfl (Nat.lt_of_le_of_lt hl (by decide))

def slices_Equal_L0_go (s1 : (List Int)) : List Int → Nat → Option (Unit ⊕ Bool)
  | [], i => some (Sum.inl ())
  | e :: es, i =>
    (gx s1 (i : Int)).bind fun e4 =>
    cond (e != e4)
    (some (Sum.inr false))
    (slices_Equal_L0_go s1 es (i + 1))
theorem slices_Equal_L0_go_eq (s0 : (List Int)) (s1 : (List Int)) (hl : List.length s0 ≤ maxLen) : ∀ (es : List Int) (i : Nat) (k : Nat), s0.drop i = es → es.length < k → lp slices_Equal_L0 k (s0, s1, ((List.length s0 : Nat) : Int), (i : Int)) = slices_Equal_L0_go s1 es i := by
  intro es
  induction es with
  | nil =>
    intro i k h hk
    obtain ⟨k, rfl⟩ : ∃ k', k = k' + 1 := ⟨k - 1, by omega⟩
    rw [lp_succ]
    generalize lp slices_Equal_L0 k = rec
    unfold slices_Equal_L0 slices_Equal_L0_go
    simp only [lt_false (drop_nil_le h), cond_false]
  | cons e es ih =>
    intro i k h hk
    obtain ⟨k, rfl⟩ : ∃ k', k = k' + 1 := ⟨k - 1, by omega⟩
    rw [lp_succ]
    have hi := drop_cons_lt h
    have hk2 : es.length < k := Nat.lt_of_succ_lt_succ hk
    have key := fun (_ : Unit) => ih (i + 1) k (drop_cons_next h) hk2
    generalize lp slices_Equal_L0 k = rec at key ⊢
    unfold slices_Equal_L0 slices_Equal_L0_go
    simp only [lt_true hi, cond_true, gx_nat, drop_cons_get h, Option.bind_some, wrap_i1 hi hl, key ()]
theorem slices_Equal_L0_go_at0 (s0 : (List Int)) (s1 : (List Int)) (hl : List.length s0 ≤ maxLen) : lp slices_Equal_L0 fuel (s0, s1, ((List.length s0 : Nat) : Int), 0) = slices_Equal_L0_go s1 s0 0 :=
  slices_Equal_L0_go_eq s0 s1 hl s0 0 fuel rfl (Nat.lt_of_le_of_lt hl (by decide))

def slices_IndexFunc_L0_go (s3 : Bool) (s4 : (List Int)) : List QLit → Nat → Option (Unit ⊕ Int)
  | [], i => some (Sum.inl ())
  | e :: es, i =>
    (clause_once_c1 e.1 e.2 s3 s4).bind fun r4 =>
    cond r4
    (some (Sum.inr (i : Int)))
    (slices_IndexFunc_L0_go s3 s4 es (i + 1))
theorem slices_IndexFunc_L0_go_eq (s0 : (List QLit)) (s3 : Bool) (s4 : (List Int)) (hl : List.length s0 ≤ maxLen) : ∀ (es : List QLit) (i : Nat) (k : Nat), s0.drop i = es → es.length < k → lp slices_IndexFunc_L0 k (s0, ((List.length s0 : Nat) : Int), (i : Int), s3, s4) = slices_IndexFunc_L0_go s3 s4 es i := by
  intro es
  induction es with
  | nil =>
    intro i k h hk
    obtain ⟨k, rfl⟩ : ∃ k', k = k' + 1 := ⟨k - 1, by omega⟩
    rw [lp_succ]
    generalize lp slices_IndexFunc_L0 k = rec
    unfold slices_IndexFunc_L0 slices_IndexFunc_L0_go
    simp only [lt_false (drop_nil_le h), cond_false]
  | cons e es ih =>
    intro i k h hk
    obtain ⟨k, rfl⟩ : ∃ k', k = k' + 1 := ⟨k - 1, by omega⟩
    rw [lp_succ]
    have hi := drop_cons_lt h
    have hk2 : es.length < k := Nat.lt_of_succ_lt_succ hk
    have key := fun (_ : Unit) => ih (i + 1) k (drop_cons_next h) hk2
    generalize lp slices_IndexFunc_L0 k = rec at key ⊢
    unfold slices_IndexFunc_L0 slices_IndexFunc_L0_go
    simp only [lt_true hi, cond_true, gx_nat, drop_cons_get h, Option.bind_some, wrap_i1 hi hl, key ()]
theorem slices_IndexFunc_L0_go_at0 (s0 : (List QLit)) (s3 : Bool) (s4 : (List Int)) (hl : List.length s0 ≤ maxLen) : lp slices_IndexFunc_L0 fuel (s0, ((List.length s0 : Nat) : Int), 0, s3, s4) = slices_IndexFunc_L0_go s3 s4 s0 0 :=
  slices_IndexFunc_L0_go_eq s0 s3 s4 hl s0 0 fuel rfl (Nat.lt_of_le_of_lt hl (by decide))

def clause_once_L0_go : List QLit → (List QLit) → Option (List QLit)
  | [], s3 => some s3
  | e :: es, s3 =>
    (slices_ContainsFunc s3 e.1 e.2).bind fun r6 =>
    cond (!r6)
    (cond (room (List.length s3 + List.length ([(e.1, e.2)] : List QLit)) 32)
      (clause_once_L0_go es (s3 ++ ([(e.1, e.2)] : List QLit)))
      (none))
    (clause_once_L0_go es s3)
theorem clause_once_L0_go_eq (s0 : (List QLit)) (hl : List.length s0 ≤ maxLen) : ∀ (es : List QLit) (i : Nat) (k : Nat) (s3 : (List QLit)), s0.drop i = es → es.length < k → lp clause_once_L0 k (s0, ((List.length s0 : Nat) : Int), (i : Int), s3) = clause_once_L0_go es s3 := by
  intro es
  induction es with
  | nil =>
    intro i k s3 h hk
    obtain ⟨k, rfl⟩ : ∃ k', k = k' + 1 := ⟨k - 1, by omega⟩
    rw [lp_succ]
    generalize lp clause_once_L0 k = rec
    unfold clause_once_L0 clause_once_L0_go
    simp only [lt_false (drop_nil_le h), cond_false]
  | cons e es ih =>
    intro i k s3 h hk
    obtain ⟨k, rfl⟩ : ∃ k', k = k' + 1 := ⟨k - 1, by omega⟩
    rw [lp_succ]
    have hi := drop_cons_lt h
    have hk2 : es.length < k := Nat.lt_of_succ_lt_succ hk
    have key := fun s3 => ih (i + 1) k s3 (drop_cons_next h) hk2
    generalize lp clause_once_L0 k = rec at key ⊢
    unfold clause_once_L0 clause_once_L0_go
    simp only [lt_true hi, cond_true, gx_nat, drop_cons_get h, Option.bind_some, wrap_i1 hi hl, key]
theorem clause_once_L0_go_at0 (s0 : (List QLit)) (s3 : (List QLit)) (hl : List.length s0 ≤ maxLen) : lp clause_once_L0 fuel (s0, ((List.length s0 : Nat) : Int), 0, s3) = clause_once_L0_go s0 s3 :=
  clause_once_L0_go_eq s0 hl s0 0 fuel s3 rfl (Nat.lt_of_le_of_lt hl (by decide))

def slices_IndexFunc_1_L0_go (s3 : (List Int)) : List (List Int) → Nat → Option (Unit ⊕ Int)
  | [], i => some (Sum.inl ())
  | e :: es, i =>
    (clause_anew_c1 e s3).bind fun r4 =>
    cond r4
    (some (Sum.inr (i : Int)))
    (slices_IndexFunc_1_L0_go s3 es (i + 1))
theorem slices_IndexFunc_1_L0_go_eq (s0 : (List (List Int))) (s3 : (List Int)) (hl : List.length s0 ≤ maxLen) : ∀ (es : List (List Int)) (i : Nat) (k : Nat), s0.drop i = es → es.length < k → lp slices_IndexFunc_1_L0 k (s0, ((List.length s0 : Nat) : Int), (i : Int), s3) = slices_IndexFunc_1_L0_go s3 es i := by
  intro es
  induction es with
  | nil =>
    intro i k h hk
    obtain ⟨k, rfl⟩ : ∃ k', k = k' + 1 := ⟨k - 1, by omega⟩
    rw [lp_succ]
    generalize lp slices_IndexFunc_1_L0 k = rec
    unfold slices_IndexFunc_1_L0 slices_IndexFunc_1_L0_go
    simp only [lt_false (drop_nil_le h), cond_false]
  | cons e es ih =>
    intro i k h hk
    obtain ⟨k, rfl⟩ : ∃ k', k = k' + 1 := ⟨k - 1, by omega⟩
    rw [lp_succ]
    have hi := drop_cons_lt h
    have hk2 : es.length < k := Nat.lt_of_succ_lt_succ hk
    have key := fun (_ : Unit) => ih (i + 1) k (drop_cons_next h) hk2
    generalize lp slices_IndexFunc_1_L0 k = rec at key ⊢
    unfold slices_IndexFunc_1_L0 slices_IndexFunc_1_L0_go
    simp only [lt_true hi, cond_true, gx_nat, drop_cons_get h, Option.bind_some, wrap_i1 hi hl, key ()]
theorem slices_IndexFunc_1_L0_go_at0 (s0 : (List (List Int))) (s3 : (List Int)) (hl : List.length s0 ≤ maxLen) : lp slices_IndexFunc_1_L0 fuel (s0, ((List.length s0 : Nat) : Int), 0, s3) = slices_IndexFunc_1_L0_go s3 s0 0 :=
  slices_IndexFunc_1_L0_go_eq s0 s3 hl s0 0 fuel rfl (Nat.lt_of_le_of_lt hl (by decide))

def clause_each_1_L2_go (s5 : (List QLit)) (s6 : (List (List Int))) : List QLit → (List Int) → Int → (List QLit) → Option ((List Int) × Int × (List QLit) × (List (List Int)) × (List QLit))
  | [], s3, s4, s7 => some (s3, s4, s5, s6, s7)
  | e :: es, s3, s4, s7 =>
    (clause_anew_c2_1 e.2 s3 s4).bind fun r20 =>
    cond (room (List.length s7 + List.length ([(e.1, r20.1)] : List QLit)) 32)
    (clause_each_1_L2_go s5 s6 es r20.2.1 r20.2.2 (s7 ++ ([(e.1, r20.1)] : List QLit)))
    (none)
theorem clause_each_1_L2_go_eq (s0 : (List QLit)) (s5 : (List QLit)) (s6 : (List (List Int))) (hl : List.length s0 ≤ maxLen) : ∀ (es : List QLit) (i : Nat) (k : Nat) (s3 : (List Int)) (s4 : Int) (s7 : (List QLit)), s0.drop i = es → es.length < k → lp clause_each_1_L2 k (s0, ((List.length s0 : Nat) : Int), (i : Int), s3, s4, s5, s6, s7) = clause_each_1_L2_go s5 s6 es s3 s4 s7 := by
  intro es
  induction es with
  | nil =>
    intro i k s3 s4 s7 h hk
    obtain ⟨k, rfl⟩ : ∃ k', k = k' + 1 := ⟨k - 1, by omega⟩
    rw [lp_succ]
    generalize lp clause_each_1_L2 k = rec
    unfold clause_each_1_L2 clause_each_1_L2_go
    simp only [lt_false (drop_nil_le h), cond_false]
  | cons e es ih =>
    intro i k s3 s4 s7 h hk
    obtain ⟨k, rfl⟩ : ∃ k', k = k' + 1 := ⟨k - 1, by omega⟩
    rw [lp_succ]
    have hi := drop_cons_lt h
    have hk2 : es.length < k := Nat.lt_of_succ_lt_succ hk
    have key := fun s3 s4 s7 => ih (i + 1) k s3 s4 s7 (drop_cons_next h) hk2
    generalize lp clause_each_1_L2 k = rec at key ⊢
    unfold clause_each_1_L2 clause_each_1_L2_go
    simp only [lt_true hi, cond_true, gx_nat, drop_cons_get h, Option.bind_some, wrap_i1 hi hl, key]
theorem clause_each_1_L2_go_at0 (s0 : (List QLit)) (s5 : (List QLit)) (s6 : (List (List Int))) (s3 : (List Int)) (s4 : Int) (s7 : (List QLit)) (hl : List.length s0 ≤ maxLen) : lp clause_each_1_L2 fuel (s0, ((List.length s0 : Nat) : Int), 0, s3, s4, s5, s6, s7) = clause_each_1_L2_go s5 s6 s0 s3 s4 s7 :=
  clause_each_1_L2_go_eq s0 s5 s6 hl s0 0 fuel s3 s4 s7 rfl (Nat.lt_of_le_of_lt hl (by decide))

def clause_each_1_L1_go (s8 : (List QLit)) : List (List Int) → (List Int) → Int → (List (List Int)) → Option ((List Int) × Int × (List QLit) × (List (List Int)))
  | [], s3, s4, s9 => some (s3, s4, s8, s9)
  | e :: es, s3, s4, s9 =>
    (clause_anew_c2_1 e s3 s4).bind fun r13 =>
    cond (room (List.length s9 + List.length ([r13.1] : List (List Int))) 24)
    (clause_each_1_L1_go s8 es r13.2.1 r13.2.2 (s9 ++ ([r13.1] : List (List Int))))
    (none)
theorem clause_each_1_L1_go_eq (s0 : (List (List Int))) (s5 : (List QLit)) (s6 : (List (List Int))) (s7 : (List QLit)) (s8 : (List QLit)) (hl : List.length s0 ≤ maxLen) : ∀ (es : List (List Int)) (i : Nat) (k : Nat) (s3 : (List Int)) (s4 : Int) (s9 : (List (List Int))), s0.drop i = es → es.length < k → lp clause_each_1_L1 k (s0, ((List.length s0 : Nat) : Int), (i : Int), s3, s4, s5, s6, s7, s8, s9) = clause_each_1_L1_go s8 es s3 s4 s9 := by
  intro es
  induction es with
  | nil =>
    intro i k s3 s4 s9 h hk
    obtain ⟨k, rfl⟩ : ∃ k', k = k' + 1 := ⟨k - 1, by omega⟩
    rw [lp_succ]
    generalize lp clause_each_1_L1 k = rec
    unfold clause_each_1_L1 clause_each_1_L1_go
    simp only [lt_false (drop_nil_le h), cond_false]
  | cons e es ih =>
    intro i k s3 s4 s9 h hk
    obtain ⟨k, rfl⟩ : ∃ k', k = k' + 1 := ⟨k - 1, by omega⟩
    rw [lp_succ]
    have hi := drop_cons_lt h
    have hk2 : es.length < k := Nat.lt_of_succ_lt_succ hk
    have key := fun s3 s4 s9 => ih (i + 1) k s3 s4 s9 (drop_cons_next h) hk2
    generalize lp clause_each_1_L1 k = rec at key ⊢
    unfold clause_each_1_L1 clause_each_1_L1_go
    simp only [lt_true hi, cond_true, gx_nat, drop_cons_get h, Option.bind_some, wrap_i1 hi hl, key]
theorem clause_each_1_L1_go_at0 (s0 : (List (List Int))) (s5 : (List QLit)) (s6 : (List (List Int))) (s7 : (List QLit)) (s8 : (List QLit)) (s3 : (List Int)) (s4 : Int) (s9 : (List (List Int))) (hl : List.length s0 ≤ maxLen) : lp clause_each_1_L1 fuel (s0, ((List.length s0 : Nat) : Int), 0, s3, s4, s5, s6, s7, s8, s9) = clause_each_1_L1_go s8 s0 s3 s4 s9 :=
  clause_each_1_L1_go_eq s0 s5 s6 s7 s8 hl s0 0 fuel s3 s4 s9 rfl (Nat.lt_of_le_of_lt hl (by decide))

def clause_each_1_L0_go : List QLit → (List Int) → Int → (List QLit) → Option ((List Int) × Int × (List QLit))
  | [], s3, s4, s8 => some (s3, s4, s8)
  | e :: es, s3, s4, s8 =>
    (clause_anew_c2_1 e.2 s3 s4).bind fun r6 =>
    cond (room (List.length s8 + List.length ([(e.1, r6.1)] : List QLit)) 32)
    (clause_each_1_L0_go es r6.2.1 r6.2.2 (s8 ++ ([(e.1, r6.1)] : List QLit)))
    (none)
theorem clause_each_1_L0_go_eq (s0 : (List QLit)) (s5 : (List QLit)) (s6 : (List (List Int))) (s7 : (List QLit)) (hl : List.length s0 ≤ maxLen) : ∀ (es : List QLit) (i : Nat) (k : Nat) (s3 : (List Int)) (s4 : Int) (s8 : (List QLit)), s0.drop i = es → es.length < k → lp clause_each_1_L0 k (s0, ((List.length s0 : Nat) : Int), (i : Int), s3, s4, s5, s6, s7, s8) = clause_each_1_L0_go es s3 s4 s8 := by
  intro es
  induction es with
  | nil =>
    intro i k s3 s4 s8 h hk
    obtain ⟨k, rfl⟩ : ∃ k', k = k' + 1 := ⟨k - 1, by omega⟩
    rw [lp_succ]
    generalize lp clause_each_1_L0 k = rec
    unfold clause_each_1_L0 clause_each_1_L0_go
    simp only [lt_false (drop_nil_le h), cond_false]
  | cons e es ih =>
    intro i k s3 s4 s8 h hk
    obtain ⟨k, rfl⟩ : ∃ k', k = k' + 1 := ⟨k - 1, by omega⟩
    rw [lp_succ]
    have hi := drop_cons_lt h
    have hk2 : es.length < k := Nat.lt_of_succ_lt_succ hk
    have key := fun s3 s4 s8 => ih (i + 1) k s3 s4 s8 (drop_cons_next h) hk2
    generalize lp clause_each_1_L0 k = rec at key ⊢
    unfold clause_each_1_L0 clause_each_1_L0_go
    simp only [lt_true hi, cond_true, gx_nat, drop_cons_get h, Option.bind_some, wrap_i1 hi hl, key]
theorem clause_each_1_L0_go_at0 (s0 : (List QLit)) (s5 : (List QLit)) (s6 : (List (List Int))) (s7 : (List QLit)) (s3 : (List Int)) (s4 : Int) (s8 : (List QLit)) (hl : List.length s0 ≤ maxLen) : lp clause_each_1_L0 fuel (s0, ((List.length s0 : Nat) : Int), 0, s3, s4, s5, s6, s7, s8) = clause_each_1_L0_go s0 s3 s4 s8 :=
  clause_each_1_L0_go_eq s0 s5 s6 s7 hl s0 0 fuel s3 s4 s8 rfl (Nat.lt_of_le_of_lt hl (by decide))

def clause_anew_L0_go (s3 : (List QLit)) (s4 : (List QLit)) : List (List Int) → (List (List Int)) → Option ((List QLit) × (List QLit) × (List (List Int)))
  | [], s5 => some (s3, s4, s5)
  | e :: es, s5 =>
    (slices_ContainsFunc_1 s5 e).bind fun r8 =>
    cond (!r8)
    (cond (room (List.length s5 + List.length ([e] : List (List Int))) 24)
      (clause_anew_L0_go s3 s4 es (s5 ++ ([e] : List (List Int))))
      (none))
    (clause_anew_L0_go s3 s4 es s5)
theorem clause_anew_L0_go_eq (s0 : (List (List Int))) (s3 : (List QLit)) (s4 : (List QLit)) (hl : List.length s0 ≤ maxLen) : ∀ (es : List (List Int)) (i : Nat) (k : Nat) (s5 : (List (List Int))), s0.drop i = es → es.length < k → lp clause_anew_L0 k (s0, ((List.length s0 : Nat) : Int), (i : Int), s3, s4, s5) = clause_anew_L0_go s3 s4 es s5 := by
  intro es
  induction es with
  | nil =>
    intro i k s5 h hk
    obtain ⟨k, rfl⟩ : ∃ k', k = k' + 1 := ⟨k - 1, by omega⟩
    rw [lp_succ]
    generalize lp clause_anew_L0 k = rec
    unfold clause_anew_L0 clause_anew_L0_go
    simp only [lt_false (drop_nil_le h), cond_false]
  | cons e es ih =>
    intro i k s5 h hk
    obtain ⟨k, rfl⟩ : ∃ k', k = k' + 1 := ⟨k - 1, by omega⟩
    rw [lp_succ]
    have hi := drop_cons_lt h
    have hk2 : es.length < k := Nat.lt_of_succ_lt_succ hk
    have key := fun s5 => ih (i + 1) k s5 (drop_cons_next h) hk2
    generalize lp clause_anew_L0 k = rec at key ⊢
    unfold clause_anew_L0 clause_anew_L0_go
    simp only [lt_true hi, cond_true, gx_nat, drop_cons_get h, Option.bind_some, wrap_i1 hi hl, key]
theorem clause_anew_L0_go_at0 (s0 : (List (List Int))) (s3 : (List QLit)) (s4 : (List QLit)) (s5 : (List (List Int))) (hl : List.length s0 ≤ maxLen) : lp clause_anew_L0 fuel (s0, ((List.length s0 : Nat) : Int), 0, s3, s4, s5) = clause_anew_L0_go s3 s4 s0 s5 :=
  clause_anew_L0_go_eq s0 s3 s4 hl s0 0 fuel s5 rfl (Nat.lt_of_le_of_lt hl (by decide))

def ask_Goal_L1_go : List Int → Nat → (List Int) → Option (List Int)
  | [], i, s5 => some s5
  | e :: es, i, s5 =>
    (term_Number e).bind fun r15 =>
    (inR (i : Int) (List.length s5)).bind fun k16 =>
    (s5[k16]?).bind fun x17 =>
    ask_Goal_L1_go es (i + 1) (List.set s5 k16 r15)
theorem ask_Goal_L1_go_eq (s0 : (List QSym)) (s1 : (List Int)) (s4 : (List QLit)) (hl : List.length s1 ≤ maxLen) : ∀ (es : List Int) (i : Nat) (k : Nat) (s5 : (List Int)), s1.drop i = es → es.length < k → lp ask_Goal_L1 k (s0, s1, ((List.length s1 : Nat) : Int), (i : Int), s4, s5) = ask_Goal_L1_go es i s5 := by
  intro es
  induction es with
  | nil =>
    intro i k s5 h hk
    obtain ⟨k, rfl⟩ : ∃ k', k = k' + 1 := ⟨k - 1, by omega⟩
    rw [lp_succ]
    generalize lp ask_Goal_L1 k = rec
    unfold ask_Goal_L1 ask_Goal_L1_go
    simp only [lt_false (drop_nil_le h), cond_false]
  | cons e es ih =>
    intro i k s5 h hk
    obtain ⟨k, rfl⟩ : ∃ k', k = k' + 1 := ⟨k - 1, by omega⟩
    rw [lp_succ]
    have hi := drop_cons_lt h
    have hk2 : es.length < k := Nat.lt_of_succ_lt_succ hk
    have key := fun s5 => ih (i + 1) k s5 (drop_cons_next h) hk2
    generalize lp ask_Goal_L1 k = rec at key ⊢
    unfold ask_Goal_L1 ask_Goal_L1_go
    simp only [lt_true hi, cond_true, gx_nat, drop_cons_get h, Option.bind_some, wrap_i1 hi hl, key]
theorem ask_Goal_L1_go_at0 (s0 : (List QSym)) (s1 : (List Int)) (s4 : (List QLit)) (s5 : (List Int)) (hl : List.length s1 ≤ maxLen) : lp ask_Goal_L1 fuel (s0, s1, ((List.length s1 : Nat) : Int), 0, s4, s5) = ask_Goal_L1_go s1 0 s5 :=
  ask_Goal_L1_go_eq s0 s1 s4 hl s1 0 fuel s5 rfl (Nat.lt_of_le_of_lt hl (by decide))

def ask_Goal_L0_go : List QLit → (List QLit) → Option (List QLit)
  | [], s5 => some s5
  | e :: es, s5 =>
    (lit_Opposite e.1 e.2).bind fun r8 =>
    cond (room (List.length s5 + List.length ([(r8.1, r8.2)] : List QLit)) 32)
    (ask_Goal_L0_go es (s5 ++ ([(r8.1, r8.2)] : List QLit)))
    (none)
theorem ask_Goal_L0_go_eq (s0 : (List QSym)) (s1 : (List Int)) (s2 : (List QLit)) (hl : List.length s2 ≤ maxLen) : ∀ (es : List QLit) (i : Nat) (k : Nat) (s5 : (List QLit)), s2.drop i = es → es.length < k → lp ask_Goal_L0 k (s0, s1, s2, ((List.length s2 : Nat) : Int), (i : Int), s5) = ask_Goal_L0_go es s5 := by
  intro es
  induction es with
  | nil =>
    intro i k s5 h hk
    obtain ⟨k, rfl⟩ : ∃ k', k = k' + 1 := ⟨k - 1, by omega⟩
    rw [lp_succ]
    generalize lp ask_Goal_L0 k = rec
    unfold ask_Goal_L0 ask_Goal_L0_go
    simp only [lt_false (drop_nil_le h), cond_false]
  | cons e es ih =>
    intro i k s5 h hk
    obtain ⟨k, rfl⟩ : ∃ k', k = k' + 1 := ⟨k - 1, by omega⟩
    rw [lp_succ]
    have hi := drop_cons_lt h
    have hk2 : es.length < k := Nat.lt_of_succ_lt_succ hk
    have key := fun s5 => ih (i + 1) k s5 (drop_cons_next h) hk2
    generalize lp ask_Goal_L0 k = rec at key ⊢
    unfold ask_Goal_L0 ask_Goal_L0_go
    simp only [lt_true hi, cond_true, gx_nat, drop_cons_get h, Option.bind_some, wrap_i1 hi hl, key]
theorem ask_Goal_L0_go_at0 (s0 : (List QSym)) (s1 : (List Int)) (s2 : (List QLit)) (s5 : (List QLit)) (hl : List.length s2 ≤ maxLen) : lp ask_Goal_L0 fuel (s0, s1, s2, ((List.length s2 : Nat) : Int), 0, s5) = ask_Goal_L0_go s2 s5 :=
  ask_Goal_L0_go_eq s0 s1 s2 hl s2 0 fuel s5 rfl (Nat.lt_of_le_of_lt hl (by decide))

def formula_ShowTerms_L0_go (rf : (((List QSym) × (List Int)) → Option Str)) (s0 : (List QSym)) : List (List Int) → (List Str) → Option (List Str)
  | [], s4 => some s4
  | e :: es, s4 =>
    (gx e 0).bind fun e19 =>
    cond (decide (e19 < 0))
    ((gx e 0).bind fun e20 =>
      (term_Number e20).bind fun r21 =>
      (strconv_Itoa r21).bind fun r22 =>
      cond (decide ((List.length ([88] : Str) + List.length r22 : Nat) < 4611686018427387904))
      (cond (room (List.length s4 + List.length ([(([88] : Str) ++ r22)] : List Str)) 16)
        (formula_ShowTerms_L0_go rf s0 es (s4 ++ ([(([88] : Str) ++ r22)] : List Str)))
        (none))
      (none))
    (cond (((List.length e : Nat) : Int) == 1)
      ((gx e 0).bind fun e23 =>
        (gx s0 e23).bind fun e24 =>
        cond (room (List.length s4 + List.length ([e24.1] : List Str)) 16)
        (formula_ShowTerms_L0_go rf s0 es (s4 ++ ([e24.1] : List Str)))
        (none))
      ((gx e 0).bind fun e25 =>
        (gx s0 e25).bind fun e26 =>
        cond (decide ((List.length e26.1 + List.length ([40] : Str) : Nat) < 4611686018427387904))
        ((slc2 e (some 1) none).bind fun y27 =>
          (rf (s0, y27)).bind fun r28 =>
          cond (decide ((List.length (e26.1 ++ ([40] : Str)) + List.length r28 : Nat) < 4611686018427387904))
          (cond (decide ((List.length ((e26.1 ++ ([40] : Str)) ++ r28) + List.length ([41] : Str) : Nat) < 4611686018427387904))
            (cond (room (List.length s4 + List.length ([(((e26.1 ++ ([40] : Str)) ++ r28) ++ ([41] : Str))] : List Str)) 16)
              (formula_ShowTerms_L0_go rf s0 es (s4 ++ ([(((e26.1 ++ ([40] : Str)) ++ r28) ++ ([41] : Str))] : List Str)))
              (none))
            (none))
          (none))
        (none)))
theorem formula_ShowTerms_L0_go_eq (rf : (((List QSym) × (List Int)) → Option Str)) (s0 : (List QSym)) (s1 : (List (List Int))) (hl : List.length s1 ≤ maxLen) : ∀ (es : List (List Int)) (i : Nat) (k : Nat) (s4 : (List Str)), s1.drop i = es → es.length < k → lp (formula_ShowTerms_L0 rf) k (s0, s1, ((List.length s1 : Nat) : Int), (i : Int), s4) = formula_ShowTerms_L0_go rf s0 es s4 := by
  intro es
  induction es with
  | nil =>
    intro i k s4 h hk
    obtain ⟨k, rfl⟩ : ∃ k', k = k' + 1 := ⟨k - 1, by omega⟩
    rw [lp_succ]
    generalize lp (formula_ShowTerms_L0 rf) k = rec
    unfold formula_ShowTerms_L0 formula_ShowTerms_L0_go
    simp only [lt_false (drop_nil_le h), cond_false]
  | cons e es ih =>
    intro i k s4 h hk
    obtain ⟨k, rfl⟩ : ∃ k', k = k' + 1 := ⟨k - 1, by omega⟩
    rw [lp_succ]
    have hi := drop_cons_lt h
    have hk2 : es.length < k := Nat.lt_of_succ_lt_succ hk
    have key := fun s4 => ih (i + 1) k s4 (drop_cons_next h) hk2
    generalize lp (formula_ShowTerms_L0 rf) k = rec at key ⊢
    unfold formula_ShowTerms_L0 formula_ShowTerms_L0_go
    simp only [lt_true hi, cond_true, gx_nat, drop_cons_get h, Option.bind_some, wrap_i1 hi hl, key]
theorem formula_ShowTerms_L0_go_at0 (rf : (((List QSym) × (List Int)) → Option Str)) (s0 : (List QSym)) (s1 : (List (List Int))) (s4 : (List Str)) (hl : List.length s1 ≤ maxLen) : lp (formula_ShowTerms_L0 rf) fuel (s0, s1, ((List.length s1 : Nat) : Int), 0, s4) = formula_ShowTerms_L0_go rf s0 s1 s4 :=
  formula_ShowTerms_L0_go_eq rf s0 s1 hl s1 0 fuel s4 rfl (Nat.lt_of_le_of_lt hl (by decide))

def ask_Show_L1_go (s0 : (List QSym)) : List QLit → (List Str) → Option (List Str)
  | [], s5 => some s5
  | e :: es, s5 =>
    (formula_ShowAtom s0 e.2).bind fun r14 =>
    cond e.1
    (cond (decide ((List.length ([126] : Str) + List.length r14 : Nat) < 4611686018427387904))
      (cond (room (List.length s5 + List.length ([(([126] : Str) ++ r14)] : List Str)) 16)
        (ask_Show_L1_go s0 es (s5 ++ ([(([126] : Str) ++ r14)] : List Str)))
        (none))
      (none))
    (cond (room (List.length s5 + List.length ([r14] : List Str)) 16)
      (ask_Show_L1_go s0 es (s5 ++ ([r14] : List Str)))
      (none))
theorem ask_Show_L1_go_eq (s0 : (List QSym)) (s1 : (List Str)) (s2 : (List QLit)) (hl : List.length s2 ≤ maxLen) : ∀ (es : List QLit) (i : Nat) (k : Nat) (s5 : (List Str)), s2.drop i = es → es.length < k → lp ask_Show_L1 k (s0, s1, s2, ((List.length s2 : Nat) : Int), (i : Int), s5) = ask_Show_L1_go s0 es s5 := by
  intro es
  induction es with
  | nil =>
    intro i k s5 h hk
    obtain ⟨k, rfl⟩ : ∃ k', k = k' + 1 := ⟨k - 1, by omega⟩
    rw [lp_succ]
    generalize lp ask_Show_L1 k = rec
    unfold ask_Show_L1 ask_Show_L1_go
    simp only [lt_false (drop_nil_le h), cond_false]
  | cons e es ih =>
    intro i k s5 h hk
    obtain ⟨k, rfl⟩ : ∃ k', k = k' + 1 := ⟨k - 1, by omega⟩
    rw [lp_succ]
    have hi := drop_cons_lt h
    have hk2 : es.length < k := Nat.lt_of_succ_lt_succ hk
    have key := fun s5 => ih (i + 1) k s5 (drop_cons_next h) hk2
    generalize lp ask_Show_L1 k = rec at key ⊢
    unfold ask_Show_L1 ask_Show_L1_go
    simp only [lt_true hi, cond_true, gx_nat, drop_cons_get h, Option.bind_some, wrap_i1 hi hl, key]
theorem ask_Show_L1_go_at0 (s0 : (List QSym)) (s1 : (List Str)) (s2 : (List QLit)) (s5 : (List Str)) (hl : List.length s2 ≤ maxLen) : lp ask_Show_L1 fuel (s0, s1, s2, ((List.length s2 : Nat) : Int), 0, s5) = ask_Show_L1_go s0 s2 s5 :=
  ask_Show_L1_go_eq s0 s1 s2 hl s2 0 fuel s5 rfl (Nat.lt_of_le_of_lt hl (by decide))

def ask_Show_L0_go (s0 : (List QSym)) : List (List Int) → (List Str) → Option (List Str)
  | [], s7 => some s7
  | e :: es, s7 =>
    (formula_ShowTerms s0 e).bind fun r7 =>
    cond (decide ((List.length ([40] : Str) + List.length r7 : Nat) < 4611686018427387904))
    (cond (decide ((List.length (([40] : Str) ++ r7) + List.length ([41] : Str) : Nat) < 4611686018427387904))
      (cond (room (List.length s7 + List.length ([((([40] : Str) ++ r7) ++ ([41] : Str))] : List Str)) 16)
        (ask_Show_L0_go s0 es (s7 ++ ([((([40] : Str) ++ r7) ++ ([41] : Str))] : List Str)))
        (none))
      (none))
    (none)
theorem ask_Show_L0_go_eq (s0 : (List QSym)) (s1 : (List (List Int))) (s4 : (List QLit)) (s5 : (List (List Int))) (s6 : (List QLit)) (hl : List.length s1 ≤ maxLen) : ∀ (es : List (List Int)) (i : Nat) (k : Nat) (s7 : (List Str)), s1.drop i = es → es.length < k → lp ask_Show_L0 k (s0, s1, ((List.length s1 : Nat) : Int), (i : Int), s4, s5, s6, s7) = ask_Show_L0_go s0 es s7 := by
  intro es
  induction es with
  | nil =>
    intro i k s7 h hk
    obtain ⟨k, rfl⟩ : ∃ k', k = k' + 1 := ⟨k - 1, by omega⟩
    rw [lp_succ]
    generalize lp ask_Show_L0 k = rec
    unfold ask_Show_L0 ask_Show_L0_go
    simp only [lt_false (drop_nil_le h), cond_false]
  | cons e es ih =>
    intro i k s7 h hk
    obtain ⟨k, rfl⟩ : ∃ k', k = k' + 1 := ⟨k - 1, by omega⟩
    rw [lp_succ]
    have hi := drop_cons_lt h
    have hk2 : es.length < k := Nat.lt_of_succ_lt_succ hk
    have key := fun s7 => ih (i + 1) k s7 (drop_cons_next h) hk2
    generalize lp ask_Show_L0 k = rec at key ⊢
    unfold ask_Show_L0 ask_Show_L0_go
    simp only [lt_true hi, cond_true, gx_nat, drop_cons_get h, Option.bind_some, wrap_i1 hi hl, key]
theorem ask_Show_L0_go_at0 (s0 : (List QSym)) (s1 : (List (List Int))) (s4 : (List QLit)) (s5 : (List (List Int))) (s6 : (List QLit)) (s7 : (List Str)) (hl : List.length s1 ≤ maxLen) : lp ask_Show_L0 fuel (s0, s1, ((List.length s1 : Nat) : Int), 0, s4, s5, s6, s7) = ask_Show_L0_go s0 s1 s7 :=
  ask_Show_L0_go_eq s0 s1 s4 s5 s6 hl s1 0 fuel s7 rfl (Nat.lt_of_le_of_lt hl (by decide))

def slices_IndexFunc_3_L0_go (s3 : (List QSym)) : List Int → Nat → Option (Unit ⊕ Int)
  | [], i => some (Sum.inl ())
  | e :: es, i =>
    (ask_own_c1 e s3).bind fun r4 =>
    cond r4
    (some (Sum.inr (i : Int)))
    (slices_IndexFunc_3_L0_go s3 es (i + 1))
theorem slices_IndexFunc_3_L0_go_eq (s0 : (List Int)) (s3 : (List QSym)) (hl : List.length s0 ≤ maxLen) : ∀ (es : List Int) (i : Nat) (k : Nat), s0.drop i = es → es.length < k → lp slices_IndexFunc_3_L0 k (s0, ((List.length s0 : Nat) : Int), (i : Int), s3) = slices_IndexFunc_3_L0_go s3 es i := by
  intro es
  induction es with
  | nil =>
    intro i k h hk
    obtain ⟨k, rfl⟩ : ∃ k', k = k' + 1 := ⟨k - 1, by omega⟩
    rw [lp_succ]
    generalize lp slices_IndexFunc_3_L0 k = rec
    unfold slices_IndexFunc_3_L0 slices_IndexFunc_3_L0_go
    simp only [lt_false (drop_nil_le h), cond_false]
  | cons e es ih =>
    intro i k h hk
    obtain ⟨k, rfl⟩ : ∃ k', k = k' + 1 := ⟨k - 1, by omega⟩
    rw [lp_succ]
    have hi := drop_cons_lt h
    have hk2 : es.length < k := Nat.lt_of_succ_lt_succ hk
    have key := fun (_ : Unit) => ih (i + 1) k (drop_cons_next h) hk2
    generalize lp slices_IndexFunc_3_L0 k = rec at key ⊢
    unfold slices_IndexFunc_3_L0 slices_IndexFunc_3_L0_go
    simp only [lt_true hi, cond_true, gx_nat, drop_cons_get h, Option.bind_some, wrap_i1 hi hl, key ()]
theorem slices_IndexFunc_3_L0_go_at0 (s0 : (List Int)) (s3 : (List QSym)) (hl : List.length s0 ≤ maxLen) : lp slices_IndexFunc_3_L0 fuel (s0, ((List.length s0 : Nat) : Int), 0, s3) = slices_IndexFunc_3_L0_go s3 s0 0 :=
  slices_IndexFunc_3_L0_go_eq s0 s3 hl s0 0 fuel rfl (Nat.lt_of_le_of_lt hl (by decide))

def slices_IndexFunc_2_L0_go (s3 : (List QSym)) : List (List Int) → Nat → Option (Unit ⊕ Int)
  | [], i => some (Sum.inl ())
  | e :: es, i =>
    (ask_Fine_c1 e s3).bind fun r4 =>
    cond r4
    (some (Sum.inr (i : Int)))
    (slices_IndexFunc_2_L0_go s3 es (i + 1))
theorem slices_IndexFunc_2_L0_go_eq (s0 : (List (List Int))) (s3 : (List QSym)) (hl : List.length s0 ≤ maxLen) : ∀ (es : List (List Int)) (i : Nat) (k : Nat), s0.drop i = es → es.length < k → lp slices_IndexFunc_2_L0 k (s0, ((List.length s0 : Nat) : Int), (i : Int), s3) = slices_IndexFunc_2_L0_go s3 es i := by
  intro es
  induction es with
  | nil =>
    intro i k h hk
    obtain ⟨k, rfl⟩ : ∃ k', k = k' + 1 := ⟨k - 1, by omega⟩
    rw [lp_succ]
    generalize lp slices_IndexFunc_2_L0 k = rec
    unfold slices_IndexFunc_2_L0 slices_IndexFunc_2_L0_go
    simp only [lt_false (drop_nil_le h), cond_false]
  | cons e es ih =>
    intro i k h hk
    obtain ⟨k, rfl⟩ : ∃ k', k = k' + 1 := ⟨k - 1, by omega⟩
    rw [lp_succ]
    have hi := drop_cons_lt h
    have hk2 : es.length < k := Nat.lt_of_succ_lt_succ hk
    have key := fun (_ : Unit) => ih (i + 1) k (drop_cons_next h) hk2
    generalize lp slices_IndexFunc_2_L0 k = rec at key ⊢
    unfold slices_IndexFunc_2_L0 slices_IndexFunc_2_L0_go
    simp only [lt_true hi, cond_true, gx_nat, drop_cons_get h, Option.bind_some, wrap_i1 hi hl, key ()]
theorem slices_IndexFunc_2_L0_go_at0 (s0 : (List (List Int))) (s3 : (List QSym)) (hl : List.length s0 ≤ maxLen) : lp slices_IndexFunc_2_L0 fuel (s0, ((List.length s0 : Nat) : Int), 0, s3) = slices_IndexFunc_2_L0_go s3 s0 0 :=
  slices_IndexFunc_2_L0_go_eq s0 s3 hl s0 0 fuel rfl (Nat.lt_of_le_of_lt hl (by decide))

def slices_IndexFunc_4_L0_go (s3 : (List QSym)) : List QLit → Nat → Option (Unit ⊕ Int)
  | [], i => some (Sum.inl ())
  | e :: es, i =>
    (ask_Fine_c2 e.1 e.2 s3).bind fun r4 =>
    cond r4
    (some (Sum.inr (i : Int)))
    (slices_IndexFunc_4_L0_go s3 es (i + 1))
theorem slices_IndexFunc_4_L0_go_eq (s0 : (List QLit)) (s3 : (List QSym)) (hl : List.length s0 ≤ maxLen) : ∀ (es : List QLit) (i : Nat) (k : Nat), s0.drop i = es → es.length < k → lp slices_IndexFunc_4_L0 k (s0, ((List.length s0 : Nat) : Int), (i : Int), s3) = slices_IndexFunc_4_L0_go s3 es i := by
  intro es
  induction es with
  | nil =>
    intro i k h hk
    obtain ⟨k, rfl⟩ : ∃ k', k = k' + 1 := ⟨k - 1, by omega⟩
    rw [lp_succ]
    generalize lp slices_IndexFunc_4_L0 k = rec
    unfold slices_IndexFunc_4_L0 slices_IndexFunc_4_L0_go
    simp only [lt_false (drop_nil_le h), cond_false]
  | cons e es ih =>
    intro i k h hk
    obtain ⟨k, rfl⟩ : ∃ k', k = k' + 1 := ⟨k - 1, by omega⟩
    rw [lp_succ]
    have hi := drop_cons_lt h
    have hk2 : es.length < k := Nat.lt_of_succ_lt_succ hk
    have key := fun (_ : Unit) => ih (i + 1) k (drop_cons_next h) hk2
    generalize lp slices_IndexFunc_4_L0 k = rec at key ⊢
    unfold slices_IndexFunc_4_L0 slices_IndexFunc_4_L0_go
    simp only [lt_true hi, cond_true, gx_nat, drop_cons_get h, Option.bind_some, wrap_i1 hi hl, key ()]
theorem slices_IndexFunc_4_L0_go_at0 (s0 : (List QLit)) (s3 : (List QSym)) (hl : List.length s0 ≤ maxLen) : lp slices_IndexFunc_4_L0 fuel (s0, ((List.length s0 : Nat) : Int), 0, s3) = slices_IndexFunc_4_L0_go s3 s0 0 :=
  slices_IndexFunc_4_L0_go_eq s0 s3 hl s0 0 fuel rfl (Nat.lt_of_le_of_lt hl (by decide))

def law0_SameInts_L0_go (s1 : (List Int)) : List Int → Nat → Option (Unit ⊕ Bool)
  | [], i => some (Sum.inl ())
  | e :: es, i =>
    (gx s1 (i : Int)).bind fun e4 =>
    cond (e != e4)
    (some (Sum.inr false))
    (law0_SameInts_L0_go s1 es (i + 1))
theorem law0_SameInts_L0_go_eq (s0 : (List Int)) (s1 : (List Int)) (hl : List.length s0 ≤ maxLen) : ∀ (es : List Int) (i : Nat) (k : Nat), s0.drop i = es → es.length < k → lp law0_SameInts_L0 k (s0, s1, (i : Int)) = law0_SameInts_L0_go s1 es i := by
  intro es
  induction es with
  | nil =>
    intro i k h hk
    obtain ⟨k, rfl⟩ : ∃ k', k = k' + 1 := ⟨k - 1, by omega⟩
    rw [lp_succ]
    generalize lp law0_SameInts_L0 k = rec
    unfold law0_SameInts_L0 law0_SameInts_L0_go
    simp only [lt_false (drop_nil_le h), cond_false]
  | cons e es ih =>
    intro i k h hk
    obtain ⟨k, rfl⟩ : ∃ k', k = k' + 1 := ⟨k - 1, by omega⟩
    rw [lp_succ]
    have hi := drop_cons_lt h
    have hk2 : es.length < k := Nat.lt_of_succ_lt_succ hk
    have key := fun (_ : Unit) => ih (i + 1) k (drop_cons_next h) hk2
    generalize lp law0_SameInts_L0 k = rec at key ⊢
    unfold law0_SameInts_L0 law0_SameInts_L0_go
    simp only [lt_true hi, cond_true, gx_nat, drop_cons_get h, Option.bind_some, wrap_i1 hi hl, key ()]
theorem law0_SameInts_L0_go_at0 (s0 : (List Int)) (s1 : (List Int)) (hl : List.length s0 ≤ maxLen) : lp law0_SameInts_L0 fuel (s0, s1, 0) = law0_SameInts_L0_go s1 s0 0 :=
  law0_SameInts_L0_go_eq s0 s1 hl s0 0 fuel rfl (Nat.lt_of_le_of_lt hl (by decide))

def law0_SameLits_L0_go (s1 : (List QLit)) : List QLit → Nat → Option (Unit ⊕ Bool)
  | [], i => some (Sum.inl ())
  | e :: es, i =>
    (gx s1 (i : Int)).bind fun e7 =>
    cond (!(e.1 == e7.1))
    (some (Sum.inr false))
    ((gx s1 (i : Int)).bind fun e9 =>
      (law0_SameInts e.2 e9.2).bind fun r10 =>
      cond (!r10)
      (some (Sum.inr false))
      (law0_SameLits_L0_go s1 es (i + 1)))
theorem law0_SameLits_L0_go_eq (s0 : (List QLit)) (s1 : (List QLit)) (hl : List.length s0 ≤ maxLen) : ∀ (es : List QLit) (i : Nat) (k : Nat), s0.drop i = es → es.length < k → lp law0_SameLits_L0 k (s0, s1, (i : Int)) = law0_SameLits_L0_go s1 es i := by
  intro es
  induction es with
  | nil =>
    intro i k h hk
    obtain ⟨k, rfl⟩ : ∃ k', k = k' + 1 := ⟨k - 1, by omega⟩
    rw [lp_succ]
    generalize lp law0_SameLits_L0 k = rec
    unfold law0_SameLits_L0 law0_SameLits_L0_go
    simp only [lt_false (drop_nil_le h), cond_false]
  | cons e es ih =>
    intro i k h hk
    obtain ⟨k, rfl⟩ : ∃ k', k = k' + 1 := ⟨k - 1, by omega⟩
    rw [lp_succ]
    have hi := drop_cons_lt h
    have hk2 : es.length < k := Nat.lt_of_succ_lt_succ hk
    have key := fun (_ : Unit) => ih (i + 1) k (drop_cons_next h) hk2
    generalize lp law0_SameLits_L0 k = rec at key ⊢
    unfold law0_SameLits_L0 law0_SameLits_L0_go
    simp only [lt_true hi, cond_true, gx_nat, drop_cons_get h, Option.bind_some, wrap_i1 hi hl, key ()]
theorem law0_SameLits_L0_go_at0 (s0 : (List QLit)) (s1 : (List QLit)) (hl : List.length s0 ≤ maxLen) : lp law0_SameLits_L0 fuel (s0, s1, 0) = law0_SameLits_L0_go s1 s0 0 :=
  law0_SameLits_L0_go_eq s0 s1 hl s0 0 fuel rfl (Nat.lt_of_le_of_lt hl (by decide))

def law0_SameRows_L0_go (s1 : (List (List Int))) : List (List Int) → Nat → Option (Unit ⊕ Bool)
  | [], i => some (Sum.inl ())
  | e :: es, i =>
    (gx s1 (i : Int)).bind fun e5 =>
    (law0_SameInts e e5).bind fun r6 =>
    cond (!r6)
    (some (Sum.inr false))
    (law0_SameRows_L0_go s1 es (i + 1))
theorem law0_SameRows_L0_go_eq (s0 : (List (List Int))) (s1 : (List (List Int))) (hl : List.length s0 ≤ maxLen) : ∀ (es : List (List Int)) (i : Nat) (k : Nat), s0.drop i = es → es.length < k → lp law0_SameRows_L0 k (s0, s1, (i : Int)) = law0_SameRows_L0_go s1 es i := by
  intro es
  induction es with
  | nil =>
    intro i k h hk
    obtain ⟨k, rfl⟩ : ∃ k', k = k' + 1 := ⟨k - 1, by omega⟩
    rw [lp_succ]
    generalize lp law0_SameRows_L0 k = rec
    unfold law0_SameRows_L0 law0_SameRows_L0_go
    simp only [lt_false (drop_nil_le h), cond_false]
  | cons e es ih =>
    intro i k h hk
    obtain ⟨k, rfl⟩ : ∃ k', k = k' + 1 := ⟨k - 1, by omega⟩
    rw [lp_succ]
    have hi := drop_cons_lt h
    have hk2 : es.length < k := Nat.lt_of_succ_lt_succ hk
    have key := fun (_ : Unit) => ih (i + 1) k (drop_cons_next h) hk2
    generalize lp law0_SameRows_L0 k = rec at key ⊢
    unfold law0_SameRows_L0 law0_SameRows_L0_go
    simp only [lt_true hi, cond_true, gx_nat, drop_cons_get h, Option.bind_some, wrap_i1 hi hl, key ()]
theorem law0_SameRows_L0_go_at0 (s0 : (List (List Int))) (s1 : (List (List Int))) (hl : List.length s0 ≤ maxLen) : lp law0_SameRows_L0 fuel (s0, s1, 0) = law0_SameRows_L0_go s1 s0 0 :=
  law0_SameRows_L0_go_eq s0 s1 hl s0 0 fuel rfl (Nat.lt_of_le_of_lt hl (by decide))

def law24_TellParts_L0_go (s0 : (List QSym)) : List (List Int) → Nat → Str → Option (Str ⊕ Bool)
  | [], i, s3 => some (Sum.inl s3)
  | e :: es, i, s3 =>
    (ask_Show s0 ([] : (List QLit)) ([e] : List (List Int)) ([] : (List QLit))).bind fun r8 =>
    (law0_Num r8.2).bind fun r9 =>
    cond (r9 != 0)
    (some (Sum.inr false))
    (cond (decide ((i : Int) > 0))
      (cond (decide ((List.length s3 + List.length ([32, 111, 114, 32] : Str) : Nat) < 4611686018427387904))
        (cond (decide ((List.length (s3 ++ ([32, 111, 114, 32] : Str)) + List.length r8.1 : Nat) < 4611686018427387904))
          (law24_TellParts_L0_go s0 es (i + 1) ((s3 ++ ([32, 111, 114, 32] : Str)) ++ r8.1))
          (none))
        (none))
      (cond (decide ((List.length s3 + List.length r8.1 : Nat) < 4611686018427387904))
        (law24_TellParts_L0_go s0 es (i + 1) (s3 ++ r8.1))
        (none)))
theorem law24_TellParts_L0_go_eq (s0 : (List QSym)) (s1 : Str) (s2 : Int) (s5 : (List QLit)) (s6 : (List (List Int))) (s7 : (List QLit)) (hl : List.length s6 ≤ maxLen) : ∀ (es : List (List Int)) (i : Nat) (k : Nat) (s3 : Str), s6.drop i = es → es.length < k → lp law24_TellParts_L0 k (s0, s1, s2, s3, (i : Int), s5, s6, s7) = law24_TellParts_L0_go s0 es i s3 := by
  intro es
  induction es with
  | nil =>
    intro i k s3 h hk
    obtain ⟨k, rfl⟩ : ∃ k', k = k' + 1 := ⟨k - 1, by omega⟩
    rw [lp_succ]
    generalize lp law24_TellParts_L0 k = rec
    unfold law24_TellParts_L0 law24_TellParts_L0_go
    simp only [lt_false (drop_nil_le h), cond_false]
  | cons e es ih =>
    intro i k s3 h hk
    obtain ⟨k, rfl⟩ : ∃ k', k = k' + 1 := ⟨k - 1, by omega⟩
    rw [lp_succ]
    have hi := drop_cons_lt h
    have hk2 : es.length < k := Nat.lt_of_succ_lt_succ hk
    have key := fun s3 => ih (i + 1) k s3 (drop_cons_next h) hk2
    generalize lp law24_TellParts_L0 k = rec at key ⊢
    unfold law24_TellParts_L0 law24_TellParts_L0_go
    simp only [lt_true hi, cond_true, gx_nat, drop_cons_get h, Option.bind_some, wrap_i1 hi hl, key]
theorem law24_TellParts_L0_go_at0 (s0 : (List QSym)) (s1 : Str) (s2 : Int) (s5 : (List QLit)) (s6 : (List (List Int))) (s7 : (List QLit)) (s3 : Str) (hl : List.length s6 ≤ maxLen) : lp law24_TellParts_L0 fuel (s0, s1, s2, s3, 0, s5, s6, s7) = law24_TellParts_L0_go s0 s6 0 s3 :=
  law24_TellParts_L0_go_eq s0 s1 s2 s5 s6 s7 hl s6 0 fuel s3 rfl (Nat.lt_of_le_of_lt hl (by decide))

def law24_TellFirst_L0_go : List QSym → Option (Unit ⊕ Bool)
  | [] => some (Sum.inl ())
  | e :: es =>
    cond (e.1 == ([111, 114] : Str))
    (some (Sum.inr true))
    (cond (e.1 == ([105, 102] : Str))
      (some (Sum.inr true))
      (law24_TellFirst_L0_go es))
theorem law24_TellFirst_L0_go_eq (s0 : (List QSym)) (s1 : Str) (s3 : (List QLit)) (s4 : (List (List Int))) (s5 : (List QLit)) (hl : List.length s0 ≤ maxLen) : ∀ (es : List QSym) (i : Nat) (k : Nat), s0.drop i = es → es.length < k → lp law24_TellFirst_L0 k (s0, s1, (i : Int), s3, s4, s5) = law24_TellFirst_L0_go es := by
  intro es
  induction es with
  | nil =>
    intro i k h hk
    obtain ⟨k, rfl⟩ : ∃ k', k = k' + 1 := ⟨k - 1, by omega⟩
    rw [lp_succ]
    generalize lp law24_TellFirst_L0 k = rec
    unfold law24_TellFirst_L0 law24_TellFirst_L0_go
    simp only [lt_false (drop_nil_le h), cond_false]
  | cons e es ih =>
    intro i k h hk
    obtain ⟨k, rfl⟩ : ∃ k', k = k' + 1 := ⟨k - 1, by omega⟩
    rw [lp_succ]
    have hi := drop_cons_lt h
    have hk2 : es.length < k := Nat.lt_of_succ_lt_succ hk
    have key := fun (_ : Unit) => ih (i + 1) k (drop_cons_next h) hk2
    generalize lp law24_TellFirst_L0 k = rec at key ⊢
    unfold law24_TellFirst_L0 law24_TellFirst_L0_go
    simp only [lt_true hi, cond_true, gx_nat, drop_cons_get h, Option.bind_some, wrap_i1 hi hl, key ()]
theorem law24_TellFirst_L0_go_at0 (s0 : (List QSym)) (s1 : Str) (s3 : (List QLit)) (s4 : (List (List Int))) (s5 : (List QLit)) (hl : List.length s0 ≤ maxLen) : lp law24_TellFirst_L0 fuel (s0, s1, 0, s3, s4, s5) = law24_TellFirst_L0_go s0 :=
  law24_TellFirst_L0_go_eq s0 s1 s3 s4 s5 hl s0 0 fuel rfl (Nat.lt_of_le_of_lt hl (by decide))

end Go.Abs.Q
/-
  Rounds over a list, as recursion over it.
-/
namespace Go.Abs.Q
open Go Go.Abs
def law0_CopyLits_L0_go : List QLit → (List QLit) → Option (List QLit)
  | [], s2 => some s2
  | e :: es, s2 =>
    (law0_CopyInts e.2).bind fun r9 =>
    cond (room (List.length s2 + List.length ([(e.1, r9)] : List QLit)) 32)
    (law0_CopyLits_L0_go es (s2 ++ ([(e.1, r9)] : List QLit)))
    (none)
theorem law0_CopyLits_L0_go_eq (s0 : (List QLit)) (hl : List.length s0 ≤ maxLen) : ∀ (es : List QLit) (i : Nat) (k : Nat) (s2 : (List QLit)), s0.drop i = es → es.length < k → lp law0_CopyLits_L0 k (s0, (i : Int), s2) = law0_CopyLits_L0_go es s2 := by
  intro es
  induction es with
  | nil =>
    intro i k s2 h hk
    obtain ⟨k, rfl⟩ : ∃ k', k = k' + 1 := ⟨k - 1, by omega⟩
    rw [lp_succ]
    generalize lp law0_CopyLits_L0 k = rec
    unfold law0_CopyLits_L0 law0_CopyLits_L0_go
    simp only [lt_false (drop_nil_le h), cond_false]
  | cons e es ih =>
    intro i k s2 h hk
    obtain ⟨k, rfl⟩ : ∃ k', k = k' + 1 := ⟨k - 1, by omega⟩
    rw [lp_succ]
    have hi := drop_cons_lt h
    have hk2 : es.length < k := Nat.lt_of_succ_lt_succ hk
    have key := fun s2 => ih (i + 1) k s2 (drop_cons_next h) hk2
    generalize lp law0_CopyLits_L0 k = rec at key ⊢
    unfold law0_CopyLits_L0 law0_CopyLits_L0_go
    simp only [lt_true hi, cond_true, gx_nat, drop_cons_get h, Option.bind_some, wrap_i1 hi hl, key]
theorem law0_CopyLits_L0_go_at0 (s0 : (List QLit)) (s2 : (List QLit)) (hl : List.length s0 ≤ maxLen) : lp law0_CopyLits_L0 fuel (s0, 0, s2) = law0_CopyLits_L0_go s0 s2 :=
  law0_CopyLits_L0_go_eq s0 hl s0 0 fuel s2 rfl (Nat.lt_of_le_of_lt hl (by decide))

def law0_CopyRows_L0_go : List (List Int) → (List (List Int)) → Option (List (List Int))
  | [], s2 => some s2
  | e :: es, s2 =>
    (law0_CopyInts e).bind fun r6 =>
    cond (room (List.length s2 + List.length ([r6] : List (List Int))) 24)
    (law0_CopyRows_L0_go es (s2 ++ ([r6] : List (List Int))))
    (none)
theorem law0_CopyRows_L0_go_eq (s0 : (List (List Int))) (hl : List.length s0 ≤ maxLen) : ∀ (es : List (List Int)) (i : Nat) (k : Nat) (s2 : (List (List Int))), s0.drop i = es → es.length < k → lp law0_CopyRows_L0 k (s0, (i : Int), s2) = law0_CopyRows_L0_go es s2 := by
  intro es
  induction es with
  | nil =>
    intro i k s2 h hk
    obtain ⟨k, rfl⟩ : ∃ k', k = k' + 1 := ⟨k - 1, by omega⟩
    rw [lp_succ]
    generalize lp law0_CopyRows_L0 k = rec
    unfold law0_CopyRows_L0 law0_CopyRows_L0_go
    simp only [lt_false (drop_nil_le h), cond_false]
  | cons e es ih =>
    intro i k s2 h hk
    obtain ⟨k, rfl⟩ : ∃ k', k = k' + 1 := ⟨k - 1, by omega⟩
    rw [lp_succ]
    have hi := drop_cons_lt h
    have hk2 : es.length < k := Nat.lt_of_succ_lt_succ hk
    have key := fun s2 => ih (i + 1) k s2 (drop_cons_next h) hk2
    generalize lp law0_CopyRows_L0 k = rec at key ⊢
    unfold law0_CopyRows_L0 law0_CopyRows_L0_go
    simp only [lt_true hi, cond_true, gx_nat, drop_cons_get h, Option.bind_some, wrap_i1 hi hl, key]
theorem law0_CopyRows_L0_go_at0 (s0 : (List (List Int))) (s2 : (List (List Int))) (hl : List.length s0 ≤ maxLen) : lp law0_CopyRows_L0 fuel (s0, 0, s2) = law0_CopyRows_L0_go s0 s2 :=
  law0_CopyRows_L0_go_eq s0 hl s0 0 fuel s2 rfl (Nat.lt_of_le_of_lt hl (by decide))

def ref1_SymMay_L0_go : List UInt8 → Option (Unit ⊕ Bool)
  | [] => some (Sum.inl ())
  | e :: es =>
    (ref1_small ((UInt8.toNat e : Nat) : Int)).bind fun r8 =>
    cond (!r8)
    (cond (decide (((UInt8.toNat e : Nat) : Int) < 48))
      (some (Sum.inr false))
      (cond (decide (((UInt8.toNat e : Nat) : Int) > 57))
        (some (Sum.inr false))
        (ref1_SymMay_L0_go es)))
    (ref1_SymMay_L0_go es)
theorem ref1_SymMay_L0_go_eq (s1 : Str) (s2 : Int) (s3 : Int) (s4 : Int) (hl : List.length s1 ≤ maxLen) : ∀ (es : List UInt8) (i : Nat) (k : Nat), s1.drop i = es → es.length < k → lp ref1_SymMay_L0 k ((i : Int), s1, s2, s3, s4) = ref1_SymMay_L0_go es := by
  intro es
  induction es with
  | nil =>
    intro i k h hk
    obtain ⟨k, rfl⟩ : ∃ k', k = k' + 1 := ⟨k - 1, by omega⟩
    rw [lp_succ]
    generalize lp ref1_SymMay_L0 k = rec
    unfold ref1_SymMay_L0 ref1_SymMay_L0_go
    simp only [lt_false (drop_nil_le h), cond_false]
  | cons e es ih =>
    intro i k h hk
    obtain ⟨k, rfl⟩ : ∃ k', k = k' + 1 := ⟨k - 1, by omega⟩
    rw [lp_succ]
    have hi := drop_cons_lt h
    have hk2 : es.length < k := Nat.lt_of_succ_lt_succ hk
    have key := fun (_ : Unit) => ih (i + 1) k (drop_cons_next h) hk2
    generalize lp ref1_SymMay_L0 k = rec at key ⊢
    unfold ref1_SymMay_L0 ref1_SymMay_L0_go
    simp only [lt_true hi, cond_true, gx_nat, drop_cons_get h, Option.bind_some, wrap_i1 hi hl, key ()]
theorem ref1_SymMay_L0_go_at0 (s1 : Str) (s2 : Int) (s3 : Int) (s4 : Int) (hl : List.length s1 ≤ maxLen) : lp ref1_SymMay_L0 fuel (0, s1, s2, s3, s4) = ref1_SymMay_L0_go s1 :=
  ref1_SymMay_L0_go_eq s1 s2 s3 s4 hl s1 0 fuel rfl (Nat.lt_of_le_of_lt hl (by decide))

def ref1_Code_L0_go (s1 : Str) : List QSym → Nat → Option (Unit ⊕ Int)
  | [], i => some (Sum.inl ())
  | e :: es, i =>
    cond (e.1 == s1)
    (some (Sum.inr (i : Int)))
    (ref1_Code_L0_go s1 es (i + 1))
theorem ref1_Code_L0_go_eq (s0 : (List QSym)) (s1 : Str) (hl : List.length s0 ≤ maxLen) : ∀ (es : List QSym) (i : Nat) (k : Nat), s0.drop i = es → es.length < k → lp ref1_Code_L0 k (s0, s1, (i : Int)) = ref1_Code_L0_go s1 es i := by
  intro es
  induction es with
  | nil =>
    intro i k h hk
    obtain ⟨k, rfl⟩ : ∃ k', k = k' + 1 := ⟨k - 1, by omega⟩
    rw [lp_succ]
    generalize lp ref1_Code_L0 k = rec
    unfold ref1_Code_L0 ref1_Code_L0_go
    simp only [lt_false (drop_nil_le h), cond_false]
  | cons e es ih =>
    intro i k h hk
    obtain ⟨k, rfl⟩ : ∃ k', k = k' + 1 := ⟨k - 1, by omega⟩
    rw [lp_succ]
    have hi := drop_cons_lt h
    have hk2 : es.length < k := Nat.lt_of_succ_lt_succ hk
    have key := fun (_ : Unit) => ih (i + 1) k (drop_cons_next h) hk2
    generalize lp ref1_Code_L0 k = rec at key ⊢
    unfold ref1_Code_L0 ref1_Code_L0_go
    simp only [lt_true hi, cond_true, gx_nat, drop_cons_get h, Option.bind_some, wrap_i1 hi hl, key ()]
theorem ref1_Code_L0_go_at0 (s0 : (List QSym)) (s1 : Str) (hl : List.length s0 ≤ maxLen) : lp ref1_Code_L0 fuel (s0, s1, 0) = ref1_Code_L0_go s1 s0 0 :=
  ref1_Code_L0_go_eq s0 s1 hl s0 0 fuel rfl (Nat.lt_of_le_of_lt hl (by decide))

def ref1_SignMay_L0_go (s0 : (List QSym)) : List QSym → Nat → Option (Unit ⊕ Bool)
  | [], i => some (Sum.inl ())
  | e :: es, i =>
    (ref1_SymMay e.1 e.2.1 e.2.2.1 e.2.2.2).bind fun r7 =>
    cond (!r7)
    (some (Sum.inr false))
    ((ref1_Code s0 e.1).bind fun r9 =>
      cond (r9 != (i : Int))
      (some (Sum.inr false))
      (ref1_SignMay_L0_go s0 es (i + 1)))
theorem ref1_SignMay_L0_go_eq (s0 : (List QSym)) (hl : List.length s0 ≤ maxLen) : ∀ (es : List QSym) (i : Nat) (k : Nat), s0.drop i = es → es.length < k → lp ref1_SignMay_L0 k (s0, (i : Int)) = ref1_SignMay_L0_go s0 es i := by
  intro es
  induction es with
  | nil =>
    intro i k h hk
    obtain ⟨k, rfl⟩ : ∃ k', k = k' + 1 := ⟨k - 1, by omega⟩
    rw [lp_succ]
    generalize lp ref1_SignMay_L0 k = rec
    unfold ref1_SignMay_L0 ref1_SignMay_L0_go
    simp only [lt_false (drop_nil_le h), cond_false]
  | cons e es ih =>
    intro i k h hk
    obtain ⟨k, rfl⟩ : ∃ k', k = k' + 1 := ⟨k - 1, by omega⟩
    rw [lp_succ]
    have hi := drop_cons_lt h
    have hk2 : es.length < k := Nat.lt_of_succ_lt_succ hk
    have key := fun (_ : Unit) => ih (i + 1) k (drop_cons_next h) hk2
    generalize lp ref1_SignMay_L0 k = rec at key ⊢
    unfold ref1_SignMay_L0 ref1_SignMay_L0_go
    simp only [lt_true hi, cond_true, gx_nat, drop_cons_get h, Option.bind_some, wrap_i1 hi hl, key ()]
theorem ref1_SignMay_L0_go_at0 (s0 : (List QSym)) (hl : List.length s0 ≤ maxLen) : lp ref1_SignMay_L0 fuel (s0, 0) = ref1_SignMay_L0_go s0 s0 0 :=
  ref1_SignMay_L0_go_eq s0 hl s0 0 fuel rfl (Nat.lt_of_le_of_lt hl (by decide))

def ref8_rows_L2_go : List QLit → (List (List Int)) → Option (List (List Int))
  | [], s4 => some s4
  | e :: es, s4 =>
    cond (room (List.length s4 + List.length ([e.2] : List (List Int))) 24)
    (ref8_rows_L2_go es (s4 ++ ([e.2] : List (List Int))))
    (none)
theorem ref8_rows_L2_go_eq (s1 : (List QLit)) (s2 : (List (List Int))) (s3 : (List QLit)) (hl : List.length s3 ≤ maxLen) : ∀ (es : List QLit) (i : Nat) (k : Nat) (s4 : (List (List Int))), s3.drop i = es → es.length < k → lp ref8_rows_L2 k ((i : Int), s1, s2, s3, s4) = ref8_rows_L2_go es s4 := by
  intro es
  induction es with
  | nil =>
    intro i k s4 h hk
    obtain ⟨k, rfl⟩ : ∃ k', k = k' + 1 := ⟨k - 1, by omega⟩
    rw [lp_succ]
    generalize lp ref8_rows_L2 k = rec
    unfold ref8_rows_L2 ref8_rows_L2_go
    simp only [lt_false (drop_nil_le h), cond_false]
  | cons e es ih =>
    intro i k s4 h hk
    obtain ⟨k, rfl⟩ : ∃ k', k = k' + 1 := ⟨k - 1, by omega⟩
    rw [lp_succ]
    have hi := drop_cons_lt h
    have hk2 : es.length < k := Nat.lt_of_succ_lt_succ hk
    have key := fun s4 => ih (i + 1) k s4 (drop_cons_next h) hk2
    generalize lp ref8_rows_L2 k = rec at key ⊢
    unfold ref8_rows_L2 ref8_rows_L2_go
    simp only [lt_true hi, cond_true, gx_nat, drop_cons_get h, Option.bind_some, wrap_i1 hi hl, key]
theorem ref8_rows_L2_go_at0 (s1 : (List QLit)) (s2 : (List (List Int))) (s3 : (List QLit)) (s4 : (List (List Int))) (hl : List.length s3 ≤ maxLen) : lp ref8_rows_L2 fuel (0, s1, s2, s3, s4) = ref8_rows_L2_go s3 s4 :=
  ref8_rows_L2_go_eq s1 s2 s3 hl s3 0 fuel s4 rfl (Nat.lt_of_le_of_lt hl (by decide))

def ref8_rows_L1_go : List (List Int) → (List (List Int)) → Option (List (List Int))
  | [], s4 => some s4
  | e :: es, s4 =>
    cond (room (List.length s4 + List.length ([e] : List (List Int))) 24)
    (ref8_rows_L1_go es (s4 ++ ([e] : List (List Int))))
    (none)
theorem ref8_rows_L1_go_eq (s1 : (List QLit)) (s2 : (List (List Int))) (s3 : (List QLit)) (hl : List.length s2 ≤ maxLen) : ∀ (es : List (List Int)) (i : Nat) (k : Nat) (s4 : (List (List Int))), s2.drop i = es → es.length < k → lp ref8_rows_L1 k ((i : Int), s1, s2, s3, s4) = ref8_rows_L1_go es s4 := by
  intro es
  induction es with
  | nil =>
    intro i k s4 h hk
    obtain ⟨k, rfl⟩ : ∃ k', k = k' + 1 := ⟨k - 1, by omega⟩
    rw [lp_succ]
    generalize lp ref8_rows_L1 k = rec
    unfold ref8_rows_L1 ref8_rows_L1_go
    simp only [lt_false (drop_nil_le h), cond_false]
  | cons e es ih =>
    intro i k s4 h hk
    obtain ⟨k, rfl⟩ : ∃ k', k = k' + 1 := ⟨k - 1, by omega⟩
    rw [lp_succ]
    have hi := drop_cons_lt h
    have hk2 : es.length < k := Nat.lt_of_succ_lt_succ hk
    have key := fun s4 => ih (i + 1) k s4 (drop_cons_next h) hk2
    generalize lp ref8_rows_L1 k = rec at key ⊢
    unfold ref8_rows_L1 ref8_rows_L1_go
    simp only [lt_true hi, cond_true, gx_nat, drop_cons_get h, Option.bind_some, wrap_i1 hi hl, key]
theorem ref8_rows_L1_go_at0 (s1 : (List QLit)) (s2 : (List (List Int))) (s3 : (List QLit)) (s4 : (List (List Int))) (hl : List.length s2 ≤ maxLen) : lp ref8_rows_L1 fuel (0, s1, s2, s3, s4) = ref8_rows_L1_go s2 s4 :=
  ref8_rows_L1_go_eq s1 s2 s3 hl s2 0 fuel s4 rfl (Nat.lt_of_le_of_lt hl (by decide))

def ref8_rows_L0_go : List QLit → (List (List Int)) → Option (List (List Int))
  | [], s4 => some s4
  | e :: es, s4 =>
    cond (room (List.length s4 + List.length ([e.2] : List (List Int))) 24)
    (ref8_rows_L0_go es (s4 ++ ([e.2] : List (List Int))))
    (none)
theorem ref8_rows_L0_go_eq (s1 : (List QLit)) (s2 : (List (List Int))) (s3 : (List QLit)) (hl : List.length s1 ≤ maxLen) : ∀ (es : List QLit) (i : Nat) (k : Nat) (s4 : (List (List Int))), s1.drop i = es → es.length < k → lp ref8_rows_L0 k ((i : Int), s1, s2, s3, s4) = ref8_rows_L0_go es s4 := by
  intro es
  induction es with
  | nil =>
    intro i k s4 h hk
    obtain ⟨k, rfl⟩ : ∃ k', k = k' + 1 := ⟨k - 1, by omega⟩
    rw [lp_succ]
    generalize lp ref8_rows_L0 k = rec
    unfold ref8_rows_L0 ref8_rows_L0_go
    simp only [lt_false (drop_nil_le h), cond_false]
  | cons e es ih =>
    intro i k s4 h hk
    obtain ⟨k, rfl⟩ : ∃ k', k = k' + 1 := ⟨k - 1, by omega⟩
    rw [lp_succ]
    have hi := drop_cons_lt h
    have hk2 : es.length < k := Nat.lt_of_succ_lt_succ hk
    have key := fun s4 => ih (i + 1) k s4 (drop_cons_next h) hk2
    generalize lp ref8_rows_L0 k = rec at key ⊢
    unfold ref8_rows_L0 ref8_rows_L0_go
    simp only [lt_true hi, cond_true, gx_nat, drop_cons_get h, Option.bind_some, wrap_i1 hi hl, key]
theorem ref8_rows_L0_go_at0 (s1 : (List QLit)) (s2 : (List (List Int))) (s3 : (List QLit)) (s4 : (List (List Int))) (hl : List.length s1 ≤ maxLen) : lp ref8_rows_L0 fuel (0, s1, s2, s3, s4) = ref8_rows_L0_go s1 s4 :=
  ref8_rows_L0_go_eq s1 s2 s3 hl s1 0 fuel s4 rfl (Nat.lt_of_le_of_lt hl (by decide))

def ref8_May_L3_go : List (List Int) → Int → Option Int
  | [], s1 => some s1
  | e :: es, s1 =>
    ref8_May_L3_go es (IntKind.wrap .i64 (s1 + ((List.length e : Nat) : Int)))
theorem ref8_May_L3_go_eq (s0 : (List (List Int))) (hl : List.length s0 ≤ maxLen) : ∀ (es : List (List Int)) (i : Nat) (k : Nat) (s1 : Int), s0.drop i = es → es.length < k → lp ref8_May_L3 k (s0, s1, (i : Int)) = ref8_May_L3_go es s1 := by
  intro es
  induction es with
  | nil =>
    intro i k s1 h hk
    obtain ⟨k, rfl⟩ : ∃ k', k = k' + 1 := ⟨k - 1, by omega⟩
    rw [lp_succ]
    generalize lp ref8_May_L3 k = rec
    unfold ref8_May_L3 ref8_May_L3_go
    simp only [lt_false (drop_nil_le h), cond_false]
  | cons e es ih =>
    intro i k s1 h hk
    obtain ⟨k, rfl⟩ : ∃ k', k = k' + 1 := ⟨k - 1, by omega⟩
    rw [lp_succ]
    have hi := drop_cons_lt h
    have hk2 : es.length < k := Nat.lt_of_succ_lt_succ hk
    have key := fun s1 => ih (i + 1) k s1 (drop_cons_next h) hk2
    generalize lp ref8_May_L3 k = rec at key ⊢
    unfold ref8_May_L3 ref8_May_L3_go
    simp only [lt_true hi, cond_true, gx_nat, drop_cons_get h, Option.bind_some, wrap_i1 hi hl, key]
theorem ref8_May_L3_go_at0 (s0 : (List (List Int))) (s1 : Int) (hl : List.length s0 ≤ maxLen) : lp ref8_May_L3 fuel (s0, s1, 0) = ref8_May_L3_go s0 s1 :=
  ref8_May_L3_go_eq s0 hl s0 0 fuel s1 rfl (Nat.lt_of_le_of_lt hl (by decide))

def ref8_May_L2_go (s0 : (List QSym)) (s3 : (List (List Int))) : List (List Int) → Option (Unit ⊕ Bool)
  | [] => some (Sum.inl ())
  | e :: es =>
    (ref1_Terms s0 e).bind fun r19 =>
    cond (decide (r19 < 0))
    (some (Sum.inr false))
    ((gx s3 0).bind fun e20 =>
      (ref1_Terms s0 e20).bind fun r21 =>
      cond (r19 != r21)
      (some (Sum.inr false))
      (ref8_May_L2_go s0 s3 es))
theorem ref8_May_L2_go_eq (s0 : (List QSym)) (s2 : (List QLit)) (s3 : (List (List Int))) (s4 : (List QLit)) (hl : List.length s3 ≤ maxLen) : ∀ (es : List (List Int)) (i : Nat) (k : Nat), s3.drop i = es → es.length < k → lp ref8_May_L2 k (s0, (i : Int), s2, s3, s4) = ref8_May_L2_go s0 s3 es := by
  intro es
  induction es with
  | nil =>
    intro i k h hk
    obtain ⟨k, rfl⟩ : ∃ k', k = k' + 1 := ⟨k - 1, by omega⟩
    rw [lp_succ]
    generalize lp ref8_May_L2 k = rec
    unfold ref8_May_L2 ref8_May_L2_go
    simp only [lt_false (drop_nil_le h), cond_false]
  | cons e es ih =>
    intro i k h hk
    obtain ⟨k, rfl⟩ : ∃ k', k = k' + 1 := ⟨k - 1, by omega⟩
    rw [lp_succ]
    have hi := drop_cons_lt h
    have hk2 : es.length < k := Nat.lt_of_succ_lt_succ hk
    have key := fun (_ : Unit) => ih (i + 1) k (drop_cons_next h) hk2
    generalize lp ref8_May_L2 k = rec at key ⊢
    unfold ref8_May_L2 ref8_May_L2_go
    simp only [lt_true hi, cond_true, gx_nat, drop_cons_get h, Option.bind_some, wrap_i1 hi hl, key ()]
theorem ref8_May_L2_go_at0 (s0 : (List QSym)) (s2 : (List QLit)) (s3 : (List (List Int))) (s4 : (List QLit)) (hl : List.length s3 ≤ maxLen) : lp ref8_May_L2 fuel (s0, 0, s2, s3, s4) = ref8_May_L2_go s0 s3 s3 :=
  ref8_May_L2_go_eq s0 s2 s3 s4 hl s3 0 fuel rfl (Nat.lt_of_le_of_lt hl (by decide))

def ref8_May_L1_go (s0 : (List QSym)) : List QLit → Option (Unit ⊕ Bool)
  | [] => some (Sum.inl ())
  | e :: es =>
    (ref8_LitMay s0 e.1 e.2).bind fun r11 =>
    cond (!r11)
    (some (Sum.inr false))
    (ref8_May_L1_go s0 es)
theorem ref8_May_L1_go_eq (s0 : (List QSym)) (s2 : (List QLit)) (s3 : (List (List Int))) (s4 : (List QLit)) (hl : List.length s4 ≤ maxLen) : ∀ (es : List QLit) (i : Nat) (k : Nat), s4.drop i = es → es.length < k → lp ref8_May_L1 k (s0, (i : Int), s2, s3, s4) = ref8_May_L1_go s0 es := by
  intro es
  induction es with
  | nil =>
    intro i k h hk
    obtain ⟨k, rfl⟩ : ∃ k', k = k' + 1 := ⟨k - 1, by omega⟩
    rw [lp_succ]
    generalize lp ref8_May_L1 k = rec
    unfold ref8_May_L1 ref8_May_L1_go
    simp only [lt_false (drop_nil_le h), cond_false]
  | cons e es ih =>
    intro i k h hk
    obtain ⟨k, rfl⟩ : ∃ k', k = k' + 1 := ⟨k - 1, by omega⟩
    rw [lp_succ]
    have hi := drop_cons_lt h
    have hk2 : es.length < k := Nat.lt_of_succ_lt_succ hk
    have key := fun (_ : Unit) => ih (i + 1) k (drop_cons_next h) hk2
    generalize lp ref8_May_L1 k = rec at key ⊢
    unfold ref8_May_L1 ref8_May_L1_go
    simp only [lt_true hi, cond_true, gx_nat, drop_cons_get h, Option.bind_some, wrap_i1 hi hl, key ()]
theorem ref8_May_L1_go_at0 (s0 : (List QSym)) (s2 : (List QLit)) (s3 : (List (List Int))) (s4 : (List QLit)) (hl : List.length s4 ≤ maxLen) : lp ref8_May_L1 fuel (s0, 0, s2, s3, s4) = ref8_May_L1_go s0 s4 :=
  ref8_May_L1_go_eq s0 s2 s3 s4 hl s4 0 fuel rfl (Nat.lt_of_le_of_lt hl (by decide))

def ref8_May_L0_go (s0 : (List QSym)) : List QLit → Option (Unit ⊕ Bool)
  | [] => some (Sum.inl ())
  | e :: es =>
    (ref8_LitMay s0 e.1 e.2).bind fun r5 =>
    cond (!r5)
    (some (Sum.inr false))
    (ref8_May_L0_go s0 es)
theorem ref8_May_L0_go_eq (s0 : (List QSym)) (s2 : (List QLit)) (s3 : (List (List Int))) (s4 : (List QLit)) (hl : List.length s2 ≤ maxLen) : ∀ (es : List QLit) (i : Nat) (k : Nat), s2.drop i = es → es.length < k → lp ref8_May_L0 k (s0, (i : Int), s2, s3, s4) = ref8_May_L0_go s0 es := by
  intro es
  induction es with
  | nil =>
    intro i k h hk
    obtain ⟨k, rfl⟩ : ∃ k', k = k' + 1 := ⟨k - 1, by omega⟩
    rw [lp_succ]
    generalize lp ref8_May_L0 k = rec
    unfold ref8_May_L0 ref8_May_L0_go
    simp only [lt_false (drop_nil_le h), cond_false]
  | cons e es ih =>
    intro i k h hk
    obtain ⟨k, rfl⟩ : ∃ k', k = k' + 1 := ⟨k - 1, by omega⟩
    rw [lp_succ]
    have hi := drop_cons_lt h
    have hk2 : es.length < k := Nat.lt_of_succ_lt_succ hk
    have key := fun (_ : Unit) => ih (i + 1) k (drop_cons_next h) hk2
    generalize lp ref8_May_L0 k = rec at key ⊢
    unfold ref8_May_L0 ref8_May_L0_go
    simp only [lt_true hi, cond_true, gx_nat, drop_cons_get h, Option.bind_some, wrap_i1 hi hl, key ()]
theorem ref8_May_L0_go_at0 (s0 : (List QSym)) (s2 : (List QLit)) (s3 : (List (List Int))) (s4 : (List QLit)) (hl : List.length s2 ≤ maxLen) : lp ref8_May_L0 fuel (s0, 0, s2, s3, s4) = ref8_May_L0_go s0 s2 :=
  ref8_May_L0_go_eq s0 s2 s3 s4 hl s2 0 fuel rfl (Nat.lt_of_le_of_lt hl (by decide))

def ref21_own_L0_go (s0 : (List QSym)) : List Int → Option (Unit ⊕ Bool)
  | [] => some (Sum.inl ())
  | e :: es =>
    cond (decide (e ≥ 0))
    ((gx s0 e).bind fun e6 =>
      cond (e6.2.1 == 2)
      (some (Sum.inr true))
      (ref21_own_L0_go s0 es))
    (ref21_own_L0_go s0 es)
theorem ref21_own_L0_go_eq (s0 : (List QSym)) (s1 : (List Int)) (hl : List.length s1 ≤ maxLen) : ∀ (es : List Int) (i : Nat) (k : Nat), s1.drop i = es → es.length < k → lp ref21_own_L0 k (s0, s1, (i : Int)) = ref21_own_L0_go s0 es := by
  intro es
  induction es with
  | nil =>
    intro i k h hk
    obtain ⟨k, rfl⟩ : ∃ k', k = k' + 1 := ⟨k - 1, by omega⟩
    rw [lp_succ]
    generalize lp ref21_own_L0 k = rec
    unfold ref21_own_L0 ref21_own_L0_go
    simp only [lt_false (drop_nil_le h), cond_false]
  | cons e es ih =>
    intro i k h hk
    obtain ⟨k, rfl⟩ : ∃ k', k = k' + 1 := ⟨k - 1, by omega⟩
    rw [lp_succ]
    have hi := drop_cons_lt h
    have hk2 : es.length < k := Nat.lt_of_succ_lt_succ hk
    have key := fun (_ : Unit) => ih (i + 1) k (drop_cons_next h) hk2
    generalize lp ref21_own_L0 k = rec at key ⊢
    unfold ref21_own_L0 ref21_own_L0_go
    simp only [lt_true hi, cond_true, gx_nat, drop_cons_get h, Option.bind_some, wrap_i1 hi hl, key ()]
theorem ref21_own_L0_go_at0 (s0 : (List QSym)) (s1 : (List Int)) (hl : List.length s1 ≤ maxLen) : lp ref21_own_L0 fuel (s0, s1, 0) = ref21_own_L0_go s0 s1 :=
  ref21_own_L0_go_eq s0 s1 hl s1 0 fuel rfl (Nat.lt_of_le_of_lt hl (by decide))

def ref21_Fine_L1_go (s0 : (List QSym)) : List QLit → Option (Unit ⊕ (Bool × Int))
  | [] => some (Sum.inl ())
  | e :: es =>
    (ref21_own s0 e.2).bind fun r11 =>
    cond r11
    (some (Sum.inr (false, 0)))
    (ref21_Fine_L1_go s0 es)
theorem ref21_Fine_L1_go_eq (s0 : (List QSym)) (s2 : (List QLit)) (s3 : (List (List Int))) (s4 : (List QLit)) (hl : List.length s4 ≤ maxLen) : ∀ (es : List QLit) (i : Nat) (k : Nat), s4.drop i = es → es.length < k → lp ref21_Fine_L1 k (s0, (i : Int), s2, s3, s4) = ref21_Fine_L1_go s0 es := by
  intro es
  induction es with
  | nil =>
    intro i k h hk
    obtain ⟨k, rfl⟩ : ∃ k', k = k' + 1 := ⟨k - 1, by omega⟩
    rw [lp_succ]
    generalize lp ref21_Fine_L1 k = rec
    unfold ref21_Fine_L1 ref21_Fine_L1_go
    simp only [lt_false (drop_nil_le h), cond_false]
  | cons e es ih =>
    intro i k h hk
    obtain ⟨k, rfl⟩ : ∃ k', k = k' + 1 := ⟨k - 1, by omega⟩
    rw [lp_succ]
    have hi := drop_cons_lt h
    have hk2 : es.length < k := Nat.lt_of_succ_lt_succ hk
    have key := fun (_ : Unit) => ih (i + 1) k (drop_cons_next h) hk2
    generalize lp ref21_Fine_L1 k = rec at key ⊢
    unfold ref21_Fine_L1 ref21_Fine_L1_go
    simp only [lt_true hi, cond_true, gx_nat, drop_cons_get h, Option.bind_some, wrap_i1 hi hl, key ()]
theorem ref21_Fine_L1_go_at0 (s0 : (List QSym)) (s2 : (List QLit)) (s3 : (List (List Int))) (s4 : (List QLit)) (hl : List.length s4 ≤ maxLen) : lp ref21_Fine_L1 fuel (s0, 0, s2, s3, s4) = ref21_Fine_L1_go s0 s4 :=
  ref21_Fine_L1_go_eq s0 s2 s3 s4 hl s4 0 fuel rfl (Nat.lt_of_le_of_lt hl (by decide))

def ref21_Fine_L0_go (s0 : (List QSym)) : List (List Int) → Option (Unit ⊕ (Bool × Int))
  | [] => some (Sum.inl ())
  | e :: es =>
    (ref21_own s0 e).bind fun r5 =>
    cond r5
    (some (Sum.inr (false, 0)))
    (ref21_Fine_L0_go s0 es)
theorem ref21_Fine_L0_go_eq (s0 : (List QSym)) (s2 : (List QLit)) (s3 : (List (List Int))) (s4 : (List QLit)) (hl : List.length s3 ≤ maxLen) : ∀ (es : List (List Int)) (i : Nat) (k : Nat), s3.drop i = es → es.length < k → lp ref21_Fine_L0 k (s0, (i : Int), s2, s3, s4) = ref21_Fine_L0_go s0 es := by
  intro es
  induction es with
  | nil =>
    intro i k h hk
    obtain ⟨k, rfl⟩ : ∃ k', k = k' + 1 := ⟨k - 1, by omega⟩
    rw [lp_succ]
    generalize lp ref21_Fine_L0 k = rec
    unfold ref21_Fine_L0 ref21_Fine_L0_go
    simp only [lt_false (drop_nil_le h), cond_false]
  | cons e es ih =>
    intro i k h hk
    obtain ⟨k, rfl⟩ : ∃ k', k = k' + 1 := ⟨k - 1, by omega⟩
    rw [lp_succ]
    have hi := drop_cons_lt h
    have hk2 : es.length < k := Nat.lt_of_succ_lt_succ hk
    have key := fun (_ : Unit) => ih (i + 1) k (drop_cons_next h) hk2
    generalize lp ref21_Fine_L0 k = rec at key ⊢
    unfold ref21_Fine_L0 ref21_Fine_L0_go
    simp only [lt_true hi, cond_true, gx_nat, drop_cons_get h, Option.bind_some, wrap_i1 hi hl, key ()]
theorem ref21_Fine_L0_go_at0 (s0 : (List QSym)) (s2 : (List QLit)) (s3 : (List (List Int))) (s4 : (List QLit)) (hl : List.length s3 ≤ maxLen) : lp ref21_Fine_L0 fuel (s0, 0, s2, s3, s4) = ref21_Fine_L0_go s0 s3 :=
  ref21_Fine_L0_go_eq s0 s2 s3 s4 hl s3 0 fuel rfl (Nat.lt_of_le_of_lt hl (by decide))

def ref21_Terms_L0_go (rf : ((((List QSym) × (List Int)) → Option Str) × (((List QSym) × (List Int)) → Option Str) × (((List QSym) × (List Int)) → Option Str))) (s0 : (List QSym)) : List (List Int) → Nat → Str → Option Str
  | [], i, s1 => some s1
  | e :: es, i, s1 =>
    cond (decide ((i : Int) > 0))
    (cond (decide ((List.length s1 + List.length ([44, 32] : Str) : Nat) < 4611686018427387904))
      ((rf.2.1 (s0, e)).bind fun r7 =>
        cond (decide ((List.length (s1 ++ ([44, 32] : Str)) + List.length r7 : Nat) < 4611686018427387904))
        (ref21_Terms_L0_go rf s0 es (i + 1) ((s1 ++ ([44, 32] : Str)) ++ r7))
        (none))
      (none))
    ((rf.2.1 (s0, e)).bind fun r9 =>
      cond (decide ((List.length s1 + List.length r9 : Nat) < 4611686018427387904))
      (ref21_Terms_L0_go rf s0 es (i + 1) (s1 ++ r9))
      (none))
theorem ref21_Terms_L0_go_eq (rf : ((((List QSym) × (List Int)) → Option Str) × (((List QSym) × (List Int)) → Option Str) × (((List QSym) × (List Int)) → Option Str))) (s0 : (List QSym)) (s2 : (List (List Int))) (hl : List.length s2 ≤ maxLen) : ∀ (es : List (List Int)) (i : Nat) (k : Nat) (s1 : Str), s2.drop i = es → es.length < k → lp (ref21_Terms_L0 rf) k (s0, s1, s2, (i : Int)) = ref21_Terms_L0_go rf s0 es i s1 := by
  intro es
  induction es with
  | nil =>
    intro i k s1 h hk
    obtain ⟨k, rfl⟩ : ∃ k', k = k' + 1 := ⟨k - 1, by omega⟩
    rw [lp_succ]
    generalize lp (ref21_Terms_L0 rf) k = rec
    unfold ref21_Terms_L0 ref21_Terms_L0_go
    simp only [lt_false (drop_nil_le h), cond_false]
  | cons e es ih =>
    intro i k s1 h hk
    obtain ⟨k, rfl⟩ : ∃ k', k = k' + 1 := ⟨k - 1, by omega⟩
    rw [lp_succ]
    have hi := drop_cons_lt h
    have hk2 : es.length < k := Nat.lt_of_succ_lt_succ hk
    have key := fun s1 => ih (i + 1) k s1 (drop_cons_next h) hk2
    generalize lp (ref21_Terms_L0 rf) k = rec at key ⊢
    unfold ref21_Terms_L0 ref21_Terms_L0_go
    simp only [lt_true hi, cond_true, gx_nat, drop_cons_get h, Option.bind_some, wrap_i1 hi hl, key]
theorem ref21_Terms_L0_go_at0 (rf : ((((List QSym) × (List Int)) → Option Str) × (((List QSym) × (List Int)) → Option Str) × (((List QSym) × (List Int)) → Option Str))) (s0 : (List QSym)) (s2 : (List (List Int))) (s1 : Str) (hl : List.length s2 ≤ maxLen) : lp (ref21_Terms_L0 rf) fuel (s0, s1, s2, 0) = ref21_Terms_L0_go rf s0 s2 0 s1 :=
  ref21_Terms_L0_go_eq rf s0 s2 hl s2 0 fuel s1 rfl (Nat.lt_of_le_of_lt hl (by decide))

def ref21_Tell_L1_go (s0 : (List QSym)) : List QLit → Nat → Str → Option Str
  | [], i, s1 => some s1
  | e :: es, i, s1 =>
    cond ((i : Int) == 0)
    (cond (decide ((List.length s1 + List.length ([32, 105, 102, 32] : Str) : Nat) < 4611686018427387904))
      (cond e.1
        (cond (decide ((List.length (s1 ++ ([32, 105, 102, 32] : Str)) + List.length ([126] : Str) : Nat) < 4611686018427387904))
          ((ref21_Atom s0 e.2).bind fun r23 =>
            cond (decide ((List.length ((s1 ++ ([32, 105, 102, 32] : Str)) ++ ([126] : Str)) + List.length r23 : Nat) < 4611686018427387904))
            (ref21_Tell_L1_go s0 es (i + 1) (((s1 ++ ([32, 105, 102, 32] : Str)) ++ ([126] : Str)) ++ r23))
            (none))
          (none))
        ((ref21_Atom s0 e.2).bind fun r25 =>
          cond (decide ((List.length (s1 ++ ([32, 105, 102, 32] : Str)) + List.length r25 : Nat) < 4611686018427387904))
          (ref21_Tell_L1_go s0 es (i + 1) ((s1 ++ ([32, 105, 102, 32] : Str)) ++ r25))
          (none)))
      (none))
    (cond (decide ((List.length s1 + List.length ([32, 38, 32] : Str) : Nat) < 4611686018427387904))
      (cond e.1
        (cond (decide ((List.length (s1 ++ ([32, 38, 32] : Str)) + List.length ([126] : Str) : Nat) < 4611686018427387904))
          ((ref21_Atom s0 e.2).bind fun r28 =>
            cond (decide ((List.length ((s1 ++ ([32, 38, 32] : Str)) ++ ([126] : Str)) + List.length r28 : Nat) < 4611686018427387904))
            (ref21_Tell_L1_go s0 es (i + 1) (((s1 ++ ([32, 38, 32] : Str)) ++ ([126] : Str)) ++ r28))
            (none))
          (none))
        ((ref21_Atom s0 e.2).bind fun r30 =>
          cond (decide ((List.length (s1 ++ ([32, 38, 32] : Str)) + List.length r30 : Nat) < 4611686018427387904))
          (ref21_Tell_L1_go s0 es (i + 1) ((s1 ++ ([32, 38, 32] : Str)) ++ r30))
          (none)))
      (none))
theorem ref21_Tell_L1_go_eq (s0 : (List QSym)) (s3 : (List QLit)) (s4 : (List (List Int))) (s5 : (List QLit)) (hl : List.length s5 ≤ maxLen) : ∀ (es : List QLit) (i : Nat) (k : Nat) (s1 : Str), s5.drop i = es → es.length < k → lp ref21_Tell_L1 k (s0, s1, (i : Int), s3, s4, s5) = ref21_Tell_L1_go s0 es i s1 := by
  intro es
  induction es with
  | nil =>
    intro i k s1 h hk
    obtain ⟨k, rfl⟩ : ∃ k', k = k' + 1 := ⟨k - 1, by omega⟩
    rw [lp_succ]
    generalize lp ref21_Tell_L1 k = rec
    unfold ref21_Tell_L1 ref21_Tell_L1_go
    simp only [lt_false (drop_nil_le h), cond_false]
  | cons e es ih =>
    intro i k s1 h hk
    obtain ⟨k, rfl⟩ : ∃ k', k = k' + 1 := ⟨k - 1, by omega⟩
    rw [lp_succ]
    have hi := drop_cons_lt h
    have hk2 : es.length < k := Nat.lt_of_succ_lt_succ hk
    have key := fun s1 => ih (i + 1) k s1 (drop_cons_next h) hk2
    generalize lp ref21_Tell_L1 k = rec at key ⊢
    unfold ref21_Tell_L1 ref21_Tell_L1_go
    simp only [lt_true hi, cond_true, gx_nat, drop_cons_get h, Option.bind_some, wrap_i1 hi hl, key]
theorem ref21_Tell_L1_go_at0 (s0 : (List QSym)) (s3 : (List QLit)) (s4 : (List (List Int))) (s5 : (List QLit)) (s1 : Str) (hl : List.length s5 ≤ maxLen) : lp ref21_Tell_L1 fuel (s0, s1, 0, s3, s4, s5) = ref21_Tell_L1_go s0 s5 0 s1 :=
  ref21_Tell_L1_go_eq s0 s3 s4 s5 hl s5 0 fuel s1 rfl (Nat.lt_of_le_of_lt hl (by decide))

def ref21_Tell_L0_go (s0 : (List QSym)) : List (List Int) → Nat → Str → Option Str
  | [], i, s1 => some s1
  | e :: es, i, s1 =>
    cond (decide ((i : Int) > 0))
    (cond (decide ((List.length s1 + List.length ([32, 111, 114, 32] : Str) : Nat) < 4611686018427387904))
      (cond (decide ((List.length (s1 ++ ([32, 111, 114, 32] : Str)) + List.length ([40] : Str) : Nat) < 4611686018427387904))
        ((ref21_Terms s0 e).bind fun r7 =>
          cond (decide ((List.length ((s1 ++ ([32, 111, 114, 32] : Str)) ++ ([40] : Str)) + List.length r7 : Nat) < 4611686018427387904))
          (cond (decide ((List.length (((s1 ++ ([32, 111, 114, 32] : Str)) ++ ([40] : Str)) ++ r7) + List.length ([41] : Str) : Nat) < 4611686018427387904))
            (ref21_Tell_L0_go s0 es (i + 1) ((((s1 ++ ([32, 111, 114, 32] : Str)) ++ ([40] : Str)) ++ r7) ++ ([41] : Str)))
            (none))
          (none))
        (none))
      (none))
    (cond (decide ((List.length s1 + List.length ([40] : Str) : Nat) < 4611686018427387904))
      ((ref21_Terms s0 e).bind fun r9 =>
        cond (decide ((List.length (s1 ++ ([40] : Str)) + List.length r9 : Nat) < 4611686018427387904))
        (cond (decide ((List.length ((s1 ++ ([40] : Str)) ++ r9) + List.length ([41] : Str) : Nat) < 4611686018427387904))
          (ref21_Tell_L0_go s0 es (i + 1) (((s1 ++ ([40] : Str)) ++ r9) ++ ([41] : Str)))
          (none))
        (none))
      (none))
theorem ref21_Tell_L0_go_eq (s0 : (List QSym)) (s3 : (List QLit)) (s4 : (List (List Int))) (s5 : (List QLit)) (hl : List.length s4 ≤ maxLen) : ∀ (es : List (List Int)) (i : Nat) (k : Nat) (s1 : Str), s4.drop i = es → es.length < k → lp ref21_Tell_L0 k (s0, s1, (i : Int), s3, s4, s5) = ref21_Tell_L0_go s0 es i s1 := by
  intro es
  induction es with
  | nil =>
    intro i k s1 h hk
    obtain ⟨k, rfl⟩ : ∃ k', k = k' + 1 := ⟨k - 1, by omega⟩
    rw [lp_succ]
    generalize lp ref21_Tell_L0 k = rec
    unfold ref21_Tell_L0 ref21_Tell_L0_go
    simp only [lt_false (drop_nil_le h), cond_false]
  | cons e es ih =>
    intro i k s1 h hk
    obtain ⟨k, rfl⟩ : ∃ k', k = k' + 1 := ⟨k - 1, by omega⟩
    rw [lp_succ]
    have hi := drop_cons_lt h
    have hk2 : es.length < k := Nat.lt_of_succ_lt_succ hk
    have key := fun s1 => ih (i + 1) k s1 (drop_cons_next h) hk2
    generalize lp ref21_Tell_L0 k = rec at key ⊢
    unfold ref21_Tell_L0 ref21_Tell_L0_go
    simp only [lt_true hi, cond_true, gx_nat, drop_cons_get h, Option.bind_some, wrap_i1 hi hl, key]
theorem ref21_Tell_L0_go_at0 (s0 : (List QSym)) (s3 : (List QLit)) (s4 : (List (List Int))) (s5 : (List QLit)) (s1 : Str) (hl : List.length s4 ≤ maxLen) : lp ref21_Tell_L0 fuel (s0, s1, 0, s3, s4, s5) = ref21_Tell_L0_go s0 s4 0 s1 :=
  ref21_Tell_L0_go_eq s0 s3 s4 s5 hl s4 0 fuel s1 rfl (Nat.lt_of_le_of_lt hl (by decide))

end Go.Abs.Q
/-
  Rounds over a list, as recursion over it.
-/
namespace Go.Abs.Q
open Go Go.Abs
def slices_IndexFunc_5_L0_go : List QSym → Nat → Option (Unit ⊕ Int)
  | [], i => some (Sum.inl ())
  | e :: es, i =>
    (formula_SigMay_c1 e.1 e.2.1 e.2.2.1 e.2.2.2).bind fun r4 =>
    cond r4
    (some (Sum.inr (i : Int)))
    (slices_IndexFunc_5_L0_go es (i + 1))
theorem slices_IndexFunc_5_L0_go_eq (s0 : (List QSym)) (hl : List.length s0 ≤ maxLen) : ∀ (es : List QSym) (i : Nat) (k : Nat), s0.drop i = es → es.length < k → lp slices_IndexFunc_5_L0 k (s0, ((List.length s0 : Nat) : Int), (i : Int)) = slices_IndexFunc_5_L0_go es i := by
  intro es
  induction es with
  | nil =>
    intro i k h hk
    obtain ⟨k, rfl⟩ : ∃ k', k = k' + 1 := ⟨k - 1, by omega⟩
    rw [lp_succ]
    generalize lp slices_IndexFunc_5_L0 k = rec
    unfold slices_IndexFunc_5_L0 slices_IndexFunc_5_L0_go
    simp only [lt_false (drop_nil_le h), cond_false]
  | cons e es ih =>
    intro i k h hk
    obtain ⟨k, rfl⟩ : ∃ k', k = k' + 1 := ⟨k - 1, by omega⟩
    rw [lp_succ]
    have hi := drop_cons_lt h
    have hk2 : es.length < k := Nat.lt_of_succ_lt_succ hk
    have key := fun (_ : Unit) => ih (i + 1) k (drop_cons_next h) hk2
    generalize lp slices_IndexFunc_5_L0 k = rec at key ⊢
    unfold slices_IndexFunc_5_L0 slices_IndexFunc_5_L0_go
    simp only [lt_true hi, cond_true, gx_nat, drop_cons_get h, Option.bind_some, wrap_i1 hi hl, key ()]
theorem slices_IndexFunc_5_L0_go_at0 (s0 : (List QSym)) (hl : List.length s0 ≤ maxLen) : lp slices_IndexFunc_5_L0 fuel (s0, ((List.length s0 : Nat) : Int), 0) = slices_IndexFunc_5_L0_go s0 0 :=
  slices_IndexFunc_5_L0_go_eq s0 hl s0 0 fuel rfl (Nat.lt_of_le_of_lt hl (by decide))

def formula_May_L0_go (s0 : (List QSym)) : List (Int × Int × (List Int)) → Int → Option (Int ⊕ Bool)
  | [], s1 => some (Sum.inl s1)
  | e :: es, s1 =>
    (formula_parts e.1).bind fun r6 =>
    cond (s1 == 0)
    (some (Sum.inr false))
    (cond (decide (r6 < 0))
      (some (Sum.inr false))
      ((formula_nodeMay s0 e.1 e.2.1 e.2.2).bind fun r7 =>
        cond (!r7)
        (some (Sum.inr false))
        (formula_May_L0_go s0 es (IntKind.wrap .i64 (s1 + (IntKind.wrap .i64 (r6 - 1)))))))
theorem formula_May_L0_go_eq (s0 : (List QSym)) (s2 : (List (Int × Int × (List Int)))) (hl : List.length s2 ≤ maxLen) : ∀ (es : List (Int × Int × (List Int))) (i : Nat) (k : Nat) (s1 : Int), s2.drop i = es → es.length < k → lp formula_May_L0 k (s0, s1, s2, ((List.length s2 : Nat) : Int), (i : Int)) = formula_May_L0_go s0 es s1 := by
  intro es
  induction es with
  | nil =>
    intro i k s1 h hk
    obtain ⟨k, rfl⟩ : ∃ k', k = k' + 1 := ⟨k - 1, by omega⟩
    rw [lp_succ]
    generalize lp formula_May_L0 k = rec
    unfold formula_May_L0 formula_May_L0_go
    simp only [lt_false (drop_nil_le h), cond_false]
  | cons e es ih =>
    intro i k s1 h hk
    obtain ⟨k, rfl⟩ : ∃ k', k = k' + 1 := ⟨k - 1, by omega⟩
    rw [lp_succ]
    have hi := drop_cons_lt h
    have hk2 : es.length < k := Nat.lt_of_succ_lt_succ hk
    have key := fun s1 => ih (i + 1) k s1 (drop_cons_next h) hk2
    generalize lp formula_May_L0 k = rec at key ⊢
    unfold formula_May_L0 formula_May_L0_go
    simp only [lt_true hi, cond_true, gx_nat, drop_cons_get h, Option.bind_some, wrap_i1 hi hl, key]
theorem formula_May_L0_go_at0 (s0 : (List QSym)) (s2 : (List (Int × Int × (List Int)))) (s1 : Int) (hl : List.length s2 ≤ maxLen) : lp formula_May_L0 fuel (s0, s1, s2, ((List.length s2 : Nat) : Int), 0) = formula_May_L0_go s0 s2 s1 :=
  formula_May_L0_go_eq s0 s2 hl s2 0 fuel s1 rfl (Nat.lt_of_le_of_lt hl (by decide))

end Go.Abs.Q
/-
  Signs, terms, literals, clauses: what their checks say.
-/
namespace Go.Abs.Q
open Go Go.Abs
section

/-! Signs -/
def smallB (n : Int) : Bool := decide (97 ≤ n) && decide (n ≤ 122)
theorem sign_small_eq (n : Int) : sign_small n = some (smallB n) := by
  unfold sign_small smallB
  by_cases h : n ≥ 97 <;> simp [h]

def nameB (e : UInt8) : Bool := smallB ((UInt8.toNat e : Nat) : Int) || (decide (48 ≤ ((UInt8.toNat e : Nat) : Int)) && decide (((UInt8.toNat e : Nat) : Int) ≤ 57))
theorem called_go (es : List UInt8) : sign_called_L0_go es = some (cond (es.all nameB) (.inl ()) (.inr false)) := by
  induction es with
  | nil => rfl
  | cons e es ih =>
    unfold sign_called_L0_go
    rw [sign_small_eq, Option.bind_some, ih, List.all_cons]
    unfold nameB
    cases h : smallB ((UInt8.toNat e : Nat) : Int) with
    | true => simp
    | false =>
      by_cases h1 : ((UInt8.toNat e : Nat) : Int) < 48
      · have : ¬ (48 ≤ ((UInt8.toNat e : Nat) : Int)) := by omega
        simp only [Bool.not_false, cond_true, decide_eq_true h1, decide_eq_false this, Bool.false_and, Bool.or_false, cond_false]
      · have h3 : 48 ≤ ((UInt8.toNat e : Nat) : Int) := by omega
        by_cases h2 : ((UInt8.toNat e : Nat) : Int) > 57
        · have : ¬ (((UInt8.toNat e : Nat) : Int) ≤ 57) := by omega
          simp only [Bool.not_false, cond_true, decide_eq_false h1, decide_eq_true h2, decide_eq_false this, Bool.and_false, Bool.false_and, Bool.or_false, cond_false]
        · have h4 : ((UInt8.toNat e : Nat) : Int) ≤ 57 := by omega
          simp only [Bool.not_false, cond_true, decide_eq_false h1, decide_eq_false h2, decide_eq_true h3, decide_eq_true h4, Bool.and_true, Bool.true_and, Bool.or_true, cond_false]

def calledB (s : Str) : Bool := match s with
  | [] => false
  | c :: _ => decide (s.length ≤ 8) && smallB ((UInt8.toNat c : Nat) : Int) && s.all nameB
theorem sign_called_eq (s : Str) : sign_called s = some (calledB s) := by
  unfold sign_called calledB
  cases s with
  | nil => rfl
  | cons c r =>
    rw [show ((c :: r : Str) == ([] : Str)) = false from rfl, cond_false]
    by_cases h : (c :: r).length ≤ 8
    · have h1 : ¬ (((List.length (c :: r) : Nat) : Int) > 8) := by omega
      rw [decide_eq_false h1, cond_false, gx_zero, List.getElem?_cons_zero, Option.bind_some, sign_small_eq, Option.bind_some, sign_called_L0_go_at0 _ (by unfold maxLen; omega), called_go, decide_eq_true h]
      dsimp only
      cases smallB ((UInt8.toNat c : Nat) : Int) with
      | false => rfl
      | true => cases (c :: r).all nameB <;> rfl
    · have h1 : ((List.length (c :: r) : Nat) : Int) > 8 := by omega
      rw [decide_eq_true h1, decide_eq_false h]
      rfl

def symB (e : QSym) : Bool := calledB e.1 && decide (0 ≤ e.2.1) && decide (e.2.1 ≤ 2) && decide (0 ≤ e.2.2.1) && decide (e.2.2.1 ≤ 3) && decide (1 ≤ e.2.2.2) && decide (e.2.2.2 ≤ 20)
theorem sign_SymMay_eq (e : QSym) : sign_SymMay e.1 e.2.1 e.2.2.1 e.2.2.2 = some (symB e) := by
  unfold sign_SymMay symB
  rw [sign_called_eq, Option.bind_some]
  cases calledB e.1 <;> simp only [cond_true, cond_false, Bool.true_and, Bool.false_and, ge_iff_le]
  cases decide (0 ≤ e.2.1) <;> simp only [cond_true, cond_false, Bool.true_and, Bool.false_and]
  cases decide (e.2.1 ≤ 2) <;> simp only [cond_true, cond_false, Bool.true_and, Bool.false_and]
  cases decide (0 ≤ e.2.2.1) <;> simp only [cond_true, cond_false, Bool.true_and, Bool.false_and]
  cases decide (e.2.2.1 ≤ 3) <;> simp only [cond_true, cond_false, Bool.true_and, Bool.false_and]
  cases decide (1 ≤ e.2.2.2) <;> simp only [cond_true, cond_false, Bool.true_and, Bool.false_and]

def idxI (o : Option Nat) : Int := match o with
  | some i => (i : Int)
  | none => -1
theorem find_go (nm : Str) (es : List QSym) (i : Nat) : sign_find_L0_go nm es i = some (match es.findIdx? (fun e => e.1 == nm) with
    | some j => .inr ((i + j : Nat) : Int)
    | none => .inl ()) := by
  induction es generalizing i with
  | nil => rfl
  | cons e es ih =>
    unfold sign_find_L0_go
    rw [List.findIdx?_cons]
    cases h : (e.1 == nm) with
    | true => simp
    | false =>
      rw [cond_false, ih]
      cases es.findIdx? (fun e => e.1 == nm) with
      | none => rfl
      | some j => simp; omega
theorem sign_find_eq (a0 : List QSym) (nm : Str) (h : a0.length ≤ maxLen) : sign_find a0 nm = some (idxI (a0.findIdx? (fun e => e.1 == nm))) := by
  unfold sign_find
  rw [sign_find_L0_go_at0 _ _ h, find_go]
  cases a0.findIdx? (fun e => e.1 == nm) with
  | none => rfl
  | some j => simp [caseS, idxI]

def mayGo (a0 : List QSym) : List QSym → Nat → Bool
  | [], _ => true
  | e :: es, i => symB e && (idxI (a0.findIdx? (fun d => d.1 == e.1)) == (i : Int)) && mayGo a0 es (i + 1)
theorem may_go (a0 : List QSym) (h : a0.length ≤ maxLen) (es : List QSym) (i : Nat) : sign_May_L0_go a0 es i = some (cond (mayGo a0 es i) (.inl ()) (.inr false)) := by
  induction es generalizing i with
  | nil => rfl
  | cons e es ih =>
    unfold sign_May_L0_go mayGo
    rw [sign_SymMay_eq, Option.bind_some, sign_find_eq _ _ h, Option.bind_some, ih, bne]
    cases symB e with
    | false => rfl
    | true =>
      cases (idxI (a0.findIdx? (fun d => d.1 == e.1)) == (i : Int)) with
      | false => rfl
      | true => simp

def equalsQ : QSym := ([61], 0, 2, 1)
def eqQ (e : QSym) : Bool := cond (eqS e.1 [61]) (cond (eqI e.2.1 0) (cond (eqI e.2.2.1 2) (cond (eqI e.2.2.2 1) true false) false) false) false
theorem eqQ_iff (e : QSym) : eqQ e = true ↔ e = equalsQ := by
  obtain ⟨a, b, c, d⟩ := e
  unfold eqQ equalsQ eqS eqI
  cases h1 : (a == ([61] : List UInt8)) <;> cases h2 : (b == 0) <;> cases h3 : (c == 2) <;> cases h4 : (d == 1) <;> simp_all

def signB (a0 : List QSym) : Bool := match a0 with
  | [] => false
  | e :: es => decide (a0.length ≤ 20) && eqQ e && mayGo a0 es 1
theorem sign_May_eq (a0 : List QSym) : sign_May a0 = some (signB a0) := by
  unfold sign_May signB
  cases a0 with
  | nil => rfl
  | cons e es =>
    rw [decide_eq_false (show ¬ (((List.length (e :: es) : Nat) : Int) < 1) by rw [List.length_cons]; omega), cond_false]
    by_cases h : (e :: es).length ≤ 20
    · have h1 : ¬ (((List.length (e :: es) : Nat) : Int) > 20) := by omega
      have hm : (e :: es).length ≤ maxLen := by unfold maxLen; omega
      rw [decide_eq_false h1, cond_false, gx_zero, List.getElem?_cons_zero, Option.bind_some, decide_eq_true h]
      show cond (!(eqQ e)) _ _ = some (true && eqQ e && mayGo (e :: es) es 1)
      cases eqQ e with
      | false => rfl
      | true =>
        have := sign_May_L0_go_eq (e :: es) hm es 1 fuel rfl (by simp [fuel]; simp at h; omega)
        simp only [Bool.not_true, cond_false]
        rw [show ((1 : Int)) = ((1 : Nat) : Int) from rfl, this, may_go _ hm]
        cases mayGo (e :: es) es 1 <;> rfl
    · have h1 : ((List.length (e :: es) : Nat) : Int) > 20 := by omega
      rw [decide_eq_true h1, decide_eq_false h]
      rfl

theorem mayGo_at {a0 : List QSym} : {es : List QSym} → {i : Nat} → mayGo a0 es i = true → ∀ (j : Nat) e, es[j]? = some e → symB e = true ∧ idxI (a0.findIdx? (fun d => d.1 == e.1)) = ((i + j : Nat) : Int)
  | [], _, _, j, e, he => by simp at he
  | d :: es, i, h, 0, e, he => by
    injection he with he; subst he
    simp only [mayGo, Bool.and_eq_true] at h
    exact ⟨h.1.1, by simpa using h.1.2⟩
  | d :: es, i, h, j + 1, e, he => by
    simp only [mayGo, Bool.and_eq_true] at h
    have := mayGo_at h.2 j e (by simpa using he)
    exact ⟨this.1, by rw [this.2]; omega⟩

/-- What is known of a sign that may be. -/
structure SignOk (a0 : List QSym) : Prop where
  pos : 1 ≤ a0.length
  len : a0.length ≤ 20
  eq : a0[0]? = some equalsQ
  sym : ∀ (i : Nat) e, a0[i + 1]? = some e → symB e = true ∧ idxI (a0.findIdx? (fun d => d.1 == e.1)) = ((i + 1 : Nat) : Int)
theorem signB_ok {a0 : List QSym} (h : signB a0 = true) : SignOk a0 := by
  unfold signB at h
  cases a0 with
  | nil => cases h
  | cons e es =>
    simp only [Bool.and_eq_true, decide_eq_true_eq] at h
    exact ⟨by simp, h.1.1, by rw [List.getElem?_cons_zero, (eqQ_iff e).1 h.1.2], fun i d hd => by
      have := mayGo_at h.2 i d (by simpa using hd)
      exact ⟨this.1, by rw [this.2]; omega⟩⟩
theorem SignOk.max {a0 : List QSym} (h : SignOk a0) : a0.length ≤ maxLen := Nat.le_trans h.len (by unfold maxLen; omega)
theorem symB_spec {e : QSym} (h : symB e = true) : calledB e.1 = true ∧ 0 ≤ e.2.1 ∧ e.2.1 ≤ 2 ∧ 0 ≤ e.2.2.1 ∧ e.2.2.1 ≤ 3 ∧ 1 ≤ e.2.2.2 ∧ e.2.2.2 ≤ 20 := by
  unfold symB at h
  simp only [Bool.and_eq_true, decide_eq_true_eq] at h
  exact ⟨h.1.1.1.1.1.1, h.1.1.1.1.1.2, h.1.1.1.1.2, h.1.1.1.2, h.1.1.2, h.1.2, h.2⟩
theorem calledB_len {s : Str} (h : calledB s = true) : 1 ≤ s.length ∧ s.length ≤ 8 := by
  unfold calledB at h
  cases s with
  | nil => cases h
  | cons c r =>
    simp only [Bool.and_eq_true, decide_eq_true_eq] at h
    exact ⟨by simp, h.1.1⟩
theorem SignOk.at {a0 : List QSym} (h : SignOk a0) {i : Nat} {e : QSym} (he : a0[i]? = some e) : 1 ≤ e.1.length ∧ e.1.length ≤ 8 ∧ 0 ≤ e.2.1 ∧ e.2.1 ≤ 2 ∧ 0 ≤ e.2.2.1 ∧ e.2.2.1 ≤ 3 := by
  cases i with
  | zero =>
    rw [h.eq] at he
    injection he with he; subst he
    decide
  | succ i =>
    obtain ⟨h1, h2, h3, h4, h5, _⟩ := symB_spec (h.sym i e he).1
    have := calledB_len h1
    exact ⟨this.1, this.2, h2, h3, h4, h5⟩

/-! Terms -/
/-- How many terms stand behind a symbol or a variable in a term. -/
def arity (a0 : List QSym) (x : Int) : Option Nat :=
  cond (decide (x < 0)) (cond (decide (-24 ≤ x)) (some 0) none) (match a0[x.toNat]? with
    | some e => cond (e.2.1 == 0) none (some e.2.2.1.toNat)
    | none => none)
def nOk (o : Option Nat) : Int × Bool := match o with
  | some k => ((k : Int), true)
  | none => (0, false)
theorem term_Number_eq {x : Int} (h1 : -9223372036854775808 ≤ x) (h2 : x ≤ 9223372036854775807) : term_Number x = some (-1 - x) := by
  unfold term_Number
  rw [wrap64] <;> omega
theorem term_args_eq {a0 : List QSym} (h : SignOk a0) (x : Int) : term_args a0 x = some (nOk (arity a0 x)) := by
  unfold term_args arity
  by_cases h0 : x < 0
  · rw [decide_eq_true h0, cond_true, cond_true, term_Number_eq (by omega) (by omega), Option.bind_some]
    by_cases h1 : -24 ≤ x
    · rw [decide_eq_true h1, decide_eq_true (show x ≥ -1 - 23 by omega)]; rfl
    · rw [decide_eq_false h1, decide_eq_false (show ¬ (x ≥ -1 - 23) by omega)]; rfl
  · rw [decide_eq_false h0, cond_false, cond_false]
    by_cases h1 : x ≥ ((List.length a0 : Nat) : Int)
    · rw [decide_eq_true h1, cond_true, List.getElem?_eq_none (by omega)]; rfl
    · obtain ⟨e, he1, he2, he3⟩ := gx_at (xs := a0) (i := x) (by omega) (by omega)
      have := h.at he3
      rw [decide_eq_false h1, cond_false, he1, Option.bind_some, he3]
      cases he : (e.2.1 == 0) with
      | true => simp only [he, cond_true]; rfl
      | false =>
        simp only [he, cond_false, Option.bind_some]
        unfold nOk
        simp only [Option.some.injEq, Prod.mk.injEq, and_true]
        omega
theorem arity_le {a0 : List QSym} (h : SignOk a0) {x : Int} {k : Nat} (hk : arity a0 x = some k) : k ≤ 3 := by
  unfold arity at hk
  by_cases h0 : x < 0
  · rw [decide_eq_true h0, cond_true] at hk
    by_cases h1 : -24 ≤ x
    · rw [decide_eq_true h1] at hk; injection hk with hk; omega
    · rw [decide_eq_false h1] at hk; cases hk
  · rw [decide_eq_false h0, cond_false] at hk
    cases he : a0[x.toNat]? with
    | none => rw [he] at hk; cases hk
    | some e =>
      rw [he] at hk
      have := h.at he
      simp only at hk
      cases hz : (e.2.1 == 0) with
      | true => rw [hz] at hk; cases hk
      | false => rw [hz] at hk; injection hk with hk; omega

/-- How many numbers n terms take. -/
def sk (a0 : List QSym) : Nat → List Int → Option Nat
  | 0, _ => some 0
  | _ + 1, [] => none
  | n + 1, x :: xs => match arity a0 x with
    | none => none
    | some k => (sk a0 (n + k) xs).map (· + 1)
theorem sk_le {a0 : List QSym} : {xs : List Int} → {n k : Nat} → sk a0 n xs = some k → k ≤ xs.length ∧ (0 < n → 0 < k) ∧ n ≤ k
  | [], 0, k, h => by simp [sk] at h; omega
  | [], n + 1, k, h => by simp [sk] at h
  | x :: xs, 0, k, h => by simp [sk] at h; omega
  | x :: xs, n + 1, k, h => by
    unfold sk at h
    cases ha : arity a0 x with
    | none => rw [ha] at h; cases h
    | some m =>
      rw [ha] at h
      simp only [Option.map_eq_some_iff] at h
      obtain ⟨j, hj, rfl⟩ := h
      have := sk_le hj
      rw [List.length_cons]
      omega
theorem skip_round {a0 : List QSym} (h : SignOk a0) (a1 : List Int) (hl : a1.length ≤ 1099511627776) : ∀ (m i n : Nat) (k : Nat), a1.length - i = m → 0 < n → n ≤ 1 + 3 * i → m < k →
    lp term_Skip_L0 k (a0, a1, (i : Int), (n : Int)) = some (match sk a0 n (a1.drop i) with
      | some j => (((i + j : Nat) : Int), true)
      | none => (0, false)) := by
  intro m
  induction m with
  | zero =>
    intro i n k hm hn hni hk
    obtain ⟨k, rfl⟩ : ∃ k', k = k' + 1 := ⟨k - 1, by omega⟩
    rw [lp_succ]
    generalize lp term_Skip_L0 k = rec
    unfold term_Skip_L0
    simp only [decide_eq_true (show ((i : Int) ≥ ((List.length a1 : Nat) : Int)) by omega), cond_true, List.drop_eq_nil_iff.2 (show a1.length ≤ i by omega)]
    obtain ⟨n, rfl⟩ : ∃ n', n = n' + 1 := ⟨n - 1, by omega⟩
    rfl
  | succ m ih =>
    intro i n k hm hn hni hk
    obtain ⟨k, rfl⟩ : ∃ k', k = k' + 1 := ⟨k - 1, by omega⟩
    have hi : i < a1.length := by omega
    rw [lp_succ]
    have key := fun n' h1 h2 => ih (i + 1) n' k (by omega) h1 h2 (by omega)
    generalize lp term_Skip_L0 k = rec at key ⊢
    unfold term_Skip_L0
    obtain ⟨n, rfl⟩ : ∃ n', n = n' + 1 := ⟨n - 1, by omega⟩
    simp only [decide_eq_false (show ¬ ((i : Int) ≥ ((List.length a1 : Nat) : Int)) by omega), cond_false, gx_nat, List.getElem?_eq_getElem hi, Option.bind_some, term_args_eq h, List.drop_eq_getElem_cons hi, sk]
    cases ha : arity a0 a1[i] with
    | none => simp [nOk]
    | some q =>
      have hq := arity_le h ha
      have e1 : IntKind.wrap .i64 ((q : Int) - 1) = (q : Int) - 1 := wrap64 (by omega) (by omega)
      have e2 : IntKind.wrap .i64 (((n + 1 : Nat) : Int) + ((q : Int) - 1)) = ((n + q : Nat) : Int) := by rw [wrap64] <;> omega
      have e3 : IntKind.wrap .i64 ((i : Int) + 1) = ((i + 1 : Nat) : Int) := by rw [wrap64] <;> omega
      simp only [nOk, Bool.not_true, cond_false, e1, e2, e3]
      by_cases hp : 0 < n + q
      · rw [decide_eq_true (show ((n + q : Nat) : Int) > 0 by omega), cond_true, key _ hp (by omega)]
        cases sk a0 (n + q) (a1.drop (i + 1)) with
        | none => rfl
        | some j => simp only [Option.map_some]; rw [show i + 1 + j = i + (j + 1) from by omega]
      · rw [decide_eq_false (show ¬ (((n + q : Nat) : Int) > 0) by omega), cond_false]
        have : n + q = 0 := by omega
        rw [this]
        simp [sk]
theorem term_Skip_eq {a0 : List QSym} (h : SignOk a0) (a1 : List Int) (hl : a1.length ≤ 1099511627776) (i : Nat) : term_Skip a0 a1 (i : Int) = some (match sk a0 1 (a1.drop i) with
      | some j => (((i + j : Nat) : Int), true)
      | none => (0, false)) := by
  unfold term_Skip
  by_cases hi : i < a1.length
  · simp only [decide_eq_false (show ¬ ((i : Int) ≥ ((List.length a1 : Nat) : Int)) by omega), cond_false, gx_nat, List.getElem?_eq_getElem hi, Option.bind_some, term_args_eq h, List.drop_eq_getElem_cons hi, sk]
    cases ha : arity a0 a1[i] with
    | none => simp [nOk]
    | some q =>
      have hq := arity_le h ha
      have e1 : IntKind.wrap .i64 ((q : Int) - 1) = (q : Int) - 1 := wrap64 (by omega) (by omega)
      have e2 : IntKind.wrap .i64 (1 + ((q : Int) - 1)) = ((q : Nat) : Int) := by rw [wrap64] <;> omega
      have e3 : IntKind.wrap .i64 ((i : Int) + 1) = ((i + 1 : Nat) : Int) := by rw [wrap64] <;> omega
      simp only [nOk, Bool.not_true, cond_false, e1, e2, e3]
      by_cases hp : 0 < q
      · rw [decide_eq_true (show (q : Int) > 0 by omega), cond_true, skip_round h a1 hl (a1.length - (i + 1)) (i + 1) q fuel rfl hp (by omega) (by unfold fuel; omega), Nat.zero_add]
        cases sk a0 q (a1.drop (i + 1)) with
        | none => rfl
        | some j => simp only [Option.map_some, Option.bind_some]; rw [show i + 1 + j = i + (j + 1) from by omega]
      · rw [decide_eq_false (show ¬ ((q : Int) > 0) by omega), cond_false]
        have : q = 0 := by omega
        subst this
        simp [sk]
  · simp only [decide_eq_true (show ((i : Int) ≥ ((List.length a1 : Nat) : Int)) by omega), cond_true, List.drop_eq_nil_iff.2 (show a1.length ≤ i by omega)]
    rfl

end
end Go.Abs.Q
/-
  Pieces of a row; atoms; clauses that may be.
-/
namespace Go.Abs.Q
open Go Go.Abs
section

/-- The terms of a row, one by one. -/
def cutsN (a0 : List QSym) : Nat → List Int → Option (List (List Int))
  | _, [] => some []
  | 0, _ :: _ => none
  | n + 1, x :: xs => match sk a0 1 (x :: xs) with
    | none => none
    | some k => (cutsN a0 n ((x :: xs).drop k)).map ((x :: xs).take k :: ·)
def cuts (a0 : List QSym) (xs : List Int) : Option (List (List Int)) := cutsN a0 xs.length xs

theorem cutsN_more {a0 : List QSym} : {n m : Nat} → {xs : List Int} → xs.length ≤ n → n ≤ m → cutsN a0 m xs = cutsN a0 n xs
  | n, m, [], _, _ => by cases n <;> cases m <;> rfl
  | 0, _, _ :: _, h, _ => by simp at h
  | n + 1, 0, _ :: _, _, h => by omega
  | n + 1, m + 1, x :: xs, h, hm => by
    unfold cutsN
    cases hk : sk a0 1 (x :: xs) with
    | none => rfl
    | some k =>
      have := sk_le hk
      simp only
      rw [cutsN_more (n := n) (m := m) (by simp at h ⊢; omega) (by omega)]
theorem cuts_nil (a0 : List QSym) : cuts a0 [] = some [] := rfl
theorem cuts_step {a0 : List QSym} {xs : List Int} (h : xs ≠ []) : cuts a0 xs = match sk a0 1 xs with
    | none => none
    | some k => (cuts a0 (xs.drop k)).map (xs.take k :: ·) := by
  cases xs with
  | nil => exact absurd rfl h
  | cons x xs =>
    show cutsN a0 (xs.length + 1) (x :: xs) = _
    unfold cutsN
    cases hk : sk a0 1 (x :: xs) with
    | none => rfl
    | some k =>
      have := sk_le hk
      simp only
      unfold cuts
      rw [cutsN_more (n := ((x :: xs).drop k).length) (m := xs.length) (Nat.le_refl _) (by simp; omega)]
theorem sk_take {a0 : List QSym} : {xs : List Int} → {n k : Nat} → sk a0 n xs = some k → sk a0 n (xs.take k) = some k
  | [], 0, k, h => by simp [sk] at h; subst h; rfl
  | [], n + 1, k, h => by simp [sk] at h
  | x :: xs, 0, k, h => by simp [sk] at h; subst h; rfl
  | x :: xs, n + 1, k, h => by
    unfold sk at h
    cases ha : arity a0 x with
    | none => rw [ha] at h; cases h
    | some m =>
      rw [ha] at h
      simp only [Option.map_eq_some_iff] at h
      obtain ⟨j, hj, rfl⟩ := h
      rw [List.take_succ_cons]
      unfold sk
      rw [ha]
      simp only [sk_take hj, Option.map_some]
theorem cuts_flat {a0 : List QSym} : ∀ (n : Nat) (xs : List Int) (ps : List (List Int)), xs.length ≤ n → cuts a0 xs = some ps → ps.flatten = xs ∧ ∀ p ∈ ps, p ≠ [] ∧ sk a0 1 p = some p.length := by
  intro n
  induction n with
  | zero =>
    intro xs ps h hc
    obtain rfl : xs = [] := List.length_eq_zero_iff.1 (by omega)
    injection hc with hc; subst hc
    exact ⟨rfl, fun p hp => by cases hp⟩
  | succ n ih =>
    intro xs ps h hc
    by_cases hx : xs = []
    · subst hx
      injection hc with hc; subst hc
      exact ⟨rfl, fun p hp => by cases hp⟩
    · rw [cuts_step hx] at hc
      cases hk : sk a0 1 xs with
      | none => rw [hk] at hc; cases hc
      | some k =>
        rw [hk] at hc
        simp only [Option.map_eq_some_iff] at hc
        obtain ⟨qs, hq, rfl⟩ := hc
        have hle := sk_le hk
        obtain ⟨h1, h2⟩ := ih _ qs (by simp; omega) hq
        refine ⟨by rw [List.flatten_cons, h1, List.take_append_drop], fun p hp => ?_⟩
        rcases List.mem_cons.1 hp with rfl | hp
        · have hl : (xs.take k).length = k := by simp; omega
          exact ⟨fun e => by rw [e] at hl; simp at hl; omega, by rw [hl]; exact sk_take hk⟩
        · exact h2 p hp
def startsOf : Nat → List (List Int) → List Int
  | _, [] => []
  | i, p :: ps => (i : Int) :: startsOf (i + p.length) ps
theorem startsOf_len : (i : Nat) → (ps : List (List Int)) → (startsOf i ps).length = ps.length
  | _, [] => rfl
  | i, p :: ps => by simp [startsOf, startsOf_len (i + p.length) ps]

theorem room_ok {n b : Nat} (h : n * b ≤ 140737488351232) : room n b = true := by simpa [room] using h

theorem begins_round {a0 : List QSym} (h : SignOk a0) (a1 : List Int) (hl : a1.length ≤ 1099511627776) : ∀ (m i : Nat) (acc : List Int) (k : Nat), a1.length - i = m → i ≤ a1.length → acc.length ≤ i → m < k →
    lp term_begins_L0 k (a0, a1, (i : Int), acc) = some (match cuts a0 (a1.drop i) with
      | some ps => (true, acc ++ startsOf i ps)
      | none => (false, [])) := by
  intro m
  induction m using Nat.strongRecOn with
  | _ m ih =>
    intro i acc k hm hi hacc hk
    obtain ⟨k, rfl⟩ : ∃ k', k = k' + 1 := ⟨k - 1, by omega⟩
    rw [lp_succ]
    have key := fun j acc' (h1 : i < j) h2 h3 => ih (a1.length - j) (by omega) j acc' k rfl h2 h3 (by omega)
    generalize lp term_begins_L0 k = rec at key ⊢
    unfold term_begins_L0
    by_cases he : i = a1.length
    · subst he
      simp [cuts_nil, startsOf]
    · have hlt : i < a1.length := by omega
      have hne : a1.drop i ≠ [] := by simp; omega
      simp only [show (((i : Int)) == ((List.length a1 : Nat) : Int)) = false from by simp; omega, cond_false, term_Skip_eq h a1 hl, Option.bind_some, cuts_step hne]
      cases hs : sk a0 1 (a1.drop i) with
      | none => rfl
      | some j =>
        have hj := sk_le hs
        rw [List.length_drop] at hj
        simp only [Bool.not_true, cond_false, List.length_singleton, room_ok (show (acc.length + 1) * 8 ≤ 140737488351232 by omega), cond_true]
        rw [key (i + j) _ (by omega) (by omega) (by simp; omega), List.drop_drop]
        cases cuts a0 (a1.drop (i + j)) with
        | none => rfl
        | some ps =>
          simp only [Option.map_some, startsOf]
          rw [List.length_take, List.length_drop, Nat.min_eq_left (by omega)]
          simp
def beginsB (a0 : List QSym) (a1 : List Int) : Option (List (List Int)) := cond (signB a0 && decide (a1.length ≤ 48)) (cuts a0 a1) none
theorem term_begins_eq (a0 : List QSym) (a1 : List Int) : term_begins a0 a1 = some (match beginsB a0 a1 with
    | some ps => (true, startsOf 0 ps)
    | none => (false, [])) := by
  unfold term_begins beginsB
  rw [sign_May_eq, Option.bind_some]
  cases hs : signB a0 with
  | false => rfl
  | true =>
    have h := signB_ok hs
    by_cases hl : a1.length ≤ 48
    · simp only [Bool.not_true, cond_false, decide_eq_false (show ¬ (((List.length a1 : Nat) : Int) > 48) by omega), decide_eq_true hl, Bool.and_true, cond_true]
      by_cases h0 : a1 = []
      · subst h0; rfl
      · have hpos : 0 < a1.length := List.length_pos_iff.2 h0
        simp only [show ((0 : Int) == ((List.length a1 : Nat) : Int)) = false from by simp; omega, cond_false]
        have e := term_Skip_eq h a1 (by omega) 0
        rw [show ((0 : Nat) : Int) = 0 from rfl] at e
        rw [e, Option.bind_some, List.drop_zero, cuts_step h0]
        cases hk : sk a0 1 a1 with
        | none => rfl
        | some j =>
          have hj := sk_le hk
          simp only [Bool.not_true, cond_false, Nat.zero_add, List.length_singleton, room_ok (show 1 * 8 ≤ 140737488351232 by omega), cond_true]
          rw [begins_round h a1 (by omega) (a1.length - j) j [0] fuel rfl (by omega) (by simp; omega) (by unfold fuel; omega)]
          cases cuts a0 (a1.drop j) with
          | none => rfl
          | some ps => simp [startsOf, Nat.min_eq_left hj.1]
    · simp only [Bool.not_true, cond_false, decide_eq_true (show (((List.length a1 : Nat) : Int) > 48) by omega), decide_eq_false hl, Bool.and_false, cond_true]

def atomB (a0 : List QSym) (xs : List Int) : Bool := match xs with
  | [] => false
  | x :: r => decide (0 ≤ x) && (match a0[x.toNat]? with
    | none => false
    | some e => (e.2.1 == 0) && (match beginsB a0 r with
      | none => false
      | some ps => ((ps.length : Nat) : Int) == e.2.2.1))
theorem slc_tail {α : Type} (x : α) (r : List α) : slc2 (x :: r) (some 1) none = some r := by
  show slc (x :: r) 1 ((x :: r).length : Int) = some r
  unfold slc
  simp only [List.length_cons]
  rw [decide_eq_true (show (0 : Int) ≤ 1 by omega), decide_eq_true (show (1 : Int) ≤ ((r.length + 1 : Nat) : Int) by omega), decide_eq_true (show ((r.length + 1 : Nat) : Int) ≤ ((r.length + 1 : Nat) : Int) by omega)]
  simp
theorem term_IsAtom_eq (a0 : List QSym) (xs : List Int) : term_IsAtom a0 xs = some (atomB a0 xs) := by
  unfold term_IsAtom atomB
  cases xs with
  | nil => rfl
  | cons x r =>
    simp only [show ((((x :: r).length : Nat) : Int) == 0) = false from by simp; omega, cond_false, gx_zero, List.getElem?_cons_zero, Option.bind_some]
    by_cases h0 : x < 0
    · rw [decide_eq_true h0, decide_eq_false (show ¬ (0 ≤ x) by omega)]; rfl
    · rw [decide_eq_false h0, decide_eq_true (show 0 ≤ x by omega), cond_false, Bool.true_and]
      by_cases h1 : x ≥ ((List.length a0 : Nat) : Int)
      · rw [decide_eq_true h1, List.getElem?_eq_none (by omega)]; rfl
      · obtain ⟨e, he1, he2, he3⟩ := gx_at (xs := a0) (i := x) (by omega) (by omega)
        simp only [decide_eq_false h1, cond_false, he1, he3, Option.bind_some, bne]
        cases hk : (e.2.1 == 0) with
        | false => rfl
        | true =>
          simp only [Bool.not_true, cond_false, slc_tail, Option.bind_some, term_begins_eq, Bool.true_and]
          cases beginsB a0 r with
          | none => rfl
          | some ps => simp [startsOf_len]

def sumLen (xs : List (List Int)) : Nat := (xs.map List.length).sum
def litsB (a0 : List QSym) (ls : List QLit) : Bool := ls.all fun l => atomB a0 l.2
theorem atomB_len {a0 : List QSym} {xs : List Int} (h : atomB a0 xs = true) : xs.length ≤ 49 := by
  unfold atomB at h
  cases xs with
  | nil => cases h
  | cons x r =>
    simp only [Bool.and_eq_true] at h
    cases he : a0[x.toNat]? with
    | none => rw [he] at h; simp at h
    | some e =>
      rw [he] at h
      simp only [Bool.and_eq_true] at h
      cases hb : beginsB a0 r with
      | none => rw [hb] at h; simp at h
      | some ps =>
        unfold beginsB at hb
        cases hl : decide (r.length ≤ 48) with
        | false => rw [hl, Bool.and_false] at hb; cases hb
        | true => rw [decide_eq_true_eq] at hl; simp; omega
theorem lits_go (a0 : List QSym) : (es : List QLit) → (t : Nat) → t + 49 * es.length ≤ 1099511627776 → clause_litsMay_L0_go a0 es (t : Int) = some (cond (litsB a0 es) (.inl ((t + sumLen (es.map (·.2)) : Nat) : Int)) (.inr (0, false)))
  | [], t, _ => by simp [clause_litsMay_L0_go, litsB, sumLen]
  | e :: es, t, h => by
    unfold clause_litsMay_L0_go lit_May litsB
    rw [term_IsAtom_eq, Option.bind_some, Option.bind_some, List.all_cons]
    cases ha : atomB a0 e.2 with
    | false => rfl
    | true =>
      have hl := atomB_len ha
      rw [List.length_cons] at h
      have e1 : IntKind.wrap .i64 ((t : Int) + ((List.length e.2 : Nat) : Int)) = ((t + e.2.length : Nat) : Int) := by rw [wrap64] <;> omega
      rw [e1]
      have := lits_go a0 es (t + e.2.length) (by omega)
      unfold litsB at this
      simp only [Bool.not_true, cond_false, Bool.true_and, this]
      rw [show t + e.2.length + sumLen (es.map (·.2)) = t + sumLen ((e :: es).map (·.2)) from by simp [sumLen]; omega]
theorem clause_litsMay_eq (a0 : List QSym) (ls : List QLit) (h : ls.length ≤ 1000000000) : clause_litsMay a0 ls = some (cond (litsB a0 ls) (((sumLen (ls.map (·.2)) : Nat) : Int), true) (0, false)) := by
  unfold clause_litsMay
  rw [clause_litsMay_L0_go_at0 _ _ _ (by unfold maxLen; omega), show ((0 : Int)) = ((0 : Nat) : Int) from rfl, lits_go a0 ls 0 (by omega)]
  cases litsB a0 ls with
  | false => rfl
  | true => simp [caseS]

/-- How many terms a row has. -/
def rowW (a0 : List QSym) (xs : List Int) : Option Nat := (beginsB a0 xs).map List.length
theorem term_Row_eq (a0 : List QSym) (xs : List Int) : term_Row a0 xs = some (match rowW a0 xs with
    | some n => ((n : Int), 0)
    | none => (0, 200)) := by
  unfold term_Row rowW
  rw [term_begins_eq, Option.bind_some]
  cases beginsB a0 xs with
  | none => rfl
  | some ps => simp [startsOf_len]
theorem rowW_len {a0 : List QSym} {xs : List Int} {n : Nat} (h : rowW a0 xs = some n) : xs.length ≤ 48 := by
  unfold rowW beginsB at h
  cases hl : decide (xs.length ≤ 48) with
  | false => rw [hl, Bool.and_false] at h; cases h
  | true => rw [decide_eq_true_eq] at hl; exact hl
def rowsB (a0 : List QSym) (rs : List (List Int)) : Bool := match rs with
  | [] => true
  | r :: rs => match rowW a0 r with
    | none => false
    | some n => rs.all fun q => rowW a0 q == some n
theorem rows_go (a0 : List QSym) (w : Nat) : (es : List (List Int)) → (i t : Nat) → t + 49 * es.length ≤ 1099511627776 → clause_rowsMay_L0_go a0 es (i + 1) (t : Int) (w : Int) = some (cond (es.all fun q => rowW a0 q == some w) (.inl ((t + sumLen es : Nat) : Int)) (.inr (0, false)))
  | [], i, t, _ => by simp [clause_rowsMay_L0_go, sumLen]
  | e :: es, i, t, h => by
    unfold clause_rowsMay_L0_go
    rw [term_Row_eq, Option.bind_some, List.all_cons]
    rw [show ((((i + 1 : Nat) : Int)) == 0) = false from by simp; omega, cond_false]
    cases hr : rowW a0 e with
    | none => rfl
    | some n =>
      have hl := rowW_len hr
      rw [List.length_cons] at h
      have e1 : IntKind.wrap .i64 ((t : Int) + ((List.length e : Nat) : Int)) = ((t + e.length : Nat) : Int) := by rw [wrap64] <;> omega
      have := rows_go a0 w es (i + 1) (t + e.length) (by omega)
      simp only [e1, this]
      by_cases hn : n = w
      · subst hn
        simp [sumLen, Nat.add_assoc]
      · have h1 : ((n : Int) != (w : Int)) = true := by simp; omega
        have h2 : (some n == some w) = false := by simpa using hn
        simp [h1, h2]
theorem clause_rowsMay_eq (a0 : List QSym) (rs : List (List Int)) (h : rs.length ≤ 1000000000) : clause_rowsMay a0 rs = some (cond (rowsB a0 rs) (((sumLen rs : Nat) : Int), true) (0, false)) := by
  unfold clause_rowsMay
  rw [clause_rowsMay_L0_go_at0 _ _ _ _ (by unfold maxLen; omega)]
  cases rs with
  | nil => rfl
  | cons r rs =>
    unfold clause_rowsMay_L0_go rowsB
    rw [term_Row_eq, Option.bind_some]
    rw [show ((((0 : Nat) : Int)) == 0) = true from rfl, cond_true]
    dsimp only
    cases hr : rowW a0 r with
    | none => rfl
    | some n =>
      have hl := rowW_len hr
      rw [List.length_cons] at h
      have e1 : IntKind.wrap .i64 (0 + ((List.length r : Nat) : Int)) = ((r.length : Nat) : Int) := by rw [wrap64] <;> omega
      have := rows_go a0 n rs 0 r.length (by omega)
      simp only [e1, this]
      cases hb : rs.all fun q => rowW a0 q == some n with
      | false => simp [caseS]
      | true => simp [caseS, sumLen]

/-- A clause that may be. -/
def mayB (a0 : List QSym) (a1 : List QLit) (a2 : List (List Int)) (a3 : List QLit) : Bool :=
  signB a0 && decide (a1.length ≤ 5) && decide (a2.length ≤ 3) && decide (a3.length ≤ 3) && litsB a0 a1 && rowsB a0 a2 && litsB a0 a3 && decide (sumLen (a1.map (·.2)) + sumLen a2 + sumLen (a3.map (·.2)) ≤ 240)
theorem lits_sum {a0 : List QSym} : (ls : List QLit) → litsB a0 ls = true → sumLen (ls.map (·.2)) ≤ 49 * ls.length
  | [], _ => by simp [sumLen]
  | l :: ls, h => by
    unfold litsB at h
    rw [List.all_cons, Bool.and_eq_true] at h
    have h1 := atomB_len h.1
    have h2 := lits_sum ls h.2
    unfold sumLen at h2 ⊢
    simp only [List.map_cons, List.sum_cons, List.length_cons]
    omega
theorem rows_sum {a0 : List QSym} (rs : List (List Int)) (h : rowsB a0 rs = true) : sumLen rs ≤ 49 * rs.length := by
  cases rs with
  | nil => simp [sumLen]
  | cons r rs =>
    unfold rowsB at h
    dsimp only at h
    cases hr : rowW a0 r with
    | none => rw [hr] at h; cases h
    | some n =>
      rw [hr] at h
      have h1 := rowW_len hr
      have h2 : ∀ qs : List (List Int), (qs.all fun q => rowW a0 q == some n) = true → sumLen qs ≤ 49 * qs.length := by
        intro qs
        induction qs with
        | nil => intro _; simp [sumLen]
        | cons q qs ih =>
          intro hq
          rw [List.all_cons, Bool.and_eq_true] at hq
          have h3 := ih hq.2
          have h4 := rowW_len (by simpa using hq.1)
          unfold sumLen at h3 ⊢
          simp only [List.map_cons, List.sum_cons, List.length_cons]
          omega
      have h5 := h2 rs h
      unfold sumLen at h5 ⊢
      simp only [List.map_cons, List.sum_cons, List.length_cons]
      omega
theorem clause_May_eq (a0 : List QSym) (a1 : List QLit) (a2 : List (List Int)) (a3 : List QLit) : clause_May a0 a1 a2 a3 = some (mayB a0 a1 a2 a3) := by
  unfold clause_May mayB
  rw [sign_May_eq, Option.bind_some]
  cases signB a0 with
  | false => rfl
  | true =>
    by_cases h1 : a1.length ≤ 5
    · by_cases h2 : a2.length ≤ 3
      · by_cases h3 : a3.length ≤ 3
        · simp only [Bool.not_true, cond_false, decide_eq_false (show ¬ (((List.length a1 : Nat) : Int) > 5) by omega), decide_eq_false (show ¬ (((List.length a2 : Nat) : Int) > 3) by omega), decide_eq_false (show ¬ (((List.length a3 : Nat) : Int) > 3) by omega),
            decide_eq_true h1, decide_eq_true h2, decide_eq_true h3, clause_litsMay_eq a0 a1 (by omega), clause_rowsMay_eq a0 a2 (by omega), clause_litsMay_eq a0 a3 (by omega), Option.bind_some, Bool.true_and]
          cases hb1 : litsB a0 a1 with
          | false => rfl
          | true =>
            cases hb2 : rowsB a0 a2 with
            | false => rfl
            | true =>
              cases hb3 : litsB a0 a3 with
              | false => rfl
              | true =>
                have s1 := lits_sum a1 hb1
                have s2 := rows_sum a2 hb2
                have s3 := lits_sum a3 hb3
                simp only [cond_true, Bool.true_and]
                have e1 : IntKind.wrap .i64 (((sumLen (a1.map (·.2)) : Nat) : Int) + ((sumLen a2 : Nat) : Int)) = ((sumLen (a1.map (·.2)) + sumLen a2 : Nat) : Int) := by rw [wrap64] <;> omega
                have e2 : IntKind.wrap .i64 (((sumLen (a1.map (·.2)) + sumLen a2 : Nat) : Int) + ((sumLen (a3.map (·.2)) : Nat) : Int)) = ((sumLen (a1.map (·.2)) + sumLen a2 + sumLen (a3.map (·.2)) : Nat) : Int) := by rw [wrap64] <;> omega
                simp only [e1, e2, Option.some.injEq, decide_eq_decide]
                omega
        · simp only [Bool.not_true, cond_false, decide_eq_false (show ¬ (((List.length a1 : Nat) : Int) > 5) by omega), decide_eq_false (show ¬ (((List.length a2 : Nat) : Int) > 3) by omega), decide_eq_true (show (((List.length a3 : Nat) : Int) > 3) by omega), decide_eq_false h3, cond_true, Bool.and_false, Bool.false_and]
      · simp only [Bool.not_true, cond_false, decide_eq_false (show ¬ (((List.length a1 : Nat) : Int) > 5) by omega), decide_eq_true (show (((List.length a2 : Nat) : Int) > 3) by omega), decide_eq_false h2, cond_true, Bool.and_false, Bool.false_and]
    · simp only [Bool.not_true, cond_false, decide_eq_true (show (((List.length a1 : Nat) : Int) > 5) by omega), decide_eq_false h1, cond_true, Bool.and_false, Bool.false_and]

end
end Go.Abs.Q
/-
  Texts of terms, atoms and answers.
-/
namespace Go.Abs.Q
open Go Go.Abs
section

theorem sk_add {a0 : List QSym} : {xs : List Int} → {n m k : Nat} → sk a0 (n + m) xs = some k → ∃ j, sk a0 n xs = some j ∧ j ≤ k ∧ sk a0 m (xs.drop j) = some (k - j)
  | xs, 0, m, k, h => ⟨0, by cases xs <;> rfl, Nat.zero_le _, by simpa using h⟩
  | [], n + 1, m, k, h => by rw [show n + 1 + m = n + m + 1 from by omega] at h; simp [sk] at h
  | x :: xs, n + 1, m, k, h => by
    rw [show n + 1 + m = n + m + 1 from by omega] at h
    unfold sk at h
    cases ha : arity a0 x with
    | none => rw [ha] at h; cases h
    | some q =>
      rw [ha] at h
      simp only [Option.map_eq_some_iff] at h
      obtain ⟨j, hj, rfl⟩ := h
      rw [show n + m + q = (n + q) + m from by omega] at hj
      obtain ⟨i, h1, h2, h3⟩ := sk_add hj
      refine ⟨i + 1, ?_, by omega, ?_⟩
      · unfold sk; rw [ha]; simp only [h1, Option.map_some]
      · rw [List.drop_succ_cons, h3]; congr 1; omega

/-- So many terms, just up to the end, are so many pieces. -/
theorem cuts_sk {a0 : List QSym} : ∀ (n : Nat) (xs : List Int), sk a0 n xs = some xs.length → ∃ ps, cuts a0 xs = some ps ∧ ps.length = n := by
  intro n
  induction n with
  | zero =>
    intro xs h
    have : xs.length = 0 := by cases xs <;> simp [sk] at h ⊢
    obtain rfl := List.length_eq_zero_iff.1 this
    exact ⟨[], rfl, rfl⟩
  | succ n ih =>
    intro xs h
    rw [Nat.add_comm] at h
    obtain ⟨j, h1, h2, h3⟩ := sk_add h
    have hj := sk_le h1
    have hne : xs ≠ [] := fun e => by subst e; simp at hj; omega
    obtain ⟨ps, h4, h5⟩ := ih (xs.drop j) (by rw [h3, List.length_drop])
    refine ⟨xs.take j :: ps, ?_, by simp [h5]⟩
    rw [cuts_step hne, h1]
    dsimp only
    rw [h4]; rfl

theorem piece_cases {a0 : List QSym} {p : List Int} (h : sk a0 1 p = some p.length) : ∃ x r q, p = x :: r ∧ arity a0 x = some q ∧ sk a0 q r = some r.length := by
  cases p with
  | nil => simp [sk] at h
  | cons x r =>
    unfold sk at h
    cases ha : arity a0 x with
    | none => rw [ha] at h; cases h
    | some q =>
      rw [ha] at h
      simp only [Option.map_eq_some_iff, Nat.zero_add] at h
      obtain ⟨j, hj, he⟩ := h
      rw [List.length_cons] at he
      exact ⟨x, r, q, rfl, ha, by rw [hj]; congr 1; omega⟩

/-- The pieces of a row. -/
theorem pieces_round {a0 : List QSym} (h : SignOk a0) (a1 : List Int) (hl : a1.length ≤ 1099511627776) : ∀ (m i : Nat) (acc ps : List (List Int)) (k : Nat), a1.length - i = m → i ≤ a1.length → acc.length ≤ i → cuts a0 (a1.drop i) = some ps → m < k →
    lp term_Pieces_L0 k (a0, a1, (i : Int), acc) = some (.inl (acc ++ ps)) := by
  intro m
  induction m using Nat.strongRecOn with
  | _ m ih =>
    intro i acc ps k hm hi hacc hc hk
    obtain ⟨k, rfl⟩ : ∃ k', k = k' + 1 := ⟨k - 1, by omega⟩
    rw [lp_succ]
    have key := fun j acc' ps' (h1 : i < j) h2 h3 h4 => ih (a1.length - j) (by omega) j acc' ps' k rfl h2 h3 h4 (by omega)
    generalize lp term_Pieces_L0 k = rec at key ⊢
    unfold term_Pieces_L0
    by_cases he : i = a1.length
    · subst he
      rw [List.drop_length, cuts_nil] at hc
      injection hc with hc; subst hc
      simp
    · have hlt : i < a1.length := by omega
      have hne : a1.drop i ≠ [] := by simp; omega
      rw [cuts_step hne] at hc
      simp only [decide_eq_true (show (i : Int) < ((List.length a1 : Nat) : Int) by omega), cond_true, term_Skip_eq h a1 hl, Option.bind_some]
      cases hs : sk a0 1 (a1.drop i) with
      | none => rw [hs] at hc; cases hc
      | some j =>
        rw [hs] at hc
        simp only [Option.map_eq_some_iff] at hc
        obtain ⟨qs, hq, rfl⟩ := hc
        have hj := sk_le hs
        rw [List.length_drop] at hj
        have e1 : slc2 a1 (some (i : Int)) (some ((i + j : Nat) : Int)) = some ((a1.drop i).take j) := by
          show slc a1 _ _ = _
          unfold slc
          rw [decide_eq_true (show (0 : Int) ≤ (i : Int) by omega), decide_eq_true (show (i : Int) ≤ ((i + j : Nat) : Int) by omega), decide_eq_true (show ((i + j : Nat) : Int) ≤ ((a1.length : Nat) : Int) by omega)]
          simp only [cond_true, Int.toNat_natCast, Option.some.injEq]
          rw [List.drop_take]; congr 1; omega
        simp only [Bool.not_true, cond_false, e1, Option.bind_some, List.length_singleton, room_ok (show (acc.length + 1) * 24 ≤ 140737488351232 by omega), cond_true]
        rw [List.drop_drop] at hq
        rw [key (i + j) _ qs (by omega) (by omega) (by simp; omega) hq]
        simp
theorem term_Pieces_eq {a0 : List QSym} (h : SignOk a0) {a1 : List Int} (hl : a1.length ≤ 1099511627776) {ps : List (List Int)} (hc : cuts a0 a1 = some ps) : term_Pieces a0 a1 = some ps := by
  unfold term_Pieces
  have := pieces_round h a1 hl a1.length 0 [] ps fuel rfl (Nat.zero_le _) (Nat.zero_le _) hc (by unfold fuel; omega)
  rw [show ((0 : Nat) : Int) = 0 from rfl] at this
  rw [this]
  rfl

theorem cuts_len {a0 : List QSym} {xs : List Int} {ps : List (List Int)} (h : cuts a0 xs = some ps) : ps.length ≤ xs.length := by
  obtain ⟨h1, h2⟩ := cuts_flat xs.length xs ps (Nat.le_refl _) h
  have h3 : ∀ qs : List (List Int), (∀ p ∈ qs, p ≠ []) → qs.length ≤ qs.flatten.length := by
    intro qs
    induction qs with
    | nil => intro _; simp
    | cons q qs ih =>
      intro hq
      have := ih fun p hp => hq p (by simp [hp])
      have h4 := List.length_pos_iff.2 (hq q (by simp))
      simp only [List.flatten_cons, List.length_append, List.length_cons]
      omega
  have := h3 ps fun p hp => (h2 p hp).1
  rw [h1] at this
  exact this

def nameOf (a0 : List QSym) (x : Int) : Str := match a0[x.toNat]? with
  | some e => e.1
  | none => []
/-- One term's text, if its arguments' texts are known. -/
def pieceT (a0 : List QSym) (f : List Int → Str) : List Int → Str
  | [] => []
  | x :: r => cond (decide (x < 0)) ([88] ++ dig2 (-1 - x).toNat) (cond r.isEmpty (nameOf a0 x) (((nameOf a0 x ++ [40]) ++ f r) ++ [41]))
theorem pieceT_cons (a0 : List QSym) (f : List Int → Str) (x : Int) (r : List Int) : pieceT a0 f (x :: r) = cond (decide (x < 0)) ([88] ++ dig2 (-1 - x).toNat) (cond r.isEmpty (nameOf a0 x) (((nameOf a0 x ++ [40]) ++ f r) ++ [41])) := rfl
def showN (a0 : List QSym) : Nat → List Int → Str
  | 0, _ => []
  | n + 1, xs => Lib.join (((cuts a0 xs).getD []).map (pieceT a0 (showN a0 n))) [44, 32]
def showTs (a0 : List QSym) (xs : List Int) : Str := showN a0 (xs.length + 1) xs

theorem mem_len {ps : List (List Int)} {p : List Int} (h : p ∈ ps) : p.length ≤ ps.flatten.length := by
  induction ps with
  | nil => cases h
  | cons q qs ih =>
    rw [List.flatten_cons, List.length_append]
    rcases List.mem_cons.1 h with rfl | h
    · omega
    · have := ih h; omega
theorem pieceT_congr {a0 : List QSym} {f g : List Int → Str} {p : List Int} (h : ∀ x r, p = x :: r → f r = g r) : pieceT a0 f p = pieceT a0 g p := by
  cases p with
  | nil => rfl
  | cons x r => unfold pieceT; dsimp only; rw [h x r rfl]
theorem showN_more {a0 : List QSym} : ∀ (n m : Nat) (xs : List Int), xs.length < n → n ≤ m → showN a0 m xs = showN a0 n xs := by
  intro n
  induction n with
  | zero => intro m xs h; omega
  | succ n ih =>
    intro m xs h hm
    obtain ⟨m, rfl⟩ : ∃ m', m = m' + 1 := ⟨m - 1, by omega⟩
    unfold showN
    cases hc : cuts a0 xs with
    | none => rfl
    | some ps =>
      have hf := cuts_flat xs.length xs ps (Nat.le_refl _) hc
      show Lib.join (ps.map _) _ = Lib.join (ps.map _) _
      congr 1
      refine List.map_congr_left fun p hp => pieceT_congr fun x r e => ?_
      have := mem_len hp
      rw [hf.1, e, List.length_cons] at this
      exact ih m r (by omega) (by omega)
theorem showTs_eq {a0 : List QSym} {xs : List Int} {ps : List (List Int)} (h : cuts a0 xs = some ps) : showTs a0 xs = Lib.join (ps.map (pieceT a0 (showTs a0))) [44, 32] := by
  unfold showTs
  show showN a0 (xs.length + 1) xs = _
  rw [showN, h]
  have hf := cuts_flat xs.length xs ps (Nat.le_refl _) h
  show Lib.join (ps.map _) _ = _
  congr 1
  refine List.map_congr_left fun p hp => pieceT_congr fun x r e => ?_
  have := mem_len hp
  rw [hf.1, e, List.length_cons] at this
  exact showN_more (r.length + 1) xs.length r (by omega) (by omega)

def lensS (xs : List Str) : Nat := (xs.map List.length).sum
theorem join_le (xs : List Str) (sep : Str) : (Lib.join xs sep).length ≤ lensS xs + sep.length * xs.length := by
  cases xs with
  | nil => simp [Lib.join_nil]
  | cons x r =>
    rw [Lib.join_length, show Lib.lens (x :: r) = lensS (x :: r) from rfl, List.length_cons, Nat.mul_succ]
    omega

theorem joinF_eq {xs : List Str} {sep : Str} (h1 : xs.length ≤ 1099511627776) (h2 : lensS xs ≤ 1099511627776) (h3 : sep.length ≤ 8) : joinF xs sep = some (Lib.join xs sep) := by
  have := join_le xs sep
  have h4 : sep.length * xs.length ≤ 8 * 1099511627776 := Nat.mul_le_mul h3 h1
  unfold joinF
  rw [decide_eq_true (show xs.length ≤ 140737488355328 by omega), decide_eq_true (show (Lib.join xs sep).length ≤ 140737488355328 by omega)]
  rfl

theorem dig2_len (n : Nat) : 1 ≤ (dig2 n).length ∧ (dig2 n).length ≤ 2 := by
  unfold dig2
  cases decide (n < 10) <;> simp
theorem itoaF_eq {n : Int} (h0 : 0 ≤ n) (h1 : n < 100) : itoaF n = some (dig2 n.toNat) := by
  unfold itoaF
  rw [decide_eq_true h0, decide_eq_true h1]; rfl
theorem arity_neg {a0 : List QSym} {x : Int} {q : Nat} (h : arity a0 x = some q) (hx : x < 0) : -24 ≤ x ∧ q = 0 := by
  unfold arity at h
  rw [decide_eq_true hx, cond_true] at h
  cases hd : decide (-24 ≤ x) with
  | false => rw [hd] at h; cases h
  | true => rw [hd] at h; injection h with h; exact ⟨of_decide_eq_true hd, h.symm⟩
theorem arity_pos {a0 : List QSym} {x : Int} {q : Nat} (h : arity a0 x = some q) (hx : ¬ x < 0) : ∃ e, gx a0 x = some e ∧ a0[x.toNat]? = some e ∧ e.2.1 ≠ 0 ∧ q = e.2.2.1.toNat := by
  unfold arity at h
  rw [decide_eq_false hx, cond_false] at h
  cases he : a0[x.toNat]? with
  | none => rw [he] at h; cases h
  | some e =>
    rw [he] at h
    have hg : gx a0 x = some e := by
      unfold gx
      rw [decide_eq_true (show 0 ≤ x by omega), cond_true, he]
    dsimp only at h
    cases hz : (e.2.1 == 0) with
    | true => rw [hz] at h; cases h
    | false => rw [hz] at h; injection h with h; exact ⟨e, hg, rfl, by simpa using hz, h.symm⟩

theorem show_go {a0 : List QSym} (h : SignOk a0) (rf : (List QSym × List Int) → Option Str) (f : List Int → Str) : ∀ (es : List (List Int)) (acc : List Str),
    (∀ p ∈ es, sk a0 1 p = some p.length) → (∀ p ∈ es, ∀ x r, p = x :: r → r ≠ [] → rf (a0, r) = some (f r) ∧ (f r).length ≤ 12 * r.length) → es.flatten.length ≤ 1000000000 → acc.length + es.length ≤ 1000000000 →
    formula_ShowTerms_L0_go rf a0 es acc = some (acc ++ es.map (pieceT a0 f)) ∧ lensS (es.map (pieceT a0 f)) + 2 * es.length ≤ 12 * es.flatten.length := by
  intro es
  induction es with
  | nil => intro acc _ _ _ _; exact ⟨by simp [formula_ShowTerms_L0_go], by simp [lensS]⟩
  | cons e es ih =>
    intro acc hp hr hl hacc
    obtain ⟨x, r, q, rfl, ha, hq⟩ := piece_cases (hp e (by simp))
    rw [List.flatten_cons, List.length_append, List.length_cons] at hl
    rw [List.length_cons] at hacc
    have key := fun t => ih (acc ++ [t]) (fun p hm => hp p (by simp [hm])) (fun p hm => hr p (by simp [hm])) (by omega) (by simp; omega)
    unfold formula_ShowTerms_L0_go
    simp only [gx_zero, List.getElem?_cons_zero, Option.bind_some, List.map_cons, List.flatten_cons, List.length_append, List.length_cons, List.length_nil]
    have hlens : lensS (pieceT a0 f (x :: r) :: es.map (pieceT a0 f)) = (pieceT a0 f (x :: r)).length + lensS (es.map (pieceT a0 f)) := by simp [lensS]
    rw [hlens]
    by_cases hx : x < 0
    · obtain ⟨hx2, rfl⟩ := arity_neg ha hx
      have hd := dig2_len (-1 - x).toNat
      have hpt : pieceT a0 f (x :: r) = [88] ++ dig2 (-1 - x).toNat := by rw [pieceT_cons, decide_eq_true hx]; rfl
      rw [hpt]
      have hk := key ([88] ++ dig2 (-1 - x).toNat)
      simp only [decide_eq_true hx, cond_true, term_Number_eq (show -9223372036854775808 ≤ x by omega) (show x ≤ 9223372036854775807 by omega), Option.bind_some, strconv_Itoa, itoaF_eq (show 0 ≤ -1 - x by omega) (show -1 - x < 100 by omega),
        decide_eq_true (show 0 + 1 + (dig2 (-1 - x).toNat).length < 4611686018427387904 by omega), room_ok (show (acc.length + (0 + 1)) * 16 ≤ 140737488351232 by omega), hk.1]
      refine ⟨by simp, ?_⟩
      have := hk.2
      simp only [List.length_append, List.length_cons, List.length_nil]
      omega
    · obtain ⟨e, he1, he2, he3, rfl⟩ := arity_pos ha hx
      have hat := h.at he2
      have hnm : nameOf a0 x = e.1 := by unfold nameOf; rw [he2]
      by_cases hr0 : r = []
      · subst hr0
        have hpt : pieceT a0 f [x] = e.1 := by rw [pieceT_cons, decide_eq_false hx, hnm]; rfl
        rw [hpt]
        have hk := key e.1
        simp only [decide_eq_false hx, cond_false, List.length_nil, show (((0 + 1 : Nat) : Int) == 1) = true from rfl, cond_true, he1, Option.bind_some, room_ok (show (acc.length + (0 + 1)) * 16 ≤ 140737488351232 by omega), hk.1]
        refine ⟨by simp, ?_⟩
        have := hk.2
        omega
      · have hrl : 0 < r.length := List.length_pos_iff.2 hr0
        obtain ⟨hf1, hf2⟩ := hr (x :: r) (by simp) x r rfl hr0
        have hpt : pieceT a0 f (x :: r) = ((e.1 ++ [40]) ++ f r) ++ [41] := by
          rw [pieceT_cons, decide_eq_false hx, hnm, cond_false]
          cases r with
          | nil => exact absurd rfl hr0
          | cons _ _ => rfl
        rw [hpt]
        have hk := key (((e.1 ++ [40]) ++ f r) ++ [41])
        simp only [decide_eq_false hx, cond_false, show (((r.length + 1 : Nat) : Int) == 1) = false from by simp; omega, he1, Option.bind_some, slc_tail, hf1, cond_true,
          decide_eq_true (show e.1.length + (0 + 1) < 4611686018427387904 by omega), decide_eq_true (show e.1.length + (0 + 1) + (f r).length < 4611686018427387904 by omega),
          decide_eq_true (show e.1.length + (0 + 1) + (f r).length + (0 + 1) < 4611686018427387904 by omega), room_ok (show (acc.length + (0 + 1)) * 16 ≤ 140737488351232 by omega), hk.1]
        refine ⟨by simp, ?_⟩
        have := hk.2
        simp only [List.length_append, List.length_cons, List.length_nil]
        omega

theorem showTerms_R {a0 : List QSym} (h : SignOk a0) : ∀ (n : Nat) (xs : List Int) (ps : List (List Int)) (k : Nat), xs.length ≤ n → xs.length ≤ 1000000000 → cuts a0 xs = some ps → n < k →
    formula_ShowTerms_R k (a0, xs) = some (showTs a0 xs) ∧ (showTs a0 xs).length ≤ 12 * xs.length := by
  intro n
  induction n with
  | zero =>
    intro xs ps k h1 _ h2 hk
    obtain rfl : xs = [] := List.length_eq_zero_iff.1 (by omega)
    obtain ⟨k, rfl⟩ : ∃ k', k = k' + 1 := ⟨k - 1, by omega⟩
    injection h2 with h2; subst h2
    show formula_ShowTerms_S (formula_ShowTerms_R k) a0 [] = _ ∧ _
    unfold formula_ShowTerms_S
    rw [term_Pieces_eq h (by simp) (cuts_nil a0), Option.bind_some, formula_ShowTerms_L0_go_at0 _ _ _ _ (by simp)]
    exact ⟨rfl, Nat.zero_le _⟩
  | succ n ih =>
    intro xs ps k h1 hb h2 hk
    obtain ⟨k, rfl⟩ : ∃ k', k = k' + 1 := ⟨k - 1, by omega⟩
    show formula_ShowTerms_S (formula_ShowTerms_R k) a0 xs = _ ∧ _
    unfold formula_ShowTerms_S
    have hf := cuts_flat xs.length xs ps (Nat.le_refl _) h2
    have hlen := cuts_len h2
    rw [term_Pieces_eq h (by omega) h2, Option.bind_some, formula_ShowTerms_L0_go_at0 _ _ _ _ (by unfold maxLen; omega)]
    have hg := show_go h (formula_ShowTerms_R k) (showTs a0) ps [] (fun p hp => (hf.2 p hp).2) (fun p hp x r e hr => by
      obtain ⟨x', r', q, e', ha, hq⟩ := piece_cases (hf.2 p hp).2
      rw [e] at e'
      injection e' with e1 e2; subst e1; subst e2
      obtain ⟨qs, hqs, _⟩ := cuts_sk q r hq
      have := mem_len hp
      rw [hf.1, e, List.length_cons] at this
      exact ih r qs k (by omega) (by omega) hqs (by omega)) (by rw [hf.1]; exact hb) (by simp; omega)
    rw [hf.1] at hg
    rw [hg.1, Option.bind_some, List.nil_append, strings_Join, joinF_eq (by simp; omega) (by omega) (by decide), showTs_eq h2]
    refine ⟨rfl, ?_⟩
    have := join_le (ps.map (pieceT a0 (showTs a0))) [44, 32]
    simp only [List.length_map, List.length_cons, List.length_nil] at this
    omega
theorem formula_ShowTerms_eq {a0 : List QSym} (h : SignOk a0) {xs : List Int} {ps : List (List Int)} (hl : xs.length ≤ 1000000000) (hc : cuts a0 xs = some ps) : formula_ShowTerms a0 xs = some (showTs a0 xs) ∧ (showTs a0 xs).length ≤ 12 * xs.length := by
  unfold formula_ShowTerms
  exact showTerms_R h xs.length xs ps fuel (Nat.le_refl _) hl hc (by unfold fuel; omega)

end
end Go.Abs.Q
/-
  Texts of atoms and answers.
-/
namespace Go.Abs.Q
open Go Go.Abs
section

def showA (a0 : List QSym) : List Int → Str
  | [] => []
  | x :: r => cond (x == 0) (match (cuts a0 r).getD [] with
    | [p, q] => (showTs a0 p ++ [32, 61, 32]) ++ showTs a0 q
    | _ => []) (cond r.isEmpty (nameOf a0 x) (((nameOf a0 x ++ [40]) ++ showTs a0 r) ++ [41]))
theorem showA_cons (a0 : List QSym) (x : Int) (r : List Int) : showA a0 (x :: r) = cond (x == 0) (match (cuts a0 r).getD [] with
    | [p, q] => (showTs a0 p ++ [32, 61, 32]) ++ showTs a0 q
    | _ => []) (cond r.isEmpty (nameOf a0 x) (((nameOf a0 x ++ [40]) ++ showTs a0 r) ++ [41])) := rfl

/-- What an atom is. -/
theorem atomB_spec {a0 : List QSym} {xs : List Int} (h : atomB a0 xs = true) : ∃ x r e ps, xs = x :: r ∧ 0 ≤ x ∧ a0[x.toNat]? = some e ∧ gx a0 x = some e ∧ e.2.1 = 0 ∧ signB a0 = true ∧ r.length ≤ 48 ∧ cuts a0 r = some ps ∧ ((ps.length : Nat) : Int) = e.2.2.1 := by
  unfold atomB at h
  cases xs with
  | nil => cases h
  | cons x r =>
    simp only [Bool.and_eq_true, decide_eq_true_eq] at h
    obtain ⟨h0, h⟩ := h
    cases he : a0[x.toNat]? with
    | none => rw [he] at h; cases h
    | some e =>
      rw [he] at h
      simp only [Bool.and_eq_true] at h
      obtain ⟨h1, h⟩ := h
      cases hb : beginsB a0 r with
      | none => rw [hb] at h; cases h
      | some ps =>
        rw [hb] at h
        unfold beginsB at hb
        cases hs : signB a0 with
        | false => rw [hs] at hb; cases hb
        | true =>
          cases hl : decide (r.length ≤ 48) with
          | false => rw [hs, hl] at hb; cases hb
          | true =>
            rw [hs, hl] at hb
            refine ⟨x, r, e, ps, rfl, h0, he, ?_, by simpa using h1, rfl, of_decide_eq_true hl, hb, by simpa using h⟩
            unfold gx
            rw [decide_eq_true h0, cond_true, he]

theorem formula_ShowAtom_eq {a0 : List QSym} {xs : List Int} (h : atomB a0 xs = true) : formula_ShowAtom a0 xs = some (showA a0 xs) ∧ (showA a0 xs).length ≤ 12 * xs.length + 3 := by
  obtain ⟨x, r, e, ps, rfl, h0, he, hg, hk, hs, hl, hc, hn⟩ := atomB_spec h
  have hS := signB_ok hs
  have hat := hS.at he
  have hnm : nameOf a0 x = e.1 := by unfold nameOf; rw [he]
  obtain ⟨t1, t2⟩ := formula_ShowTerms_eq hS (by omega) hc
  unfold formula_ShowAtom
  rw [showA_cons]
  simp only [gx_zero, List.getElem?_cons_zero, Option.bind_some, List.length_cons, slc_tail]
  by_cases hx : x = 0
  · subst hx
    have : e = equalsQ := by
      have := hS.eq
      rw [show ((0 : Int).toNat) = 0 from rfl] at he
      rw [he] at this
      injection this
    subst this
    have hn : ps.length = 2 := by have : ((ps.length : Nat) : Int) = 2 := hn; omega
    match ps, hn with
    | [p, q], _ =>
      have hf := cuts_flat r.length r [p, q] (Nat.le_refl _) hc
      have hlen : p.length + q.length = r.length := by rw [← hf.1]; simp
      have hp := hf.2 p (by simp)
      have hq := hf.2 q (by simp)
      obtain ⟨ps1, hp1, _⟩ := cuts_sk 1 p hp.2
      obtain ⟨ps2, hp2, _⟩ := cuts_sk 1 q hq.2
      obtain ⟨u1, u2⟩ := formula_ShowTerms_eq hS (by omega) hp1
      obtain ⟨v1, v2⟩ := formula_ShowTerms_eq hS (by omega) hp2
      rw [show ((0 : Int) == 0) = true from rfl, cond_true, term_Pieces_eq hS (by omega) hc, hc]
      have e1 : inR 0 (0 + 1 + 1) = some 0 := rfl
      have e2 : inR 1 (0 + 1 + 1) = some 1 := rfl
      simp only [Option.bind_some, e1, e2, List.getElem?_cons_zero, List.getElem?_cons_succ, u1, v1, List.length_cons, List.length_nil, List.length_append, cond_true,
        decide_eq_true (show (showTs a0 p).length + (0 + 1 + 1 + 1) < 4611686018427387904 by omega), decide_eq_true (show (showTs a0 p).length + (0 + 1 + 1 + 1) + (showTs a0 q).length < 4611686018427387904 by omega), Option.getD_some]
      refine ⟨trivial, ?_⟩
      omega
  · rw [show (x == 0) = false from by simpa using hx, cond_false, cond_false]
    cases r with
    | nil =>
      simp only [List.length_nil, show (((0 + 1 : Nat) : Int) == 1) = true from rfl, cond_true, hg, Option.bind_some, List.isEmpty_nil, hnm]
      exact ⟨trivial, by omega⟩
    | cons y r =>
      simp only [List.length_cons, show (((r.length + 1 + 1 : Nat) : Int) == 1) = false from by simp <;> omega, cond_false, hg, Option.bind_some, List.isEmpty_cons, hnm, List.length_append, List.length_nil, t1, cond_true,
        decide_eq_true (show e.1.length + (0 + 1) < 4611686018427387904 by omega), decide_eq_true (show e.1.length + (0 + 1) + (showTs a0 (y :: r)).length < 4611686018427387904 by rw [List.length_cons] at *; omega),
        decide_eq_true (show e.1.length + (0 + 1) + (showTs a0 (y :: r)).length + (0 + 1) < 4611686018427387904 by rw [List.length_cons] at *; omega)]
      refine ⟨trivial, ?_⟩
      rw [List.length_cons] at t2
      omega

def litT (a0 : List QSym) (l : QLit) : Str := cond l.1 ([126] ++ showA a0 l.2) (showA a0 l.2)
def rowT (a0 : List QSym) (r : List Int) : Str := ([40] ++ showTs a0 r) ++ [41]
theorem litT_len {a0 : List QSym} {l : QLit} (h : atomB a0 l.2 = true) : (litT a0 l).length ≤ 12 * l.2.length + 4 := by
  have := (formula_ShowAtom_eq h).2
  unfold litT
  cases l.1 <;> simp <;> omega
theorem lits_text {a0 : List QSym} : (es : List QLit) → (acc : List Str) → litsB a0 es = true → acc.length + es.length ≤ 1000000 → ask_Show_L1_go a0 es acc = some (acc ++ es.map (litT a0)) ∧ lensS (es.map (litT a0)) ≤ 12 * sumLen (es.map (·.2)) + 4 * es.length
  | [], acc, _, _ => ⟨by simp [ask_Show_L1_go], by simp [lensS]⟩
  | e :: es, acc, h, hl => by
    unfold litsB at h
    rw [List.all_cons, Bool.and_eq_true] at h
    obtain ⟨h1, h2⟩ := formula_ShowAtom_eq h.1
    have hb := atomB_len h.1
    have hlt := litT_len h.1
    rw [List.length_cons] at hl
    obtain ⟨k1, k2⟩ := lits_text es (acc ++ [litT a0 e]) h.2 (by simp <;> omega)
    refine ⟨?_, ?_⟩
    · unfold ask_Show_L1_go
      rw [h1, Option.bind_some]
      unfold litT at k1
      cases he : e.1 with
      | true =>
        rw [he, cond_true] at k1
        simp only [cond_true, List.length_cons, List.length_nil, decide_eq_true (show 0 + 1 + (showA a0 e.2).length < 4611686018427387904 by omega), room_ok (show (acc.length + (0 + 1)) * 16 ≤ 140737488351232 by omega), k1]
        simp [litT, he]
      | false =>
        rw [he, cond_false] at k1
        simp only [cond_false, cond_true, List.length_cons, List.length_nil, room_ok (show (acc.length + (0 + 1)) * 16 ≤ 140737488351232 by omega), k1]
        simp [litT, he]
    · unfold lensS sumLen at k2 ⊢
      simp only [List.map_cons, List.sum_cons, List.length_cons]
      omega

theorem rowW_spec {a0 : List QSym} {r : List Int} {n : Nat} (h : rowW a0 r = some n) : ∃ ps, cuts a0 r = some ps ∧ ps.length = n ∧ r.length ≤ 48 ∧ signB a0 = true := by
  have hl := rowW_len h
  unfold rowW beginsB at h
  cases hs : signB a0 with
  | false => rw [hs] at h; cases h
  | true =>
    rw [hs, decide_eq_true hl] at h
    simp only [Bool.and_true, cond_true, Option.map_eq_some_iff] at h
    obtain ⟨ps, h1, h2⟩ := h
    exact ⟨ps, h1, h2, hl, rfl⟩
theorem rowsB_all {a0 : List QSym} {rs : List (List Int)} (h : rowsB a0 rs = true) : ∃ n, ∀ r ∈ rs, rowW a0 r = some n := by
  cases rs with
  | nil => exact ⟨0, fun r hr => by cases hr⟩
  | cons r rs =>
    unfold rowsB at h
    dsimp only at h
    cases hr : rowW a0 r with
    | none => rw [hr] at h; cases h
    | some n =>
      rw [hr] at h
      refine ⟨n, fun q hq => ?_⟩
      rcases List.mem_cons.1 hq with rfl | hq
      · exact hr
      · simpa using List.all_eq_true.1 h q hq
theorem rows_text {a0 : List QSym} {n : Nat} : (es : List (List Int)) → (acc : List Str) → (∀ r ∈ es, rowW a0 r = some n) → acc.length + es.length ≤ 1000000 → ask_Show_L0_go a0 es acc = some (acc ++ es.map (rowT a0)) ∧ lensS (es.map (rowT a0)) ≤ 12 * sumLen es + 2 * es.length
  | [], acc, _, _ => ⟨by simp [ask_Show_L0_go], by simp [lensS]⟩
  | e :: es, acc, h, hl => by
    obtain ⟨ps, hc, _, hb, hs⟩ := rowW_spec (h e (by simp))
    obtain ⟨h1, h2⟩ := formula_ShowTerms_eq (signB_ok hs) (by omega) hc
    rw [List.length_cons] at hl
    obtain ⟨k1, k2⟩ := rows_text es (acc ++ [rowT a0 e]) (fun r hr => h r (by simp [hr])) (by simp <;> omega)
    refine ⟨?_, ?_⟩
    · unfold ask_Show_L0_go
      rw [h1, Option.bind_some]
      unfold rowT at k1
      simp only [cond_true, List.length_append, List.length_cons, List.length_nil, decide_eq_true (show 0 + 1 + (showTs a0 e).length < 4611686018427387904 by omega), decide_eq_true (show 0 + 1 + (showTs a0 e).length + (0 + 1) < 4611686018427387904 by omega),
        room_ok (show (acc.length + (0 + 1)) * 16 ≤ 140737488351232 by omega), k1]
      simp [rowT]
    · unfold lensS sumLen at k2 ⊢
      simp only [List.map_cons, List.sum_cons, List.length_cons]
      have : (rowT a0 e).length = (showTs a0 e).length + 2 := by simp [rowT]
      omega

/-- An answer's text. -/
def ansT (a0 : List QSym) (a2 : List (List Int)) (a3 : List QLit) : Str := Lib.join (a2.map (rowT a0)) [32, 111, 114, 32] ++ cond a3.isEmpty [] ([32, 105, 102, 32] ++ Lib.join (a3.map (litT a0)) [32, 38, 32])
def tellB (a0 : List QSym) (a1 : List QLit) (a2 : List (List Int)) (a3 : List QLit) : Bool := mayB a0 a1 a2 a3 && a1.isEmpty && !(a2.isEmpty)

theorem mayB_spec {a0 : List QSym} {a1 : List QLit} {a2 : List (List Int)} {a3 : List QLit} (h : mayB a0 a1 a2 a3 = true) : signB a0 = true ∧ a1.length ≤ 5 ∧ a2.length ≤ 3 ∧ a3.length ≤ 3 ∧ litsB a0 a1 = true ∧ rowsB a0 a2 = true ∧ litsB a0 a3 = true ∧ sumLen (a1.map (·.2)) + sumLen a2 + sumLen (a3.map (·.2)) ≤ 240 := by
  unfold mayB at h
  simp only [Bool.and_eq_true, decide_eq_true_eq] at h
  exact ⟨h.1.1.1.1.1.1.1, h.1.1.1.1.1.1.2, h.1.1.1.1.1.2, h.1.1.1.1.2, h.1.1.1.2, h.1.1.2, h.1.2, h.2⟩
theorem mayB_mk {a0 : List QSym} {a1 : List QLit} {a2 : List (List Int)} {a3 : List QLit} (h1 : signB a0 = true) (h2 : a1.length ≤ 5) (h3 : a2.length ≤ 3) (h4 : a3.length ≤ 3) (h5 : litsB a0 a1 = true) (h6 : rowsB a0 a2 = true) (h7 : litsB a0 a3 = true)
    (h8 : sumLen (a1.map (·.2)) + sumLen a2 + sumLen (a3.map (·.2)) ≤ 240) : mayB a0 a1 a2 a3 = true := by
  unfold mayB
  simp only [h1, decide_eq_true h2, decide_eq_true h3, decide_eq_true h4, h5, h6, h7, decide_eq_true h8, Bool.and_self]

theorem ask_Show_eq (a0 : List QSym) (a1 : List QLit) (a2 : List (List Int)) (a3 : List QLit) : ask_Show a0 a1 a2 a3 = some (cond (tellB a0 a1 a2 a3) (ansT a0 a2 a3, 0) ([], 2400)) := by
  unfold ask_Show tellB
  rw [clause_May_eq, Option.bind_some]
  cases hm : mayB a0 a1 a2 a3 with
  | false => rfl
  | true =>
    obtain ⟨hs, h1, h2, h3, h4, h5, h6, h7⟩ := mayB_spec hm
    cases a1 with
    | cons l a1 => simp only [Bool.not_true, cond_false, decide_eq_true (show (((List.length (l :: a1) : Nat) : Int) > 0) by simp <;> omega), cond_true, List.isEmpty_cons, Bool.and_false, Bool.false_and]
    | nil =>
      cases a2 with
      | nil => rfl
      | cons r a2 =>
        obtain ⟨n, hn⟩ := rowsB_all h5
        obtain ⟨t1, t2⟩ := rows_text (r :: a2) [] hn (by simp at h2 ⊢; omega)
        obtain ⟨u1, u2⟩ := lits_text a3 [] h6 (by simp <;> omega)
        simp only [Bool.not_true, cond_false, List.length_nil, show decide ((((0 : Nat)) : Int) > 0) = false from rfl, show (((List.length (r :: a2) : Nat) : Int) == 0) = false from by simp <;> omega]
        rw [ask_Show_L0_go_at0 _ _ _ _ _ _ (by unfold maxLen; omega), t1, Option.bind_some, ask_Show_L1_go_at0 _ _ _ _ (by unfold maxLen; omega), u1, Option.bind_some, List.nil_append, List.nil_append, strings_Join, joinF_eq (by simp only [List.length_map]; omega) (by omega) (by decide), Option.bind_some]
        have j1 := join_le ((r :: a2).map (rowT a0)) [32, 111, 114, 32]
        rw [List.length_map] at j1
        rw [List.length_map]
        cases a3 with
        | nil => simp [ansT]
        | cons l a3 =>
          have j2 := join_le ((l :: a3).map (litT a0)) [32, 38, 32]
          rw [List.length_map] at j2
          simp only [decide_eq_true (show (((List.length (l :: a3) : Nat) : Int) > 0) by simp <;> omega), cond_true, strings_Join, joinF_eq (xs := (l :: a3).map (litT a0)) (sep := [32, 38, 32]) (by simp only [List.length_map]; omega) (by omega) (by decide), Option.bind_some]
          have e4 : ([32, 105, 102, 32] : Str).length = 4 := rfl
          have e3 : ([32, 111, 114, 32] : Str).length = 4 := rfl
          have e5 : ([32, 38, 32] : Str).length = 3 := rfl
          rw [e3] at j1
          rw [e5] at j2
          have b1 : (List.length ([32, 105, 102, 32] : Str) + List.length (Lib.join ((l :: a3).map (litT a0)) [32, 38, 32])) < 4611686018427387904 := by rw [e4]; omega
          have b2 : (List.length (Lib.join ((r :: a2).map (rowT a0)) [32, 111, 114, 32]) + List.length ([32, 105, 102, 32] ++ Lib.join ((l :: a3).map (litT a0)) [32, 38, 32])) < 4611686018427387904 := by rw [List.length_append, e4]; omega
          rw [decide_eq_true b1, cond_true, decide_eq_true b2, cond_true]
          simp [ansT]

theorem joinTail_snoc (sep : Str) (r : List Str) (y : Str) : Lib.joinTail sep (r ++ [y]) = Lib.joinTail sep r ++ sep ++ y := by simp [Lib.joinTail]
theorem parts_go {a0 : List QSym} {n : Nat} : (es : List (List Int)) → (pre : List (List Int)) → (∀ r ∈ es, rowW a0 r = some n ∧ mayB a0 [] [r] [] = true) → (Lib.join (pre.map (rowT a0)) [32, 111, 114, 32]).length + 2000 * es.length ≤ 1000000 →
    law24_TellParts_L0_go a0 es pre.length (Lib.join (pre.map (rowT a0)) [32, 111, 114, 32]) = some (.inl (Lib.join ((pre ++ es).map (rowT a0)) [32, 111, 114, 32]))
  | [], pre, _, _ => by simp [law24_TellParts_L0_go]
  | e :: es, pre, h, hl => by
    obtain ⟨hw, hm⟩ := h e (by simp)
    obtain ⟨ps, hc, _, hb, hs⟩ := rowW_spec hw
    have hlen := (formula_ShowTerms_eq (signB_ok hs) (by omega) hc).2
    have hr : (rowT a0 e).length = (showTs a0 e).length + 2 := by simp [rowT]
    have ht : tellB a0 [] [e] [] = true := by unfold tellB; rw [hm]; rfl
    have hans : ansT a0 [e] [] = rowT a0 e := by
      show Lib.join [rowT a0 e] [32, 111, 114, 32] ++ [] = rowT a0 e
      rw [List.append_nil, Lib.join_one]
    rw [List.length_cons] at hl
    unfold law24_TellParts_L0_go
    rw [ask_Show_eq, ht, cond_true, hans, Option.bind_some]
    have hn : law0_Num (rowT a0 e, (0 : Int)).2 = some 0 := rfl
    rw [hn, Option.bind_some]
    rw [show ((0 : Int) != 0) = false from rfl, cond_false]
    have hj : Lib.join ((pre ++ [e]).map (rowT a0)) [32, 111, 114, 32] = cond (decide ((pre.length : Int) > 0)) ((Lib.join (pre.map (rowT a0)) [32, 111, 114, 32] ++ [32, 111, 114, 32]) ++ rowT a0 e) (Lib.join (pre.map (rowT a0)) [32, 111, 114, 32] ++ rowT a0 e) := by
      cases pre with
      | nil => simp [Lib.join_one, Lib.join_nil]
      | cons p pre =>
        rw [decide_eq_true (show (((p :: pre).length : Nat) : Int) > 0 by simp <;> omega), cond_true]
        simp only [List.cons_append, List.map_cons, List.map_append, List.map_nil]
        rw [Lib.join_cons, Lib.join_cons, joinTail_snoc]
        simp
    have key := parts_go es (pre ++ [e]) (fun r hr => h r (by simp [hr])) (by
      rw [hj]
      cases decide ((pre.length : Int) > 0) <;> simp <;> omega)
    rw [hj, List.length_append, List.length_singleton] at key
    rw [show pre ++ e :: es = (pre ++ [e]) ++ es from by simp]
    cases hd : decide ((pre.length : Int) > 0) with
    | true =>
      rw [hd, cond_true] at key
      rw [cond_true, decide_eq_true (show List.length (Lib.join (pre.map (rowT a0)) [32, 111, 114, 32]) + List.length ([32, 111, 114, 32] : Str) < 4611686018427387904 by
        have : ([32, 111, 114, 32] : Str).length = 4 := rfl
        omega), cond_true, decide_eq_true (show List.length (Lib.join (pre.map (rowT a0)) [32, 111, 114, 32] ++ [32, 111, 114, 32]) + List.length (rowT a0 e, (0 : Int)).1 < 4611686018427387904 by
        have : ([32, 111, 114, 32] : Str).length = 4 := rfl
        rw [List.length_append]; show _ + (rowT a0 e).length < _; omega), cond_true]
      exact key
    | false =>
      rw [hd, cond_false] at key
      rw [cond_false, decide_eq_true (show List.length (Lib.join (pre.map (rowT a0)) [32, 111, 114, 32]) + List.length (rowT a0 e, (0 : Int)).1 < 4611686018427387904 by
        show _ + (rowT a0 e).length < _; omega), cond_true]
      exact key

theorem law24_awake_eq : law24_awake = some true := by kernel_rfl

theorem law24_TellParts_true (a0 : List QSym) (a1 : List QLit) (a2 : List (List Int)) (a3 : List QLit) : law24_TellParts a0 a1 a2 a3 = some true := by
  unfold law24_TellParts
  rw [law24_awake_eq, Option.bind_some, clause_May_eq, Option.bind_some]
  cases hm : mayB a0 a1 a2 a3 with
  | false => rfl
  | true =>
    obtain ⟨hs, h1, h2, h3, h4, h5, h6, h7⟩ := mayB_spec hm
    cases a2 with
    | nil => rfl
    | cons r a2 =>
      obtain ⟨n, hn⟩ := rowsB_all h5
      have hm2 : mayB a0 [] (r :: a2) [] = true := mayB_mk hs (by simp) h2 (by simp) rfl h5 rfl (by show 0 + sumLen (r :: a2) + 0 ≤ 240; omega)
      have ht : tellB a0 [] (r :: a2) [] = true := by unfold tellB; rw [hm2]; rfl
      have hone : ∀ q ∈ r :: a2, rowW a0 q = some n ∧ mayB a0 [] [q] [] = true := fun q hq => by
        have hw := hn q hq
        refine ⟨hw, mayB_mk hs (by simp) (by simp) (by simp) rfl (by unfold rowsB; dsimp only; rw [hw]; rfl) rfl ?_⟩
        have := rowW_len hw
        show 0 + (q.length + 0) + 0 ≤ 240
        omega
      have hp := parts_go (a0 := a0) (r :: a2) [] hone (by
        rw [List.length_cons] at h2 ⊢
        show 0 + _ ≤ _
        omega)
      simp only [Bool.not_true, cond_false, show (((List.length (r :: a2) : Nat) : Int) == 0) = false from by simp <;> omega, ask_Show_eq, ht, cond_true, Option.bind_some]
      rw [law24_TellParts_L0_go_at0 _ _ _ _ _ _ _ (by unfold maxLen; omega)]
      have e0 : ([] : Str) = Lib.join (([] : List (List Int)).map (rowT a0)) [32, 111, 114, 32] := rfl
      rw [show law24_TellParts_L0_go a0 (r :: a2) 0 ([] : Str) = _ from hp, Option.bind_some]
      rw [caseS_inl, show law0_Num 0 = some 0 from rfl, Option.bind_some]
      show some ((ansT a0 (r :: a2) []) == Lib.join ((r :: a2).map (rowT a0)) [32, 111, 114, 32]) = _
      have : ansT a0 (r :: a2) [] = Lib.join ((r :: a2).map (rowT a0)) [32, 111, 114, 32] := by
        show _ ++ [] = _
        rw [List.append_nil]
      rw [this]
      simp

end
end Go.Abs.Q
/-
  How often three words stand in an answer's text.
-/
namespace Go.Abs.Q
open Go Go.Abs
section

def pO : Str := [32, 111, 114, 32]
def pI : Str := [32, 105, 102, 32]
def pA : Str := [32, 38, 32]
def hit (p s : Str) : Nat := cond (List.isPrefixOf p s && decide (4 ≤ s.length)) 1 0
def occ (p : Str) : Str → Nat
  | [] => 0
  | c :: r => hit p (c :: r) + occ p r
def Pat (p : Str) : Prop := p = pO ∨ p = pI ∨ p = pA

theorem hit_short {p s : Str} (h : s.length < 4) : hit p s = 0 := by
  unfold hit
  rw [decide_eq_false (by omega), Bool.and_false]; rfl
theorem occ_short {p : Str} : (s : Str) → s.length < 4 → occ p s = 0
  | [], _ => rfl
  | c :: r, h => by
    rw [occ, hit_short h, occ_short r (by simp at h; omega)]
theorem hit_other {p : Str} (hp : Pat p) {c : UInt8} (h : c ≠ 32) (s : Str) : hit p (c :: s) = 0 := by
  have : ∀ q, List.isPrefixOf (32 :: q) (c :: s) = false := fun q => by
    rw [List.isPrefixOf]
    have : ((32 : UInt8) == c) = false := by simpa using fun e => h e.symm
    rw [this]; rfl
  unfold hit
  rcases hp with rfl | rfl | rfl
  · unfold pO; rw [this]; rfl
  · unfold pI; rw [this]; rfl
  · unfold pA; rw [this]; rfl
theorem occ_nosp {p : Str} (hp : Pat p) : (a : Str) → (∀ x ∈ a, x ≠ 32) → (c : Str) → occ p (a ++ c) = occ p c
  | [], _, c => rfl
  | x :: a, h, c => by
    rw [List.cons_append, occ, hit_other hp (h x (by simp)), occ_nosp hp a (fun y hy => h y (by simp [hy])) c, Nat.zero_add]

/-- What may not follow a word. -/
def bad (t : UInt8) : Bool := t == 111 || t == 114 || t == 105 || t == 102 || t == 38
def HeadOk (c : Str) : Prop := ∀ t r, c = t :: r → bad t = false
theorem headOk_cons {t : UInt8} {r : Str} (h : bad t = false) : HeadOk (t :: r) := fun t' r' e => by injection e with e1 e2; subst e1; exact h
theorem headOk_nil : HeadOk [] := fun t r e => by cases e
structure Wd (w : Str) : Prop where
  ne : w ≠ []
  ch : ∀ c ∈ w, c ≠ 32 ∧ c ≠ 38
  o : w ≠ [111, 114]
  i : w ≠ [105, 102]
theorem pre2 {a b : UInt8} {p s : Str} : List.isPrefixOf (a :: p) (b :: s) = (a == b && List.isPrefixOf p s) := rfl
theorem hit_word {p : Str} (hp : Pat p) {w : Str} (hw : Wd w) {c : Str} (hc : HeadOk c) : hit p (32 :: (w ++ c)) = 0 := by
  have two : ∀ x y : UInt8, w ≠ [x, y] → bad x = true → bad y = true → List.isPrefixOf [32, x, y, 32] (32 :: (w ++ c)) = false := by
    intro x y hne hx hy
    match w, hw, hne with
    | [], hw, _ => exact absurd rfl hw.ne
    | [d], hw, _ =>
      cases c with
      | nil => simp [List.isPrefixOf]
      | cons t r =>
        have := hc t r rfl
        have h1 : (y == t) = false := by
          cases h : (y == t) with
          | false => rfl
          | true => rw [beq_iff_eq] at h; subst h; rw [hy] at this; cases this
        simp [List.isPrefixOf, h1]
    | [d, e], hw, hne =>
      cases c with
      | nil => simp [List.isPrefixOf]
      | cons t r =>
        simp only [List.cons_append, List.nil_append, List.isPrefixOf]
        cases h1 : (x == d) with
        | false => simp
        | true =>
          cases h2 : (y == e) with
          | false => simp
          | true =>
            rw [beq_iff_eq] at h1 h2
            subst h1; subst h2
            exact absurd rfl hne
    | d :: e :: f :: w, hw, _ =>
      have := (hw.ch f (by simp)).1
      have h1 : ((32 : UInt8) == f) = false := by simpa using fun e => this e.symm
      simp [List.isPrefixOf, h1]
  unfold hit
  rcases hp with rfl | rfl | rfl
  · unfold pO; rw [two 111 114 hw.o rfl rfl]; rfl
  · unfold pI; rw [two 105 102 hw.i rfl rfl]; rfl
  · unfold pA
    match w, hw with
    | [], hw => exact absurd rfl hw.ne
    | d :: w, hw =>
      have := (hw.ch d (by simp)).2
      have h1 : ((38 : UInt8) == d) = false := by simpa using fun e => this e.symm
      simp [List.isPrefixOf, h1]

/-- A text in which none of the words begins, and that begins with a word. -/
structure Quiet (p : Str) (t : Str) : Prop where
  occ : ∀ c, occ p (t ++ c) = Q.occ p c
  hit : ∀ c, HeadOk c → hit p (32 :: (t ++ c)) = 0

theorem quiet_word {p : Str} (hp : Pat p) {w : Str} (hw : Wd w) : Quiet p w :=
  ⟨fun c => occ_nosp hp w (fun x hx => (hw.ch x hx).1) c, fun _ hc => hit_word hp hw hc⟩

theorem bad44 : bad 44 = false := rfl
theorem joinTail_cons (sep y : Str) (r : List Str) : Lib.joinTail sep (y :: r) = sep ++ (y ++ Lib.joinTail sep r) := by simp [Lib.joinTail]
theorem tail_quiet {p : Str} (hp : Pat p) : (ts : List Str) → (∀ t ∈ ts, Quiet p t) → ∀ c, HeadOk c → occ p (Lib.joinTail [44, 32] ts ++ c) = occ p c ∧ HeadOk (Lib.joinTail [44, 32] ts ++ c)
  | [], _, c, hc => ⟨rfl, hc⟩
  | t :: ts, h, c, hc => by
    obtain ⟨h1, h2⟩ := tail_quiet hp ts (fun t ht => h t (by simp [ht])) c hc
    rw [joinTail_cons]
    have ht := h t (by simp)
    refine ⟨?_, headOk_cons bad44⟩
    show occ p (44 :: 32 :: ((t ++ Lib.joinTail [44, 32] ts) ++ c)) = _
    rw [occ, hit_other hp (by decide), occ, List.append_assoc, ht.hit _ h2, ht.occ, h1]
    omega
theorem join_quiet {p : Str} (hp : Pat p) (ts : List Str) (h : ∀ t ∈ ts, Quiet p t) (c : Str) (hc : HeadOk c) : occ p (Lib.join ts [44, 32] ++ c) = occ p c := by
  cases ts with
  | nil => rfl
  | cons t ts =>
    rw [Lib.join_cons, List.append_assoc, (h t (by simp)).occ, (tail_quiet hp ts (fun t ht => h t (by simp [ht])) c hc).1]

/-- All names are words. -/
def Words (a0 : List QSym) : Prop := ∀ (i : Nat) e, a0[i]? = some e → Wd e.1
theorem dig2_word (n : Nat) (hn : n < 100) : Wd ([88] ++ dig2 n) := by
  have hf : ∀ m : Fin 10, UInt8.ofNat (48 + m.val) ≠ 32 ∧ UInt8.ofNat (48 + m.val) ≠ 38 := by decide
  have hd : ∀ m : Nat, m < 10 → ∀ c, c = UInt8.ofNat (48 + m) → c ≠ 32 ∧ c ≠ 38 := fun m hm c hc => by subst hc; exact hf ⟨m, hm⟩
  have hc : ∀ c ∈ dig2 n, c ≠ 32 ∧ c ≠ 38 := by
    intro c hc
    unfold dig2 at hc
    cases h : decide (n < 10) with
    | true =>
      rw [h] at hc
      rw [decide_eq_true_eq] at h
      simp only [cond_true, List.mem_singleton] at hc
      exact hd n h c hc
    | false =>
      rw [h] at hc
      simp only [cond_false, List.mem_cons, List.not_mem_nil, or_false] at hc
      rcases hc with hc | hc
      · exact hd _ (by omega) c hc
      · exact hd _ (by omega) c hc
  refine ⟨by simp, fun c h => ?_, by simp, by simp⟩
  rw [List.mem_append] at h
  rcases h with h | h
  · rw [List.mem_singleton] at h; subst h; decide
  · exact hc c h

theorem piece_quiet {p : Str} (hp : Pat p) {a0 : List QSym} (hw : Words a0) {f : List Int → Str} {q : List Int} (hq : sk a0 1 q = some q.length) (hf : ∀ x r, q = x :: r → r ≠ [] → ∀ c, HeadOk c → occ p (f r ++ c) = occ p c) : Quiet p (pieceT a0 f q) := by
  obtain ⟨x, r, k, rfl, ha, hk⟩ := piece_cases hq
  rw [pieceT_cons]
  by_cases hx : x < 0
  · rw [decide_eq_true hx, cond_true]
    have := (arity_neg ha hx).1
    exact quiet_word hp (dig2_word _ (by omega))
  · obtain ⟨e, he1, he2, he3, _⟩ := arity_pos ha hx
    have hnm : nameOf a0 x = e.1 := by unfold nameOf; rw [he2]
    have hwd := hw _ _ he2
    rw [decide_eq_false hx, cond_false, hnm]
    cases r with
    | nil => exact quiet_word hp hwd
    | cons y r =>
      rw [List.isEmpty_cons, cond_false]
      have hfr := hf x (y :: r) rfl (by simp)
      refine ⟨fun c => ?_, fun c hc => ?_⟩
      · rw [List.append_assoc, List.append_assoc, List.append_assoc, (quiet_word hp hwd).occ]
        show occ p (40 :: (f (y :: r) ++ ([41] ++ c))) = _
        rw [occ, hit_other hp (by decide), hfr ([41] ++ c) (headOk_cons rfl)]
        show 0 + occ p (41 :: c) = _
        rw [occ, hit_other hp (by decide)]
        omega
      · rw [List.append_assoc, List.append_assoc, List.append_assoc]
        exact hit_word hp hwd (headOk_cons rfl)

theorem showTs_quiet {p : Str} (hp : Pat p) {a0 : List QSym} (hw : Words a0) : ∀ (n : Nat) (xs : List Int) (ps : List (List Int)), xs.length ≤ n → cuts a0 xs = some ps → (∀ c, HeadOk c → occ p (showTs a0 xs ++ c) = occ p c) ∧ ∀ q ∈ ps, Quiet p (pieceT a0 (showTs a0) q) := by
  intro n
  induction n with
  | zero =>
    intro xs ps h hc
    obtain rfl : xs = [] := List.length_eq_zero_iff.1 (by omega)
    injection hc with hc; subst hc
    exact ⟨fun c _ => rfl, fun q hq => by cases hq⟩
  | succ n ih =>
    intro xs ps h hc
    have hf := cuts_flat xs.length xs ps (Nat.le_refl _) hc
    have hps : ∀ q ∈ ps, Quiet p (pieceT a0 (showTs a0) q) := fun q hq => by
      refine piece_quiet hp hw (hf.2 q hq).2 fun x r e hr => ?_
      obtain ⟨x', r', k, e', ha, hk⟩ := piece_cases (hf.2 q hq).2
      rw [e] at e'
      injection e' with e1 e2; subst e1; subst e2
      obtain ⟨qs, hqs, _⟩ := cuts_sk k r hk
      have := mem_len hq
      rw [hf.1, e, List.length_cons] at this
      exact (ih r qs (by omega) hqs).1
    refine ⟨fun c hc2 => ?_, hps⟩
    rw [showTs_eq hc]
    exact join_quiet hp _ (fun t ht => by
      obtain ⟨q, hq, rfl⟩ := List.mem_map.1 ht
      exact hps q hq) c hc2

theorem row_quiet {p : Str} (hp : Pat p) {a0 : List QSym} (hw : Words a0) {r : List Int} {ps : List (List Int)} (hc : cuts a0 r = some ps) (c : Str) : occ p (rowT a0 r ++ c) = occ p c := by
  unfold rowT
  rw [List.append_assoc, List.append_assoc]
  show occ p (40 :: (showTs a0 r ++ (41 :: c))) = _
  rw [occ, hit_other hp (by decide), (showTs_quiet hp hw r.length r ps (Nat.le_refl _) hc).1 _ (headOk_cons rfl)]
  show 0 + occ p (41 :: c) = _
  rw [occ, hit_other hp (by decide)]
  omega

/-- One term's text is its piece's. -/
theorem showTs_one {a0 : List QSym} {q : List Int} (h : sk a0 1 q = some q.length) : showTs a0 q = pieceT a0 (showTs a0) q ∧ cuts a0 q = some [q] := by
  have hne : q ≠ [] := fun e => by subst e; simp [sk] at h
  have hc : cuts a0 q = some [q] := by
    rw [cuts_step hne, h]
    simp [cuts_nil]
  refine ⟨?_, hc⟩
  rw [showTs_eq hc]
  exact Lib.join_one _ _

/-- The same, in front of what does not go on with a word. -/
structure QuietA (p : Str) (t : Str) : Prop where
  occ : ∀ c, HeadOk c → occ p (t ++ c) = Q.occ p c
  hit : ∀ c, HeadOk c → hit p (32 :: (t ++ c)) = 0
theorem Quiet.a {p t : Str} (h : Quiet p t) : QuietA p t := ⟨fun c _ => h.occ c, h.hit⟩
theorem hit_head {p : Str} (hp : Pat p) {t : UInt8} (ht : bad t = false) (s : Str) : hit p (32 :: t :: s) = 0 := by
  unfold bad at ht
  simp only [Bool.or_eq_false_iff] at ht
  obtain ⟨⟨⟨⟨h1, h2⟩, h3⟩, h4⟩, h5⟩ := ht
  have e1 : ((111 : UInt8) == t) = false := by rw [beq_eq_false_iff_ne] at h1 ⊢; exact fun e => h1 e.symm
  have e3 : ((105 : UInt8) == t) = false := by rw [beq_eq_false_iff_ne] at h3 ⊢; exact fun e => h3 e.symm
  have e5 : ((38 : UInt8) == t) = false := by rw [beq_eq_false_iff_ne] at h5 ⊢; exact fun e => h5 e.symm
  unfold hit
  rcases hp with rfl | rfl | rfl
  · simp [pO, List.isPrefixOf, e1]
  · simp [pI, List.isPrefixOf, e3]
  · simp [pA, List.isPrefixOf, e5]

theorem atom_quiet {p : Str} (hp : Pat p) {a0 : List QSym} (hw : Words a0) {xs : List Int} (h : atomB a0 xs = true) : QuietA p (showA a0 xs) := by
  obtain ⟨x, r, e, ps, rfl, h0, he, hg, hk, hs, hl, hc, hn⟩ := atomB_spec h
  have hS := signB_ok hs
  have hnm : nameOf a0 x = e.1 := by unfold nameOf; rw [he]
  have hwd := hw _ _ he
  rw [showA_cons]
  by_cases hx : x = 0
  · subst hx
    have : e = equalsQ := by
      have := hS.eq
      rw [show ((0 : Int).toNat) = 0 from rfl] at he
      rw [he] at this
      injection this
    subst this
    have hn : ps.length = 2 := by have : ((ps.length : Nat) : Int) = 2 := hn; omega
    match ps, hn with
    | [a, b], _ =>
      have hf := cuts_flat r.length r [a, b] (Nat.le_refl _) hc
      have hq := (showTs_quiet hp hw r.length r [a, b] (Nat.le_refl _) hc).2
      have ha := hq a (by simp)
      have hb := hq b (by simp)
      rw [← (showTs_one (hf.2 a (by simp)).2).1] at ha
      rw [← (showTs_one (hf.2 b (by simp)).2).1] at hb
      rw [show ((0 : Int) == 0) = true from rfl, cond_true, hc]
      refine ⟨fun c hc2 => ?_, fun c hc2 => ?_⟩
      · show occ p (((showTs a0 a ++ [32, 61, 32]) ++ showTs a0 b) ++ c) = _
        rw [List.append_assoc, List.append_assoc, ha.occ]
        show occ p (32 :: 61 :: 32 :: (showTs a0 b ++ c)) = _
        rw [occ, occ, occ, hit_other hp (c := 61) (by decide), hb.occ, hb.hit c hc2, hit_head hp (t := 61) rfl]
        omega
      · show hit p (32 :: (((showTs a0 a ++ [32, 61, 32]) ++ showTs a0 b) ++ c)) = 0
        rw [List.append_assoc, List.append_assoc]
        exact ha.hit _ (headOk_cons rfl)
  · rw [show (x == 0) = false from by simpa using hx, cond_false, hnm]
    cases r with
    | nil => exact (quiet_word hp hwd).a
    | cons y r =>
      rw [List.isEmpty_cons, cond_false]
      have hfr := (showTs_quiet hp hw (y :: r).length (y :: r) ps (Nat.le_refl _) hc).1
      refine ⟨fun c _ => ?_, fun c hc => ?_⟩
      · rw [List.append_assoc, List.append_assoc, List.append_assoc, (quiet_word hp hwd).occ]
        show occ p (40 :: (showTs a0 (y :: r) ++ ([41] ++ c))) = _
        rw [occ, hit_other hp (by decide), hfr ([41] ++ c) (headOk_cons rfl)]
        show 0 + occ p (41 :: c) = _
        rw [occ, hit_other hp (by decide)]
        omega
      · rw [List.append_assoc, List.append_assoc, List.append_assoc]
        exact hit_word hp hwd (headOk_cons rfl)

theorem lit_quiet {p : Str} (hp : Pat p) {a0 : List QSym} (hw : Words a0) {l : QLit} (h : atomB a0 l.2 = true) : QuietA p (litT a0 l) := by
  have ha := atom_quiet hp hw h
  unfold litT
  cases l.1 with
  | false => exact ha
  | true =>
    refine ⟨fun c hc => ?_, fun c hc => hit_head hp rfl _⟩
    show occ p (126 :: (showA a0 l.2 ++ c)) = _
    rw [occ, hit_other hp (by decide), ha.occ c hc, Nat.zero_add]

theorem showA_pos {a0 : List QSym} {xs : List Int} (h : atomB a0 xs = true) : 0 < (showA a0 xs).length := by
  obtain ⟨x, r, e, ps, rfl, h0, he, hg, hk, hs, hl, hc, hn⟩ := atomB_spec h
  have hS := signB_ok hs
  have hat := hS.at he
  have hnm : nameOf a0 x = e.1 := by unfold nameOf; rw [he]
  rw [showA_cons]
  by_cases hx : x = 0
  · subst hx
    have : e = equalsQ := by
      have := hS.eq
      rw [show ((0 : Int).toNat) = 0 from rfl] at he
      rw [he] at this
      injection this
    subst this
    have hn : ps.length = 2 := by have : ((ps.length : Nat) : Int) = 2 := hn; omega
    match ps, hn with
    | [a, b], _ =>
      rw [show ((0 : Int) == 0) = true from rfl, cond_true, hc]
      simp only [Option.getD_some, List.length_append, List.length_cons]
      omega
  · rw [show (x == 0) = false from by simpa using hx, cond_false, hnm]
    cases r.isEmpty <;> simp only [cond_true, cond_false, List.length_append] <;> omega
theorem litT_pos {a0 : List QSym} {l : QLit} (h : atomB a0 l.2 = true) : 0 < (litT a0 l).length := by
  have := showA_pos h
  unfold litT
  cases l.1 <;> simp <;> omega

def isO (p : Str) : Nat := cond (p == pO) 1 0
def isI (p : Str) : Nat := cond (p == pI) 1 0
def isA (p : Str) : Nat := cond (p == pA) 1 0
theorem rows_occ {p : Str} (hp : Pat p) {a0 : List QSym} (hw : Words a0) {n : Nat} : (rs : List (List Int)) → (∀ r ∈ rs, rowW a0 r = some n) → ∀ c, occ p (Lib.joinTail [32, 111, 114, 32] (rs.map (rowT a0)) ++ c) = isO p * rs.length + occ p c
  | [], _, c => by simp [Lib.joinTail]
  | r :: rs, h, c => by
    obtain ⟨ps, hc, _⟩ := rowW_spec (h r (by simp))
    rw [List.map_cons, joinTail_cons]
    show occ p (32 :: 111 :: 114 :: 32 :: ((rowT a0 r ++ Lib.joinTail [32, 111, 114, 32] (rs.map (rowT a0))) ++ c)) = _
    rw [List.append_assoc]
    rw [occ, occ, occ, occ, hit_other hp (c := 111) (by decide), hit_other hp (c := 114) (by decide), row_quiet hp hw hc, rows_occ hp hw rs (fun r hr => h r (by simp [hr])) c]
    have e1 : hit p (32 :: (rowT a0 r ++ (Lib.joinTail [32, 111, 114, 32] (rs.map (rowT a0)) ++ c))) = 0 := hit_head hp (t := 40) rfl _
    have e2 : ∀ s : Str, hit p (32 :: 111 :: 114 :: 32 :: s) = isO p := fun s => by
      unfold hit isO
      rcases hp with rfl | rfl | rfl
      · simp [pO, List.isPrefixOf]
      · simp [pI, pO, List.isPrefixOf]
      · simp [pA, pO, List.isPrefixOf]
    rw [e1, e2, List.length_cons, Nat.mul_succ]
    omega
theorem lits_occ {p : Str} (hp : Pat p) {a0 : List QSym} (hw : Words a0) : (ls : List QLit) → litsB a0 ls = true → occ p (Lib.joinTail [32, 38, 32] (ls.map (litT a0))) = isA p * ls.length ∧ HeadOk (Lib.joinTail [32, 38, 32] (ls.map (litT a0)))
  | [], _ => ⟨rfl, headOk_nil⟩
  | l :: ls, h => by
    unfold litsB at h
    rw [List.all_cons, Bool.and_eq_true] at h
    have hl := lit_quiet hp hw h.1
    obtain ⟨k1, k2⟩ := lits_occ hp hw ls h.2
    rw [List.map_cons, joinTail_cons]
    refine ⟨?_, headOk_cons rfl⟩
    show occ p (32 :: 38 :: 32 :: (litT a0 l ++ Lib.joinTail [32, 38, 32] (ls.map (litT a0)))) = _
    rw [occ, occ, occ, hit_other hp (c := 38) (by decide), hl.hit _ k2, hl.occ _ k2, k1]
    have hne := litT_pos h.1
    have e2 : hit p (32 :: 38 :: 32 :: (litT a0 l ++ Lib.joinTail [32, 38, 32] (ls.map (litT a0)))) = isA p := by
      have hlen : decide (4 ≤ (32 :: 38 :: 32 :: (litT a0 l ++ Lib.joinTail [32, 38, 32] (ls.map (litT a0)))).length) = true := by
        simp only [List.length_cons, List.length_append, decide_eq_true_eq]; omega
      unfold hit isA
      rw [hlen]
      rcases hp with rfl | rfl | rfl
      · simp [pO, pA, List.isPrefixOf]
      · simp [pI, pA, List.isPrefixOf]
      · simp [pA, List.isPrefixOf]
    rw [e2, List.length_cons, Nat.mul_succ]
    omega

end
end Go.Abs.Q
