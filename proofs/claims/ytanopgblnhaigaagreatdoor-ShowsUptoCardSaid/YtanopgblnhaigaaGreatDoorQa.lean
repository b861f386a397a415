import Derived.Test.YtanopgblnhaigaaGreatDoorFc
/-
  What the functions make of plain values, and what the law says of that.
-/
namespace Go.Abs.Q
open Go Go.Abs
abbrev QSym := Str × Int × Int × Int
abbrev tSym : Tys := .cons .str (.cons (.int .i64) (.cons (.int .i64) (.one (.int .i64))))
abbrev QLit := Bool × List Int
def sign_small (a0 : Int) : Option Bool :=
  cond (decide (a0 ≥ 97))
  (some (decide (a0 ≤ 122)))
  (some false)
def sign_called_L0 (rec : (Str × Int × Int) → Option (Unit ⊕ Bool)) (x : (Str × Int × Int)) : Option (Unit ⊕ Bool) :=
  cond (decide (x.2.2 < x.2.1))
  ((gx x.1 x.2.2).bind fun c7 =>
    (sign_small ((UInt8.toNat c7 : Nat) : Int)).bind fun r8 =>
    cond (!r8)
    ((gx x.1 x.2.2).bind fun c9 =>
      cond (decide (((UInt8.toNat c9 : Nat) : Int) < 48))
      (some (Sum.inr false))
      ((gx x.1 x.2.2).bind fun c10 =>
        cond (decide (((UInt8.toNat c10 : Nat) : Int) > 57))
        (some (Sum.inr false))
        (rec (x.1, x.2.1, (IntKind.wrap .i64 (x.2.2 + 1))))))
    (rec (x.1, x.2.1, (IntKind.wrap .i64 (x.2.2 + 1)))))
  (some (Sum.inl ()))
def sign_called (a0 : Str) : Option Bool :=
  cond (a0 == ([] : Str))
  (some false)
  (cond (decide (((List.length a0 : Nat) : Int) > 8))
    (some false)
    ((gx a0 0).bind fun c14 =>
      (sign_small ((UInt8.toNat c14 : Nat) : Int)).bind fun r15 =>
      cond (!r15)
      (some false)
      (((lp sign_called_L0 fuel) (a0, ((List.length a0 : Nat) : Int), 0)).bind fun r16 =>
        caseS r16
        (fun z17 => some true)
        (fun z18 => some z18))))
def sign_SymMay (a0 : Str) (a1 : Int) (a2 : Int) (a3 : Int) : Option Bool :=
  (sign_called a0).bind fun r2 =>
  cond r2
  (cond (decide (a1 ≥ 0))
    (cond (decide (a1 ≤ 2))
      (cond (decide (a2 ≥ 0))
        (cond (decide (a2 ≤ 3))
          (cond (decide (a3 ≥ 1))
            (some (decide (a3 ≤ 20)))
            (some false))
          (some false))
        (some false))
      (some false))
    (some false))
  (some false)
def sign_find_L0 (rec : ((List QSym) × Str × Int × Int) → Option (Unit ⊕ Int)) (x : ((List QSym) × Str × Int × Int)) : Option (Unit ⊕ Int) :=
  cond (decide (x.2.2.2 < x.2.2.1))
  ((gx x.1 x.2.2.2).bind fun e2 =>
    cond (e2.1 == x.2.1)
    (some (Sum.inr x.2.2.2))
    (rec (x.1, x.2.1, x.2.2.1, (IntKind.wrap .i64 (x.2.2.2 + 1)))))
  (some (Sum.inl ()))
def sign_find (a0 : (List QSym)) (a1 : Str) : Option Int :=
  ((lp sign_find_L0 fuel) (a0, a1, ((List.length a0 : Nat) : Int), 0)).bind fun r6 =>
  caseS r6
  (fun z7 => some (-1))
  (fun z8 => some z8)
def sign_May_L0 (rec : ((List QSym) × Int) → Option (Unit ⊕ Bool)) (x : ((List QSym) × Int)) : Option (Unit ⊕ Bool) :=
  cond (decide (x.2 < ((List.length x.1 : Nat) : Int)))
  ((gx x.1 x.2).bind fun e6 =>
    (sign_SymMay e6.1 e6.2.1 e6.2.2.1 e6.2.2.2).bind fun r7 =>
    cond (!r7)
    (some (Sum.inr false))
    ((gx x.1 x.2).bind fun e8 =>
      (sign_find x.1 e8.1).bind fun r9 =>
      cond (r9 != x.2)
      (some (Sum.inr false))
      (rec (x.1, (IntKind.wrap .i64 (x.2 + 1))))))
  (some (Sum.inl ()))
def sign_May (a0 : (List QSym)) : Option Bool :=
  cond (decide (((List.length a0 : Nat) : Int) < 1))
  (some false)
  (cond (decide (((List.length a0 : Nat) : Int) > 20))
    (some false)
    ((gx a0 0).bind fun e13 =>
      cond (!(cond (eqS e13.1 [61]) (cond (eqI e13.2.1 0) (cond (eqI e13.2.2.1 2) (cond (eqI e13.2.2.2 1) true false) false) false) false))
      (some false)
      (((lp sign_May_L0 fuel) (a0, 1)).bind fun r14 =>
        caseS r14
        (fun z15 => some true)
        (fun z16 => some z16))))
def term_Number (a0 : Int) : Option Int :=
  some (IntKind.wrap .i64 ((-1) - a0))
def term_args (a0 : (List QSym)) (a1 : Int) : Option (Int × Bool) :=
  cond (decide (a1 < 0))
  ((term_Number 23).bind fun r4 =>
    some (0, (decide (a1 ≥ r4))))
  (cond (decide (a1 ≥ ((List.length a0 : Nat) : Int)))
    (some (0, false))
    ((gx a0 a1).bind fun e5 =>
      cond (e5.2.1 == 0)
      (some (0, false))
      ((gx a0 a1).bind fun e6 =>
        some (e6.2.2.1, true))))
def term_Skip_L0 (rec : ((List QSym) × (List Int) × Int × Int) → Option (Int × Bool)) (x : ((List QSym) × (List Int) × Int × Int)) : Option (Int × Bool) :=
  cond (decide (x.2.2.1 ≥ ((List.length x.2.1 : Nat) : Int)))
  (some (0, false))
  ((gx x.2.1 x.2.2.1).bind fun e5 =>
    (term_args x.1 e5).bind fun r6 =>
    cond (!r6.2)
    (some (0, false))
    (cond (decide ((IntKind.wrap .i64 (x.2.2.2 + (IntKind.wrap .i64 (r6.1 - 1)))) > 0))
      (rec (x.1, x.2.1, (IntKind.wrap .i64 (x.2.2.1 + 1)), (IntKind.wrap .i64 (x.2.2.2 + (IntKind.wrap .i64 (r6.1 - 1))))))
      (some ((IntKind.wrap .i64 (x.2.2.1 + 1)), true))))
def term_Skip (a0 : (List QSym)) (a1 : (List Int)) (a2 : Int) : Option (Int × Bool) :=
  cond (decide (a2 ≥ ((List.length a1 : Nat) : Int)))
  (some (0, false))
  ((gx a1 a2).bind fun e8 =>
    (term_args a0 e8).bind fun r9 =>
    cond (!r9.2)
    (some (0, false))
    (cond (decide ((IntKind.wrap .i64 (1 + (IntKind.wrap .i64 (r9.1 - 1)))) > 0))
      ((((lp term_Skip_L0 fuel) (a0, a1, (IntKind.wrap .i64 (a2 + 1)), (IntKind.wrap .i64 (1 + (IntKind.wrap .i64 (r9.1 - 1))))))).bind fun r10 =>
        some (r10.1, r10.2))
      (some ((IntKind.wrap .i64 (a2 + 1)), true))))
def term_begins_L0 (rec : ((List QSym) × (List Int) × Int × (List Int)) → Option QLit) (x : ((List QSym) × (List Int) × Int × (List Int))) : Option QLit :=
  cond (x.2.2.1 == ((List.length x.2.1 : Nat) : Int))
  (some (true, x.2.2.2))
  ((term_Skip x.1 x.2.1 x.2.2.1).bind fun r4 =>
    cond (!r4.2)
    (some (false, ([] : (List Int))))
    (cond (room (List.length x.2.2.2 + List.length ([x.2.2.1] : List Int)) 8)
      (rec (x.1, x.2.1, r4.1, (x.2.2.2 ++ ([x.2.2.1] : List Int))))
      (none)))
def term_begins (a0 : (List QSym)) (a1 : (List Int)) : Option QLit :=
  (sign_May a0).bind fun r6 =>
  cond (!r6)
  (some (false, ([] : (List Int))))
  (cond (decide (((List.length a1 : Nat) : Int) > 48))
    (some (false, ([] : (List Int))))
    (cond (0 == ((List.length a1 : Nat) : Int))
      (some (true, ([] : (List Int))))
      ((term_Skip a0 a1 0).bind fun r7 =>
        cond (!r7.2)
        (some (false, ([] : (List Int))))
        (cond (room (List.length ([0] : List Int)) 8)
          ((((lp term_begins_L0 fuel) (a0, a1, r7.1, ([0] : List Int)))).bind fun r8 =>
            some (r8.1, r8.2))
          (none)))))
def term_IsAtom (a0 : (List QSym)) (a1 : (List Int)) : Option Bool :=
  cond (((List.length a1 : Nat) : Int) == 0)
  (some false)
  ((gx a1 0).bind fun e9 =>
    cond (decide (e9 < 0))
    (some false)
    ((gx a1 0).bind fun e10 =>
      cond (decide (e10 ≥ ((List.length a0 : Nat) : Int)))
      (some false)
      ((gx a1 0).bind fun e11 =>
        (gx a0 e11).bind fun e12 =>
        cond (e12.2.1 != 0)
        (some false)
        ((slc2 a1 (some 1) none).bind fun y13 =>
          (term_begins a0 y13).bind fun r14 =>
          cond r14.1
          ((gx a1 0).bind fun e15 =>
            (gx a0 e15).bind fun e16 =>
            some (((List.length r14.2 : Nat) : Int) == e16.2.2.1))
          (some false)))))
def term_Pieces_L0 (rec : ((List QSym) × (List Int) × Int × (List (List Int))) → Option ((List (List Int)) ⊕ (List (List Int)))) (x : ((List QSym) × (List Int) × Int × (List (List Int)))) : Option ((List (List Int)) ⊕ (List (List Int))) :=
  cond (decide (x.2.2.1 < ((List.length x.2.1 : Nat) : Int)))
  ((term_Skip x.1 x.2.1 x.2.2.1).bind fun r5 =>
    cond (!r5.2)
    (some (Sum.inr x.2.2.2))
    ((slc2 x.2.1 (some x.2.2.1) (some r5.1)).bind fun y6 =>
      cond (room (List.length x.2.2.2 + List.length ([y6] : List (List Int))) 24)
      (rec (x.1, x.2.1, r5.1, (x.2.2.2 ++ ([y6] : List (List Int)))))
      (none)))
  (some (Sum.inl x.2.2.2))
def term_Pieces (a0 : (List QSym)) (a1 : (List Int)) : Option (List (List Int)) :=
  ((lp term_Pieces_L0 fuel) (a0, a1, 0, ([] : (List (List Int))))).bind fun r10 =>
  caseS r10
  (fun z11 => some z11)
  (fun z12 => some z12)
def strconv_Itoa (a0 : Int) : Option Str := itoaF a0
def strings_Join (a0 : List Str) (a1 : Str) : Option Str := joinF a0 a1
def formula_ShowTerms_L0 (rf : (((List QSym) × (List Int)) → Option Str)) (rec : ((List QSym) × (List (List Int)) × Int × Int × (List Str)) → Option (List Str)) (x : ((List QSym) × (List (List Int)) × Int × Int × (List Str))) : Option (List Str) :=
  cond (decide (x.2.2.2.1 < x.2.2.1))
  ((gx x.2.1 x.2.2.2.1).bind fun e18 =>
    (gx e18 0).bind fun e19 =>
    cond (decide (e19 < 0))
    ((gx e18 0).bind fun e20 =>
      (term_Number e20).bind fun r21 =>
      (strconv_Itoa r21).bind fun r22 =>
      cond (decide ((List.length ([88] : Str) + List.length r22 : Nat) < 4611686018427387904))
      (cond (room (List.length x.2.2.2.2 + List.length ([(([88] : Str) ++ r22)] : List Str)) 16)
        (rec (x.1, x.2.1, x.2.2.1, (IntKind.wrap .i64 (x.2.2.2.1 + 1)), (x.2.2.2.2 ++ ([(([88] : Str) ++ r22)] : List Str))))
        (none))
      (none))
    (cond (((List.length e18 : Nat) : Int) == 1)
      ((gx e18 0).bind fun e23 =>
        (gx x.1 e23).bind fun e24 =>
        cond (room (List.length x.2.2.2.2 + List.length ([e24.1] : List Str)) 16)
        (rec (x.1, x.2.1, x.2.2.1, (IntKind.wrap .i64 (x.2.2.2.1 + 1)), (x.2.2.2.2 ++ ([e24.1] : List Str))))
        (none))
      ((gx e18 0).bind fun e25 =>
        (gx x.1 e25).bind fun e26 =>
        cond (decide ((List.length e26.1 + List.length ([40] : Str) : Nat) < 4611686018427387904))
        ((slc2 e18 (some 1) none).bind fun y27 =>
          (rf (x.1, y27)).bind fun r28 =>
          cond (decide ((List.length (e26.1 ++ ([40] : Str)) + List.length r28 : Nat) < 4611686018427387904))
          (cond (decide ((List.length ((e26.1 ++ ([40] : Str)) ++ r28) + List.length ([41] : Str) : Nat) < 4611686018427387904))
            (cond (room (List.length x.2.2.2.2 + List.length ([(((e26.1 ++ ([40] : Str)) ++ r28) ++ ([41] : Str))] : List Str)) 16)
              (rec (x.1, x.2.1, x.2.2.1, (IntKind.wrap .i64 (x.2.2.2.1 + 1)), (x.2.2.2.2 ++ ([(((e26.1 ++ ([40] : Str)) ++ r28) ++ ([41] : Str))] : List Str))))
              (none))
            (none))
          (none))
        (none))))
  (some x.2.2.2.2)
def formula_ShowTerms_S (rf : (((List QSym) × (List Int)) → Option Str)) (a0 : (List QSym)) (a1 : (List Int)) : Option Str :=
  (term_Pieces a0 a1).bind fun r31 =>
  ((lp (formula_ShowTerms_L0 rf) fuel) (a0, r31, ((List.length r31 : Nat) : Int), 0, ([] : (List Str)))).bind fun r32 =>
  (strings_Join r32 ([44, 32] : Str)).bind fun r33 =>
  some r33
def formula_ShowTerms_R_step (rf : (((List QSym) × (List Int)) → Option Str)) : (((List QSym) × (List Int)) → Option Str) :=
  fun (x : ((List QSym) × (List Int))) => formula_ShowTerms_S rf x.1 x.2
def formula_ShowTerms_R_base : (((List QSym) × (List Int)) → Option Str) := fun _ => none
def formula_ShowTerms_R (k : Nat) : (((List QSym) × (List Int)) → Option Str) := lpR formula_ShowTerms_R_base formula_ShowTerms_R_step k
def formula_ShowTerms (a0 : (List QSym)) (a1 : (List Int)) : Option Str := (formula_ShowTerms_R fuel) (a0, a1)
def formula_ShowAtom (a0 : (List QSym)) (a1 : (List Int)) : Option Str :=
  (gx a1 0).bind fun e16 =>
  cond (e16 == 0)
  ((slc2 a1 (some 1) none).bind fun y17 =>
    (term_Pieces a0 y17).bind fun r18 =>
    (inR 0 (List.length r18)).bind fun k19 =>
    (r18[k19]?).bind fun x20 =>
    (formula_ShowTerms a0 x20).bind fun r21 =>
    cond (decide ((List.length r21 + List.length ([32, 61, 32] : Str) : Nat) < 4611686018427387904))
    ((inR 1 (List.length r18)).bind fun k22 =>
      (r18[k22]?).bind fun x23 =>
      (formula_ShowTerms a0 x23).bind fun r24 =>
      cond (decide ((List.length (r21 ++ ([32, 61, 32] : Str)) + List.length r24 : Nat) < 4611686018427387904))
      (some ((r21 ++ ([32, 61, 32] : Str)) ++ r24))
      (none))
    (none))
  (cond (((List.length a1 : Nat) : Int) == 1)
    ((gx a1 0).bind fun e25 =>
      (gx a0 e25).bind fun e26 =>
      some e26.1)
    ((gx a1 0).bind fun e27 =>
      (gx a0 e27).bind fun e28 =>
      cond (decide ((List.length e28.1 + List.length ([40] : Str) : Nat) < 4611686018427387904))
      ((slc2 a1 (some 1) none).bind fun y29 =>
        (formula_ShowTerms a0 y29).bind fun r30 =>
        cond (decide ((List.length (e28.1 ++ ([40] : Str)) + List.length r30 : Nat) < 4611686018427387904))
        (cond (decide ((List.length ((e28.1 ++ ([40] : Str)) ++ r30) + List.length ([41] : Str) : Nat) < 4611686018427387904))
          (some (((e28.1 ++ ([40] : Str)) ++ r30) ++ ([41] : Str)))
          (none))
        (none))
      (none)))
def law0_Num (a0 : Int) : Option Int :=
  some a0
def law0_SameInts_L0 (rec : ((List Int) × (List Int) × Int) → Option (Unit ⊕ Bool)) (x : ((List Int) × (List Int) × Int)) : Option (Unit ⊕ Bool) :=
  cond (decide (x.2.2 < ((List.length x.1 : Nat) : Int)))
  ((gx x.1 x.2.2).bind fun e3 =>
    (gx x.2.1 x.2.2).bind fun e4 =>
    cond (e3 != e4)
    (some (Sum.inr false))
    (rec (x.1, x.2.1, (IntKind.wrap .i64 (x.2.2 + 1)))))
  (some (Sum.inl ()))
def law0_SameInts (a0 : (List Int)) (a1 : (List Int)) : Option Bool :=
  cond (((List.length a0 : Nat) : Int) != ((List.length a1 : Nat) : Int))
  (some false)
  (((lp law0_SameInts_L0 fuel) (a0, a1, 0)).bind fun r8 =>
    caseS r8
    (fun z9 => some true)
    (fun z10 => some z10))
end Go.Abs.Q
namespace Go.Abs.Q
open Go Go.Abs
section
theorem lp_succ {X Y : Type} (s : (X → Option Y) → X → Option Y) (k : Nat) : lp s (k + 1) = s (lp s k) := rfl
theorem gx_nat {α : Type} (xs : List α) (i : Nat) : gx xs (i : Int) = xs[i]? := by
  unfold gx
  rw [show decide ((0 : Int) ≤ (i : Int)) = true from by simp]
  rfl
theorem gx_zero {α : Type} (xs : List α) : gx xs 0 = xs[0]? := gx_nat xs 0
theorem gx_at {α : Type} {xs : List α} {i : Int} (h0 : 0 ≤ i) (h : i < xs.length) : ∃ x, gx xs i = some x ∧ x ∈ xs ∧ xs[i.toNat]? = some x := by
  have hi : i.toNat < xs.length := by omega
  refine ⟨xs[i.toNat], ?_, List.getElem_mem hi, List.getElem?_eq_getElem hi⟩
  unfold gx
  rw [show decide ((0 : Int) ≤ i) = true from by simp; omega, cond_true, List.getElem?_eq_getElem hi]
theorem wrap64 {n : Int} (h1 : -9223372036854775808 ≤ n) (h2 : n ≤ 9223372036854775807) : IntKind.wrap .i64 n = n := by
  simp [IntKind.wrap, IntKind.signed, IntKind.bits]
  omega
theorem wrap_i1 {i l : Nat} (h : i < l) (hl : l ≤ maxLen) : IntKind.wrap .i64 ((i : Int) + 1) = ((i + 1 : Nat) : Int) := by
  unfold maxLen at hl
  rw [wrap64] <;> omega
theorem lt_true {i l : Nat} (h : i < l) : decide ((i : Int) < (l : Int)) = true := by simp [h]
theorem lt_false {i l : Nat} (h : l ≤ i) : decide ((i : Int) < (l : Int)) = false := by simp; omega
theorem drop_nil_le {α : Type} {xs : List α} {i : Nat} (h : xs.drop i = []) : xs.length ≤ i := by simpa using h
theorem drop_cons_lt {α : Type} {xs es : List α} {e : α} {i : Nat} (h : xs.drop i = e :: es) : i < xs.length := by
  rw [← Nat.not_le]
  intro hn
  rw [List.drop_eq_nil_iff.2 hn] at h
  cases h
theorem drop_cons_get {α : Type} {xs es : List α} {e : α} {i : Nat} (h : xs.drop i = e :: es) : xs[i]? = some e := by
  have := congrArg (·[0]?) h
  simpa using this
theorem drop_cons_next {α : Type} {xs es : List α} {e : α} {i : Nat} (h : xs.drop i = e :: es) : xs.drop (i + 1) = es := by
  rw [← List.drop_drop, h]
  rfl
end
end Go.Abs.Q
namespace Go.Abs.Q
open Go Go.Abs
def sign_called_L0_go : List UInt8 → Option (Unit ⊕ Bool)
  | [] => some (Sum.inl ())
  | e :: es =>
    (sign_small ((UInt8.toNat e : Nat) : Int)).bind fun r8 =>
    cond (!r8)
    (cond (decide (((UInt8.toNat e : Nat) : Int) < 48))
      (some (Sum.inr false))
      (cond (decide (((UInt8.toNat e : Nat) : Int) > 57))
        (some (Sum.inr false))
        (sign_called_L0_go es)))
    (sign_called_L0_go es)
theorem sign_called_L0_go_eq (s0 : Str) (hl : List.length s0 ≤ maxLen) : ∀ (es : List UInt8) (i : Nat) (k : Nat), s0.drop i = es → es.length < k → lp sign_called_L0 k (s0, ((List.length s0 : Nat) : Int), (i : Int)) = sign_called_L0_go es := by
  intro es
  induction es with
  | nil =>
    intro i k h hk
    obtain ⟨k, rfl⟩ : ∃ k', k = k' + 1 := ⟨k - 1, by omega⟩
    rw [lp_succ]
    generalize lp sign_called_L0 k = rec
    unfold sign_called_L0 sign_called_L0_go
    simp only [lt_false (drop_nil_le h), cond_false]
  | cons e es ih =>
    intro i k h hk
    obtain ⟨k, rfl⟩ : ∃ k', k = k' + 1 := ⟨k - 1, by omega⟩
    rw [lp_succ]
    have hi := drop_cons_lt h
    have hk2 : es.length < k := Nat.lt_of_succ_lt_succ hk
    have key := fun (_ : Unit) => ih (i + 1) k (drop_cons_next h) hk2
    generalize lp sign_called_L0 k = rec at key ⊢
    unfold sign_called_L0 sign_called_L0_go
    simp only [lt_true hi, cond_true, gx_nat, drop_cons_get h, Option.bind_some, wrap_i1 hi hl, key ()]
theorem sign_called_L0_go_at0 (s0 : Str) (hl : List.length s0 ≤ maxLen) : lp sign_called_L0 fuel (s0, ((List.length s0 : Nat) : Int), 0) = sign_called_L0_go s0 :=
  sign_called_L0_go_eq s0 hl s0 0 fuel rfl (Nat.lt_of_le_of_lt hl (by decide))
def sign_find_L0_go (s1 : Str) : List QSym → Nat → Option (Unit ⊕ Int)
  | [], i => some (Sum.inl ())
  | e :: es, i =>
    cond (e.1 == s1)
    (some (Sum.inr (i : Int)))
    (sign_find_L0_go s1 es (i + 1))
theorem sign_find_L0_go_eq (s0 : (List QSym)) (s1 : Str) (hl : List.length s0 ≤ maxLen) : ∀ (es : List QSym) (i : Nat) (k : Nat), s0.drop i = es → es.length < k → lp sign_find_L0 k (s0, s1, ((List.length s0 : Nat) : Int), (i : Int)) = sign_find_L0_go s1 es i := by
  intro es
  induction es with
  | nil =>
    intro i k h hk
    obtain ⟨k, rfl⟩ : ∃ k', k = k' + 1 := ⟨k - 1, by omega⟩
    rw [lp_succ]
    generalize lp sign_find_L0 k = rec
    unfold sign_find_L0 sign_find_L0_go
    simp only [lt_false (drop_nil_le h), cond_false]
  | cons e es ih =>
    intro i k h hk
    obtain ⟨k, rfl⟩ : ∃ k', k = k' + 1 := ⟨k - 1, by omega⟩
    rw [lp_succ]
    have hi := drop_cons_lt h
    have hk2 : es.length < k := Nat.lt_of_succ_lt_succ hk
    have key := fun (_ : Unit) => ih (i + 1) k (drop_cons_next h) hk2
    generalize lp sign_find_L0 k = rec at key ⊢
    unfold sign_find_L0 sign_find_L0_go
    simp only [lt_true hi, cond_true, gx_nat, drop_cons_get h, Option.bind_some, wrap_i1 hi hl, key ()]
theorem sign_find_L0_go_at0 (s0 : (List QSym)) (s1 : Str) (hl : List.length s0 ≤ maxLen) : lp sign_find_L0 fuel (s0, s1, ((List.length s0 : Nat) : Int), 0) = sign_find_L0_go s1 s0 0 :=
  sign_find_L0_go_eq s0 s1 hl s0 0 fuel rfl (Nat.lt_of_le_of_lt hl (by decide))
def sign_May_L0_go (s0 : (List QSym)) : List QSym → Nat → Option (Unit ⊕ Bool)
  | [], i => some (Sum.inl ())
  | e :: es, i =>
    (sign_SymMay e.1 e.2.1 e.2.2.1 e.2.2.2).bind fun r7 =>
    cond (!r7)
    (some (Sum.inr false))
    ((sign_find s0 e.1).bind fun r9 =>
      cond (r9 != (i : Int))
      (some (Sum.inr false))
      (sign_May_L0_go s0 es (i + 1)))
theorem sign_May_L0_go_eq (s0 : (List QSym)) (hl : List.length s0 ≤ maxLen) : ∀ (es : List QSym) (i : Nat) (k : Nat), s0.drop i = es → es.length < k → lp sign_May_L0 k (s0, (i : Int)) = sign_May_L0_go s0 es i := by
  intro es
  induction es with
  | nil =>
    intro i k h hk
    obtain ⟨k, rfl⟩ : ∃ k', k = k' + 1 := ⟨k - 1, by omega⟩
    rw [lp_succ]
    generalize lp sign_May_L0 k = rec
    unfold sign_May_L0 sign_May_L0_go
    simp only [lt_false (drop_nil_le h), cond_false]
  | cons e es ih =>
    intro i k h hk
    obtain ⟨k, rfl⟩ : ∃ k', k = k' + 1 := ⟨k - 1, by omega⟩
    rw [lp_succ]
    have hi := drop_cons_lt h
    have hk2 : es.length < k := Nat.lt_of_succ_lt_succ hk
    have key := fun (_ : Unit) => ih (i + 1) k (drop_cons_next h) hk2
    generalize lp sign_May_L0 k = rec at key ⊢
    unfold sign_May_L0 sign_May_L0_go
    simp only [lt_true hi, cond_true, gx_nat, drop_cons_get h, Option.bind_some, wrap_i1 hi hl, key ()]
def formula_ShowTerms_L0_go (rf : (((List QSym) × (List Int)) → Option Str)) (s0 : (List QSym)) : List (List Int) → (List Str) → Option (List Str)
  | [], s4 => some s4
  | e :: es, s4 =>
    (gx e 0).bind fun e19 =>
    cond (decide (e19 < 0))
    ((gx e 0).bind fun e20 =>
      (term_Number e20).bind fun r21 =>
      (strconv_Itoa r21).bind fun r22 =>
      cond (decide ((List.length ([88] : Str) + List.length r22 : Nat) < 4611686018427387904))
      (cond (room (List.length s4 + List.length ([(([88] : Str) ++ r22)] : List Str)) 16)
        (formula_ShowTerms_L0_go rf s0 es (s4 ++ ([(([88] : Str) ++ r22)] : List Str)))
        (none))
      (none))
    (cond (((List.length e : Nat) : Int) == 1)
      ((gx e 0).bind fun e23 =>
        (gx s0 e23).bind fun e24 =>
        cond (room (List.length s4 + List.length ([e24.1] : List Str)) 16)
        (formula_ShowTerms_L0_go rf s0 es (s4 ++ ([e24.1] : List Str)))
        (none))
      ((gx e 0).bind fun e25 =>
        (gx s0 e25).bind fun e26 =>
        cond (decide ((List.length e26.1 + List.length ([40] : Str) : Nat) < 4611686018427387904))
        ((slc2 e (some 1) none).bind fun y27 =>
          (rf (s0, y27)).bind fun r28 =>
          cond (decide ((List.length (e26.1 ++ ([40] : Str)) + List.length r28 : Nat) < 4611686018427387904))
          (cond (decide ((List.length ((e26.1 ++ ([40] : Str)) ++ r28) + List.length ([41] : Str) : Nat) < 4611686018427387904))
            (cond (room (List.length s4 + List.length ([(((e26.1 ++ ([40] : Str)) ++ r28) ++ ([41] : Str))] : List Str)) 16)
              (formula_ShowTerms_L0_go rf s0 es (s4 ++ ([(((e26.1 ++ ([40] : Str)) ++ r28) ++ ([41] : Str))] : List Str)))
              (none))
            (none))
          (none))
        (none)))
theorem formula_ShowTerms_L0_go_eq (rf : (((List QSym) × (List Int)) → Option Str)) (s0 : (List QSym)) (s1 : (List (List Int))) (hl : List.length s1 ≤ maxLen) : ∀ (es : List (List Int)) (i : Nat) (k : Nat) (s4 : (List Str)), s1.drop i = es → es.length < k → lp (formula_ShowTerms_L0 rf) k (s0, s1, ((List.length s1 : Nat) : Int), (i : Int), s4) = formula_ShowTerms_L0_go rf s0 es s4 := by
  intro es
  induction es with
  | nil =>
    intro i k s4 h hk
    obtain ⟨k, rfl⟩ : ∃ k', k = k' + 1 := ⟨k - 1, by omega⟩
    rw [lp_succ]
    generalize lp (formula_ShowTerms_L0 rf) k = rec
    unfold formula_ShowTerms_L0 formula_ShowTerms_L0_go
    simp only [lt_false (drop_nil_le h), cond_false]
  | cons e es ih =>
    intro i k s4 h hk
    obtain ⟨k, rfl⟩ : ∃ k', k = k' + 1 := ⟨k - 1, by omega⟩
    rw [lp_succ]
    have hi := drop_cons_lt h
    have hk2 : es.length < k := Nat.lt_of_succ_lt_succ hk
    have key := fun s4 => ih (i + 1) k s4 (drop_cons_next h) hk2
    generalize lp (formula_ShowTerms_L0 rf) k = rec at key ⊢
    unfold formula_ShowTerms_L0 formula_ShowTerms_L0_go
    simp only [lt_true hi, cond_true, gx_nat, drop_cons_get h, Option.bind_some, wrap_i1 hi hl, key]
theorem formula_ShowTerms_L0_go_at0 (rf : (((List QSym) × (List Int)) → Option Str)) (s0 : (List QSym)) (s1 : (List (List Int))) (s4 : (List Str)) (hl : List.length s1 ≤ maxLen) : lp (formula_ShowTerms_L0 rf) fuel (s0, s1, ((List.length s1 : Nat) : Int), 0, s4) = formula_ShowTerms_L0_go rf s0 s1 s4 :=
  formula_ShowTerms_L0_go_eq rf s0 s1 hl s1 0 fuel s4 rfl (Nat.lt_of_le_of_lt hl (by decide))
def law0_SameInts_L0_go (s1 : (List Int)) : List Int → Nat → Option (Unit ⊕ Bool)
  | [], i => some (Sum.inl ())
  | e :: es, i =>
    (gx s1 (i : Int)).bind fun e4 =>
    cond (e != e4)
    (some (Sum.inr false))
    (law0_SameInts_L0_go s1 es (i + 1))
theorem law0_SameInts_L0_go_eq (s0 : (List Int)) (s1 : (List Int)) (hl : List.length s0 ≤ maxLen) : ∀ (es : List Int) (i : Nat) (k : Nat), s0.drop i = es → es.length < k → lp law0_SameInts_L0 k (s0, s1, (i : Int)) = law0_SameInts_L0_go s1 es i := by
  intro es
  induction es with
  | nil =>
    intro i k h hk
    obtain ⟨k, rfl⟩ : ∃ k', k = k' + 1 := ⟨k - 1, by omega⟩
    rw [lp_succ]
    generalize lp law0_SameInts_L0 k = rec
    unfold law0_SameInts_L0 law0_SameInts_L0_go
    simp only [lt_false (drop_nil_le h), cond_false]
  | cons e es ih =>
    intro i k h hk
    obtain ⟨k, rfl⟩ : ∃ k', k = k' + 1 := ⟨k - 1, by omega⟩
    rw [lp_succ]
    have hi := drop_cons_lt h
    have hk2 : es.length < k := Nat.lt_of_succ_lt_succ hk
    have key := fun (_ : Unit) => ih (i + 1) k (drop_cons_next h) hk2
    generalize lp law0_SameInts_L0 k = rec at key ⊢
    unfold law0_SameInts_L0 law0_SameInts_L0_go
    simp only [lt_true hi, cond_true, gx_nat, drop_cons_get h, Option.bind_some, wrap_i1 hi hl, key ()]
theorem law0_SameInts_L0_go_at0 (s0 : (List Int)) (s1 : (List Int)) (hl : List.length s0 ≤ maxLen) : lp law0_SameInts_L0 fuel (s0, s1, 0) = law0_SameInts_L0_go s1 s0 0 :=
  law0_SameInts_L0_go_eq s0 s1 hl s0 0 fuel rfl (Nat.lt_of_le_of_lt hl (by decide))
end Go.Abs.Q
namespace Go.Abs.Q
open Go Go.Abs
section
def smallB (n : Int) : Bool := decide (97 ≤ n) && decide (n ≤ 122)
theorem sign_small_eq (n : Int) : sign_small n = some (smallB n) := by
  unfold sign_small smallB
  by_cases h : n ≥ 97 <;> simp [h]
def nameB (e : UInt8) : Bool := smallB ((UInt8.toNat e : Nat) : Int) || (decide (48 ≤ ((UInt8.toNat e : Nat) : Int)) && decide (((UInt8.toNat e : Nat) : Int) ≤ 57))
theorem called_go (es : List UInt8) : sign_called_L0_go es = some (cond (es.all nameB) (.inl ()) (.inr false)) := by
  induction es with
  | nil => rfl
  | cons e es ih =>
    unfold sign_called_L0_go
    rw [sign_small_eq, Option.bind_some, ih, List.all_cons]
    unfold nameB
    cases h : smallB ((UInt8.toNat e : Nat) : Int) with
    | true => simp
    | false =>
      by_cases h1 : ((UInt8.toNat e : Nat) : Int) < 48
      · have : ¬ (48 ≤ ((UInt8.toNat e : Nat) : Int)) := by omega
        simp only [Bool.not_false, cond_true, decide_eq_true h1, decide_eq_false this, Bool.false_and, Bool.or_false, cond_false]
      · have h3 : 48 ≤ ((UInt8.toNat e : Nat) : Int) := by omega
        by_cases h2 : ((UInt8.toNat e : Nat) : Int) > 57
        · have : ¬ (((UInt8.toNat e : Nat) : Int) ≤ 57) := by omega
          simp only [Bool.not_false, cond_true, decide_eq_false h1, decide_eq_true h2, decide_eq_false this, Bool.and_false, Bool.false_and, Bool.or_false, cond_false]
        · have h4 : ((UInt8.toNat e : Nat) : Int) ≤ 57 := by omega
          simp only [Bool.not_false, cond_true, decide_eq_false h1, decide_eq_false h2, decide_eq_true h3, decide_eq_true h4, Bool.and_true, Bool.true_and, Bool.or_true, cond_false]
def calledB (s : Str) : Bool := match s with
  | [] => false
  | c :: _ => decide (s.length ≤ 8) && smallB ((UInt8.toNat c : Nat) : Int) && s.all nameB
theorem sign_called_eq (s : Str) : sign_called s = some (calledB s) := by
  unfold sign_called calledB
  cases s with
  | nil => rfl
  | cons c r =>
    rw [show ((c :: r : Str) == ([] : Str)) = false from rfl, cond_false]
    by_cases h : (c :: r).length ≤ 8
    · have h1 : ¬ (((List.length (c :: r) : Nat) : Int) > 8) := by omega
      rw [decide_eq_false h1, cond_false, gx_zero, List.getElem?_cons_zero, Option.bind_some, sign_small_eq, Option.bind_some, sign_called_L0_go_at0 _ (by unfold maxLen; omega), called_go, decide_eq_true h]
      dsimp only
      cases smallB ((UInt8.toNat c : Nat) : Int) with
      | false => rfl
      | true => cases (c :: r).all nameB <;> rfl
    · have h1 : ((List.length (c :: r) : Nat) : Int) > 8 := by omega
      rw [decide_eq_true h1, decide_eq_false h]
      rfl
def symB (e : QSym) : Bool := calledB e.1 && decide (0 ≤ e.2.1) && decide (e.2.1 ≤ 2) && decide (0 ≤ e.2.2.1) && decide (e.2.2.1 ≤ 3) && decide (1 ≤ e.2.2.2) && decide (e.2.2.2 ≤ 20)
theorem sign_SymMay_eq (e : QSym) : sign_SymMay e.1 e.2.1 e.2.2.1 e.2.2.2 = some (symB e) := by
  unfold sign_SymMay symB
  rw [sign_called_eq, Option.bind_some]
  cases calledB e.1 <;> simp only [cond_true, cond_false, Bool.true_and, Bool.false_and, ge_iff_le]
  cases decide (0 ≤ e.2.1) <;> simp only [cond_true, cond_false, Bool.true_and, Bool.false_and]
  cases decide (e.2.1 ≤ 2) <;> simp only [cond_true, cond_false, Bool.true_and, Bool.false_and]
  cases decide (0 ≤ e.2.2.1) <;> simp only [cond_true, cond_false, Bool.true_and, Bool.false_and]
  cases decide (e.2.2.1 ≤ 3) <;> simp only [cond_true, cond_false, Bool.true_and, Bool.false_and]
  cases decide (1 ≤ e.2.2.2) <;> simp only [cond_true, cond_false, Bool.true_and, Bool.false_and]
def idxI (o : Option Nat) : Int := match o with
  | some i => (i : Int)
  | none => -1
theorem find_go (nm : Str) (es : List QSym) (i : Nat) : sign_find_L0_go nm es i = some (match es.findIdx? (fun e => e.1 == nm) with
    | some j => .inr ((i + j : Nat) : Int)
    | none => .inl ()) := by
  induction es generalizing i with
  | nil => rfl
  | cons e es ih =>
    unfold sign_find_L0_go
    rw [List.findIdx?_cons]
    cases h : (e.1 == nm) with
    | true => simp
    | false =>
      rw [cond_false, ih]
      cases es.findIdx? (fun e => e.1 == nm) with
      | none => rfl
      | some j => simp; omega
theorem sign_find_eq (a0 : List QSym) (nm : Str) (h : a0.length ≤ maxLen) : sign_find a0 nm = some (idxI (a0.findIdx? (fun e => e.1 == nm))) := by
  unfold sign_find
  rw [sign_find_L0_go_at0 _ _ h, find_go]
  cases a0.findIdx? (fun e => e.1 == nm) with
  | none => rfl
  | some j => simp [caseS, idxI]
def mayGo (a0 : List QSym) : List QSym → Nat → Bool
  | [], _ => true
  | e :: es, i => symB e && (idxI (a0.findIdx? (fun d => d.1 == e.1)) == (i : Int)) && mayGo a0 es (i + 1)
theorem may_go (a0 : List QSym) (h : a0.length ≤ maxLen) (es : List QSym) (i : Nat) : sign_May_L0_go a0 es i = some (cond (mayGo a0 es i) (.inl ()) (.inr false)) := by
  induction es generalizing i with
  | nil => rfl
  | cons e es ih =>
    unfold sign_May_L0_go mayGo
    rw [sign_SymMay_eq, Option.bind_some, sign_find_eq _ _ h, Option.bind_some, ih, bne]
    cases symB e with
    | false => rfl
    | true =>
      cases (idxI (a0.findIdx? (fun d => d.1 == e.1)) == (i : Int)) with
      | false => rfl
      | true => simp
def equalsQ : QSym := ([61], 0, 2, 1)
def eqQ (e : QSym) : Bool := cond (eqS e.1 [61]) (cond (eqI e.2.1 0) (cond (eqI e.2.2.1 2) (cond (eqI e.2.2.2 1) true false) false) false) false
theorem eqQ_iff (e : QSym) : eqQ e = true ↔ e = equalsQ := by
  obtain ⟨a, b, c, d⟩ := e
  unfold eqQ equalsQ eqS eqI
  cases h1 : (a == ([61] : List UInt8)) <;> cases h2 : (b == 0) <;> cases h3 : (c == 2) <;> cases h4 : (d == 1) <;> simp_all
def signB (a0 : List QSym) : Bool := match a0 with
  | [] => false
  | e :: es => decide (a0.length ≤ 20) && eqQ e && mayGo a0 es 1
theorem sign_May_eq (a0 : List QSym) : sign_May a0 = some (signB a0) := by
  unfold sign_May signB
  cases a0 with
  | nil => rfl
  | cons e es =>
    rw [decide_eq_false (show ¬ (((List.length (e :: es) : Nat) : Int) < 1) by rw [List.length_cons]; omega), cond_false]
    by_cases h : (e :: es).length ≤ 20
    · have h1 : ¬ (((List.length (e :: es) : Nat) : Int) > 20) := by omega
      have hm : (e :: es).length ≤ maxLen := by unfold maxLen; omega
      rw [decide_eq_false h1, cond_false, gx_zero, List.getElem?_cons_zero, Option.bind_some, decide_eq_true h]
      show cond (!(eqQ e)) _ _ = some (true && eqQ e && mayGo (e :: es) es 1)
      cases eqQ e with
      | false => rfl
      | true =>
        have := sign_May_L0_go_eq (e :: es) hm es 1 fuel rfl (by simp [fuel]; simp at h; omega)
        simp only [Bool.not_true, cond_false]
        rw [show ((1 : Int)) = ((1 : Nat) : Int) from rfl, this, may_go _ hm]
        cases mayGo (e :: es) es 1 <;> rfl
    · have h1 : ((List.length (e :: es) : Nat) : Int) > 20 := by omega
      rw [decide_eq_true h1, decide_eq_false h]
      rfl
theorem mayGo_at {a0 : List QSym} : {es : List QSym} → {i : Nat} → mayGo a0 es i = true → ∀ (j : Nat) e, es[j]? = some e → symB e = true ∧ idxI (a0.findIdx? (fun d => d.1 == e.1)) = ((i + j : Nat) : Int)
  | [], _, _, j, e, he => by simp at he
  | d :: es, i, h, 0, e, he => by
    injection he with he; subst he
    simp only [mayGo, Bool.and_eq_true] at h
    exact ⟨h.1.1, by simpa using h.1.2⟩
  | d :: es, i, h, j + 1, e, he => by
    simp only [mayGo, Bool.and_eq_true] at h
    have := mayGo_at h.2 j e (by simpa using he)
    exact ⟨this.1, by rw [this.2]; omega⟩
structure SignOk (a0 : List QSym) : Prop where
  pos : 1 ≤ a0.length
  len : a0.length ≤ 20
  eq : a0[0]? = some equalsQ
  sym : ∀ (i : Nat) e, a0[i + 1]? = some e → symB e = true ∧ idxI (a0.findIdx? (fun d => d.1 == e.1)) = ((i + 1 : Nat) : Int)
theorem signB_ok {a0 : List QSym} (h : signB a0 = true) : SignOk a0 := by
  unfold signB at h
  cases a0 with
  | nil => cases h
  | cons e es =>
    simp only [Bool.and_eq_true, decide_eq_true_eq] at h
    exact ⟨by simp, h.1.1, by rw [List.getElem?_cons_zero, (eqQ_iff e).1 h.1.2], fun i d hd => by
      have := mayGo_at h.2 i d (by simpa using hd)
      exact ⟨this.1, by rw [this.2]; omega⟩⟩
theorem SignOk.max {a0 : List QSym} (h : SignOk a0) : a0.length ≤ maxLen := Nat.le_trans h.len (by unfold maxLen; omega)
theorem symB_spec {e : QSym} (h : symB e = true) : calledB e.1 = true ∧ 0 ≤ e.2.1 ∧ e.2.1 ≤ 2 ∧ 0 ≤ e.2.2.1 ∧ e.2.2.1 ≤ 3 ∧ 1 ≤ e.2.2.2 ∧ e.2.2.2 ≤ 20 := by
  unfold symB at h
  simp only [Bool.and_eq_true, decide_eq_true_eq] at h
  exact ⟨h.1.1.1.1.1.1, h.1.1.1.1.1.2, h.1.1.1.1.2, h.1.1.1.2, h.1.1.2, h.1.2, h.2⟩
theorem calledB_len {s : Str} (h : calledB s = true) : 1 ≤ s.length ∧ s.length ≤ 8 := by
  unfold calledB at h
  cases s with
  | nil => cases h
  | cons c r =>
    simp only [Bool.and_eq_true, decide_eq_true_eq] at h
    exact ⟨by simp, h.1.1⟩
theorem SignOk.at {a0 : List QSym} (h : SignOk a0) {i : Nat} {e : QSym} (he : a0[i]? = some e) : 1 ≤ e.1.length ∧ e.1.length ≤ 8 ∧ 0 ≤ e.2.1 ∧ e.2.1 ≤ 2 ∧ 0 ≤ e.2.2.1 ∧ e.2.2.1 ≤ 3 := by
  cases i with
  | zero =>
    rw [h.eq] at he
    injection he with he; subst he
    decide
  | succ i =>
    obtain ⟨h1, h2, h3, h4, h5, _⟩ := symB_spec (h.sym i e he).1
    have := calledB_len h1
    exact ⟨this.1, this.2, h2, h3, h4, h5⟩
def arity (a0 : List QSym) (x : Int) : Option Nat :=
  cond (decide (x < 0)) (cond (decide (-24 ≤ x)) (some 0) none) (match a0[x.toNat]? with
    | some e => cond (e.2.1 == 0) none (some e.2.2.1.toNat)
    | none => none)
def nOk (o : Option Nat) : Int × Bool := match o with
  | some k => ((k : Int), true)
  | none => (0, false)
theorem term_Number_eq {x : Int} (h1 : -9223372036854775808 ≤ x) (h2 : x ≤ 9223372036854775807) : term_Number x = some (-1 - x) := by
  unfold term_Number
  rw [wrap64] <;> omega
theorem term_args_eq {a0 : List QSym} (h : SignOk a0) (x : Int) : term_args a0 x = some (nOk (arity a0 x)) := by
  unfold term_args arity
  by_cases h0 : x < 0
  · rw [decide_eq_true h0, cond_true, cond_true, term_Number_eq (by omega) (by omega), Option.bind_some]
    by_cases h1 : -24 ≤ x
    · rw [decide_eq_true h1, decide_eq_true (show x ≥ -1 - 23 by omega)]; rfl
    · rw [decide_eq_false h1, decide_eq_false (show ¬ (x ≥ -1 - 23) by omega)]; rfl
  · rw [decide_eq_false h0, cond_false, cond_false]
    by_cases h1 : x ≥ ((List.length a0 : Nat) : Int)
    · rw [decide_eq_true h1, cond_true, List.getElem?_eq_none (by omega)]; rfl
    · obtain ⟨e, he1, he2, he3⟩ := gx_at (xs := a0) (i := x) (by omega) (by omega)
      have := h.at he3
      rw [decide_eq_false h1, cond_false, he1, Option.bind_some, he3]
      cases he : (e.2.1 == 0) with
      | true => simp only [he, cond_true]; rfl
      | false =>
        simp only [he, cond_false, Option.bind_some]
        unfold nOk
        simp only [Option.some.injEq, Prod.mk.injEq, and_true]
        omega
theorem arity_le {a0 : List QSym} (h : SignOk a0) {x : Int} {k : Nat} (hk : arity a0 x = some k) : k ≤ 3 := by
  unfold arity at hk
  by_cases h0 : x < 0
  · rw [decide_eq_true h0, cond_true] at hk
    by_cases h1 : -24 ≤ x
    · rw [decide_eq_true h1] at hk; injection hk with hk; omega
    · rw [decide_eq_false h1] at hk; cases hk
  · rw [decide_eq_false h0, cond_false] at hk
    cases he : a0[x.toNat]? with
    | none => rw [he] at hk; cases hk
    | some e =>
      rw [he] at hk
      have := h.at he
      simp only at hk
      cases hz : (e.2.1 == 0) with
      | true => rw [hz] at hk; cases hk
      | false => rw [hz] at hk; injection hk with hk; omega
def sk (a0 : List QSym) : Nat → List Int → Option Nat
  | 0, _ => some 0
  | _ + 1, [] => none
  | n + 1, x :: xs => match arity a0 x with
    | none => none
    | some k => (sk a0 (n + k) xs).map (· + 1)
theorem sk_le {a0 : List QSym} : {xs : List Int} → {n k : Nat} → sk a0 n xs = some k → k ≤ xs.length ∧ (0 < n → 0 < k) ∧ n ≤ k
  | [], 0, k, h => by simp [sk] at h; omega
  | [], n + 1, k, h => by simp [sk] at h
  | x :: xs, 0, k, h => by simp [sk] at h; omega
  | x :: xs, n + 1, k, h => by
    unfold sk at h
    cases ha : arity a0 x with
    | none => rw [ha] at h; cases h
    | some m =>
      rw [ha] at h
      simp only [Option.map_eq_some_iff] at h
      obtain ⟨j, hj, rfl⟩ := h
      have := sk_le hj
      rw [List.length_cons]
      omega
theorem skip_round {a0 : List QSym} (h : SignOk a0) (a1 : List Int) (hl : a1.length ≤ 1099511627776) : ∀ (m i n : Nat) (k : Nat), a1.length - i = m → 0 < n → n ≤ 1 + 3 * i → m < k →
    lp term_Skip_L0 k (a0, a1, (i : Int), (n : Int)) = some (match sk a0 n (a1.drop i) with
      | some j => (((i + j : Nat) : Int), true)
      | none => (0, false)) := by
  intro m
  induction m with
  | zero =>
    intro i n k hm hn hni hk
    obtain ⟨k, rfl⟩ : ∃ k', k = k' + 1 := ⟨k - 1, by omega⟩
    rw [lp_succ]
    generalize lp term_Skip_L0 k = rec
    unfold term_Skip_L0
    simp only [decide_eq_true (show ((i : Int) ≥ ((List.length a1 : Nat) : Int)) by omega), cond_true, List.drop_eq_nil_iff.2 (show a1.length ≤ i by omega)]
    obtain ⟨n, rfl⟩ : ∃ n', n = n' + 1 := ⟨n - 1, by omega⟩
    rfl
  | succ m ih =>
    intro i n k hm hn hni hk
    obtain ⟨k, rfl⟩ : ∃ k', k = k' + 1 := ⟨k - 1, by omega⟩
    have hi : i < a1.length := by omega
    rw [lp_succ]
    have key := fun n' h1 h2 => ih (i + 1) n' k (by omega) h1 h2 (by omega)
    generalize lp term_Skip_L0 k = rec at key ⊢
    unfold term_Skip_L0
    obtain ⟨n, rfl⟩ : ∃ n', n = n' + 1 := ⟨n - 1, by omega⟩
    simp only [decide_eq_false (show ¬ ((i : Int) ≥ ((List.length a1 : Nat) : Int)) by omega), cond_false, gx_nat, List.getElem?_eq_getElem hi, Option.bind_some, term_args_eq h, List.drop_eq_getElem_cons hi, sk]
    cases ha : arity a0 a1[i] with
    | none => simp [nOk]
    | some q =>
      have hq := arity_le h ha
      have e1 : IntKind.wrap .i64 ((q : Int) - 1) = (q : Int) - 1 := wrap64 (by omega) (by omega)
      have e2 : IntKind.wrap .i64 (((n + 1 : Nat) : Int) + ((q : Int) - 1)) = ((n + q : Nat) : Int) := by rw [wrap64] <;> omega
      have e3 : IntKind.wrap .i64 ((i : Int) + 1) = ((i + 1 : Nat) : Int) := by rw [wrap64] <;> omega
      simp only [nOk, Bool.not_true, cond_false, e1, e2, e3]
      by_cases hp : 0 < n + q
      · rw [decide_eq_true (show ((n + q : Nat) : Int) > 0 by omega), cond_true, key _ hp (by omega)]
        cases sk a0 (n + q) (a1.drop (i + 1)) with
        | none => rfl
        | some j => simp only [Option.map_some]; rw [show i + 1 + j = i + (j + 1) from by omega]
      · rw [decide_eq_false (show ¬ (((n + q : Nat) : Int) > 0) by omega), cond_false]
        have : n + q = 0 := by omega
        rw [this]
        simp [sk]
theorem term_Skip_eq {a0 : List QSym} (h : SignOk a0) (a1 : List Int) (hl : a1.length ≤ 1099511627776) (i : Nat) : term_Skip a0 a1 (i : Int) = some (match sk a0 1 (a1.drop i) with
      | some j => (((i + j : Nat) : Int), true)
      | none => (0, false)) := by
  unfold term_Skip
  by_cases hi : i < a1.length
  · simp only [decide_eq_false (show ¬ ((i : Int) ≥ ((List.length a1 : Nat) : Int)) by omega), cond_false, gx_nat, List.getElem?_eq_getElem hi, Option.bind_some, term_args_eq h, List.drop_eq_getElem_cons hi, sk]
    cases ha : arity a0 a1[i] with
    | none => simp [nOk]
    | some q =>
      have hq := arity_le h ha
      have e1 : IntKind.wrap .i64 ((q : Int) - 1) = (q : Int) - 1 := wrap64 (by omega) (by omega)
      have e2 : IntKind.wrap .i64 (1 + ((q : Int) - 1)) = ((q : Nat) : Int) := by rw [wrap64] <;> omega
      have e3 : IntKind.wrap .i64 ((i : Int) + 1) = ((i + 1 : Nat) : Int) := by rw [wrap64] <;> omega
      simp only [nOk, Bool.not_true, cond_false, e1, e2, e3]
      by_cases hp : 0 < q
      · rw [decide_eq_true (show (q : Int) > 0 by omega), cond_true, skip_round h a1 hl (a1.length - (i + 1)) (i + 1) q fuel rfl hp (by omega) (by unfold fuel; omega), Nat.zero_add]
        cases sk a0 q (a1.drop (i + 1)) with
        | none => rfl
        | some j => simp only [Option.map_some, Option.bind_some]; rw [show i + 1 + j = i + (j + 1) from by omega]
      · rw [decide_eq_false (show ¬ ((q : Int) > 0) by omega), cond_false]
        have : q = 0 := by omega
        subst this
        simp [sk]
  · simp only [decide_eq_true (show ((i : Int) ≥ ((List.length a1 : Nat) : Int)) by omega), cond_true, List.drop_eq_nil_iff.2 (show a1.length ≤ i by omega)]
    rfl
end
end Go.Abs.Q
namespace Go.Abs.Q
open Go Go.Abs
section
def cutsN (a0 : List QSym) : Nat → List Int → Option (List (List Int))
  | _, [] => some []
  | 0, _ :: _ => none
  | n + 1, x :: xs => match sk a0 1 (x :: xs) with
    | none => none
    | some k => (cutsN a0 n ((x :: xs).drop k)).map ((x :: xs).take k :: ·)
def cuts (a0 : List QSym) (xs : List Int) : Option (List (List Int)) := cutsN a0 xs.length xs
theorem cutsN_more {a0 : List QSym} : {n m : Nat} → {xs : List Int} → xs.length ≤ n → n ≤ m → cutsN a0 m xs = cutsN a0 n xs
  | n, m, [], _, _ => by cases n <;> cases m <;> rfl
  | 0, _, _ :: _, h, _ => by simp at h
  | n + 1, 0, _ :: _, _, h => by omega
  | n + 1, m + 1, x :: xs, h, hm => by
    unfold cutsN
    cases hk : sk a0 1 (x :: xs) with
    | none => rfl
    | some k =>
      have := sk_le hk
      simp only
      rw [cutsN_more (n := n) (m := m) (by simp at h ⊢; omega) (by omega)]
theorem cuts_nil (a0 : List QSym) : cuts a0 [] = some [] := rfl
theorem cuts_step {a0 : List QSym} {xs : List Int} (h : xs ≠ []) : cuts a0 xs = match sk a0 1 xs with
    | none => none
    | some k => (cuts a0 (xs.drop k)).map (xs.take k :: ·) := by
  cases xs with
  | nil => exact absurd rfl h
  | cons x xs =>
    show cutsN a0 (xs.length + 1) (x :: xs) = _
    unfold cutsN
    cases hk : sk a0 1 (x :: xs) with
    | none => rfl
    | some k =>
      have := sk_le hk
      simp only
      unfold cuts
      rw [cutsN_more (n := ((x :: xs).drop k).length) (m := xs.length) (Nat.le_refl _) (by simp; omega)]
theorem sk_take {a0 : List QSym} : {xs : List Int} → {n k : Nat} → sk a0 n xs = some k → sk a0 n (xs.take k) = some k
  | [], 0, k, h => by simp [sk] at h; subst h; rfl
  | [], n + 1, k, h => by simp [sk] at h
  | x :: xs, 0, k, h => by simp [sk] at h; subst h; rfl
  | x :: xs, n + 1, k, h => by
    unfold sk at h
    cases ha : arity a0 x with
    | none => rw [ha] at h; cases h
    | some m =>
      rw [ha] at h
      simp only [Option.map_eq_some_iff] at h
      obtain ⟨j, hj, rfl⟩ := h
      rw [List.take_succ_cons]
      unfold sk
      rw [ha]
      simp only [sk_take hj, Option.map_some]
theorem cuts_flat {a0 : List QSym} : ∀ (n : Nat) (xs : List Int) (ps : List (List Int)), xs.length ≤ n → cuts a0 xs = some ps → ps.flatten = xs ∧ ∀ p ∈ ps, p ≠ [] ∧ sk a0 1 p = some p.length := by
  intro n
  induction n with
  | zero =>
    intro xs ps h hc
    obtain rfl : xs = [] := List.length_eq_zero_iff.1 (by omega)
    injection hc with hc; subst hc
    exact ⟨rfl, fun p hp => by cases hp⟩
  | succ n ih =>
    intro xs ps h hc
    by_cases hx : xs = []
    · subst hx
      injection hc with hc; subst hc
      exact ⟨rfl, fun p hp => by cases hp⟩
    · rw [cuts_step hx] at hc
      cases hk : sk a0 1 xs with
      | none => rw [hk] at hc; cases hc
      | some k =>
        rw [hk] at hc
        simp only [Option.map_eq_some_iff] at hc
        obtain ⟨qs, hq, rfl⟩ := hc
        have hle := sk_le hk
        obtain ⟨h1, h2⟩ := ih _ qs (by simp; omega) hq
        refine ⟨by rw [List.flatten_cons, h1, List.take_append_drop], fun p hp => ?_⟩
        rcases List.mem_cons.1 hp with rfl | hp
        · have hl : (xs.take k).length = k := by simp; omega
          exact ⟨fun e => by rw [e] at hl; simp at hl; omega, by rw [hl]; exact sk_take hk⟩
        · exact h2 p hp
def startsOf : Nat → List (List Int) → List Int
  | _, [] => []
  | i, p :: ps => (i : Int) :: startsOf (i + p.length) ps
theorem startsOf_len : (i : Nat) → (ps : List (List Int)) → (startsOf i ps).length = ps.length
  | _, [] => rfl
  | i, p :: ps => by simp [startsOf, startsOf_len (i + p.length) ps]
theorem room_ok {n b : Nat} (h : n * b ≤ 140737488351232) : room n b = true := by simpa [room] using h
theorem begins_round {a0 : List QSym} (h : SignOk a0) (a1 : List Int) (hl : a1.length ≤ 1099511627776) : ∀ (m i : Nat) (acc : List Int) (k : Nat), a1.length - i = m → i ≤ a1.length → acc.length ≤ i → m < k →
    lp term_begins_L0 k (a0, a1, (i : Int), acc) = some (match cuts a0 (a1.drop i) with
      | some ps => (true, acc ++ startsOf i ps)
      | none => (false, [])) := by
  intro m
  induction m using Nat.strongRecOn with
  | _ m ih =>
    intro i acc k hm hi hacc hk
    obtain ⟨k, rfl⟩ : ∃ k', k = k' + 1 := ⟨k - 1, by omega⟩
    rw [lp_succ]
    have key := fun j acc' (h1 : i < j) h2 h3 => ih (a1.length - j) (by omega) j acc' k rfl h2 h3 (by omega)
    generalize lp term_begins_L0 k = rec at key ⊢
    unfold term_begins_L0
    by_cases he : i = a1.length
    · subst he
      simp [cuts_nil, startsOf]
    · have hlt : i < a1.length := by omega
      have hne : a1.drop i ≠ [] := by simp; omega
      simp only [show (((i : Int)) == ((List.length a1 : Nat) : Int)) = false from by simp; omega, cond_false, term_Skip_eq h a1 hl, Option.bind_some, cuts_step hne]
      cases hs : sk a0 1 (a1.drop i) with
      | none => rfl
      | some j =>
        have hj := sk_le hs
        rw [List.length_drop] at hj
        simp only [Bool.not_true, cond_false, List.length_singleton, room_ok (show (acc.length + 1) * 8 ≤ 140737488351232 by omega), cond_true]
        rw [key (i + j) _ (by omega) (by omega) (by simp; omega), List.drop_drop]
        cases cuts a0 (a1.drop (i + j)) with
        | none => rfl
        | some ps =>
          simp only [Option.map_some, startsOf]
          rw [List.length_take, List.length_drop, Nat.min_eq_left (by omega)]
          simp
def beginsB (a0 : List QSym) (a1 : List Int) : Option (List (List Int)) := cond (signB a0 && decide (a1.length ≤ 48)) (cuts a0 a1) none
theorem term_begins_eq (a0 : List QSym) (a1 : List Int) : term_begins a0 a1 = some (match beginsB a0 a1 with
    | some ps => (true, startsOf 0 ps)
    | none => (false, [])) := by
  unfold term_begins beginsB
  rw [sign_May_eq, Option.bind_some]
  cases hs : signB a0 with
  | false => rfl
  | true =>
    have h := signB_ok hs
    by_cases hl : a1.length ≤ 48
    · simp only [Bool.not_true, cond_false, decide_eq_false (show ¬ (((List.length a1 : Nat) : Int) > 48) by omega), decide_eq_true hl, Bool.and_true, cond_true]
      by_cases h0 : a1 = []
      · subst h0; rfl
      · have hpos : 0 < a1.length := List.length_pos_iff.2 h0
        simp only [show ((0 : Int) == ((List.length a1 : Nat) : Int)) = false from by simp; omega, cond_false]
        have e := term_Skip_eq h a1 (by omega) 0
        rw [show ((0 : Nat) : Int) = 0 from rfl] at e
        rw [e, Option.bind_some, List.drop_zero, cuts_step h0]
        cases hk : sk a0 1 a1 with
        | none => rfl
        | some j =>
          have hj := sk_le hk
          simp only [Bool.not_true, cond_false, Nat.zero_add, List.length_singleton, room_ok (show 1 * 8 ≤ 140737488351232 by omega), cond_true]
          rw [begins_round h a1 (by omega) (a1.length - j) j [0] fuel rfl (by omega) (by simp; omega) (by unfold fuel; omega)]
          cases cuts a0 (a1.drop j) with
          | none => rfl
          | some ps => simp [startsOf, Nat.min_eq_left hj.1]
    · simp only [Bool.not_true, cond_false, decide_eq_true (show (((List.length a1 : Nat) : Int) > 48) by omega), decide_eq_false hl, Bool.and_false, cond_true]
def atomB (a0 : List QSym) (xs : List Int) : Bool := match xs with
  | [] => false
  | x :: r => decide (0 ≤ x) && (match a0[x.toNat]? with
    | none => false
    | some e => (e.2.1 == 0) && (match beginsB a0 r with
      | none => false
      | some ps => ((ps.length : Nat) : Int) == e.2.2.1))
theorem slc_tail {α : Type} (x : α) (r : List α) : slc2 (x :: r) (some 1) none = some r := by
  show slc (x :: r) 1 ((x :: r).length : Int) = some r
  unfold slc
  simp only [List.length_cons]
  rw [decide_eq_true (show (0 : Int) ≤ 1 by omega), decide_eq_true (show (1 : Int) ≤ ((r.length + 1 : Nat) : Int) by omega), decide_eq_true (show ((r.length + 1 : Nat) : Int) ≤ ((r.length + 1 : Nat) : Int) by omega)]
  simp
theorem term_IsAtom_eq (a0 : List QSym) (xs : List Int) : term_IsAtom a0 xs = some (atomB a0 xs) := by
  unfold term_IsAtom atomB
  cases xs with
  | nil => rfl
  | cons x r =>
    simp only [show ((((x :: r).length : Nat) : Int) == 0) = false from by simp; omega, cond_false, gx_zero, List.getElem?_cons_zero, Option.bind_some]
    by_cases h0 : x < 0
    · rw [decide_eq_true h0, decide_eq_false (show ¬ (0 ≤ x) by omega)]; rfl
    · rw [decide_eq_false h0, decide_eq_true (show 0 ≤ x by omega), cond_false, Bool.true_and]
      by_cases h1 : x ≥ ((List.length a0 : Nat) : Int)
      · rw [decide_eq_true h1, List.getElem?_eq_none (by omega)]; rfl
      · obtain ⟨e, he1, he2, he3⟩ := gx_at (xs := a0) (i := x) (by omega) (by omega)
        simp only [decide_eq_false h1, cond_false, he1, he3, Option.bind_some, bne]
        cases hk : (e.2.1 == 0) with
        | false => rfl
        | true =>
          simp only [Bool.not_true, cond_false, slc_tail, Option.bind_some, term_begins_eq, Bool.true_and]
          cases beginsB a0 r with
          | none => rfl
          | some ps => simp [startsOf_len]
theorem atomB_len {a0 : List QSym} {xs : List Int} (h : atomB a0 xs = true) : xs.length ≤ 49 := by
  unfold atomB at h
  cases xs with
  | nil => cases h
  | cons x r =>
    simp only [Bool.and_eq_true] at h
    cases he : a0[x.toNat]? with
    | none => rw [he] at h; simp at h
    | some e =>
      rw [he] at h
      simp only [Bool.and_eq_true] at h
      cases hb : beginsB a0 r with
      | none => rw [hb] at h; simp at h
      | some ps =>
        unfold beginsB at hb
        cases hl : decide (r.length ≤ 48) with
        | false => rw [hl, Bool.and_false] at hb; cases hb
        | true => rw [decide_eq_true_eq] at hl; simp; omega
def rowW (a0 : List QSym) (xs : List Int) : Option Nat := (beginsB a0 xs).map List.length
end
end Go.Abs.Q
namespace Go.Abs.Q
open Go Go.Abs
section
theorem sk_add {a0 : List QSym} : {xs : List Int} → {n m k : Nat} → sk a0 (n + m) xs = some k → ∃ j, sk a0 n xs = some j ∧ j ≤ k ∧ sk a0 m (xs.drop j) = some (k - j)
  | xs, 0, m, k, h => ⟨0, by cases xs <;> rfl, Nat.zero_le _, by simpa using h⟩
  | [], n + 1, m, k, h => by rw [show n + 1 + m = n + m + 1 from by omega] at h; simp [sk] at h
  | x :: xs, n + 1, m, k, h => by
    rw [show n + 1 + m = n + m + 1 from by omega] at h
    unfold sk at h
    cases ha : arity a0 x with
    | none => rw [ha] at h; cases h
    | some q =>
      rw [ha] at h
      simp only [Option.map_eq_some_iff] at h
      obtain ⟨j, hj, rfl⟩ := h
      rw [show n + m + q = (n + q) + m from by omega] at hj
      obtain ⟨i, h1, h2, h3⟩ := sk_add hj
      refine ⟨i + 1, ?_, by omega, ?_⟩
      · unfold sk; rw [ha]; simp only [h1, Option.map_some]
      · rw [List.drop_succ_cons, h3]; congr 1; omega
theorem cuts_sk {a0 : List QSym} : ∀ (n : Nat) (xs : List Int), sk a0 n xs = some xs.length → ∃ ps, cuts a0 xs = some ps ∧ ps.length = n := by
  intro n
  induction n with
  | zero =>
    intro xs h
    have : xs.length = 0 := by cases xs <;> simp [sk] at h ⊢
    obtain rfl := List.length_eq_zero_iff.1 this
    exact ⟨[], rfl, rfl⟩
  | succ n ih =>
    intro xs h
    rw [Nat.add_comm] at h
    obtain ⟨j, h1, h2, h3⟩ := sk_add h
    have hj := sk_le h1
    have hne : xs ≠ [] := fun e => by subst e; simp at hj; omega
    obtain ⟨ps, h4, h5⟩ := ih (xs.drop j) (by rw [h3, List.length_drop])
    refine ⟨xs.take j :: ps, ?_, by simp [h5]⟩
    rw [cuts_step hne, h1]
    dsimp only
    rw [h4]; rfl
theorem piece_cases {a0 : List QSym} {p : List Int} (h : sk a0 1 p = some p.length) : ∃ x r q, p = x :: r ∧ arity a0 x = some q ∧ sk a0 q r = some r.length := by
  cases p with
  | nil => simp [sk] at h
  | cons x r =>
    unfold sk at h
    cases ha : arity a0 x with
    | none => rw [ha] at h; cases h
    | some q =>
      rw [ha] at h
      simp only [Option.map_eq_some_iff, Nat.zero_add] at h
      obtain ⟨j, hj, he⟩ := h
      rw [List.length_cons] at he
      exact ⟨x, r, q, rfl, ha, by rw [hj]; congr 1; omega⟩
theorem pieces_round {a0 : List QSym} (h : SignOk a0) (a1 : List Int) (hl : a1.length ≤ 1099511627776) : ∀ (m i : Nat) (acc ps : List (List Int)) (k : Nat), a1.length - i = m → i ≤ a1.length → acc.length ≤ i → cuts a0 (a1.drop i) = some ps → m < k →
    lp term_Pieces_L0 k (a0, a1, (i : Int), acc) = some (.inl (acc ++ ps)) := by
  intro m
  induction m using Nat.strongRecOn with
  | _ m ih =>
    intro i acc ps k hm hi hacc hc hk
    obtain ⟨k, rfl⟩ : ∃ k', k = k' + 1 := ⟨k - 1, by omega⟩
    rw [lp_succ]
    have key := fun j acc' ps' (h1 : i < j) h2 h3 h4 => ih (a1.length - j) (by omega) j acc' ps' k rfl h2 h3 h4 (by omega)
    generalize lp term_Pieces_L0 k = rec at key ⊢
    unfold term_Pieces_L0
    by_cases he : i = a1.length
    · subst he
      rw [List.drop_length, cuts_nil] at hc
      injection hc with hc; subst hc
      simp
    · have hlt : i < a1.length := by omega
      have hne : a1.drop i ≠ [] := by simp; omega
      rw [cuts_step hne] at hc
      simp only [decide_eq_true (show (i : Int) < ((List.length a1 : Nat) : Int) by omega), cond_true, term_Skip_eq h a1 hl, Option.bind_some]
      cases hs : sk a0 1 (a1.drop i) with
      | none => rw [hs] at hc; cases hc
      | some j =>
        rw [hs] at hc
        simp only [Option.map_eq_some_iff] at hc
        obtain ⟨qs, hq, rfl⟩ := hc
        have hj := sk_le hs
        rw [List.length_drop] at hj
        have e1 : slc2 a1 (some (i : Int)) (some ((i + j : Nat) : Int)) = some ((a1.drop i).take j) := by
          show slc a1 _ _ = _
          unfold slc
          rw [decide_eq_true (show (0 : Int) ≤ (i : Int) by omega), decide_eq_true (show (i : Int) ≤ ((i + j : Nat) : Int) by omega), decide_eq_true (show ((i + j : Nat) : Int) ≤ ((a1.length : Nat) : Int) by omega)]
          simp only [cond_true, Int.toNat_natCast, Option.some.injEq]
          rw [List.drop_take]; congr 1; omega
        simp only [Bool.not_true, cond_false, e1, Option.bind_some, List.length_singleton, room_ok (show (acc.length + 1) * 24 ≤ 140737488351232 by omega), cond_true]
        rw [List.drop_drop] at hq
        rw [key (i + j) _ qs (by omega) (by omega) (by simp; omega) hq]
        simp
theorem term_Pieces_eq {a0 : List QSym} (h : SignOk a0) {a1 : List Int} (hl : a1.length ≤ 1099511627776) {ps : List (List Int)} (hc : cuts a0 a1 = some ps) : term_Pieces a0 a1 = some ps := by
  unfold term_Pieces
  have := pieces_round h a1 hl a1.length 0 [] ps fuel rfl (Nat.zero_le _) (Nat.zero_le _) hc (by unfold fuel; omega)
  rw [show ((0 : Nat) : Int) = 0 from rfl] at this
  rw [this]
  rfl
theorem cuts_len {a0 : List QSym} {xs : List Int} {ps : List (List Int)} (h : cuts a0 xs = some ps) : ps.length ≤ xs.length := by
  obtain ⟨h1, h2⟩ := cuts_flat xs.length xs ps (Nat.le_refl _) h
  have h3 : ∀ qs : List (List Int), (∀ p ∈ qs, p ≠ []) → qs.length ≤ qs.flatten.length := by
    intro qs
    induction qs with
    | nil => intro _; simp
    | cons q qs ih =>
      intro hq
      have := ih fun p hp => hq p (by simp [hp])
      have h4 := List.length_pos_iff.2 (hq q (by simp))
      simp only [List.flatten_cons, List.length_append, List.length_cons]
      omega
  have := h3 ps fun p hp => (h2 p hp).1
  rw [h1] at this
  exact this
def nameOf (a0 : List QSym) (x : Int) : Str := match a0[x.toNat]? with
  | some e => e.1
  | none => []
def pieceT (a0 : List QSym) (f : List Int → Str) : List Int → Str
  | [] => []
  | x :: r => cond (decide (x < 0)) ([88] ++ dig2 (-1 - x).toNat) (cond r.isEmpty (nameOf a0 x) (((nameOf a0 x ++ [40]) ++ f r) ++ [41]))
theorem pieceT_cons (a0 : List QSym) (f : List Int → Str) (x : Int) (r : List Int) : pieceT a0 f (x :: r) = cond (decide (x < 0)) ([88] ++ dig2 (-1 - x).toNat) (cond r.isEmpty (nameOf a0 x) (((nameOf a0 x ++ [40]) ++ f r) ++ [41])) := rfl
def showN (a0 : List QSym) : Nat → List Int → Str
  | 0, _ => []
  | n + 1, xs => Lib.join (((cuts a0 xs).getD []).map (pieceT a0 (showN a0 n))) [44, 32]
def showTs (a0 : List QSym) (xs : List Int) : Str := showN a0 (xs.length + 1) xs
theorem mem_len {ps : List (List Int)} {p : List Int} (h : p ∈ ps) : p.length ≤ ps.flatten.length := by
  induction ps with
  | nil => cases h
  | cons q qs ih =>
    rw [List.flatten_cons, List.length_append]
    rcases List.mem_cons.1 h with rfl | h
    · omega
    · have := ih h; omega
theorem pieceT_congr {a0 : List QSym} {f g : List Int → Str} {p : List Int} (h : ∀ x r, p = x :: r → f r = g r) : pieceT a0 f p = pieceT a0 g p := by
  cases p with
  | nil => rfl
  | cons x r => unfold pieceT; dsimp only; rw [h x r rfl]
theorem showN_more {a0 : List QSym} : ∀ (n m : Nat) (xs : List Int), xs.length < n → n ≤ m → showN a0 m xs = showN a0 n xs := by
  intro n
  induction n with
  | zero => intro m xs h; omega
  | succ n ih =>
    intro m xs h hm
    obtain ⟨m, rfl⟩ : ∃ m', m = m' + 1 := ⟨m - 1, by omega⟩
    unfold showN
    cases hc : cuts a0 xs with
    | none => rfl
    | some ps =>
      have hf := cuts_flat xs.length xs ps (Nat.le_refl _) hc
      show Lib.join (ps.map _) _ = Lib.join (ps.map _) _
      congr 1
      refine List.map_congr_left fun p hp => pieceT_congr fun x r e => ?_
      have := mem_len hp
      rw [hf.1, e, List.length_cons] at this
      exact ih m r (by omega) (by omega)
theorem showTs_eq {a0 : List QSym} {xs : List Int} {ps : List (List Int)} (h : cuts a0 xs = some ps) : showTs a0 xs = Lib.join (ps.map (pieceT a0 (showTs a0))) [44, 32] := by
  unfold showTs
  show showN a0 (xs.length + 1) xs = _
  rw [showN, h]
  have hf := cuts_flat xs.length xs ps (Nat.le_refl _) h
  show Lib.join (ps.map _) _ = _
  congr 1
  refine List.map_congr_left fun p hp => pieceT_congr fun x r e => ?_
  have := mem_len hp
  rw [hf.1, e, List.length_cons] at this
  exact showN_more (r.length + 1) xs.length r (by omega) (by omega)
def lensS (xs : List Str) : Nat := (xs.map List.length).sum
theorem join_le (xs : List Str) (sep : Str) : (Lib.join xs sep).length ≤ lensS xs + sep.length * xs.length := by
  cases xs with
  | nil => simp [Lib.join_nil]
  | cons x r =>
    rw [Lib.join_length, show Lib.lens (x :: r) = lensS (x :: r) from rfl, List.length_cons, Nat.mul_succ]
    omega
theorem joinF_eq {xs : List Str} {sep : Str} (h1 : xs.length ≤ 1099511627776) (h2 : lensS xs ≤ 1099511627776) (h3 : sep.length ≤ 8) : joinF xs sep = some (Lib.join xs sep) := by
  have := join_le xs sep
  have h4 : sep.length * xs.length ≤ 8 * 1099511627776 := Nat.mul_le_mul h3 h1
  unfold joinF
  rw [decide_eq_true (show xs.length ≤ 140737488355328 by omega), decide_eq_true (show (Lib.join xs sep).length ≤ 140737488355328 by omega)]
  rfl
theorem dig2_len (n : Nat) : 1 ≤ (dig2 n).length ∧ (dig2 n).length ≤ 2 := by
  unfold dig2
  cases decide (n < 10) <;> simp
theorem itoaF_eq {n : Int} (h0 : 0 ≤ n) (h1 : n < 100) : itoaF n = some (dig2 n.toNat) := by
  unfold itoaF
  rw [decide_eq_true h0, decide_eq_true h1]; rfl
theorem arity_neg {a0 : List QSym} {x : Int} {q : Nat} (h : arity a0 x = some q) (hx : x < 0) : -24 ≤ x ∧ q = 0 := by
  unfold arity at h
  rw [decide_eq_true hx, cond_true] at h
  cases hd : decide (-24 ≤ x) with
  | false => rw [hd] at h; cases h
  | true => rw [hd] at h; injection h with h; exact ⟨of_decide_eq_true hd, h.symm⟩
theorem arity_pos {a0 : List QSym} {x : Int} {q : Nat} (h : arity a0 x = some q) (hx : ¬ x < 0) : ∃ e, gx a0 x = some e ∧ a0[x.toNat]? = some e ∧ e.2.1 ≠ 0 ∧ q = e.2.2.1.toNat := by
  unfold arity at h
  rw [decide_eq_false hx, cond_false] at h
  cases he : a0[x.toNat]? with
  | none => rw [he] at h; cases h
  | some e =>
    rw [he] at h
    have hg : gx a0 x = some e := by
      unfold gx
      rw [decide_eq_true (show 0 ≤ x by omega), cond_true, he]
    dsimp only at h
    cases hz : (e.2.1 == 0) with
    | true => rw [hz] at h; cases h
    | false => rw [hz] at h; injection h with h; exact ⟨e, hg, rfl, by simpa using hz, h.symm⟩
theorem show_go {a0 : List QSym} (h : SignOk a0) (rf : (List QSym × List Int) → Option Str) (f : List Int → Str) : ∀ (es : List (List Int)) (acc : List Str),
    (∀ p ∈ es, sk a0 1 p = some p.length) → (∀ p ∈ es, ∀ x r, p = x :: r → r ≠ [] → rf (a0, r) = some (f r) ∧ (f r).length ≤ 12 * r.length) → es.flatten.length ≤ 1000000000 → acc.length + es.length ≤ 1000000000 →
    formula_ShowTerms_L0_go rf a0 es acc = some (acc ++ es.map (pieceT a0 f)) ∧ lensS (es.map (pieceT a0 f)) + 2 * es.length ≤ 12 * es.flatten.length := by
  intro es
  induction es with
  | nil => intro acc _ _ _ _; exact ⟨by simp [formula_ShowTerms_L0_go], by simp [lensS]⟩
  | cons e es ih =>
    intro acc hp hr hl hacc
    obtain ⟨x, r, q, rfl, ha, hq⟩ := piece_cases (hp e (by simp))
    rw [List.flatten_cons, List.length_append, List.length_cons] at hl
    rw [List.length_cons] at hacc
    have key := fun t => ih (acc ++ [t]) (fun p hm => hp p (by simp [hm])) (fun p hm => hr p (by simp [hm])) (by omega) (by simp; omega)
    unfold formula_ShowTerms_L0_go
    simp only [gx_zero, List.getElem?_cons_zero, Option.bind_some, List.map_cons, List.flatten_cons, List.length_append, List.length_cons, List.length_nil]
    have hlens : lensS (pieceT a0 f (x :: r) :: es.map (pieceT a0 f)) = (pieceT a0 f (x :: r)).length + lensS (es.map (pieceT a0 f)) := by simp [lensS]
    rw [hlens]
    by_cases hx : x < 0
    · obtain ⟨hx2, rfl⟩ := arity_neg ha hx
      have hd := dig2_len (-1 - x).toNat
      have hpt : pieceT a0 f (x :: r) = [88] ++ dig2 (-1 - x).toNat := by rw [pieceT_cons, decide_eq_true hx]; rfl
      rw [hpt]
      have hk := key ([88] ++ dig2 (-1 - x).toNat)
      simp only [decide_eq_true hx, cond_true, term_Number_eq (show -9223372036854775808 ≤ x by omega) (show x ≤ 9223372036854775807 by omega), Option.bind_some, strconv_Itoa, itoaF_eq (show 0 ≤ -1 - x by omega) (show -1 - x < 100 by omega),
        decide_eq_true (show 0 + 1 + (dig2 (-1 - x).toNat).length < 4611686018427387904 by omega), room_ok (show (acc.length + (0 + 1)) * 16 ≤ 140737488351232 by omega), hk.1]
      refine ⟨by simp, ?_⟩
      have := hk.2
      simp only [List.length_append, List.length_cons, List.length_nil]
      omega
    · obtain ⟨e, he1, he2, he3, rfl⟩ := arity_pos ha hx
      have hat := h.at he2
      have hnm : nameOf a0 x = e.1 := by unfold nameOf; rw [he2]
      by_cases hr0 : r = []
      · subst hr0
        have hpt : pieceT a0 f [x] = e.1 := by rw [pieceT_cons, decide_eq_false hx, hnm]; rfl
        rw [hpt]
        have hk := key e.1
        simp only [decide_eq_false hx, cond_false, List.length_nil, show (((0 + 1 : Nat) : Int) == 1) = true from rfl, cond_true, he1, Option.bind_some, room_ok (show (acc.length + (0 + 1)) * 16 ≤ 140737488351232 by omega), hk.1]
        refine ⟨by simp, ?_⟩
        have := hk.2
        omega
      · have hrl : 0 < r.length := List.length_pos_iff.2 hr0
        obtain ⟨hf1, hf2⟩ := hr (x :: r) (by simp) x r rfl hr0
        have hpt : pieceT a0 f (x :: r) = ((e.1 ++ [40]) ++ f r) ++ [41] := by
          rw [pieceT_cons, decide_eq_false hx, hnm, cond_false]
          cases r with
          | nil => exact absurd rfl hr0
          | cons _ _ => rfl
        rw [hpt]
        have hk := key (((e.1 ++ [40]) ++ f r) ++ [41])
        simp only [decide_eq_false hx, cond_false, show (((r.length + 1 : Nat) : Int) == 1) = false from by simp; omega, he1, Option.bind_some, slc_tail, hf1, cond_true,
          decide_eq_true (show e.1.length + (0 + 1) < 4611686018427387904 by omega), decide_eq_true (show e.1.length + (0 + 1) + (f r).length < 4611686018427387904 by omega),
          decide_eq_true (show e.1.length + (0 + 1) + (f r).length + (0 + 1) < 4611686018427387904 by omega), room_ok (show (acc.length + (0 + 1)) * 16 ≤ 140737488351232 by omega), hk.1]
        refine ⟨by simp, ?_⟩
        have := hk.2
        simp only [List.length_append, List.length_cons, List.length_nil]
        omega
theorem showTerms_R {a0 : List QSym} (h : SignOk a0) : ∀ (n : Nat) (xs : List Int) (ps : List (List Int)) (k : Nat), xs.length ≤ n → xs.length ≤ 1000000000 → cuts a0 xs = some ps → n < k →
    formula_ShowTerms_R k (a0, xs) = some (showTs a0 xs) ∧ (showTs a0 xs).length ≤ 12 * xs.length := by
  intro n
  induction n with
  | zero =>
    intro xs ps k h1 _ h2 hk
    obtain rfl : xs = [] := List.length_eq_zero_iff.1 (by omega)
    obtain ⟨k, rfl⟩ : ∃ k', k = k' + 1 := ⟨k - 1, by omega⟩
    injection h2 with h2; subst h2
    show formula_ShowTerms_S (formula_ShowTerms_R k) a0 [] = _ ∧ _
    unfold formula_ShowTerms_S
    rw [term_Pieces_eq h (by simp) (cuts_nil a0), Option.bind_some, formula_ShowTerms_L0_go_at0 _ _ _ _ (by simp)]
    exact ⟨rfl, Nat.zero_le _⟩
  | succ n ih =>
    intro xs ps k h1 hb h2 hk
    obtain ⟨k, rfl⟩ : ∃ k', k = k' + 1 := ⟨k - 1, by omega⟩
    show formula_ShowTerms_S (formula_ShowTerms_R k) a0 xs = _ ∧ _
    unfold formula_ShowTerms_S
    have hf := cuts_flat xs.length xs ps (Nat.le_refl _) h2
    have hlen := cuts_len h2
    rw [term_Pieces_eq h (by omega) h2, Option.bind_some, formula_ShowTerms_L0_go_at0 _ _ _ _ (by unfold maxLen; omega)]
    have hg := show_go h (formula_ShowTerms_R k) (showTs a0) ps [] (fun p hp => (hf.2 p hp).2) (fun p hp x r e hr => by
      obtain ⟨x', r', q, e', ha, hq⟩ := piece_cases (hf.2 p hp).2
      rw [e] at e'
      injection e' with e1 e2; subst e1; subst e2
      obtain ⟨qs, hqs, _⟩ := cuts_sk q r hq
      have := mem_len hp
      rw [hf.1, e, List.length_cons] at this
      exact ih r qs k (by omega) (by omega) hqs (by omega)) (by rw [hf.1]; exact hb) (by simp; omega)
    rw [hf.1] at hg
    rw [hg.1, Option.bind_some, List.nil_append, strings_Join, joinF_eq (by simp; omega) (by omega) (by decide), showTs_eq h2]
    refine ⟨rfl, ?_⟩
    have := join_le (ps.map (pieceT a0 (showTs a0))) [44, 32]
    simp only [List.length_map, List.length_cons, List.length_nil] at this
    omega
theorem formula_ShowTerms_eq {a0 : List QSym} (h : SignOk a0) {xs : List Int} {ps : List (List Int)} (hl : xs.length ≤ 1000000000) (hc : cuts a0 xs = some ps) : formula_ShowTerms a0 xs = some (showTs a0 xs) ∧ (showTs a0 xs).length ≤ 12 * xs.length := by
  unfold formula_ShowTerms
  exact showTerms_R h xs.length xs ps fuel (Nat.le_refl _) hl hc (by unfold fuel; omega)
end
end Go.Abs.Q
namespace Go.Abs.Q
open Go Go.Abs
section
def showA (a0 : List QSym) : List Int → Str
  | [] => []
  | x :: r => cond (x == 0) (match (cuts a0 r).getD [] with
    | [p, q] => (showTs a0 p ++ [32, 61, 32]) ++ showTs a0 q
    | _ => []) (cond r.isEmpty (nameOf a0 x) (((nameOf a0 x ++ [40]) ++ showTs a0 r) ++ [41]))
theorem showA_cons (a0 : List QSym) (x : Int) (r : List Int) : showA a0 (x :: r) = cond (x == 0) (match (cuts a0 r).getD [] with
    | [p, q] => (showTs a0 p ++ [32, 61, 32]) ++ showTs a0 q
    | _ => []) (cond r.isEmpty (nameOf a0 x) (((nameOf a0 x ++ [40]) ++ showTs a0 r) ++ [41])) := rfl
theorem atomB_spec {a0 : List QSym} {xs : List Int} (h : atomB a0 xs = true) : ∃ x r e ps, xs = x :: r ∧ 0 ≤ x ∧ a0[x.toNat]? = some e ∧ gx a0 x = some e ∧ e.2.1 = 0 ∧ signB a0 = true ∧ r.length ≤ 48 ∧ cuts a0 r = some ps ∧ ((ps.length : Nat) : Int) = e.2.2.1 := by
  unfold atomB at h
  cases xs with
  | nil => cases h
  | cons x r =>
    simp only [Bool.and_eq_true, decide_eq_true_eq] at h
    obtain ⟨h0, h⟩ := h
    cases he : a0[x.toNat]? with
    | none => rw [he] at h; cases h
    | some e =>
      rw [he] at h
      simp only [Bool.and_eq_true] at h
      obtain ⟨h1, h⟩ := h
      cases hb : beginsB a0 r with
      | none => rw [hb] at h; cases h
      | some ps =>
        rw [hb] at h
        unfold beginsB at hb
        cases hs : signB a0 with
        | false => rw [hs] at hb; cases hb
        | true =>
          cases hl : decide (r.length ≤ 48) with
          | false => rw [hs, hl] at hb; cases hb
          | true =>
            rw [hs, hl] at hb
            refine ⟨x, r, e, ps, rfl, h0, he, ?_, by simpa using h1, rfl, of_decide_eq_true hl, hb, by simpa using h⟩
            unfold gx
            rw [decide_eq_true h0, cond_true, he]
theorem formula_ShowAtom_eq {a0 : List QSym} {xs : List Int} (h : atomB a0 xs = true) : formula_ShowAtom a0 xs = some (showA a0 xs) ∧ (showA a0 xs).length ≤ 12 * xs.length + 3 := by
  obtain ⟨x, r, e, ps, rfl, h0, he, hg, hk, hs, hl, hc, hn⟩ := atomB_spec h
  have hS := signB_ok hs
  have hat := hS.at he
  have hnm : nameOf a0 x = e.1 := by unfold nameOf; rw [he]
  obtain ⟨t1, t2⟩ := formula_ShowTerms_eq hS (by omega) hc
  unfold formula_ShowAtom
  rw [showA_cons]
  simp only [gx_zero, List.getElem?_cons_zero, Option.bind_some, List.length_cons, slc_tail]
  by_cases hx : x = 0
  · subst hx
    have : e = equalsQ := by
      have := hS.eq
      rw [show ((0 : Int).toNat) = 0 from rfl] at he
      rw [he] at this
      injection this
    subst this
    have hn : ps.length = 2 := by have : ((ps.length : Nat) : Int) = 2 := hn; omega
    match ps, hn with
    | [p, q], _ =>
      have hf := cuts_flat r.length r [p, q] (Nat.le_refl _) hc
      have hlen : p.length + q.length = r.length := by rw [← hf.1]; simp
      have hp := hf.2 p (by simp)
      have hq := hf.2 q (by simp)
      obtain ⟨ps1, hp1, _⟩ := cuts_sk 1 p hp.2
      obtain ⟨ps2, hp2, _⟩ := cuts_sk 1 q hq.2
      obtain ⟨u1, u2⟩ := formula_ShowTerms_eq hS (by omega) hp1
      obtain ⟨v1, v2⟩ := formula_ShowTerms_eq hS (by omega) hp2
      rw [show ((0 : Int) == 0) = true from rfl, cond_true, term_Pieces_eq hS (by omega) hc, hc]
      have e1 : inR 0 (0 + 1 + 1) = some 0 := rfl
      have e2 : inR 1 (0 + 1 + 1) = some 1 := rfl
      simp only [Option.bind_some, e1, e2, List.getElem?_cons_zero, List.getElem?_cons_succ, u1, v1, List.length_cons, List.length_nil, List.length_append, cond_true,
        decide_eq_true (show (showTs a0 p).length + (0 + 1 + 1 + 1) < 4611686018427387904 by omega), decide_eq_true (show (showTs a0 p).length + (0 + 1 + 1 + 1) + (showTs a0 q).length < 4611686018427387904 by omega), Option.getD_some]
      refine ⟨trivial, ?_⟩
      omega
  · rw [show (x == 0) = false from by simpa using hx, cond_false, cond_false]
    cases r with
    | nil =>
      simp only [List.length_nil, show (((0 + 1 : Nat) : Int) == 1) = true from rfl, cond_true, hg, Option.bind_some, List.isEmpty_nil, hnm]
      exact ⟨trivial, by omega⟩
    | cons y r =>
      simp only [List.length_cons, show (((r.length + 1 + 1 : Nat) : Int) == 1) = false from by simp <;> omega, cond_false, hg, Option.bind_some, List.isEmpty_cons, hnm, List.length_append, List.length_nil, t1, cond_true,
        decide_eq_true (show e.1.length + (0 + 1) < 4611686018427387904 by omega), decide_eq_true (show e.1.length + (0 + 1) + (showTs a0 (y :: r)).length < 4611686018427387904 by rw [List.length_cons] at *; omega),
        decide_eq_true (show e.1.length + (0 + 1) + (showTs a0 (y :: r)).length + (0 + 1) < 4611686018427387904 by rw [List.length_cons] at *; omega)]
      refine ⟨trivial, ?_⟩
      rw [List.length_cons] at t2
      omega
theorem joinTail_snoc (sep : Str) (r : List Str) (y : Str) : Lib.joinTail sep (r ++ [y]) = Lib.joinTail sep r ++ sep ++ y := by simp [Lib.joinTail]
end
end Go.Abs.Q
namespace Go.Abs.Q
open Go Go.Abs
section
def hit (p s : Str) : Nat := cond (List.isPrefixOf p s && decide (4 ≤ s.length)) 1 0
def occ (p : Str) : Str → Nat
  | [] => 0
  | c :: r => hit p (c :: r) + occ p r
def bad (t : UInt8) : Bool := t == 111 || t == 114 || t == 105 || t == 102 || t == 38
def HeadOk (c : Str) : Prop := ∀ t r, c = t :: r → bad t = false
structure Quiet (p : Str) (t : Str) : Prop where
  occ : ∀ c, occ p (t ++ c) = Q.occ p c
  hit : ∀ c, HeadOk c → hit p (32 :: (t ++ c)) = 0
theorem showTs_one {a0 : List QSym} {q : List Int} (h : sk a0 1 q = some q.length) : showTs a0 q = pieceT a0 (showTs a0) q ∧ cuts a0 q = some [q] := by
  have hne : q ≠ [] := fun e => by subst e; simp [sk] at h
  have hc : cuts a0 q = some [q] := by
    rw [cuts_step hne, h]
    simp [cuts_nil]
  refine ⟨?_, hc⟩
  rw [showTs_eq hc]
  exact Lib.join_one _ _
structure QuietA (p : Str) (t : Str) : Prop where
  occ : ∀ c, HeadOk c → occ p (t ++ c) = Q.occ p c
  hit : ∀ c, HeadOk c → hit p (32 :: (t ++ c)) = 0
theorem Quiet.a {p t : Str} (h : Quiet p t) : QuietA p t := ⟨fun c _ => h.occ c, h.hit⟩
end
end Go.Abs.Q
namespace Go.Abs.Q
open Go Go.Abs
section
theorem slc_at {α : Type} (s : List α) {i j : Nat} (hij : i ≤ j) (h : j ≤ s.length) : slc2 s (some (i : Int)) (some (j : Int)) = some ((s.drop i).take (j - i)) := by
  show slc s _ _ = _
  unfold slc
  rw [decide_eq_true (show (0 : Int) ≤ (i : Int) by omega), decide_eq_true (show (i : Int) ≤ (j : Int) by omega), decide_eq_true (show (j : Int) ≤ ((s.length : Nat) : Int) by omega)]
  simp only [cond_true, Int.toNat_natCast, Option.some.injEq]
  rw [List.drop_take]
end
end Go.Abs.Q
namespace Go.Abs.Q
open Go Go.Abs
def law0_CopyInts (a0 : (List Int)) : Option (List Int) :=
  cond (room (List.length ([] : List Int) + List.length a0) 8)
  (some (([] : List Int) ++ a0))
  (none)
def ref1_small (a0 : Int) : Option Bool :=
  cond (decide (a0 ≥ 97))
  (some (decide (a0 ≤ 122)))
  (some false)
def ref1_SymMay_L0 (rec : (Int × Str × Int × Int × Int) → Option (Unit ⊕ Bool)) (x : (Int × Str × Int × Int × Int)) : Option (Unit ⊕ Bool) :=
  cond (decide (x.1 < ((List.length x.2.1 : Nat) : Int)))
  ((gx x.2.1 x.1).bind fun c7 =>
    (ref1_small ((UInt8.toNat c7 : Nat) : Int)).bind fun r8 =>
    cond (!r8)
    ((gx x.2.1 x.1).bind fun c9 =>
      cond (decide (((UInt8.toNat c9 : Nat) : Int) < 48))
      (some (Sum.inr false))
      ((gx x.2.1 x.1).bind fun c10 =>
        cond (decide (((UInt8.toNat c10 : Nat) : Int) > 57))
        (some (Sum.inr false))
        (rec ((IntKind.wrap .i64 (x.1 + 1)), x.2.1, x.2.2.1, x.2.2.2.1, x.2.2.2.2))))
    (rec ((IntKind.wrap .i64 (x.1 + 1)), x.2.1, x.2.2.1, x.2.2.2.1, x.2.2.2.2)))
  (some (Sum.inl ()))
def ref1_SymMay (a0 : Str) (a1 : Int) (a2 : Int) (a3 : Int) : Option Bool :=
  cond (decide (((List.length a0 : Nat) : Int) < 1))
  (some false)
  (cond (decide (((List.length a0 : Nat) : Int) > 8))
    (some false)
    ((gx a0 0).bind fun c14 =>
      (ref1_small ((UInt8.toNat c14 : Nat) : Int)).bind fun r15 =>
      cond (!r15)
      (some false)
      (((lp ref1_SymMay_L0 fuel) (0, a0, a1, a2, a3)).bind fun r16 =>
        caseS r16
        (fun z17 => cond (decide (a1 ≥ 0))
          (cond (decide (a1 ≤ 2))
            (cond (decide (a2 ≥ 0))
              (cond (decide (a2 ≤ 3))
                (cond (decide (a3 ≥ 1))
                  (some (decide (a3 ≤ 20)))
                  (some false))
                (some false))
              (some false))
            (some false))
          (some false))
        (fun z18 => some z18))))
def ref1_Code_L0 (rec : ((List QSym) × Str × Int) → Option (Unit ⊕ Int)) (x : ((List QSym) × Str × Int)) : Option (Unit ⊕ Int) :=
  cond (decide (x.2.2 < ((List.length x.1 : Nat) : Int)))
  ((gx x.1 x.2.2).bind fun e2 =>
    cond (e2.1 == x.2.1)
    (some (Sum.inr x.2.2))
    (rec (x.1, x.2.1, (IntKind.wrap .i64 (x.2.2 + 1)))))
  (some (Sum.inl ()))
def ref1_Code (a0 : (List QSym)) (a1 : Str) : Option Int :=
  ((lp ref1_Code_L0 fuel) (a0, a1, 0)).bind fun r6 =>
  caseS r6
  (fun z7 => some (-1))
  (fun z8 => some z8)
def ref1_SignMay_L0 (rec : ((List QSym) × Int) → Option (Unit ⊕ Bool)) (x : ((List QSym) × Int)) : Option (Unit ⊕ Bool) :=
  cond (decide (x.2 < ((List.length x.1 : Nat) : Int)))
  ((gx x.1 x.2).bind fun e6 =>
    (ref1_SymMay e6.1 e6.2.1 e6.2.2.1 e6.2.2.2).bind fun r7 =>
    cond (!r7)
    (some (Sum.inr false))
    ((gx x.1 x.2).bind fun e8 =>
      (ref1_Code x.1 e8.1).bind fun r9 =>
      cond (r9 != x.2)
      (some (Sum.inr false))
      (rec (x.1, (IntKind.wrap .i64 (x.2 + 1))))))
  (some (Sum.inl ()))
def ref1_SignMay (a0 : (List QSym)) : Option Bool :=
  cond (decide (((List.length a0 : Nat) : Int) < 1))
  (some false)
  (cond (decide (((List.length a0 : Nat) : Int) > 20))
    (some false)
    ((gx a0 0).bind fun e13 =>
      cond (!(cond (eqS e13.1 ([61] : Str)) (cond (eqI e13.2.1 0) (cond (eqI e13.2.2.1 2) (cond (eqI e13.2.2.2 1) true false) false) false) false))
      (some false)
      (((lp ref1_SignMay_L0 fuel) (a0, 1)).bind fun r14 =>
        caseS r14
        (fun z15 => some true)
        (fun z16 => some z16))))
def ref1_End_L0 (rec : ((List QSym) × (List Int) × Int × Int) → Option (Int ⊕ Int)) (x : ((List QSym) × (List Int) × Int × Int)) : Option (Int ⊕ Int) :=
  cond (decide (x.2.2.1 > 0))
  (cond (decide (x.2.2.2 ≥ ((List.length x.2.1 : Nat) : Int)))
    (some (Sum.inr (-1)))
    ((gx x.2.1 x.2.2.2).bind fun e8 =>
      cond (decide (e8 < (-24)))
      (some (Sum.inr (-1)))
      ((gx x.2.1 x.2.2.2).bind fun e9 =>
        cond (decide (e9 ≥ ((List.length x.1 : Nat) : Int)))
        (some (Sum.inr (-1)))
        ((gx x.2.1 x.2.2.2).bind fun e10 =>
          cond (decide (e10 ≥ 0))
          ((gx x.2.1 x.2.2.2).bind fun e11 =>
            (gx x.1 e11).bind fun e12 =>
            cond (e12.2.1 == 0)
            (some (Sum.inr (-1)))
            ((gx x.2.1 x.2.2.2).bind fun e13 =>
              (gx x.1 e13).bind fun e14 =>
              rec (x.1, x.2.1, (IntKind.wrap .i64 ((IntKind.wrap .i64 (x.2.2.1 - 1)) + e14.2.2.1)), (IntKind.wrap .i64 (x.2.2.2 + 1)))))
          (rec (x.1, x.2.1, (IntKind.wrap .i64 (x.2.2.1 - 1)), (IntKind.wrap .i64 (x.2.2.2 + 1))))))))
  (some (Sum.inl x.2.2.2))
def ref1_End (a0 : (List QSym)) (a1 : (List Int)) (a2 : Int) : Option Int :=
  ((lp ref1_End_L0 fuel) (a0, a1, 1, a2)).bind fun r18 =>
  caseS r18
  (fun z19 => some z19)
  (fun z20 => some z20)
def ref1_Terms_L0 (rec : ((List QSym) × (List Int) × Int × Int) → Option (Int ⊕ Int)) (x : ((List QSym) × (List Int) × Int × Int)) : Option (Int ⊕ Int) :=
  cond (decide (x.2.2.2 < ((List.length x.2.1 : Nat) : Int)))
  ((ref1_End x.1 x.2.1 x.2.2.2).bind fun r2 =>
    cond (decide (r2 < 0))
    (some (Sum.inr (-1)))
    (rec (x.1, x.2.1, (IntKind.wrap .i64 (x.2.2.1 + 1)), r2)))
  (some (Sum.inl x.2.2.1))
def ref1_Terms (a0 : (List QSym)) (a1 : (List Int)) : Option Int :=
  cond (decide (((List.length a1 : Nat) : Int) > 48))
  (some (-1))
  (((lp ref1_Terms_L0 fuel) (a0, a1, 0, 0)).bind fun r6 =>
    caseS r6
    (fun z7 => some z7)
    (fun z8 => some z8))
def ref1_IsAtom (a0 : (List QSym)) (a1 : (List Int)) : Option Bool :=
  cond (decide (((List.length a1 : Nat) : Int) > 0))
  ((gx a1 0).bind fun e9 =>
    cond (decide (e9 ≥ 0))
    ((gx a1 0).bind fun e10 =>
      cond (decide (e10 < ((List.length a0 : Nat) : Int)))
      ((gx a1 0).bind fun e11 =>
        (gx a0 e11).bind fun e12 =>
        cond (e12.2.1 == 0)
        ((slc2 a1 (some 1) none).bind fun y13 =>
          (ref1_Terms a0 y13).bind fun r14 =>
          (gx a1 0).bind fun e15 =>
          (gx a0 e15).bind fun e16 =>
          some (r14 == e16.2.2.1))
        (some false))
      (some false))
    (some false))
  (some false)
def ref1_behind_L0 (rec : ((List QSym) × (List Int) × Int × Int) → Option Int) (x : ((List QSym) × (List Int) × Int × Int)) : Option Int :=
  cond (decide (x.2.2.1 > 0))
  ((gx x.2.1 x.2.2.2).bind fun e4 =>
    cond (decide (e4 ≥ 0))
    ((gx x.2.1 x.2.2.2).bind fun e5 =>
      (gx x.1 e5).bind fun e6 =>
      rec (x.1, x.2.1, (IntKind.wrap .i64 ((IntKind.wrap .i64 (x.2.2.1 - 1)) + e6.2.2.1)), (IntKind.wrap .i64 (x.2.2.2 + 1))))
    (rec (x.1, x.2.1, (IntKind.wrap .i64 (x.2.2.1 - 1)), (IntKind.wrap .i64 (x.2.2.2 + 1)))))
  (some x.2.2.2)
def ref1_behind (a0 : (List QSym)) (a1 : (List Int)) (a2 : Int) : Option Int :=
  ((lp ref1_behind_L0 fuel) (a0, a1, 1, a2)).bind fun r8 =>
  some r8
def ref1_Parts_L0 (rec : ((List QSym) × (List Int) × Int × (List (List Int))) → Option (List (List Int))) (x : ((List QSym) × (List Int) × Int × (List (List Int)))) : Option (List (List Int)) :=
  cond (decide (x.2.2.1 < ((List.length x.2.1 : Nat) : Int)))
  ((ref1_behind x.1 x.2.1 x.2.2.1).bind fun r5 =>
    (slc2 x.2.1 (some x.2.2.1) (some r5)).bind fun y6 =>
    cond (room (List.length x.2.2.2 + List.length ([y6] : List (List Int))) 24)
    (rec (x.1, x.2.1, r5, (x.2.2.2 ++ ([y6] : List (List Int)))))
    (none))
  (some x.2.2.2)
def ref1_Parts (a0 : (List QSym)) (a1 : (List Int)) : Option (List (List Int)) :=
  ((lp ref1_Parts_L0 fuel) (a0, a1, 0, ([] : (List (List Int))))).bind fun r8 =>
  some r8
def ref17_Decimal_S (rf : (Int → Option Str)) (a0 : Int) : Option Str :=
  cond (decide (a0 < 0))
  ((rf (negI .i64 a0)).bind fun r3 =>
    cond (decide ((List.length ([45] : Str) + List.length r3 : Nat) < 4611686018427387904))
    (some (([45] : Str) ++ r3))
    (none))
  (cond (decide (a0 < 10))
    (some (bytesStr ([(IntKind.wrap .u8 (IntKind.wrap .i64 (48 + a0)))] : List Int)))
    ((rf (IntKind.wrap .i64 (Int.tdiv a0 10))).bind fun r4 =>
      cond (decide ((List.length r4 + List.length (bytesStr ([(IntKind.wrap .u8 (IntKind.wrap .i64 (48 + (Int.tmod a0 10))))] : List Int)) : Nat) < 4611686018427387904))
      (some (r4 ++ (bytesStr ([(IntKind.wrap .u8 (IntKind.wrap .i64 (48 + (Int.tmod a0 10))))] : List Int))))
      (none)))
def ref17_Decimal_R_step (rf : (Int → Option Str)) : (Int → Option Str) :=
  fun (x : Int) => ref17_Decimal_S rf x
def ref17_Decimal_R_base : (Int → Option Str) := fun _ => none
def ref17_Decimal_R (k : Nat) : (Int → Option Str) := lpR ref17_Decimal_R_base ref17_Decimal_R_step k
def ref17_Decimal (a0 : Int) : Option Str := (ref17_Decimal_R fuel) a0
def ref21_Args_S (rf : ((((List QSym) × (List Int)) → Option Str) × (((List QSym) × (List Int)) → Option Str) × (((List QSym) × (List Int)) → Option Str))) (a0 : (List QSym)) (a1 : (List Int)) : Option Str :=
  cond (((List.length a1 : Nat) : Int) == 0)
  (some ([] : Str))
  ((rf.2.2 (a0, a1)).bind fun r2 =>
    cond (decide ((List.length ([40] : Str) + List.length r2 : Nat) < 4611686018427387904))
    (cond (decide ((List.length (([40] : Str) ++ r2) + List.length ([41] : Str) : Nat) < 4611686018427387904))
      (some ((([40] : Str) ++ r2) ++ ([41] : Str)))
      (none))
    (none))
def ref21_Term_S (rf : ((((List QSym) × (List Int)) → Option Str) × (((List QSym) × (List Int)) → Option Str) × (((List QSym) × (List Int)) → Option Str))) (a0 : (List QSym)) (a1 : (List Int)) : Option Str :=
  (gx a1 0).bind fun e8 =>
  cond (decide (e8 < 0))
  ((gx a1 0).bind fun e9 =>
    (ref17_Decimal (IntKind.wrap .i64 ((-1) - e9))).bind fun r10 =>
    cond (decide ((List.length ([88] : Str) + List.length r10 : Nat) < 4611686018427387904))
    (some (([88] : Str) ++ r10))
    (none))
  ((gx a1 0).bind fun e11 =>
    (gx a0 e11).bind fun e12 =>
    (slc2 a1 (some 1) none).bind fun y13 =>
    (rf.1 (a0, y13)).bind fun r14 =>
    cond (decide ((List.length e12.1 + List.length r14 : Nat) < 4611686018427387904))
    (some (e12.1 ++ r14))
    (none))
def ref21_Terms_L0 (rf : ((((List QSym) × (List Int)) → Option Str) × (((List QSym) × (List Int)) → Option Str) × (((List QSym) × (List Int)) → Option Str))) (rec : ((List QSym) × Str × (List (List Int)) × Int) → Option Str) (x : ((List QSym) × Str × (List (List Int)) × Int)) : Option Str :=
  cond (decide (x.2.2.2 < ((List.length x.2.2.1 : Nat) : Int)))
  (cond (decide (x.2.2.2 > 0))
    (cond (decide ((List.length x.2.1 + List.length ([44, 32] : Str) : Nat) < 4611686018427387904))
      ((gx x.2.2.1 x.2.2.2).bind fun e6 =>
        (rf.2.1 (x.1, e6)).bind fun r7 =>
        cond (decide ((List.length (x.2.1 ++ ([44, 32] : Str)) + List.length r7 : Nat) < 4611686018427387904))
        (rec (x.1, ((x.2.1 ++ ([44, 32] : Str)) ++ r7), x.2.2.1, (IntKind.wrap .i64 (x.2.2.2 + 1))))
        (none))
      (none))
    ((gx x.2.2.1 x.2.2.2).bind fun e8 =>
      (rf.2.1 (x.1, e8)).bind fun r9 =>
      cond (decide ((List.length x.2.1 + List.length r9 : Nat) < 4611686018427387904))
      (rec (x.1, (x.2.1 ++ r9), x.2.2.1, (IntKind.wrap .i64 (x.2.2.2 + 1))))
      (none)))
  (some x.2.1)
def ref21_Terms_S (rf : ((((List QSym) × (List Int)) → Option Str) × (((List QSym) × (List Int)) → Option Str) × (((List QSym) × (List Int)) → Option Str))) (a0 : (List QSym)) (a1 : (List Int)) : Option Str :=
  (ref1_Parts a0 a1).bind fun r11 =>
  ((lp (ref21_Terms_L0 rf) fuel) (a0, ([] : Str), r11, 0)).bind fun r12 =>
  some r12
def ref21_Terms_R_step (rf : ((((List QSym) × (List Int)) → Option Str) × (((List QSym) × (List Int)) → Option Str) × (((List QSym) × (List Int)) → Option Str))) : ((((List QSym) × (List Int)) → Option Str) × (((List QSym) × (List Int)) → Option Str) × (((List QSym) × (List Int)) → Option Str)) :=
  (fun (x : ((List QSym) × (List Int))) => ref21_Args_S rf x.1 x.2, fun (x : ((List QSym) × (List Int))) => ref21_Term_S rf x.1 x.2, fun (x : ((List QSym) × (List Int))) => ref21_Terms_S rf x.1 x.2)
def ref21_Terms_R_base : ((((List QSym) × (List Int)) → Option Str) × (((List QSym) × (List Int)) → Option Str) × (((List QSym) × (List Int)) → Option Str)) := (fun _ => none, fun _ => none, fun _ => none)
def ref21_Terms_R (k : Nat) : ((((List QSym) × (List Int)) → Option Str) × (((List QSym) × (List Int)) → Option Str) × (((List QSym) × (List Int)) → Option Str)) := lpR ref21_Terms_R_base ref21_Terms_R_step k
def ref21_Args (a0 : (List QSym)) (a1 : (List Int)) : Option Str := (ref21_Terms_R fuel).1 (a0, a1)
def ref21_Term (a0 : (List QSym)) (a1 : (List Int)) : Option Str := (ref21_Terms_R fuel).2.1 (a0, a1)
def ref21_Terms (a0 : (List QSym)) (a1 : (List Int)) : Option Str := (ref21_Terms_R fuel).2.2 (a0, a1)
def ref21_Atom (a0 : (List QSym)) (a1 : (List Int)) : Option Str :=
  (gx a1 0).bind fun e14 =>
  cond (e14 == 0)
  ((slc2 a1 (some 1) none).bind fun y15 =>
    (ref1_Parts a0 y15).bind fun r16 =>
    (inR 0 (List.length r16)).bind fun k17 =>
    (r16[k17]?).bind fun x18 =>
    (ref21_Term a0 x18).bind fun r19 =>
    cond (decide ((List.length r19 + List.length ([32, 61, 32] : Str) : Nat) < 4611686018427387904))
    ((inR 1 (List.length r16)).bind fun k20 =>
      (r16[k20]?).bind fun x21 =>
      (ref21_Term a0 x21).bind fun r22 =>
      cond (decide ((List.length (r19 ++ ([32, 61, 32] : Str)) + List.length r22 : Nat) < 4611686018427387904))
      (some ((r19 ++ ([32, 61, 32] : Str)) ++ r22))
      (none))
    (none))
  ((gx a1 0).bind fun e23 =>
    (gx a0 e23).bind fun e24 =>
    (slc2 a1 (some 1) none).bind fun y25 =>
    (ref21_Args a0 y25).bind fun r26 =>
    cond (decide ((List.length e24.1 + List.length r26 : Nat) < 4611686018427387904))
    (some (e24.1 ++ r26))
    (none))
end Go.Abs.Q
namespace Go.Abs.Q
open Go Go.Abs
def ref1_SymMay_L0_go : List UInt8 → Option (Unit ⊕ Bool)
  | [] => some (Sum.inl ())
  | e :: es =>
    (ref1_small ((UInt8.toNat e : Nat) : Int)).bind fun r8 =>
    cond (!r8)
    (cond (decide (((UInt8.toNat e : Nat) : Int) < 48))
      (some (Sum.inr false))
      (cond (decide (((UInt8.toNat e : Nat) : Int) > 57))
        (some (Sum.inr false))
        (ref1_SymMay_L0_go es)))
    (ref1_SymMay_L0_go es)
theorem ref1_SymMay_L0_go_eq (s1 : Str) (s2 : Int) (s3 : Int) (s4 : Int) (hl : List.length s1 ≤ maxLen) : ∀ (es : List UInt8) (i : Nat) (k : Nat), s1.drop i = es → es.length < k → lp ref1_SymMay_L0 k ((i : Int), s1, s2, s3, s4) = ref1_SymMay_L0_go es := by
  intro es
  induction es with
  | nil =>
    intro i k h hk
    obtain ⟨k, rfl⟩ : ∃ k', k = k' + 1 := ⟨k - 1, by omega⟩
    rw [lp_succ]
    generalize lp ref1_SymMay_L0 k = rec
    unfold ref1_SymMay_L0 ref1_SymMay_L0_go
    simp only [lt_false (drop_nil_le h), cond_false]
  | cons e es ih =>
    intro i k h hk
    obtain ⟨k, rfl⟩ : ∃ k', k = k' + 1 := ⟨k - 1, by omega⟩
    rw [lp_succ]
    have hi := drop_cons_lt h
    have hk2 : es.length < k := Nat.lt_of_succ_lt_succ hk
    have key := fun (_ : Unit) => ih (i + 1) k (drop_cons_next h) hk2
    generalize lp ref1_SymMay_L0 k = rec at key ⊢
    unfold ref1_SymMay_L0 ref1_SymMay_L0_go
    simp only [lt_true hi, cond_true, gx_nat, drop_cons_get h, Option.bind_some, wrap_i1 hi hl, key ()]
theorem ref1_SymMay_L0_go_at0 (s1 : Str) (s2 : Int) (s3 : Int) (s4 : Int) (hl : List.length s1 ≤ maxLen) : lp ref1_SymMay_L0 fuel (0, s1, s2, s3, s4) = ref1_SymMay_L0_go s1 :=
  ref1_SymMay_L0_go_eq s1 s2 s3 s4 hl s1 0 fuel rfl (Nat.lt_of_le_of_lt hl (by decide))
def ref1_Code_L0_go (s1 : Str) : List QSym → Nat → Option (Unit ⊕ Int)
  | [], i => some (Sum.inl ())
  | e :: es, i =>
    cond (e.1 == s1)
    (some (Sum.inr (i : Int)))
    (ref1_Code_L0_go s1 es (i + 1))
theorem ref1_Code_L0_go_eq (s0 : (List QSym)) (s1 : Str) (hl : List.length s0 ≤ maxLen) : ∀ (es : List QSym) (i : Nat) (k : Nat), s0.drop i = es → es.length < k → lp ref1_Code_L0 k (s0, s1, (i : Int)) = ref1_Code_L0_go s1 es i := by
  intro es
  induction es with
  | nil =>
    intro i k h hk
    obtain ⟨k, rfl⟩ : ∃ k', k = k' + 1 := ⟨k - 1, by omega⟩
    rw [lp_succ]
    generalize lp ref1_Code_L0 k = rec
    unfold ref1_Code_L0 ref1_Code_L0_go
    simp only [lt_false (drop_nil_le h), cond_false]
  | cons e es ih =>
    intro i k h hk
    obtain ⟨k, rfl⟩ : ∃ k', k = k' + 1 := ⟨k - 1, by omega⟩
    rw [lp_succ]
    have hi := drop_cons_lt h
    have hk2 : es.length < k := Nat.lt_of_succ_lt_succ hk
    have key := fun (_ : Unit) => ih (i + 1) k (drop_cons_next h) hk2
    generalize lp ref1_Code_L0 k = rec at key ⊢
    unfold ref1_Code_L0 ref1_Code_L0_go
    simp only [lt_true hi, cond_true, gx_nat, drop_cons_get h, Option.bind_some, wrap_i1 hi hl, key ()]
theorem ref1_Code_L0_go_at0 (s0 : (List QSym)) (s1 : Str) (hl : List.length s0 ≤ maxLen) : lp ref1_Code_L0 fuel (s0, s1, 0) = ref1_Code_L0_go s1 s0 0 :=
  ref1_Code_L0_go_eq s0 s1 hl s0 0 fuel rfl (Nat.lt_of_le_of_lt hl (by decide))
def ref1_SignMay_L0_go (s0 : (List QSym)) : List QSym → Nat → Option (Unit ⊕ Bool)
  | [], i => some (Sum.inl ())
  | e :: es, i =>
    (ref1_SymMay e.1 e.2.1 e.2.2.1 e.2.2.2).bind fun r7 =>
    cond (!r7)
    (some (Sum.inr false))
    ((ref1_Code s0 e.1).bind fun r9 =>
      cond (r9 != (i : Int))
      (some (Sum.inr false))
      (ref1_SignMay_L0_go s0 es (i + 1)))
theorem ref1_SignMay_L0_go_eq (s0 : (List QSym)) (hl : List.length s0 ≤ maxLen) : ∀ (es : List QSym) (i : Nat) (k : Nat), s0.drop i = es → es.length < k → lp ref1_SignMay_L0 k (s0, (i : Int)) = ref1_SignMay_L0_go s0 es i := by
  intro es
  induction es with
  | nil =>
    intro i k h hk
    obtain ⟨k, rfl⟩ : ∃ k', k = k' + 1 := ⟨k - 1, by omega⟩
    rw [lp_succ]
    generalize lp ref1_SignMay_L0 k = rec
    unfold ref1_SignMay_L0 ref1_SignMay_L0_go
    simp only [lt_false (drop_nil_le h), cond_false]
  | cons e es ih =>
    intro i k h hk
    obtain ⟨k, rfl⟩ : ∃ k', k = k' + 1 := ⟨k - 1, by omega⟩
    rw [lp_succ]
    have hi := drop_cons_lt h
    have hk2 : es.length < k := Nat.lt_of_succ_lt_succ hk
    have key := fun (_ : Unit) => ih (i + 1) k (drop_cons_next h) hk2
    generalize lp ref1_SignMay_L0 k = rec at key ⊢
    unfold ref1_SignMay_L0 ref1_SignMay_L0_go
    simp only [lt_true hi, cond_true, gx_nat, drop_cons_get h, Option.bind_some, wrap_i1 hi hl, key ()]
def ref21_Terms_L0_go (rf : ((((List QSym) × (List Int)) → Option Str) × (((List QSym) × (List Int)) → Option Str) × (((List QSym) × (List Int)) → Option Str))) (s0 : (List QSym)) : List (List Int) → Nat → Str → Option Str
  | [], i, s1 => some s1
  | e :: es, i, s1 =>
    cond (decide ((i : Int) > 0))
    (cond (decide ((List.length s1 + List.length ([44, 32] : Str) : Nat) < 4611686018427387904))
      ((rf.2.1 (s0, e)).bind fun r7 =>
        cond (decide ((List.length (s1 ++ ([44, 32] : Str)) + List.length r7 : Nat) < 4611686018427387904))
        (ref21_Terms_L0_go rf s0 es (i + 1) ((s1 ++ ([44, 32] : Str)) ++ r7))
        (none))
      (none))
    ((rf.2.1 (s0, e)).bind fun r9 =>
      cond (decide ((List.length s1 + List.length r9 : Nat) < 4611686018427387904))
      (ref21_Terms_L0_go rf s0 es (i + 1) (s1 ++ r9))
      (none))
theorem ref21_Terms_L0_go_eq (rf : ((((List QSym) × (List Int)) → Option Str) × (((List QSym) × (List Int)) → Option Str) × (((List QSym) × (List Int)) → Option Str))) (s0 : (List QSym)) (s2 : (List (List Int))) (hl : List.length s2 ≤ maxLen) : ∀ (es : List (List Int)) (i : Nat) (k : Nat) (s1 : Str), s2.drop i = es → es.length < k → lp (ref21_Terms_L0 rf) k (s0, s1, s2, (i : Int)) = ref21_Terms_L0_go rf s0 es i s1 := by
  intro es
  induction es with
  | nil =>
    intro i k s1 h hk
    obtain ⟨k, rfl⟩ : ∃ k', k = k' + 1 := ⟨k - 1, by omega⟩
    rw [lp_succ]
    generalize lp (ref21_Terms_L0 rf) k = rec
    unfold ref21_Terms_L0 ref21_Terms_L0_go
    simp only [lt_false (drop_nil_le h), cond_false]
  | cons e es ih =>
    intro i k s1 h hk
    obtain ⟨k, rfl⟩ : ∃ k', k = k' + 1 := ⟨k - 1, by omega⟩
    rw [lp_succ]
    have hi := drop_cons_lt h
    have hk2 : es.length < k := Nat.lt_of_succ_lt_succ hk
    have key := fun s1 => ih (i + 1) k s1 (drop_cons_next h) hk2
    generalize lp (ref21_Terms_L0 rf) k = rec at key ⊢
    unfold ref21_Terms_L0 ref21_Terms_L0_go
    simp only [lt_true hi, cond_true, gx_nat, drop_cons_get h, Option.bind_some, wrap_i1 hi hl, key]
theorem ref21_Terms_L0_go_at0 (rf : ((((List QSym) × (List Int)) → Option Str) × (((List QSym) × (List Int)) → Option Str) × (((List QSym) × (List Int)) → Option Str))) (s0 : (List QSym)) (s2 : (List (List Int))) (s1 : Str) (hl : List.length s2 ≤ maxLen) : lp (ref21_Terms_L0 rf) fuel (s0, s1, s2, 0) = ref21_Terms_L0_go rf s0 s2 0 s1 :=
  ref21_Terms_L0_go_eq rf s0 s2 hl s2 0 fuel s1 rfl (Nat.lt_of_le_of_lt hl (by decide))
end Go.Abs.Q
namespace Go.Abs.Q
open Go Go.Abs
section
theorem ref1_small_eq (n : Int) : ref1_small n = some (smallB n) := sign_small_eq n
theorem rcalled_go (es : List UInt8) : ref1_SymMay_L0_go es = some (cond (es.all nameB) (.inl ()) (.inr false)) := by
  have : ∀ es, ref1_SymMay_L0_go es = sign_called_L0_go es := by
    intro es
    induction es with
    | nil => rfl
    | cons e es ih =>
      unfold ref1_SymMay_L0_go sign_called_L0_go
      rw [ref1_small_eq, sign_small_eq, ih]
  rw [this, called_go]
theorem ref1_SymMay_eq (e : QSym) : ref1_SymMay e.1 e.2.1 e.2.2.1 e.2.2.2 = some (symB e) := by
  obtain ⟨s, a, b, c⟩ := e
  unfold ref1_SymMay symB calledB
  dsimp only
  cases s with
  | nil => rfl
  | cons x r =>
    rw [decide_eq_false (show ¬ (((List.length (x :: r) : Nat) : Int) < 1) by rw [List.length_cons]; omega), cond_false]
    by_cases h : (x :: r).length ≤ 8
    · rw [decide_eq_false (show ¬ (((List.length (x :: r) : Nat) : Int) > 8) by omega), cond_false, gx_zero, List.getElem?_cons_zero, Option.bind_some, ref1_small_eq, Option.bind_some, ref1_SymMay_L0_go_at0 _ _ _ _ (by unfold maxLen; omega), rcalled_go, decide_eq_true h]
      dsimp only
      cases smallB ((UInt8.toNat x : Nat) : Int) with
      | false => rfl
      | true =>
        cases (x :: r).all nameB with
        | false => rfl
        | true =>
          simp only [Bool.not_true, cond_false, cond_true, Option.bind_some, caseS_inl, Bool.true_and, Bool.and_true, ge_iff_le]
          cases decide (0 ≤ a) <;> simp only [cond_true, cond_false, Bool.true_and, Bool.false_and]
          cases decide (a ≤ 2) <;> simp only [cond_true, cond_false, Bool.true_and, Bool.false_and]
          cases decide (0 ≤ b) <;> simp only [cond_true, cond_false, Bool.true_and, Bool.false_and]
          cases decide (b ≤ 3) <;> simp only [cond_true, cond_false, Bool.true_and, Bool.false_and]
          cases decide (1 ≤ c) <;> simp only [cond_true, cond_false, Bool.true_and, Bool.false_and]
    · rw [decide_eq_true (show (((List.length (x :: r) : Nat) : Int) > 8) by omega), decide_eq_false h]
      rfl
theorem ref1_Code_eq (a0 : List QSym) (nm : Str) (h : a0.length ≤ maxLen) : ref1_Code a0 nm = some (idxI (a0.findIdx? (fun e => e.1 == nm))) := by
  have : ∀ es i, ref1_Code_L0_go nm es i = sign_find_L0_go nm es i := by
    intro es
    induction es with
    | nil => intro i; rfl
    | cons e es ih => intro i; unfold ref1_Code_L0_go sign_find_L0_go; rw [ih]
  unfold ref1_Code
  rw [ref1_Code_L0_go_at0 _ _ h, this, find_go]
  cases a0.findIdx? (fun e => e.1 == nm) with
  | none => rfl
  | some j => simp [caseS, idxI]
theorem rmay_go (a0 : List QSym) (h : a0.length ≤ maxLen) (es : List QSym) (i : Nat) : ref1_SignMay_L0_go a0 es i = some (cond (mayGo a0 es i) (.inl ()) (.inr false)) := by
  induction es generalizing i with
  | nil => rfl
  | cons e es ih =>
    unfold ref1_SignMay_L0_go mayGo
    rw [ref1_SymMay_eq, Option.bind_some, ref1_Code_eq _ _ h, Option.bind_some, ih, bne]
    cases symB e with
    | false => rfl
    | true =>
      cases (idxI (a0.findIdx? (fun d => d.1 == e.1)) == (i : Int)) with
      | false => rfl
      | true => simp
theorem ref1_SignMay_eq (a0 : List QSym) : ref1_SignMay a0 = some (signB a0) := by
  unfold ref1_SignMay signB
  cases a0 with
  | nil => rfl
  | cons e es =>
    rw [decide_eq_false (show ¬ (((List.length (e :: es) : Nat) : Int) < 1) by rw [List.length_cons]; omega), cond_false]
    by_cases h : (e :: es).length ≤ 20
    · have h1 : ¬ (((List.length (e :: es) : Nat) : Int) > 20) := by omega
      have hm : (e :: es).length ≤ maxLen := by unfold maxLen; omega
      rw [decide_eq_false h1, cond_false, gx_zero, List.getElem?_cons_zero, Option.bind_some, decide_eq_true h]
      show cond (!(eqQ e)) _ _ = some (true && eqQ e && mayGo (e :: es) es 1)
      cases eqQ e with
      | false => rfl
      | true =>
        have := ref1_SignMay_L0_go_eq (e :: es) hm es 1 fuel rfl (by simp [fuel]; simp at h; omega)
        simp only [Bool.not_true, cond_false]
        rw [show ((1 : Int)) = ((1 : Nat) : Int) from rfl, this, rmay_go _ hm]
        cases mayGo (e :: es) es 1 <;> rfl
    · have h1 : ((List.length (e :: es) : Nat) : Int) > 20 := by omega
      rw [decide_eq_true h1, decide_eq_false h]
      rfl
theorem end_round {a0 : List QSym} (h : SignOk a0) (a1 : List Int) (hl : a1.length ≤ 1099511627776) : ∀ (m i n : Nat) (k : Nat), a1.length - i = m → i ≤ a1.length → n ≤ 1 + 3 * i → m + 1 < k →
    lp ref1_End_L0 k (a0, a1, (n : Int), (i : Int)) = some (match sk a0 n (a1.drop i) with
      | some j => .inl ((i + j : Nat) : Int)
      | none => .inr (-1)) := by
  intro m
  induction m with
  | zero =>
    intro i n k hm hi hni hk
    obtain ⟨k, rfl⟩ : ∃ k', k = k' + 1 := ⟨k - 1, by omega⟩
    rw [lp_succ]
    generalize lp ref1_End_L0 k = rec
    unfold ref1_End_L0
    rw [List.drop_eq_nil_iff.2 (show a1.length ≤ i by omega)]
    cases n with
    | zero => simp [sk]
    | succ n =>
      simp only [decide_eq_true (show ((n + 1 : Nat) : Int) > 0 by omega), cond_true, decide_eq_true (show ((i : Int) ≥ ((List.length a1 : Nat) : Int)) by omega)]
      rfl
  | succ m ih =>
    intro i n k hm hi hni hk
    obtain ⟨k, rfl⟩ : ∃ k', k = k' + 1 := ⟨k - 1, by omega⟩
    have hi : i < a1.length := by omega
    rw [lp_succ]
    have key := fun n' h1 => ih (i + 1) n' k (by omega) (by omega) h1 (by omega)
    generalize lp ref1_End_L0 k = rec at key ⊢
    unfold ref1_End_L0
    cases n with
    | zero => simp [sk]
    | succ n =>
      have e1 : IntKind.wrap .i64 (((n + 1 : Nat) : Int) - 1) = (n : Int) := by rw [wrap64] <;> omega
      have e3 : IntKind.wrap .i64 ((i : Int) + 1) = ((i + 1 : Nat) : Int) := by rw [wrap64] <;> omega
      simp only [decide_eq_true (show ((n + 1 : Nat) : Int) > 0 by omega), cond_true, decide_eq_false (show ¬ ((i : Int) ≥ ((List.length a1 : Nat) : Int)) by omega), cond_false, gx_nat, List.getElem?_eq_getElem hi, Option.bind_some, List.drop_eq_getElem_cons hi, sk, e1, e3]
      generalize a1[i] = x
      unfold arity
      by_cases h0 : x < 0
      · rw [decide_eq_true h0, cond_true]
        by_cases h1 : -24 ≤ x
        · rw [decide_eq_false (show ¬ (x < -24) by omega), cond_false, decide_eq_false (show ¬ (x ≥ ((List.length a0 : Nat) : Int)) by omega), cond_false, decide_eq_false (show ¬ (x ≥ 0) by omega), cond_false, decide_eq_true h1, cond_true, key n (by omega)]
          dsimp only
          rw [Nat.add_zero]
          cases sk a0 n (a1.drop (i + 1)) with
          | none => rfl
          | some j => simp only [Option.map_some]; rw [show i + 1 + j = i + (j + 1) from by omega]
        · rw [decide_eq_true (show x < -24 by omega), decide_eq_false h1]; rfl
      · rw [decide_eq_false h0, decide_eq_false (show ¬ (x < -24) by omega), cond_false, cond_false]
        by_cases h1 : x ≥ ((List.length a0 : Nat) : Int)
        · rw [decide_eq_true h1, cond_true, List.getElem?_eq_none (by omega)]
        · obtain ⟨e, he1, he2, he3⟩ := gx_at (xs := a0) (i := x) (by omega) (by omega)
          have hat := h.at he3
          rw [decide_eq_false h1, cond_false, decide_eq_true (show x ≥ 0 by omega), cond_true, he1, Option.bind_some, he3]
          dsimp only
          cases hk0 : (e.2.1 == 0) with
          | true => rfl
          | false =>
            have e2 : IntKind.wrap .i64 ((n : Int) + e.2.2.1) = ((n + e.2.2.1.toNat : Nat) : Int) := by rw [wrap64] <;> omega
            simp only [cond_false, Option.bind_some, e2]
            rw [key _ (by omega)]
            cases sk a0 (n + e.2.2.1.toNat) (a1.drop (i + 1)) with
            | none => rfl
            | some j => simp only [Option.map_some]; rw [show i + 1 + j = i + (j + 1) from by omega]
def orNo (o : Option Nat) : Int := match o with
  | some k => (k : Int)
  | none => -1
theorem ref1_End_eq {a0 : List QSym} (h : SignOk a0) (a1 : List Int) (hl : a1.length ≤ 1099511627776) (i : Nat) (hi : i ≤ a1.length) : ref1_End a0 a1 (i : Int) = some (orNo ((sk a0 1 (a1.drop i)).map (i + ·))) := by
  unfold ref1_End
  rw [show (1 : Int) = ((1 : Nat) : Int) from rfl, end_round h a1 hl (a1.length - i) i 1 fuel rfl hi (by omega) (by unfold fuel; omega)]
  cases sk a0 1 (a1.drop i) with
  | none => rfl
  | some j => rfl
theorem terms_round {a0 : List QSym} (h : SignOk a0) (a1 : List Int) (hl : a1.length ≤ 1099511627776) : ∀ (m i n k : Nat), a1.length - i = m → i ≤ a1.length → n ≤ i → m < k →
    lp ref1_Terms_L0 k (a0, a1, (n : Int), (i : Int)) = some (match cuts a0 (a1.drop i) with
      | some ps => .inl ((n + ps.length : Nat) : Int)
      | none => .inr (-1)) := by
  intro m
  induction m using Nat.strongRecOn with
  | _ m ih =>
    intro i n k hm hi hn hk
    obtain ⟨k, rfl⟩ : ∃ k', k = k' + 1 := ⟨k - 1, by omega⟩
    rw [lp_succ]
    have key := fun j n' (h1 : i < j) h2 h3 => ih (a1.length - j) (by omega) j n' k rfl h2 h3 (by omega)
    generalize lp ref1_Terms_L0 k = rec at key ⊢
    unfold ref1_Terms_L0
    by_cases he : i = a1.length
    · subst he
      simp [cuts_nil]
    · have hlt : i < a1.length := by omega
      have hne : a1.drop i ≠ [] := by simp; omega
      simp only [lt_true hlt, cond_true, ref1_End_eq h a1 hl i hi, Option.bind_some, cuts_step hne]
      cases hs : sk a0 1 (a1.drop i) with
      | none => rfl
      | some j =>
        have hj := sk_le hs
        rw [List.length_drop] at hj
        have e1 : IntKind.wrap .i64 ((n : Int) + 1) = ((n + 1 : Nat) : Int) := by rw [wrap64] <;> omega
        rw [show orNo (Option.map (fun x => i + x) (some j)) = ((i + j : Nat) : Int) from rfl, decide_eq_false (show ¬ (((i + j : Nat) : Int) < 0) by omega), cond_false, e1]
        rw [key (i + j) (n + 1) (by omega) (by omega) (by omega)]
        dsimp only
        rw [List.drop_drop]
        cases cuts a0 (a1.drop (i + j)) with
        | none => rfl
        | some ps => simp only [Option.map_some, List.length_cons]; rw [show n + 1 + ps.length = n + (ps.length + 1) from by omega]
theorem ref1_Terms_eq {a0 : List QSym} (hs : signB a0 = true) (a1 : List Int) : ref1_Terms a0 a1 = some (orNo (rowW a0 a1)) := by
  have h := signB_ok hs
  unfold ref1_Terms rowW beginsB
  rw [hs, Bool.true_and]
  by_cases hl : a1.length ≤ 48
  · have := terms_round h a1 (by omega) a1.length 0 0 fuel rfl (Nat.zero_le _) (Nat.le_refl _) (by unfold fuel; omega)
    rw [show ((0 : Nat) : Int) = 0 from rfl, List.drop_zero] at this
    rw [decide_eq_false (show ¬ (((List.length a1 : Nat) : Int) > 48) by omega), decide_eq_true hl, cond_false, cond_true, this]
    cases cuts a0 a1 with
    | none => rfl
    | some ps => simp [caseS, orNo]
  · rw [decide_eq_true (show (((List.length a1 : Nat) : Int) > 48) by omega), decide_eq_false hl]; rfl
theorem ref1_IsAtom_eq {a0 : List QSym} (hs : signB a0 = true) (xs : List Int) : ref1_IsAtom a0 xs = some (atomB a0 xs) := by
  have h := signB_ok hs
  unfold ref1_IsAtom atomB
  cases xs with
  | nil => rfl
  | cons x r =>
    simp only [decide_eq_true (show (((x :: r).length : Nat) : Int) > 0 by simp <;> omega), cond_true, gx_zero, List.getElem?_cons_zero, Option.bind_some]
    by_cases h0 : x < 0
    · rw [decide_eq_false (show ¬ (x ≥ 0) by omega)]; rfl
    · rw [decide_eq_true (show x ≥ 0 by omega), cond_true, Bool.true_and]
      by_cases h1 : x ≥ ((List.length a0 : Nat) : Int)
      · rw [decide_eq_false (show ¬ (x < ((List.length a0 : Nat) : Int)) by omega), List.getElem?_eq_none (by omega)]; rfl
      · obtain ⟨e, he1, he2, he3⟩ := gx_at (xs := a0) (i := x) (by omega) (by omega)
        have hat := h.at he3
        simp only [decide_eq_true (show x < ((List.length a0 : Nat) : Int) by omega), cond_true, he1, he3, Option.bind_some]
        cases hk : (e.2.1 == 0) with
        | false => rfl
        | true =>
          simp only [cond_true, slc_tail, Option.bind_some, ref1_Terms_eq hs, Bool.true_and]
          unfold rowW
          cases beginsB a0 r with
          | none =>
            have : ((-1 : Int) == e.2.2.1) = false := by simp; omega
            simp [orNo, this]
          | some ps => rfl
end
end Go.Abs.Q
namespace Go.Abs.Q
open Go Go.Abs
section
theorem behind_round {a0 : List QSym} (h : SignOk a0) (a1 : List Int) (hl : a1.length ≤ 1099511627776) : ∀ (m i n j k : Nat), a1.length - i = m → i ≤ a1.length → n ≤ 1 + 3 * i → sk a0 n (a1.drop i) = some j → m + 1 < k →
    lp ref1_behind_L0 k (a0, a1, (n : Int), (i : Int)) = some ((i + j : Nat) : Int) := by
  intro m
  induction m with
  | zero =>
    intro i n j k hm hi hni hs hk
    obtain ⟨k, rfl⟩ : ∃ k', k = k' + 1 := ⟨k - 1, by omega⟩
    rw [lp_succ]
    generalize lp ref1_behind_L0 k = rec
    unfold ref1_behind_L0
    rw [List.drop_eq_nil_iff.2 (show a1.length ≤ i by omega)] at hs
    cases n with
    | zero =>
      simp [sk] at hs
      subst hs
      simp
    | succ n => simp [sk] at hs
  | succ m ih =>
    intro i n j k hm hi hni hs hk
    obtain ⟨k, rfl⟩ : ∃ k', k = k' + 1 := ⟨k - 1, by omega⟩
    have hi : i < a1.length := by omega
    rw [lp_succ]
    have key := fun n' j' h1 h2 => ih (i + 1) n' j' k (by omega) (by omega) h1 h2 (by omega)
    generalize lp ref1_behind_L0 k = rec at key ⊢
    unfold ref1_behind_L0
    cases n with
    | zero =>
      simp [sk] at hs
      subst hs
      simp
    | succ n =>
      have e1 : IntKind.wrap .i64 (((n + 1 : Nat) : Int) - 1) = (n : Int) := by rw [wrap64] <;> omega
      have e3 : IntKind.wrap .i64 ((i : Int) + 1) = ((i + 1 : Nat) : Int) := by rw [wrap64] <;> omega
      rw [List.drop_eq_getElem_cons hi] at hs
      simp only [sk] at hs
      simp only [decide_eq_true (show ((n + 1 : Nat) : Int) > 0 by omega), cond_true, gx_nat, List.getElem?_eq_getElem hi, Option.bind_some, e1, e3]
      generalize a1[i] = x at hs
      cases ha : arity a0 x with
      | none => rw [ha] at hs; cases hs
      | some q =>
        rw [ha] at hs
        simp only [Option.map_eq_some_iff] at hs
        obtain ⟨j', hj', rfl⟩ := hs
        by_cases h0 : x < 0
        · obtain ⟨_, rfl⟩ := arity_neg ha h0
          rw [decide_eq_false (show ¬ (x ≥ 0) by omega), cond_false, key n j' (by omega) hj']
          rw [show i + 1 + j' = i + (j' + 1) from by omega]
        · obtain ⟨e, he1, he2, he3, rfl⟩ := arity_pos ha h0
          have hat := h.at he2
          have e2 : IntKind.wrap .i64 ((n : Int) + e.2.2.1) = ((n + e.2.2.1.toNat : Nat) : Int) := by rw [wrap64] <;> omega
          rw [decide_eq_true (show x ≥ 0 by omega), cond_true, he1, Option.bind_some, e2, key _ j' (by omega) hj']
          rw [show i + 1 + j' = i + (j' + 1) from by omega]
theorem ref1_behind_eq {a0 : List QSym} (h : SignOk a0) (a1 : List Int) (hl : a1.length ≤ 1099511627776) (i j : Nat) (hi : i ≤ a1.length) (hs : sk a0 1 (a1.drop i) = some j) : ref1_behind a0 a1 (i : Int) = some ((i + j : Nat) : Int) := by
  unfold ref1_behind
  rw [show (1 : Int) = ((1 : Nat) : Int) from rfl, behind_round h a1 hl (a1.length - i) i 1 j fuel rfl hi (by omega) hs (by unfold fuel; omega)]
  rfl
theorem parts_round {a0 : List QSym} (h : SignOk a0) (a1 : List Int) (hl : a1.length ≤ 1099511627776) : ∀ (m i : Nat) (acc ps : List (List Int)) (k : Nat), a1.length - i = m → i ≤ a1.length → acc.length ≤ i → cuts a0 (a1.drop i) = some ps → m < k →
    lp ref1_Parts_L0 k (a0, a1, (i : Int), acc) = some (acc ++ ps) := by
  intro m
  induction m using Nat.strongRecOn with
  | _ m ih =>
    intro i acc ps k hm hi hacc hc hk
    obtain ⟨k, rfl⟩ : ∃ k', k = k' + 1 := ⟨k - 1, by omega⟩
    rw [lp_succ]
    have key := fun j acc' ps' (h1 : i < j) h2 h3 h4 => ih (a1.length - j) (by omega) j acc' ps' k rfl h2 h3 h4 (by omega)
    generalize lp ref1_Parts_L0 k = rec at key ⊢
    unfold ref1_Parts_L0
    by_cases he : i = a1.length
    · subst he
      rw [List.drop_length, cuts_nil] at hc
      injection hc with hc; subst hc
      simp
    · have hlt : i < a1.length := by omega
      have hne : a1.drop i ≠ [] := by simp; omega
      rw [cuts_step hne] at hc
      cases hs : sk a0 1 (a1.drop i) with
      | none => rw [hs] at hc; cases hc
      | some j =>
        rw [hs] at hc
        simp only [Option.map_eq_some_iff] at hc
        obtain ⟨qs, hq, rfl⟩ := hc
        have hj := sk_le hs
        rw [List.length_drop] at hj
        have e1 : slc2 a1 (some (i : Int)) (some ((i + j : Nat) : Int)) = some ((a1.drop i).take j) := by
          rw [slc_at a1 (by omega) (by omega), show i + j - i = j from by omega]
        simp only [decide_eq_true (show (i : Int) < ((List.length a1 : Nat) : Int) by omega), cond_true, ref1_behind_eq h a1 hl i j hi hs, Option.bind_some, e1, List.length_singleton, room_ok (show (acc.length + 1) * 24 ≤ 140737488351232 by omega)]
        rw [List.drop_drop] at hq
        rw [key (i + j) _ qs (by omega) (by omega) (by simp; omega) hq]
        simp
theorem ref1_Parts_eq {a0 : List QSym} (h : SignOk a0) {a1 : List Int} (hl : a1.length ≤ 1099511627776) {ps : List (List Int)} (hc : cuts a0 a1 = some ps) : ref1_Parts a0 a1 = some ps := by
  unfold ref1_Parts
  have := parts_round h a1 hl a1.length 0 [] ps fuel rfl (Nat.zero_le _) (Nat.zero_le _) hc (by unfold fuel; omega)
  rw [show ((0 : Nat) : Int) = 0 from rfl] at this
  rw [this]
  rfl
theorem dec_all : ((List.range 100).all fun n => decide (ref17_Decimal (n : Int) = some (dig2 n))) = true := by kernel_rfl
theorem ref17_Decimal_eq {n : Int} (h0 : 0 ≤ n) (h1 : n < 100) : ref17_Decimal n = some (dig2 n.toNat) := by
  have := List.all_eq_true.1 dec_all n.toNat (List.mem_range.2 (by omega))
  rw [decide_eq_true_eq] at this
  rw [← this, show ((n.toNat : Nat) : Int) = n from by omega]
def argsT (a0 : List QSym) (xs : List Int) : Str := cond xs.isEmpty [] (([40] ++ showTs a0 xs) ++ [41])
theorem pieceT_args {a0 : List QSym} {x : Int} {r : List Int} (hx : ¬ x < 0) : pieceT a0 (showTs a0) (x :: r) = nameOf a0 x ++ argsT a0 r := by
  rw [pieceT_cons, decide_eq_false hx, cond_false]
  unfold argsT
  cases r.isEmpty <;> simp
theorem showTs_len {a0 : List QSym} (h : SignOk a0) {xs : List Int} {ps : List (List Int)} (hl : xs.length ≤ 1000000000) (hc : cuts a0 xs = some ps) : (showTs a0 xs).length ≤ 12 * xs.length := (formula_ShowTerms_eq h hl hc).2
theorem join_snoc (ts : List Str) (t sep : Str) : Lib.join (ts ++ [t]) sep = cond ts.isEmpty t ((Lib.join ts sep ++ sep) ++ t) := by
  cases ts with
  | nil => simp [Lib.join_one]
  | cons a ts =>
    rw [List.cons_append, Lib.join_cons, joinTail_snoc, Lib.join_cons]
    simp
theorem rterms_go {a0 : List QSym} (h : SignOk a0) (rf : ((List QSym × List Int) → Option Str) × ((List QSym × List Int) → Option Str) × ((List QSym × List Int) → Option Str)) {n : Nat} (hn : n ≤ 1000) (ht : ∀ q, q.length ≤ n → sk a0 1 q = some q.length → rf.2.1 (a0, q) = some (pieceT a0 (showTs a0) q)) : (es pre : List (List Int)) → (∀ q ∈ es, sk a0 1 q = some q.length ∧ q.length ≤ n) →
    (Lib.join (pre.map (pieceT a0 (showTs a0))) [44, 32]).length + 13000 * es.length ≤ 1000000000 → es.length ≤ 1000 →
    ref21_Terms_L0_go rf a0 es pre.length (Lib.join (pre.map (pieceT a0 (showTs a0))) [44, 32]) = some (Lib.join ((pre ++ es).map (pieceT a0 (showTs a0))) [44, 32])
  | [], pre, _, _, _ => by simp [ref21_Terms_L0_go]
  | e :: es, pre, hq, hl, hes => by
    obtain ⟨hs, hen⟩ := hq e (by simp)
    have hr := ht e hen hs
    have hlen := showTs_len h (by omega) (showTs_one hs).2
    rw [(showTs_one hs).1] at hlen
    rw [List.length_cons] at hl hes
    have e2 : ([44, 32] : Str).length = 2 := rfl
    have hj : Lib.join ((pre ++ [e]).map (pieceT a0 (showTs a0))) [44, 32] = cond (pre.map (pieceT a0 (showTs a0))).isEmpty (pieceT a0 (showTs a0) e) ((Lib.join (pre.map (pieceT a0 (showTs a0))) [44, 32] ++ [44, 32]) ++ pieceT a0 (showTs a0) e) := by
      rw [List.map_append, List.map_singleton, join_snoc]
    have key := rterms_go h rf hn ht es (pre ++ [e]) (fun q hm => hq q (by simp [hm])) (by
      rw [hj]
      cases (pre.map (pieceT a0 (showTs a0))).isEmpty <;> simp <;> omega) (by omega)
    rw [hj, List.length_append, List.length_singleton] at key
    rw [show pre ++ e :: es = (pre ++ [e]) ++ es from by simp]
    unfold ref21_Terms_L0_go
    cases pre with
    | nil =>
      simp only [List.length_nil, List.map_nil, List.isEmpty_nil, cond_true, Lib.join_nil, Nat.zero_add] at key hl ⊢
      rw [show decide (((0 : Nat) : Int) > 0) = false from rfl, cond_false, hr, Option.bind_some, decide_eq_true (show List.length (pieceT a0 (showTs a0) e) < 4611686018427387904 by omega), cond_true, List.nil_append]
      exact key
    | cons p pre =>
      rw [List.map_cons, List.isEmpty_cons, cond_false, ← List.map_cons] at key
      rw [decide_eq_true (show (((p :: pre).length : Nat) : Int) > 0 by simp <;> omega), cond_true, decide_eq_true (show List.length (Lib.join ((p :: pre).map (pieceT a0 (showTs a0))) [44, 32]) + List.length ([44, 32] : Str) < 4611686018427387904 by rw [e2]; omega), cond_true, hr, Option.bind_some,
        decide_eq_true (show List.length (Lib.join ((p :: pre).map (pieceT a0 (showTs a0))) [44, 32] ++ [44, 32]) + List.length (pieceT a0 (showTs a0) e) < 4611686018427387904 by rw [List.length_append, e2]; omega), cond_true]
      exact key
theorem tree_ok {a0 : List QSym} (h : SignOk a0) : ∀ n, n ≤ 1000 →
    (∀ k, 3 * n ≤ k → ∀ q, q.length ≤ n → sk a0 1 q = some q.length → (ref21_Terms_R k).2.1 (a0, q) = some (pieceT a0 (showTs a0) q)) ∧
    (∀ k, 3 * n + 1 ≤ k → ∀ xs ps, xs.length ≤ n → cuts a0 xs = some ps → (ref21_Terms_R k).2.2 (a0, xs) = some (showTs a0 xs)) ∧
    (∀ k, 3 * n + 2 ≤ k → ∀ xs ps, xs.length ≤ n → cuts a0 xs = some ps → (ref21_Terms_R k).1 (a0, xs) = some (argsT a0 xs)) := by
  have hT : ∀ n, n ≤ 1000 → (∀ k, 3 * n ≤ k → ∀ q, q.length ≤ n → sk a0 1 q = some q.length → (ref21_Terms_R k).2.1 (a0, q) = some (pieceT a0 (showTs a0) q)) →
      ∀ k, 3 * n + 1 ≤ k → ∀ xs ps, xs.length ≤ n → cuts a0 xs = some ps → (ref21_Terms_R k).2.2 (a0, xs) = some (showTs a0 xs) := by
    intro n hn hR k hk xs ps hl hc
    obtain ⟨k, rfl⟩ : ∃ k', k = k' + 1 := ⟨k - 1, by omega⟩
    have hf := cuts_flat xs.length xs ps (Nat.le_refl _) hc
    have hlen := cuts_len hc
    show ref21_Terms_S (ref21_Terms_R k) a0 xs = _
    unfold ref21_Terms_S
    rw [ref1_Parts_eq h (by omega) hc, Option.bind_some, ref21_Terms_L0_go_at0 _ _ _ _ (by unfold maxLen; omega)]
    have := rterms_go h (ref21_Terms_R k) hn (hR k (by omega)) ps [] (fun q hq => ⟨(hf.2 q hq).2, by
      have := mem_len hq
      rw [hf.1] at this
      omega⟩) (by show 0 + _ ≤ _; omega) (by omega)
    rw [show ref21_Terms_L0_go (ref21_Terms_R k) a0 ps 0 ([] : Str) = _ from this, showTs_eq hc]
    rfl
  have hA : ∀ n, n ≤ 1000 → (∀ k, 3 * n + 1 ≤ k → ∀ xs ps, xs.length ≤ n → cuts a0 xs = some ps → (ref21_Terms_R k).2.2 (a0, xs) = some (showTs a0 xs)) →
      ∀ k, 3 * n + 2 ≤ k → ∀ xs ps, xs.length ≤ n → cuts a0 xs = some ps → (ref21_Terms_R k).1 (a0, xs) = some (argsT a0 xs) := by
    intro n hn hTn k hk xs ps hl hc
    obtain ⟨k, rfl⟩ : ∃ k', k = k' + 1 := ⟨k - 1, by omega⟩
    show ref21_Args_S (ref21_Terms_R k) a0 xs = _
    unfold ref21_Args_S argsT
    cases xs with
    | nil => rfl
    | cons x r =>
      have hlen := showTs_len h (by omega) hc
      rw [show (((List.length (x :: r) : Nat) : Int) == 0) = false from by simp <;> omega, cond_false, hTn k (by omega) _ ps hl hc, Option.bind_some, List.isEmpty_cons, cond_false,
        decide_eq_true (show List.length ([40] : Str) + List.length (showTs a0 (x :: r)) < 4611686018427387904 by simp only [List.length_cons, List.length_nil] at *; omega), cond_true,
        decide_eq_true (show List.length ([40] ++ showTs a0 (x :: r)) + List.length ([41] : Str) < 4611686018427387904 by rw [List.length_append]; simp only [List.length_cons, List.length_nil] at *; omega), cond_true]
  intro n
  induction n with
  | zero =>
    intro hn
    have hR : ∀ k, 3 * 0 ≤ k → ∀ q : List Int, q.length ≤ 0 → sk a0 1 q = some q.length → (ref21_Terms_R k).2.1 (a0, q) = some (pieceT a0 (showTs a0) q) := fun k _ q hq hs => by
      obtain rfl : q = [] := List.length_eq_zero_iff.1 (by omega)
      simp [sk] at hs
    exact ⟨hR, hT 0 hn hR, hA 0 hn (hT 0 hn hR)⟩
  | succ n ih =>
    intro hn
    have hR : ∀ k, 3 * (n + 1) ≤ k → ∀ q : List Int, q.length ≤ n + 1 → sk a0 1 q = some q.length → (ref21_Terms_R k).2.1 (a0, q) = some (pieceT a0 (showTs a0) q) := fun k hk q hq hs => by
      obtain ⟨k, rfl⟩ : ∃ k', k = k' + 1 := ⟨k - 1, by omega⟩
      obtain ⟨x, r, m, rfl, ha, hr⟩ := piece_cases hs
      rw [List.length_cons] at hq
      show ref21_Term_S (ref21_Terms_R k) a0 (x :: r) = _
      unfold ref21_Term_S
      simp only [gx_zero, List.getElem?_cons_zero, Option.bind_some, slc_tail]
      by_cases hx : x < 0
      · have hx2 := (arity_neg ha hx).1
        have e1 : IntKind.wrap .i64 (-1 - x) = -1 - x := wrap64 (by omega) (by omega)
        have hd := dig2_len (-1 - x).toNat
        rw [decide_eq_true hx, cond_true, e1, ref17_Decimal_eq (by omega) (by omega), Option.bind_some, pieceT_cons, decide_eq_true hx, cond_true,
          decide_eq_true (show List.length ([88] : Str) + List.length (dig2 (-1 - x).toNat) < 4611686018427387904 by simp only [List.length_cons, List.length_nil]; omega), cond_true]
      · obtain ⟨e, he1, he2, he3, rfl⟩ := arity_pos ha hx
        have hat := h.at he2
        have hnm : nameOf a0 x = e.1 := by unfold nameOf; rw [he2]
        obtain ⟨ps, hps, _⟩ := cuts_sk _ r hr
        have hlen := showTs_len h (by omega) hps
        have hal : (argsT a0 r).length ≤ 12 * r.length + 2 := by
          unfold argsT
          cases r.isEmpty
          · simp; omega
          · simp
        rw [decide_eq_false hx, cond_false, he1, Option.bind_some, (ih (by omega)).2.2 k (by omega) r ps (by omega) hps, Option.bind_some, pieceT_args hx, hnm,
          decide_eq_true (show List.length e.1 + List.length (argsT a0 r) < 4611686018427387904 by omega), cond_true]
    exact ⟨hR, hT _ hn hR, hA _ hn (hT _ hn hR)⟩
theorem ref21_Args_eq {a0 : List QSym} (h : SignOk a0) {xs : List Int} {ps : List (List Int)} (hl : xs.length ≤ 1000) (hc : cuts a0 xs = some ps) : ref21_Args a0 xs = some (argsT a0 xs) :=
  (tree_ok h xs.length hl).2.2 fuel (by unfold fuel; omega) xs ps (Nat.le_refl _) hc
theorem ref21_Term_eq {a0 : List QSym} (h : SignOk a0) {q : List Int} (hl : q.length ≤ 1000) (hs : sk a0 1 q = some q.length) : ref21_Term a0 q = some (showTs a0 q) := by
  rw [(showTs_one hs).1]
  exact (tree_ok h q.length hl).1 fuel (by unfold fuel; omega) q (Nat.le_refl _) hs
theorem ref21_Atom_eq {a0 : List QSym} {xs : List Int} (h : atomB a0 xs = true) : ref21_Atom a0 xs = some (showA a0 xs) := by
  obtain ⟨x, r, e, ps, rfl, h0, he, hg, hk, hs, hl, hc, hn⟩ := atomB_spec h
  have hS := signB_ok hs
  have hat := hS.at he
  have hnm : nameOf a0 x = e.1 := by unfold nameOf; rw [he]
  have t2 := showTs_len hS (by omega) hc
  unfold ref21_Atom
  rw [showA_cons]
  simp only [gx_zero, List.getElem?_cons_zero, Option.bind_some, slc_tail]
  by_cases hx : x = 0
  · subst hx
    have : e = equalsQ := by
      have := hS.eq
      rw [show ((0 : Int).toNat) = 0 from rfl] at he
      rw [he] at this
      injection this
    subst this
    have hn : ps.length = 2 := by have : ((ps.length : Nat) : Int) = 2 := hn; omega
    match ps, hn with
    | [p, q], _ =>
      have hf := cuts_flat r.length r [p, q] (Nat.le_refl _) hc
      have hlen : p.length + q.length = r.length := by rw [← hf.1]; simp
      have hp := hf.2 p (by simp)
      have hq := hf.2 q (by simp)
      have u2 := showTs_len hS (xs := p) (by omega) (showTs_one hp.2).2
      have v2 := showTs_len hS (xs := q) (by omega) (showTs_one hq.2).2
      have e1 : inR 0 (List.length [p, q]) = some 0 := rfl
      have e2 : inR 1 (List.length [p, q]) = some 1 := rfl
      have e3 : ([32, 61, 32] : Str).length = 3 := rfl
      rw [show ((0 : Int) == 0) = true from rfl, cond_true, cond_true, ref1_Parts_eq hS (by omega) hc, hc, Option.bind_some, e1, Option.bind_some, List.getElem?_cons_zero, Option.bind_some, ref21_Term_eq hS (by omega) hp.2, Option.bind_some,
        decide_eq_true (show List.length (showTs a0 p) + List.length ([32, 61, 32] : Str) < 4611686018427387904 by rw [e3]; omega), cond_true, e2, Option.bind_some, List.getElem?_cons_succ, List.getElem?_cons_zero, Option.bind_some, ref21_Term_eq hS (by omega) hq.2, Option.bind_some,
        decide_eq_true (show List.length (showTs a0 p ++ [32, 61, 32]) + List.length (showTs a0 q) < 4611686018427387904 by rw [List.length_append, e3]; omega), cond_true]
      rfl
  · have hal : (argsT a0 r).length ≤ 12 * r.length + 2 := by
      unfold argsT
      cases r.isEmpty
      · simp; omega
      · simp
    rw [show (x == 0) = false from by simpa using hx, cond_false, cond_false, hg, Option.bind_some, ref21_Args_eq hS (by omega) hc, Option.bind_some, decide_eq_true (show List.length e.1 + List.length (argsT a0 r) < 4611686018427387904 by omega), cond_true, hnm]
    unfold argsT
    cases r.isEmpty <;> simp
end
end Go.Abs.Q
namespace Go.Abs.Q
open Go Go.Abs
section
theorem law0_CopyInts_eq {xs : List Int} (h : xs.length ≤ 1000000000) : law0_CopyInts xs = some xs := by
  unfold law0_CopyInts
  rw [room_ok (by simp only [List.length_nil]; omega)]; rfl
end
end Go.Abs.Q
namespace Go.Abs.Q
open Go Go.Abs
section
theorem drop_cons_of {α : Type} {xs : List α} {i : Nat} {x : α} (h : xs[i]? = some x) : xs.drop i = x :: xs.drop (i + 1) := by
  obtain ⟨hi, rfl⟩ := List.getElem?_eq_some_iff.1 h
  exact List.drop_eq_getElem_cons hi
theorem sameInts_go (ys : List Int) : (es : List Int) → (i : Nat) → es.length = (ys.drop i).length → law0_SameInts_L0_go ys es i = some (cond (decide (es = ys.drop i)) (.inl ()) (.inr false))
  | [], i, h => by
    have : ys.drop i = [] := List.length_eq_zero_iff.1 h.symm
    rw [this]; rfl
  | e :: es, i, h => by
    unfold law0_SameInts_L0_go
    rw [List.length_cons, List.length_drop] at h
    have hi : i < ys.length := by omega
    rw [gx_nat, List.getElem?_eq_getElem hi, Option.bind_some, List.drop_eq_getElem_cons hi, sameInts_go ys es (i + 1) (by rw [List.length_drop]; omega)]
    generalize ys[i] = y
    by_cases he : e = y
    · subst he
      rw [show (e != e) = false from by simp, cond_false]
      simp
    · rw [show (e != y) = true from by simpa using he, cond_true]
      rw [decide_eq_false (by intro h; injection h with h1 h2; exact he h1)]
      rfl
theorem law0_SameInts_eq {xs ys : List Int} (h : xs.length ≤ maxLen) : law0_SameInts xs ys = some (decide (xs = ys)) := by
  unfold law0_SameInts
  by_cases hl : xs.length = ys.length
  · rw [show (((List.length xs : Nat) : Int) != ((List.length ys : Nat) : Int)) = false from by simp [hl], cond_false, law0_SameInts_L0_go_at0 _ _ h, sameInts_go ys xs 0 hl, List.drop_zero]
    cases decide (xs = ys) <;> rfl
  · rw [show (((List.length xs : Nat) : Int) != ((List.length ys : Nat) : Int)) = true from by simp; omega, cond_true, decide_eq_false (by intro h; subst h; exact hl rfl)]
theorem wt_mem {α : Type} {f : α → Nat} {xs : List α} {x : α} (h : x ∈ xs) : f x ≤ (xs.map f).sum := by
  induction xs with
  | nil => cases h
  | cons y ys ih =>
    simp only [List.map_cons, List.sum_cons]
    rcases List.mem_cons.1 h with rfl | h
    · omega
    · have := ih h; omega
theorem wt_len {α : Type} {f : α → Nat} (hf : ∀ x, 1 ≤ f x) (xs : List α) : xs.length ≤ (xs.map f).sum := by
  induction xs with
  | nil => simp
  | cons y ys ih =>
    simp only [List.map_cons, List.sum_cons, List.length_cons]
    have := hf y
    omega
theorem wt_ints (xs : List Int) : wt (.sl (.one (.int .i64))) xs = xs.length + 1 := by
  show (List.map (fun _ => 1) xs).sum + 1 = _
  congr 1
  induction xs with
  | nil => rfl
  | cons y ys ih => simp only [List.map_cons, List.sum_cons, List.length_cons, ih]; omega
end
end Go.Abs.Q
namespace Go.Abs.Q
open Go Go.Abs
def formula_SigMay_c1 (a0 : Str) (a1 : Int) (a2 : Int) (a3 : Int) : Option Bool :=
  cond (a0 == ([97, 108, 108] : Str))
  (some true)
  (some (a0 == ([101, 120] : Str)))
def slices_IndexFunc_5_L0 (rec : ((List QSym) × Int × Int) → Option (Unit ⊕ Int)) (x : ((List QSym) × Int × Int)) : Option (Unit ⊕ Int) :=
  cond (decide (x.2.2 < x.2.1))
  ((gx x.1 x.2.2).bind fun e3 =>
    (formula_SigMay_c1 e3.1 e3.2.1 e3.2.2.1 e3.2.2.2).bind fun r4 =>
    cond r4
    (some (Sum.inr x.2.2))
    (rec (x.1, x.2.1, (IntKind.wrap .i64 (x.2.2 + 1)))))
  (some (Sum.inl ()))
def slices_IndexFunc_5 (a0 : (List QSym)) : Option Int :=
  ((lp slices_IndexFunc_5_L0 fuel) (a0, ((List.length a0 : Nat) : Int), 0)).bind fun r8 =>
  caseS r8
  (fun z9 => some (-1))
  (fun z10 => some z10)
def slices_ContainsFunc_5 (a0 : (List QSym)) : Option Bool :=
  (slices_IndexFunc_5 a0).bind fun r2 =>
  some (decide (r2 ≥ 0))
def formula_SigMay (a0 : (List QSym)) : Option Bool :=
  (sign_May a0).bind fun r3 =>
  cond r3
  ((slices_ContainsFunc_5 a0).bind fun r4 =>
    some (!r4))
  (some false)
def formula_parts (a0 : Int) : Option Int :=
  cond (a0 == 0)
  (some 0)
  (cond (a0 == 1)
    (cond (a0 == 1)
      (some 1)
      (cond (a0 == 2)
        (cond (a0 == 2)
          (some 2)
          (some (-1)))
        (cond (a0 == 3)
          (cond (a0 == 3)
            (some 2)
            (some (-1)))
          (cond (a0 == 4)
            (some 2)
            (some (-1))))))
    (cond (a0 == 5)
      (cond (a0 == 5)
        (some 1)
        (cond (a0 == 2)
          (cond (a0 == 2)
            (some 2)
            (some (-1)))
          (cond (a0 == 3)
            (cond (a0 == 3)
              (some 2)
              (some (-1)))
            (cond (a0 == 4)
              (some 2)
              (some (-1))))))
      (cond (a0 == 6)
        (some 1)
        (cond (a0 == 2)
          (cond (a0 == 2)
            (some 2)
            (some (-1)))
          (cond (a0 == 3)
            (cond (a0 == 3)
              (some 2)
              (some (-1)))
            (cond (a0 == 4)
              (some 2)
              (some (-1))))))))
def formula_nodeMay (a0 : (List QSym)) (a1 : Int) (a2 : Int) (a3 : (List Int)) : Option Bool :=
  cond (a1 == 0)
  (cond (a2 == 0)
    ((term_IsAtom a0 a3).bind fun r2 =>
      some r2)
    (some false))
  (cond (a1 == 5)
    (cond (a1 == 5)
      (cond (decide (a2 ≥ 0))
        (cond (decide (a2 ≤ 23))
          (some (((List.length a3 : Nat) : Int) == 0))
          (some false))
        (some false))
      (cond (a2 == 0)
        (some (((List.length a3 : Nat) : Int) == 0))
        (some false)))
    (cond (a1 == 6)
      (cond (decide (a2 ≥ 0))
        (cond (decide (a2 ≤ 23))
          (some (((List.length a3 : Nat) : Int) == 0))
          (some false))
        (some false))
      (cond (a2 == 0)
        (some (((List.length a3 : Nat) : Int) == 0))
        (some false))))
def formula_May_L0 (rec : ((List QSym) × Int × (List (Int × Int × (List Int))) × Int × Int) → Option (Int ⊕ Bool)) (x : ((List QSym) × Int × (List (Int × Int × (List Int))) × Int × Int)) : Option (Int ⊕ Bool) :=
  cond (decide (x.2.2.2.2 < x.2.2.2.1))
  ((gx x.2.2.1 x.2.2.2.2).bind fun e5 =>
    (formula_parts e5.1).bind fun r6 =>
    cond (x.2.1 == 0)
    (some (Sum.inr false))
    (cond (decide (r6 < 0))
      (some (Sum.inr false))
      ((formula_nodeMay x.1 e5.1 e5.2.1 e5.2.2).bind fun r7 =>
        cond (!r7)
        (some (Sum.inr false))
        (rec (x.1, (IntKind.wrap .i64 (x.2.1 + (IntKind.wrap .i64 (r6 - 1)))), x.2.2.1, x.2.2.2.1, (IntKind.wrap .i64 (x.2.2.2.2 + 1)))))))
  (some (Sum.inl x.2.1))
def formula_May (a0 : (List QSym)) (a1 : (List (Int × Int × (List Int)))) : Option Bool :=
  (formula_SigMay a0).bind fun r11 =>
  cond (!r11)
  (some false)
  (cond (((List.length a1 : Nat) : Int) == 0)
    (some false)
    (cond (decide (((List.length a1 : Nat) : Int) > 40))
      (some false)
      (((lp formula_May_L0 fuel) (a0, 1, a1, ((List.length a1 : Nat) : Int), 0)).bind fun r12 =>
        caseS r12
        (fun z13 => some (z13 == 0))
        (fun z14 => some z14))))
def formula_show_S (rf : (((List QSym) × (List (Int × Int × (List Int)))) → Option (Str × (List (Int × Int × (List Int)))))) (a0 : (List QSym)) (a1 : (List (Int × Int × (List Int)))) : Option (Str × (List (Int × Int × (List Int)))) :=
  (gx a1 0).bind fun e21 =>
  (slc2 a1 (some 1) none).bind fun y22 =>
  cond (e21.1 == 0)
  ((formula_ShowAtom a0 e21.2.2).bind fun r23 =>
    some (r23, y22))
  (cond (e21.1 == 1)
    ((rf (a0, y22)).bind fun r24 =>
      cond (decide ((List.length ([126] : Str) + List.length r24.1 : Nat) < 4611686018427387904))
      (some ((([126] : Str) ++ r24.1), r24.2))
      (none))
    (cond (e21.1 == 5)
      (cond (e21.1 == 5)
        ((rf (a0, y22)).bind fun r25 =>
          (inR (IntKind.wrap .i64 (e21.1 - 5)) (List.length ([([97, 108, 108] : Str), ([101, 120] : Str)] : List Str))).bind fun k26 =>
          (([([97, 108, 108] : Str), ([101, 120] : Str)] : List Str)[k26]?).bind fun x27 =>
          cond (decide ((List.length x27 + List.length ([32, 88] : Str) : Nat) < 4611686018427387904))
          ((strconv_Itoa e21.2.1).bind fun r28 =>
            cond (decide ((List.length (x27 ++ ([32, 88] : Str)) + List.length r28 : Nat) < 4611686018427387904))
            (cond (decide ((List.length ((x27 ++ ([32, 88] : Str)) ++ r28) + List.length ([32] : Str) : Nat) < 4611686018427387904))
              (cond (decide ((List.length (((x27 ++ ([32, 88] : Str)) ++ r28) ++ ([32] : Str)) + List.length r25.1 : Nat) < 4611686018427387904))
                (some (((((x27 ++ ([32, 88] : Str)) ++ r28) ++ ([32] : Str)) ++ r25.1), r25.2))
                (none))
              (none))
            (none))
          (none))
        ((rf (a0, y22)).bind fun r29 =>
          (rf (a0, r29.2)).bind fun r30 =>
          cond (decide ((List.length ([40] : Str) + List.length r29.1 : Nat) < 4611686018427387904))
          ((inR (IntKind.wrap .i64 (e21.1 - 2)) (List.length ([([32, 38, 32] : Str), ([32, 124, 32] : Str), ([32, 45, 62, 32] : Str)] : List Str))).bind fun k31 =>
            (([([32, 38, 32] : Str), ([32, 124, 32] : Str), ([32, 45, 62, 32] : Str)] : List Str)[k31]?).bind fun x32 =>
            cond (decide ((List.length (([40] : Str) ++ r29.1) + List.length x32 : Nat) < 4611686018427387904))
            (cond (decide ((List.length ((([40] : Str) ++ r29.1) ++ x32) + List.length r30.1 : Nat) < 4611686018427387904))
              (cond (decide ((List.length (((([40] : Str) ++ r29.1) ++ x32) ++ r30.1) + List.length ([41] : Str) : Nat) < 4611686018427387904))
                (some (((((([40] : Str) ++ r29.1) ++ x32) ++ r30.1) ++ ([41] : Str)), r30.2))
                (none))
              (none))
            (none))
          (none)))
      (cond (e21.1 == 6)
        ((rf (a0, y22)).bind fun r33 =>
          (inR (IntKind.wrap .i64 (e21.1 - 5)) (List.length ([([97, 108, 108] : Str), ([101, 120] : Str)] : List Str))).bind fun k34 =>
          (([([97, 108, 108] : Str), ([101, 120] : Str)] : List Str)[k34]?).bind fun x35 =>
          cond (decide ((List.length x35 + List.length ([32, 88] : Str) : Nat) < 4611686018427387904))
          ((strconv_Itoa e21.2.1).bind fun r36 =>
            cond (decide ((List.length (x35 ++ ([32, 88] : Str)) + List.length r36 : Nat) < 4611686018427387904))
            (cond (decide ((List.length ((x35 ++ ([32, 88] : Str)) ++ r36) + List.length ([32] : Str) : Nat) < 4611686018427387904))
              (cond (decide ((List.length (((x35 ++ ([32, 88] : Str)) ++ r36) ++ ([32] : Str)) + List.length r33.1 : Nat) < 4611686018427387904))
                (some (((((x35 ++ ([32, 88] : Str)) ++ r36) ++ ([32] : Str)) ++ r33.1), r33.2))
                (none))
              (none))
            (none))
          (none))
        ((rf (a0, y22)).bind fun r37 =>
          (rf (a0, r37.2)).bind fun r38 =>
          cond (decide ((List.length ([40] : Str) + List.length r37.1 : Nat) < 4611686018427387904))
          ((inR (IntKind.wrap .i64 (e21.1 - 2)) (List.length ([([32, 38, 32] : Str), ([32, 124, 32] : Str), ([32, 45, 62, 32] : Str)] : List Str))).bind fun k39 =>
            (([([32, 38, 32] : Str), ([32, 124, 32] : Str), ([32, 45, 62, 32] : Str)] : List Str)[k39]?).bind fun x40 =>
            cond (decide ((List.length (([40] : Str) ++ r37.1) + List.length x40 : Nat) < 4611686018427387904))
            (cond (decide ((List.length ((([40] : Str) ++ r37.1) ++ x40) + List.length r38.1 : Nat) < 4611686018427387904))
              (cond (decide ((List.length (((([40] : Str) ++ r37.1) ++ x40) ++ r38.1) + List.length ([41] : Str) : Nat) < 4611686018427387904))
                (some (((((([40] : Str) ++ r37.1) ++ x40) ++ r38.1) ++ ([41] : Str)), r38.2))
                (none))
              (none))
            (none))
          (none)))))
def formula_show_R_step (rf : (((List QSym) × (List (Int × Int × (List Int)))) → Option (Str × (List (Int × Int × (List Int)))))) : (((List QSym) × (List (Int × Int × (List Int)))) → Option (Str × (List (Int × Int × (List Int))))) :=
  fun (x : ((List QSym) × (List (Int × Int × (List Int))))) => formula_show_S rf x.1 x.2
def formula_show_R_base : (((List QSym) × (List (Int × Int × (List Int)))) → Option (Str × (List (Int × Int × (List Int))))) := fun _ => none
def formula_show_R (k : Nat) : (((List QSym) × (List (Int × Int × (List Int)))) → Option (Str × (List (Int × Int × (List Int))))) := lpR formula_show_R_base formula_show_R_step k
def formula_show (a0 : (List QSym)) (a1 : (List (Int × Int × (List Int)))) : Option (Str × (List (Int × Int × (List Int)))) := (formula_show_R fuel) (a0, a1)
def formula_Show (a0 : (List QSym)) (a1 : (List (Int × Int × (List Int)))) : Option (Str × Int) :=
  (formula_May a0 a1).bind fun r3 =>
  cond (!r3)
  (some (([] : Str), 2200))
  ((formula_show a0 a1).bind fun r4 =>
    some (r4.1, 0))
end Go.Abs.Q
namespace Go.Abs.Q
open Go Go.Abs
def slices_IndexFunc_5_L0_go : List QSym → Nat → Option (Unit ⊕ Int)
  | [], i => some (Sum.inl ())
  | e :: es, i =>
    (formula_SigMay_c1 e.1 e.2.1 e.2.2.1 e.2.2.2).bind fun r4 =>
    cond r4
    (some (Sum.inr (i : Int)))
    (slices_IndexFunc_5_L0_go es (i + 1))
theorem slices_IndexFunc_5_L0_go_eq (s0 : (List QSym)) (hl : List.length s0 ≤ maxLen) : ∀ (es : List QSym) (i : Nat) (k : Nat), s0.drop i = es → es.length < k → lp slices_IndexFunc_5_L0 k (s0, ((List.length s0 : Nat) : Int), (i : Int)) = slices_IndexFunc_5_L0_go es i := by
  intro es
  induction es with
  | nil =>
    intro i k h hk
    obtain ⟨k, rfl⟩ : ∃ k', k = k' + 1 := ⟨k - 1, by omega⟩
    rw [lp_succ]
    generalize lp slices_IndexFunc_5_L0 k = rec
    unfold slices_IndexFunc_5_L0 slices_IndexFunc_5_L0_go
    simp only [lt_false (drop_nil_le h), cond_false]
  | cons e es ih =>
    intro i k h hk
    obtain ⟨k, rfl⟩ : ∃ k', k = k' + 1 := ⟨k - 1, by omega⟩
    rw [lp_succ]
    have hi := drop_cons_lt h
    have hk2 : es.length < k := Nat.lt_of_succ_lt_succ hk
    have key := fun (_ : Unit) => ih (i + 1) k (drop_cons_next h) hk2
    generalize lp slices_IndexFunc_5_L0 k = rec at key ⊢
    unfold slices_IndexFunc_5_L0 slices_IndexFunc_5_L0_go
    simp only [lt_true hi, cond_true, gx_nat, drop_cons_get h, Option.bind_some, wrap_i1 hi hl, key ()]
theorem slices_IndexFunc_5_L0_go_at0 (s0 : (List QSym)) (hl : List.length s0 ≤ maxLen) : lp slices_IndexFunc_5_L0 fuel (s0, ((List.length s0 : Nat) : Int), 0) = slices_IndexFunc_5_L0_go s0 0 :=
  slices_IndexFunc_5_L0_go_eq s0 hl s0 0 fuel rfl (Nat.lt_of_le_of_lt hl (by decide))
def formula_May_L0_go (s0 : (List QSym)) : List (Int × Int × (List Int)) → Int → Option (Int ⊕ Bool)
  | [], s1 => some (Sum.inl s1)
  | e :: es, s1 =>
    (formula_parts e.1).bind fun r6 =>
    cond (s1 == 0)
    (some (Sum.inr false))
    (cond (decide (r6 < 0))
      (some (Sum.inr false))
      ((formula_nodeMay s0 e.1 e.2.1 e.2.2).bind fun r7 =>
        cond (!r7)
        (some (Sum.inr false))
        (formula_May_L0_go s0 es (IntKind.wrap .i64 (s1 + (IntKind.wrap .i64 (r6 - 1)))))))
theorem formula_May_L0_go_eq (s0 : (List QSym)) (s2 : (List (Int × Int × (List Int)))) (hl : List.length s2 ≤ maxLen) : ∀ (es : List (Int × Int × (List Int))) (i : Nat) (k : Nat) (s1 : Int), s2.drop i = es → es.length < k → lp formula_May_L0 k (s0, s1, s2, ((List.length s2 : Nat) : Int), (i : Int)) = formula_May_L0_go s0 es s1 := by
  intro es
  induction es with
  | nil =>
    intro i k s1 h hk
    obtain ⟨k, rfl⟩ : ∃ k', k = k' + 1 := ⟨k - 1, by omega⟩
    rw [lp_succ]
    generalize lp formula_May_L0 k = rec
    unfold formula_May_L0 formula_May_L0_go
    simp only [lt_false (drop_nil_le h), cond_false]
  | cons e es ih =>
    intro i k s1 h hk
    obtain ⟨k, rfl⟩ : ∃ k', k = k' + 1 := ⟨k - 1, by omega⟩
    rw [lp_succ]
    have hi := drop_cons_lt h
    have hk2 : es.length < k := Nat.lt_of_succ_lt_succ hk
    have key := fun s1 => ih (i + 1) k s1 (drop_cons_next h) hk2
    generalize lp formula_May_L0 k = rec at key ⊢
    unfold formula_May_L0 formula_May_L0_go
    simp only [lt_true hi, cond_true, gx_nat, drop_cons_get h, Option.bind_some, wrap_i1 hi hl, key]
theorem formula_May_L0_go_at0 (s0 : (List QSym)) (s2 : (List (Int × Int × (List Int)))) (s1 : Int) (hl : List.length s2 ≤ maxLen) : lp formula_May_L0 fuel (s0, s1, s2, ((List.length s2 : Nat) : Int), 0) = formula_May_L0_go s0 s2 s1 :=
  formula_May_L0_go_eq s0 s2 hl s2 0 fuel s1 rfl (Nat.lt_of_le_of_lt hl (by decide))
end Go.Abs.Q
namespace Go.Abs.Q
open Go Go.Abs
section
def bindName (s : Str) : Bool := s == [97, 108, 108] || s == [101, 120]
def sigB (a0 : List QSym) : Bool := signB a0 && !(a0.any fun e => bindName e.1)
theorem sig_go : (es : List QSym) → (i : Nat) → ((es.any fun e => bindName e.1) = true → ∃ j : Nat, slices_IndexFunc_5_L0_go es i = some (.inr (j : Int))) ∧ ((es.any fun e => bindName e.1) = false → slices_IndexFunc_5_L0_go es i = some (.inl ()))
  | [], _ => ⟨fun h => (by cases h), fun _ => rfl⟩
  | e :: es, i => by
    have hr := sig_go es (i + 1)
    have hc : formula_SigMay_c1 e.1 e.2.1 e.2.2.1 e.2.2.2 = some (bindName e.1) := by
      unfold formula_SigMay_c1 bindName
      cases (e.1 == ([97, 108, 108] : Str)) <;> rfl
    unfold slices_IndexFunc_5_L0_go
    rw [List.any_cons, hc, Option.bind_some]
    cases bindName e.1 with
    | true => exact ⟨fun _ => ⟨i, rfl⟩, fun h => (by cases h)⟩
    | false => exact hr
theorem formula_SigMay_eq (a0 : List QSym) : formula_SigMay a0 = some (sigB a0) := by
  unfold formula_SigMay sigB
  rw [sign_May_eq, Option.bind_some]
  cases hs : signB a0 with
  | false => rfl
  | true =>
    have hS := signB_ok hs
    obtain ⟨h1, h2⟩ := sig_go a0 0
    have hc : slices_ContainsFunc_5 a0 = some (a0.any fun e => bindName e.1) := by
      unfold slices_ContainsFunc_5 slices_IndexFunc_5
      rw [slices_IndexFunc_5_L0_go_at0 _ hS.max]
      cases hb : a0.any fun e => bindName e.1 with
      | true =>
        obtain ⟨j, hj⟩ := h1 hb
        rw [hj]
        show some (decide ((j : Int) ≥ 0)) = some true
        rw [decide_eq_true (by omega)]
      | false => rw [h2 hb]; rfl
    rw [cond_true, hc]; rfl
end
end Go.Abs.Q
namespace Go.Abs.Q
open Go Go.Abs
def law22_words : Option (List QSym) :=
  some ([(([61] : Str), 0, 2, 1), (([97] : Str), 1, 0, 1), (([98] : Str), 1, 0, 2), (([102] : Str), 1, 1, 1), (([103] : Str), 1, 2, 3), (([112] : Str), 0, 1, 1), (([114] : Str), 0, 2, 2)] : List QSym)
def lex_small (a0 : Int) : Option Bool :=
  cond (decide (a0 ≥ 97))
  (some (decide (a0 ≤ 122)))
  (some false)
def lex_digit (a0 : Int) : Option Bool :=
  cond (decide (a0 ≥ 48))
  (some (decide (a0 ≤ 57)))
  (some false)
def lex_run_L0 (rec : (Str × Int × Bool) → Option Int) (x : (Str × Int × Bool)) : Option Int :=
  cond (decide (x.2.1 < ((List.length x.1 : Nat) : Int)))
  ((gx x.1 x.2.1).bind fun c5 =>
    (lex_digit ((UInt8.toNat c5 : Nat) : Int)).bind fun r6 =>
    cond r6
    (rec (x.1, (IntKind.wrap .i64 (x.2.1 + 1)), x.2.2))
    (cond x.2.2
      ((gx x.1 x.2.1).bind fun c7 =>
        (lex_small ((UInt8.toNat c7 : Nat) : Int)).bind fun r8 =>
        cond r8
        (rec (x.1, (IntKind.wrap .i64 (x.2.1 + 1)), x.2.2))
        (some x.2.1))
      (some x.2.1)))
  (some x.2.1)
def lex_run (a0 : Str) (a1 : Int) (a2 : Bool) : Option Int :=
  ((lp lex_run_L0 fuel) (a0, a1, a2)).bind fun r10 =>
  some r10
def internal_stringslite_HasPrefix (a0 : Str) (a1 : Str) : Option Bool :=
  cond (decide (((List.length a0 : Nat) : Int) ≥ ((List.length a1 : Nat) : Int)))
  ((slc2 a0 none (some ((List.length a1 : Nat) : Int))).bind fun y2 =>
    some (y2 == a1))
  (some false)
def strings_HasPrefix (a0 : Str) (a1 : Str) : Option Bool :=
  (internal_stringslite_HasPrefix a0 a1).bind fun r2 =>
  some r2
def strings_Contains (a0 : Str) (a1 : Str) : Option Bool := containsF a0 a1
def lex_number (a0 : Str) (a1 : Int) : Option Bool :=
  cond (!(a0 == ([] : Str)))
  (cond (decide (((List.length a0 : Nat) : Int) ≤ a1))
    ((gx a0 0).bind fun c2 =>
      cond (((UInt8.toNat c2 : Nat) : Int) != 48)
      (some true)
      (some (((List.length a0 : Nat) : Int) == 1)))
    (some false))
  (some false)
def lex_Number_L0 (rec : QSym → Option Int) (x : QSym) : Option Int :=
  cond (decide (x.2.2.2 < x.2.2.1))
  ((gx x.1 x.2.2.2).bind fun c2 =>
    rec (x.1, (IntKind.wrap .i64 ((IntKind.wrap .i64 (10 * x.2.1)) + (IntKind.wrap .i64 (IntKind.wrap .u8 (((UInt8.toNat c2 : Nat) : Int) - 48))))), x.2.2.1, (IntKind.wrap .i64 (x.2.2.2 + 1))))
  (some x.2.1)
def lex_Number (a0 : Str) : Option Int :=
  ((lp lex_Number_L0 fuel) (a0, 0, ((List.length a0 : Nat) : Int), 0)).bind fun r4 =>
  some r4
def lex_Lex_L2 (rec : (Str × Int) → Option Int) (x : (Str × Int)) : Option Int :=
  cond (decide (x.2 < ((List.length x.1 : Nat) : Int)))
  ((gx x.1 x.2).bind fun c11 =>
    cond (((UInt8.toNat c11 : Nat) : Int) == 32)
    (rec (x.1, (IntKind.wrap .i64 (x.2 + 1))))
    (some x.2))
  (some x.2)
def lex_Lex_L1 (rec : (Str × Int) → Option Int) (x : (Str × Int)) : Option Int :=
  cond (decide (x.2 < ((List.length x.1 : Nat) : Int)))
  ((gx x.1 x.2).bind fun c3 =>
    cond (((UInt8.toNat c3 : Nat) : Int) == 32)
    (rec (x.1, (IntKind.wrap .i64 (x.2 + 1))))
    (some x.2))
  (some x.2)
def lex_Lex_L0 (rec : (Unit ⊕ ((Str × Int × (List (Int × Str))) ⊕ ((Str × Int × (List (Int × Str))) ⊕ ((Str × Int × (List (Int × Str))) ⊕ ((Str × Int × (List (Int × Str))) ⊕ (Str × Int × Int × Int × (List (Int × Str)))))))) → Option (Int × (List (Int × Str)))) (y : (Unit ⊕ ((Str × Int × (List (Int × Str))) ⊕ ((Str × Int × (List (Int × Str))) ⊕ ((Str × Int × (List (Int × Str))) ⊕ ((Str × Int × (List (Int × Str))) ⊕ (Str × Int × Int × Int × (List (Int × Str))))))))) : Option (Int × (List (Int × Str))) :=
  caseS y
  (fun x => some (2100, ([] : (List (Int × Str)))))
  (fun q1 => caseS q1
    (fun x => ((lp lex_Lex_L2 fuel) (x.1, x.2.1)).bind fun r33 =>
      cond (r33 == ((List.length x.1 : Nat) : Int))
      (some (0, x.2.2))
      ((gx x.1 r33).bind fun c34 =>
        (lex_small ((UInt8.toNat c34 : Nat) : Int)).bind fun r35 =>
        cond r35
        (rec (Sum.inr (Sum.inr (Sum.inl (x.1, r33, x.2.2)))))
        ((gx x.1 r33).bind fun c36 =>
          cond (((UInt8.toNat c36 : Nat) : Int) == 88)
          (rec (Sum.inr (Sum.inr (Sum.inr (Sum.inl (x.1, r33, x.2.2))))))
          ((gx x.1 r33).bind fun c37 =>
            (lex_digit ((UInt8.toNat c37 : Nat) : Int)).bind fun r38 =>
            cond r38
            (rec (Sum.inr (Sum.inr (Sum.inr (Sum.inr (Sum.inl (x.1, r33, x.2.2)))))))
            ((slc2 x.1 (some r33) none).bind fun y39 =>
              (strings_HasPrefix y39 ([45, 62] : Str)).bind fun r40 =>
              cond r40
              (rec (Sum.inr (Sum.inr (Sum.inr (Sum.inr (Sum.inr (x.1, r33, (IntKind.wrap .i64 ((IntKind.wrap .i64 (r33 + 1)) + 1)), 3, x.2.2)))))))
              ((slc2 x.1 (some r33) (some (IntKind.wrap .i64 (r33 + 1)))).bind fun y41 =>
                (strings_Contains ([40, 41, 44, 61, 126, 38, 124, 58] : Str) y41).bind fun r42 =>
                cond (!r42)
                (rec (Sum.inl ()))
                (rec (Sum.inr (Sum.inr (Sum.inr (Sum.inr (Sum.inr (x.1, r33, (IntKind.wrap .i64 (r33 + 1)), 3, x.2.2)))))))))))))
    (fun q2 => caseS q2
      (fun x => (lex_run x.1 x.2.1 true).bind fun r43 =>
        cond (decide ((IntKind.wrap .i64 (r43 - x.2.1)) > 8))
        (rec (Sum.inl ()))
        (rec (Sum.inr (Sum.inr (Sum.inr (Sum.inr (Sum.inr (x.1, x.2.1, r43, 0, x.2.2))))))))
      (fun q3 => caseS q3
        (fun x => (lex_run x.1 (IntKind.wrap .i64 (x.2.1 + 1)) false).bind fun r44 =>
          (slc2 x.1 (some (IntKind.wrap .i64 (x.2.1 + 1))) (some r44)).bind fun y45 =>
          (lex_number y45 2).bind fun r46 =>
          cond (!r46)
          (rec (Sum.inl ()))
          ((slc2 x.1 (some (IntKind.wrap .i64 (x.2.1 + 1))) (some r44)).bind fun y47 =>
            (lex_Number y47).bind fun r48 =>
            cond (decide (r48 > 23))
            (rec (Sum.inl ()))
            (rec (Sum.inr (Sum.inr (Sum.inr (Sum.inr (Sum.inr (x.1, x.2.1, r44, 1, x.2.2)))))))))
        (fun q4 => caseS q4
          (fun x => (lex_run x.1 x.2.1 false).bind fun r49 =>
            (slc2 x.1 (some x.2.1) (some r49)).bind fun y50 =>
            (lex_number y50 4).bind fun r51 =>
            cond (!r51)
            (rec (Sum.inl ()))
            ((slc2 x.1 (some x.2.1) (some r49)).bind fun y52 =>
              cond (room (List.length x.2.2 + List.length ([(2, y52)] : List (Int × Str))) 24)
              (rec (Sum.inr (Sum.inl (x.1, r49, (x.2.2 ++ ([(2, y52)] : List (Int × Str)))))))
              (none)))
          (fun x => (slc2 x.1 (some x.2.1) (some x.2.2.1)).bind fun y53 =>
            cond (room (List.length x.2.2.2.2 + List.length ([(x.2.2.2.1, y53)] : List (Int × Str))) 24)
            (rec (Sum.inr (Sum.inl (x.1, x.2.2.1, (x.2.2.2.2 ++ ([(x.2.2.2.1, y53)] : List (Int × Str)))))))
            (none))))))
def lex_Lex (a0 : Str) : Option (Int × (List (Int × Str))) :=
  cond (decide (((List.length a0 : Nat) : Int) > 2048))
  ((((lp lex_Lex_L0 fuel) (Sum.inl ()))).bind fun r67 =>
    some (r67.1, r67.2))
  (((lp lex_Lex_L1 fuel) (a0, 0)).bind fun r68 =>
    cond (r68 == ((List.length a0 : Nat) : Int))
    (some (0, ([] : (List (Int × Str)))))
    ((gx a0 r68).bind fun c69 =>
      (lex_small ((UInt8.toNat c69 : Nat) : Int)).bind fun r70 =>
      cond r70
      ((((lp lex_Lex_L0 fuel) (Sum.inr (Sum.inr (Sum.inl (a0, r68, ([] : (List (Int × Str))))))))).bind fun r71 =>
        some (r71.1, r71.2))
      ((gx a0 r68).bind fun c72 =>
        cond (((UInt8.toNat c72 : Nat) : Int) == 88)
        ((((lp lex_Lex_L0 fuel) (Sum.inr (Sum.inr (Sum.inr (Sum.inl (a0, r68, ([] : (List (Int × Str)))))))))).bind fun r73 =>
          some (r73.1, r73.2))
        ((gx a0 r68).bind fun c74 =>
          (lex_digit ((UInt8.toNat c74 : Nat) : Int)).bind fun r75 =>
          cond r75
          ((((lp lex_Lex_L0 fuel) (Sum.inr (Sum.inr (Sum.inr (Sum.inr (Sum.inl (a0, r68, ([] : (List (Int × Str))))))))))).bind fun r76 =>
            some (r76.1, r76.2))
          ((slc2 a0 (some r68) none).bind fun y77 =>
            (strings_HasPrefix y77 ([45, 62] : Str)).bind fun r78 =>
            cond r78
            ((((lp lex_Lex_L0 fuel) (Sum.inr (Sum.inr (Sum.inr (Sum.inr (Sum.inr (a0, r68, (IntKind.wrap .i64 ((IntKind.wrap .i64 (r68 + 1)) + 1)), 3, ([] : (List (Int × Str))))))))))).bind fun r79 =>
              some (r79.1, r79.2))
            ((slc2 a0 (some r68) (some (IntKind.wrap .i64 (r68 + 1)))).bind fun y80 =>
              (strings_Contains ([40, 41, 44, 61, 126, 38, 124, 58] : Str) y80).bind fun r81 =>
              cond (!r81)
              ((((lp lex_Lex_L0 fuel) (Sum.inl ()))).bind fun r82 =>
                some (r82.1, r82.2))
              ((((lp lex_Lex_L0 fuel) (Sum.inr (Sum.inr (Sum.inr (Sum.inr (Sum.inr (a0, r68, (IntKind.wrap .i64 (r68 + 1)), 3, ([] : (List (Int × Str))))))))))).bind fun r83 =>
                some (r83.1, r83.2))))))))
def formula_Reader_Is_1 (a0 : Str) (a1 : (List QSym)) (a2 : (List (Int × Str))) (a3 : Bool) : Option (Bool × (List QSym) × (List (Int × Str)) × Bool) :=
  cond (((List.length a2 : Nat) : Int) == 0)
  (some (false, a1, a2, a3))
  ((gx a2 0).bind fun e4 =>
    cond (e4.1 != 3)
    (some (false, a1, a2, a3))
    ((gx a2 0).bind fun e5 =>
      cond (!(e5.2 == a0))
      (some (false, a1, a2, a3))
      ((slc2 a2 (some 1) none).bind fun y6 =>
        some (true, a1, y6, a3))))
def formula_Reader_binder_1 (a0 : (List QSym)) (a1 : (List (Int × Str))) (a2 : Bool) : Option (Int × Int × Bool × (List QSym) × (List (Int × Str)) × Bool) :=
  cond (decide (((List.length a1 : Nat) : Int) < 2))
  (some (0, 0, false, a0, a1, a2))
  ((gx a1 0).bind fun e9 =>
    cond (e9.1 != 0)
    (some (0, 0, false, a0, a1, a2))
    ((gx a1 1).bind fun e10 =>
      cond (e10.1 != 1)
      (some (0, 0, false, a0, a1, a2))
      ((gx a1 1).bind fun e11 =>
        (slc2 e11.2 (some 1) none).bind fun y12 =>
        (lex_Number y12).bind fun r13 =>
        (gx a1 0).bind fun e14 =>
        cond (e14.2 == ([101, 120] : Str))
        ((slc2 a1 (some 2) none).bind fun y15 =>
          some (6, r13, true, a0, y15, a2))
        (cond (e14.2 == ([97, 108, 108] : Str))
          ((slc2 a1 (some 2) none).bind fun y16 =>
            some (5, r13, true, a0, y16, a2))
          (some (0, 0, false, a0, a1, a2))))))
def sign_Find (a0 : (List QSym)) (a1 : Str) : Option (Int × Int) :=
  (sign_May a0).bind fun r3 =>
  cond (!r3)
  (some (0, 100))
  ((sign_find a0 a1).bind fun r4 =>
    some (r4, 0))
def formula_Reader_symbol_1 (a0 : (List QSym)) (a1 : (List (Int × Str))) (a2 : Bool) : Option (Int × Bool × (List QSym) × (List (Int × Str)) × Bool) :=
  cond (((List.length a1 : Nat) : Int) == 0)
  (some (0, false, a0, a1, a2))
  ((gx a1 0).bind fun e5 =>
    cond (e5.1 != 0)
    (some (0, false, a0, a1, a2))
    ((gx a1 0).bind fun e6 =>
      (sign_Find a0 e6.2).bind fun r7 =>
      cond (decide (r7.1 < 0))
      (some (0, false, a0, a1, a2))
      ((slc2 a1 (some 1) none).bind fun y8 =>
        some (r7.1, true, a0, y8, a2))))
def formula_Reader_Var_1 (a0 : (List QSym)) (a1 : (List (Int × Str))) (a2 : Bool) : Option (Int × Bool × (List QSym) × (List (Int × Str)) × Bool) :=
  cond (((List.length a1 : Nat) : Int) == 0)
  (some (0, false, a0, a1, a2))
  ((gx a1 0).bind fun e6 =>
    cond (e6.1 != 1)
    (some (0, false, a0, a1, a2))
    ((gx a1 0).bind fun e7 =>
      (slc2 e7.2 (some 1) none).bind fun y8 =>
      (lex_Number y8).bind fun r9 =>
      (slc2 a1 (some 1) none).bind fun y10 =>
      some (r9, true, a0, y10, a2)))
def formula_Reader_term_1_S (rf : ((((List QSym) × (List (Int × Str)) × Bool) → Option (Bool × (List Int) × (List QSym) × (List (Int × Str)) × Bool)) × ((Int × (List QSym) × (List (Int × Str)) × Bool) → Option (Bool × (List Int) × (List QSym) × (List (Int × Str)) × Bool)))) (a0 : (List QSym)) (a1 : (List (Int × Str))) (a2 : Bool) : Option (Bool × (List Int) × (List QSym) × (List (Int × Str)) × Bool) :=
  (formula_Reader_Var_1 a0 a1 a2).bind fun r6 =>
  cond r6.2.1
  ((term_Number r6.1).bind fun r7 =>
    some (true, ([r7] : List Int), r6.2.2.1, r6.2.2.2.1, r6.2.2.2.2))
  ((formula_Reader_symbol_1 r6.2.2.1 r6.2.2.2.1 r6.2.2.2.2).bind fun r8 =>
    cond (!r8.2.1)
    (some (false, ([] : (List Int)), r8.2.2.1, r8.2.2.2.1, r8.2.2.2.2))
    ((gx r8.2.2.1 r8.1).bind fun e9 =>
      cond (e9.2.1 == 0)
      (some (false, ([] : (List Int)), r8.2.2.1, r8.2.2.2.1, r8.2.2.2.2))
      ((rf.2 (r8.1, r8.2.2.1, r8.2.2.2.1, r8.2.2.2.2)).bind fun r10 =>
        some (r10.1, r10.2.1, r10.2.2.1, r10.2.2.2.1, r10.2.2.2.2))))
def formula_Reader_behind_1_L0 (rf : ((((List QSym) × (List (Int × Str)) × Bool) → Option (Bool × (List Int) × (List QSym) × (List (Int × Str)) × Bool)) × ((Int × (List QSym) × (List (Int × Str)) × Bool) → Option (Bool × (List Int) × (List QSym) × (List (Int × Str)) × Bool)))) (rec : (Int × Int × Int × (List QSym) × (List (Int × Str)) × Bool × (List Int)) → Option (((List QSym) × (List (Int × Str)) × Bool × (List Int)) ⊕ (Bool × (List QSym) × (List (Int × Str)) × Bool))) (x : (Int × Int × Int × (List QSym) × (List (Int × Str)) × Bool × (List Int))) : Option (((List QSym) × (List (Int × Str)) × Bool × (List Int)) ⊕ (Bool × (List QSym) × (List (Int × Str)) × Bool)) :=
  cond (decide (x.2.2.1 < x.2.1))
  (cond (x.2.2.1 == 0)
    ((formula_Reader_Is_1 ([40] : Str) x.2.2.2.1 x.2.2.2.2.1 x.2.2.2.2.2.1).bind fun r8 =>
      cond (!r8.1)
      (some (Sum.inr (false, r8.2.1, r8.2.2.1, r8.2.2.2)))
      ((rf.1 (r8.2.1, r8.2.2.1, r8.2.2.2)).bind fun r9 =>
        cond (!r9.1)
        (some (Sum.inr (false, r9.2.2.1, r9.2.2.2.1, r9.2.2.2.2)))
        (cond (room (List.length x.2.2.2.2.2.2 + List.length r9.2.1) 8)
          (rec (x.1, x.2.1, (IntKind.wrap .i64 (x.2.2.1 + 1)), r9.2.2.1, r9.2.2.2.1, r9.2.2.2.2, (x.2.2.2.2.2.2 ++ r9.2.1)))
          (none))))
    ((formula_Reader_Is_1 ([44] : Str) x.2.2.2.1 x.2.2.2.2.1 x.2.2.2.2.2.1).bind fun r10 =>
      cond (!r10.1)
      (some (Sum.inr (false, r10.2.1, r10.2.2.1, r10.2.2.2)))
      ((rf.1 (r10.2.1, r10.2.2.1, r10.2.2.2)).bind fun r11 =>
        cond (!r11.1)
        (some (Sum.inr (false, r11.2.2.1, r11.2.2.2.1, r11.2.2.2.2)))
        (cond (room (List.length x.2.2.2.2.2.2 + List.length r11.2.1) 8)
          (rec (x.1, x.2.1, (IntKind.wrap .i64 (x.2.2.1 + 1)), r11.2.2.1, r11.2.2.2.1, r11.2.2.2.2, (x.2.2.2.2.2.2 ++ r11.2.1)))
          (none)))))
  (some (Sum.inl (x.2.2.2.1, x.2.2.2.2.1, x.2.2.2.2.2.1, x.2.2.2.2.2.2)))
def formula_Reader_behind_1_S (rf : ((((List QSym) × (List (Int × Str)) × Bool) → Option (Bool × (List Int) × (List QSym) × (List (Int × Str)) × Bool)) × ((Int × (List QSym) × (List (Int × Str)) × Bool) → Option (Bool × (List Int) × (List QSym) × (List (Int × Str)) × Bool)))) (a0 : Int) (a1 : (List QSym)) (a2 : (List (Int × Str))) (a3 : Bool) : Option (Bool × (List Int) × (List QSym) × (List (Int × Str)) × Bool) :=
  (gx a1 a0).bind fun e17 =>
  ((lp (formula_Reader_behind_1_L0 rf) fuel) (a0, e17.2.2.1, 0, a1, a2, a3, ([a0] : List Int))).bind fun r18 =>
  caseS r18
  (fun z19 => (gx z19.1 a0).bind fun e20 =>
    cond (e20.2.2.1 == 0)
    (some (true, z19.2.2.2, z19.1, z19.2.1, z19.2.2.1))
    ((formula_Reader_Is_1 ([41] : Str) z19.1 z19.2.1 z19.2.2.1).bind fun r21 =>
      some (r21.1, z19.2.2.2, r21.2.1, r21.2.2.1, r21.2.2.2)))
  (fun z22 => some (z22.1, ([] : (List Int)), z22.2.1, z22.2.2.1, z22.2.2.2))
def formula_Reader_behind_1_R_step (rf : ((((List QSym) × (List (Int × Str)) × Bool) → Option (Bool × (List Int) × (List QSym) × (List (Int × Str)) × Bool)) × ((Int × (List QSym) × (List (Int × Str)) × Bool) → Option (Bool × (List Int) × (List QSym) × (List (Int × Str)) × Bool)))) : ((((List QSym) × (List (Int × Str)) × Bool) → Option (Bool × (List Int) × (List QSym) × (List (Int × Str)) × Bool)) × ((Int × (List QSym) × (List (Int × Str)) × Bool) → Option (Bool × (List Int) × (List QSym) × (List (Int × Str)) × Bool))) :=
  (fun (x : ((List QSym) × (List (Int × Str)) × Bool)) => formula_Reader_term_1_S rf x.1 x.2.1 x.2.2, fun (x : (Int × (List QSym) × (List (Int × Str)) × Bool)) => formula_Reader_behind_1_S rf x.1 x.2.1 x.2.2.1 x.2.2.2)
def formula_Reader_behind_1_R_base : ((((List QSym) × (List (Int × Str)) × Bool) → Option (Bool × (List Int) × (List QSym) × (List (Int × Str)) × Bool)) × ((Int × (List QSym) × (List (Int × Str)) × Bool) → Option (Bool × (List Int) × (List QSym) × (List (Int × Str)) × Bool))) := (fun _ => none, fun _ => none)
def formula_Reader_behind_1_R (k : Nat) : ((((List QSym) × (List (Int × Str)) × Bool) → Option (Bool × (List Int) × (List QSym) × (List (Int × Str)) × Bool)) × ((Int × (List QSym) × (List (Int × Str)) × Bool) → Option (Bool × (List Int) × (List QSym) × (List (Int × Str)) × Bool))) := lpR formula_Reader_behind_1_R_base formula_Reader_behind_1_R_step k
def formula_Reader_term_1 (a0 : (List QSym)) (a1 : (List (Int × Str))) (a2 : Bool) : Option (Bool × (List Int) × (List QSym) × (List (Int × Str)) × Bool) := (formula_Reader_behind_1_R fuel).1 (a0, a1, a2)
def formula_Reader_behind_1 (a0 : Int) (a1 : (List QSym)) (a2 : (List (Int × Str))) (a3 : Bool) : Option (Bool × (List Int) × (List QSym) × (List (Int × Str)) × Bool) := (formula_Reader_behind_1_R fuel).2 (a0, a1, a2, a3)
def slices_Grow_2 (a0 : Int) : Option (List Int) :=
  cond (decide (a0 < 0))
  (none)
  (cond (decide ((IntKind.wrap .i64 (a0 - 0)) > 0))
    (cond (eqI 0 0 && eqI 0 0)
      (cond (posI (IntKind.wrap .i64 (a0 - 0)))
        (cond (room (Int.toNat (IntKind.wrap .i64 (a0 - 0))) 8)
          ((slc2 (List.replicate (Int.toNat (IntKind.wrap .i64 (a0 - 0))) (0 : Int)) none (some 0)).bind fun y2 =>
            some y2)
          (none))
        (none))
      (none))
    (some ([] : (List Int))))
def slices_Concat_2_L1 (rec : ((List (List Int)) × Int × Int × (List Int)) → Option (List Int)) (x : ((List (List Int)) × Int × Int × (List Int))) : Option (List Int) :=
  cond (decide (x.2.2.1 < x.2.1))
  ((gx x.1 x.2.2.1).bind fun e7 =>
    cond (room (List.length x.2.2.2 + List.length e7) 8)
    (rec (x.1, x.2.1, (IntKind.wrap .i64 (x.2.2.1 + 1)), (x.2.2.2 ++ e7)))
    (none))
  (some x.2.2.2)
def slices_Concat_2_L0 (rec : ((List (List Int)) × Int × (List (List Int)) × Int × Int) → Option Int) (x : ((List (List Int)) × Int × (List (List Int)) × Int × Int)) : Option Int :=
  cond (decide (x.2.2.2.2 < x.2.2.2.1))
  ((gx x.2.2.1 x.2.2.2.2).bind fun e2 =>
    cond (decide ((IntKind.wrap .i64 (x.2.1 + ((List.length e2 : Nat) : Int))) < 0))
    (none)
    (rec (x.1, (IntKind.wrap .i64 (x.2.1 + ((List.length e2 : Nat) : Int))), x.2.2.1, x.2.2.2.1, (IntKind.wrap .i64 (x.2.2.2.2 + 1)))))
  (some x.2.1)
def slices_Concat_2 (a0 : (List (List Int))) : Option (List Int) :=
  ((lp slices_Concat_2_L0 fuel) (a0, 0, a0, ((List.length a0 : Nat) : Int), 0)).bind fun r9 =>
  (slices_Grow_2 r9).bind fun r10 =>
  ((lp slices_Concat_2_L1 fuel) (a0, ((List.length a0 : Nat) : Int), 0, r10)).bind fun r11 =>
  some r11
def formula_Reader_Atom_1 (a0 : (List QSym)) (a1 : (List (Int × Str))) (a2 : Bool) : Option (Bool × (List Int) × (List QSym) × (List (Int × Str)) × Bool) :=
  (formula_Reader_symbol_1 a0 a1 a2).bind fun r12 =>
  cond r12.2.1
  ((gx r12.2.2.1 r12.1).bind fun e13 =>
    cond (e13.2.1 == 0)
    ((formula_Reader_behind_1 r12.1 r12.2.2.1 r12.2.2.2.1 r12.2.2.2.2).bind fun r14 =>
      cond r14.2.2.2.2
      (some (r14.1, r14.2.1, r14.2.2.1, r14.2.2.2.1, true))
      (some (r14.1, r14.2.1, r14.2.2.1, r14.2.2.2.1, (decide (((List.length r14.2.1 : Nat) : Int) > 49)))))
    ((formula_Reader_term_1 r12.2.2.1 a1 r12.2.2.2.2).bind fun r15 =>
      cond (!r15.1)
      (some (false, ([] : (List Int)), r15.2.2.1, r15.2.2.2.1, r15.2.2.2.2))
      ((formula_Reader_Is_1 ([61] : Str) r15.2.2.1 r15.2.2.2.1 r15.2.2.2.2).bind fun r16 =>
        cond (!r16.1)
        (some (false, ([] : (List Int)), r16.2.1, r16.2.2.1, r16.2.2.2))
        ((formula_Reader_term_1 r16.2.1 r16.2.2.1 r16.2.2.2).bind fun r17 =>
          (slices_Concat_2 ([([0] : List Int), r15.2.1, r17.2.1] : List (List Int))).bind fun r18 =>
          cond r17.2.2.2.2
          (some (r17.1, r18, r17.2.2.1, r17.2.2.2.1, true))
          (some (r17.1, r18, r17.2.2.1, r17.2.2.2.1, (decide (((List.length r18 : Nat) : Int) > 49))))))))
  ((formula_Reader_term_1 r12.2.2.1 a1 r12.2.2.2.2).bind fun r19 =>
    cond (!r19.1)
    (some (false, ([] : (List Int)), r19.2.2.1, r19.2.2.2.1, r19.2.2.2.2))
    ((formula_Reader_Is_1 ([61] : Str) r19.2.2.1 r19.2.2.2.1 r19.2.2.2.2).bind fun r20 =>
      cond (!r20.1)
      (some (false, ([] : (List Int)), r20.2.1, r20.2.2.1, r20.2.2.2))
      ((formula_Reader_term_1 r20.2.1 r20.2.2.1 r20.2.2.2).bind fun r21 =>
        (slices_Concat_2 ([([0] : List Int), r19.2.1, r21.2.1] : List (List Int))).bind fun r22 =>
        cond r21.2.2.2.2
        (some (r21.1, r22, r21.2.2.1, r21.2.2.2.1, true))
        (some (r21.1, r22, r21.2.2.1, r21.2.2.2.1, (decide (((List.length r22 : Nat) : Int) > 49)))))))
def formula_Reader_joint_1_L0 (rec : ((List Str) × Int × Int × (List QSym) × (List (Int × Str)) × Bool) → Option (((List QSym) × (List (Int × Str)) × Bool) ⊕ (Int × Bool × (List QSym) × (List (Int × Str)) × Bool))) (x : ((List Str) × Int × Int × (List QSym) × (List (Int × Str)) × Bool)) : Option (((List QSym) × (List (Int × Str)) × Bool) ⊕ (Int × Bool × (List QSym) × (List (Int × Str)) × Bool)) :=
  cond (decide (x.2.2.1 < x.2.1))
  ((gx x.1 x.2.2.1).bind fun e5 =>
    (formula_Reader_Is_1 e5 x.2.2.2.1 x.2.2.2.2.1 x.2.2.2.2.2).bind fun r6 =>
    cond r6.1
    (some (Sum.inr ((IntKind.wrap .i64 (2 + x.2.2.1)), true, r6.2.1, r6.2.2.1, r6.2.2.2)))
    (rec (x.1, x.2.1, (IntKind.wrap .i64 (x.2.2.1 + 1)), r6.2.1, r6.2.2.1, r6.2.2.2)))
  (some (Sum.inl (x.2.2.2.1, x.2.2.2.2.1, x.2.2.2.2.2)))
def formula_Reader_joint_1 (a0 : (List QSym)) (a1 : (List (Int × Str))) (a2 : Bool) : Option (Int × Bool × (List QSym) × (List (Int × Str)) × Bool) :=
  ((lp formula_Reader_joint_1_L0 fuel) (([([38] : Str), ([124] : Str), ([45, 62] : Str)] : List Str), ((List.length ([([38] : Str), ([124] : Str), ([45, 62] : Str)] : List Str) : Nat) : Int), 0, a0, a1, a2)).bind fun r10 =>
  caseS r10
  (fun z11 => some (0, false, z11.1, z11.2.1, z11.2.2))
  (fun z12 => some (z12.1, z12.2.1, z12.2.2.1, z12.2.2.2.1, z12.2.2.2.2))
def formula_Reader_formula_1_L0 (rec : (((List QSym) × (List (Int × Str)) × Bool × (List (Int × Int × (List Int))) × (List (Int × Bool))) ⊕ ((List QSym) × (List (Int × Str)) × Bool × (List (Int × Int × (List Int))) × (List (Int × Bool)))) → Option (Bool × (List QSym) × (List (Int × Str)) × Bool × (List (Int × Int × (List Int))))) (y : (((List QSym) × (List (Int × Str)) × Bool × (List (Int × Int × (List Int))) × (List (Int × Bool))) ⊕ ((List QSym) × (List (Int × Str)) × Bool × (List (Int × Int × (List Int))) × (List (Int × Bool))))) : Option (Bool × (List QSym) × (List (Int × Str)) × Bool × (List (Int × Int × (List Int)))) :=
  caseS y
  (fun x => (formula_Reader_Is_1 ([126] : Str) x.1 x.2.1 x.2.2.1).bind fun r26 =>
    cond r26.1
    (cond (room (List.length x.2.2.2.1 + List.length ([(1, 0, ([] : (List Int)))] : List (Int × Int × (List Int)))) 40)
      (rec (Sum.inl (r26.2.1, r26.2.2.1, r26.2.2.2, (x.2.2.2.1 ++ ([(1, 0, ([] : (List Int)))] : List (Int × Int × (List Int)))), x.2.2.2.2)))
      (none))
    ((formula_Reader_binder_1 r26.2.1 r26.2.2.1 r26.2.2.2).bind fun r27 =>
      cond r27.2.2.1
      (cond (room (List.length x.2.2.2.1 + List.length ([(r27.1, r27.2.1, ([] : (List Int)))] : List (Int × Int × (List Int)))) 40)
        (rec (Sum.inl (r27.2.2.2.1, r27.2.2.2.2.1, r27.2.2.2.2.2, (x.2.2.2.1 ++ ([(r27.1, r27.2.1, ([] : (List Int)))] : List (Int × Int × (List Int)))), x.2.2.2.2)))
        (none))
      ((formula_Reader_Is_1 ([40] : Str) r27.2.2.2.1 r27.2.2.2.2.1 r27.2.2.2.2.2).bind fun r28 =>
        cond r28.1
        (cond (room (List.length x.2.2.2.2 + List.length ([(((List.length x.2.2.2.1 : Nat) : Int), false)] : List (Int × Bool))) 16)
          (cond (room (List.length x.2.2.2.1 + List.length ([(0, 0, ([] : (List Int)))] : List (Int × Int × (List Int)))) 40)
            (rec (Sum.inl (r28.2.1, r28.2.2.1, r28.2.2.2, (x.2.2.2.1 ++ ([(0, 0, ([] : (List Int)))] : List (Int × Int × (List Int)))), (x.2.2.2.2 ++ ([(((List.length x.2.2.2.1 : Nat) : Int), false)] : List (Int × Bool))))))
            (none))
          (none))
        ((formula_Reader_Atom_1 r28.2.1 r28.2.2.1 r28.2.2.2).bind fun r29 =>
          cond r29.1
          (cond (room (List.length x.2.2.2.1 + List.length ([(0, 0, r29.2.1)] : List (Int × Int × (List Int)))) 40)
            (rec (Sum.inr (r29.2.2.1, r29.2.2.2.1, r29.2.2.2.2, (x.2.2.2.1 ++ ([(0, 0, r29.2.1)] : List (Int × Int × (List Int)))), x.2.2.2.2)))
            (none))
          (some (false, r29.2.2.1, r29.2.2.2.1, r29.2.2.2.2, ([] : (List (Int × Int × (List Int))))))))))
  (fun x => cond (((List.length x.2.2.2.2 : Nat) : Int) == 0)
    (some (true, x.1, x.2.1, x.2.2.1, x.2.2.2.1))
    ((inR (IntKind.wrap .i64 (((List.length x.2.2.2.2 : Nat) : Int) - 1)) (List.length x.2.2.2.2)).bind fun k30 =>
      (formula_Reader_joint_1 x.1 x.2.1 x.2.2.1).bind fun r31 =>
      cond r31.2.1
      ((x.2.2.2.2[k30]?).bind fun x32 =>
        cond (!x32.2)
        ((x.2.2.2.2[k30]?).bind fun x33 =>
          (inR x33.1 (List.length x.2.2.2.1)).bind fun k34 =>
          (x.2.2.2.1[k34]?).bind fun x35 =>
          (x.2.2.2.2[k30]?).bind fun x36 =>
          rec (Sum.inl (r31.2.2.1, r31.2.2.2.1, r31.2.2.2.2, (List.set x.2.2.2.1 k34 (r31.1, x35.2)), (List.set x.2.2.2.2 k30 (x36.1, true)))))
        (cond r31.2.1
          (some (false, r31.2.2.1, r31.2.2.2.1, r31.2.2.2.2, ([] : (List (Int × Int × (List Int))))))
          ((x.2.2.2.2[k30]?).bind fun x37 =>
            cond (!x37.2)
            (some (false, r31.2.2.1, r31.2.2.2.1, r31.2.2.2.2, ([] : (List (Int × Int × (List Int))))))
            ((formula_Reader_Is_1 ([41] : Str) r31.2.2.1 r31.2.2.2.1 r31.2.2.2.2).bind fun r38 =>
              cond (!r38.1)
              (some (false, r38.2.1, r38.2.2.1, r38.2.2.2, ([] : (List (Int × Int × (List Int))))))
              ((slc2 x.2.2.2.2 none (some (IntKind.wrap .i64 (((List.length x.2.2.2.2 : Nat) : Int) - 1)))).bind fun y39 =>
                rec (Sum.inr (r38.2.1, r38.2.2.1, r38.2.2.2, x.2.2.2.1, y39)))))))
      (cond r31.2.1
        (some (false, r31.2.2.1, r31.2.2.2.1, r31.2.2.2.2, ([] : (List (Int × Int × (List Int))))))
        ((x.2.2.2.2[k30]?).bind fun x40 =>
          cond (!x40.2)
          (some (false, r31.2.2.1, r31.2.2.2.1, r31.2.2.2.2, ([] : (List (Int × Int × (List Int))))))
          ((formula_Reader_Is_1 ([41] : Str) r31.2.2.1 r31.2.2.2.1 r31.2.2.2.2).bind fun r41 =>
            cond (!r41.1)
            (some (false, r41.2.1, r41.2.2.1, r41.2.2.2, ([] : (List (Int × Int × (List Int))))))
            ((slc2 x.2.2.2.2 none (some (IntKind.wrap .i64 (((List.length x.2.2.2.2 : Nat) : Int) - 1)))).bind fun y42 =>
              rec (Sum.inr (r41.2.1, r41.2.2.1, r41.2.2.2, x.2.2.2.1, y42))))))))
def formula_Reader_formula_1 (a0 : (List QSym)) (a1 : (List (Int × Str))) (a2 : Bool) : Option (Bool × (List (Int × Int × (List Int))) × (List QSym) × (List (Int × Str)) × Bool) :=
  (formula_Reader_Is_1 ([126] : Str) a0 a1 a2).bind fun r50 =>
  cond r50.1
  (cond (room (List.length ([(1, 0, ([] : (List Int)))] : List (Int × Int × (List Int)))) 40)
    ((((lp formula_Reader_formula_1_L0 fuel) (Sum.inl (r50.2.1, r50.2.2.1, r50.2.2.2, ([(1, 0, ([] : (List Int)))] : List (Int × Int × (List Int))), ([] : (List (Int × Bool))))))).bind fun r51 =>
      some (r51.1, r51.2.2.2.2, r51.2.1, r51.2.2.1, r51.2.2.2.1))
    (none))
  ((formula_Reader_binder_1 r50.2.1 r50.2.2.1 r50.2.2.2).bind fun r52 =>
    cond r52.2.2.1
    (cond (room (List.length ([(r52.1, r52.2.1, ([] : (List Int)))] : List (Int × Int × (List Int)))) 40)
      ((((lp formula_Reader_formula_1_L0 fuel) (Sum.inl (r52.2.2.2.1, r52.2.2.2.2.1, r52.2.2.2.2.2, ([(r52.1, r52.2.1, ([] : (List Int)))] : List (Int × Int × (List Int))), ([] : (List (Int × Bool))))))).bind fun r53 =>
        some (r53.1, r53.2.2.2.2, r53.2.1, r53.2.2.1, r53.2.2.2.1))
      (none))
    ((formula_Reader_Is_1 ([40] : Str) r52.2.2.2.1 r52.2.2.2.2.1 r52.2.2.2.2.2).bind fun r54 =>
      cond r54.1
      (cond (room (List.length ([(0, false)] : List (Int × Bool))) 16)
        (cond (room (List.length ([(0, 0, ([] : (List Int)))] : List (Int × Int × (List Int)))) 40)
          ((((lp formula_Reader_formula_1_L0 fuel) (Sum.inl (r54.2.1, r54.2.2.1, r54.2.2.2, ([(0, 0, ([] : (List Int)))] : List (Int × Int × (List Int))), ([(0, false)] : List (Int × Bool)))))).bind fun r55 =>
            some (r55.1, r55.2.2.2.2, r55.2.1, r55.2.2.1, r55.2.2.2.1))
          (none))
        (none))
      ((formula_Reader_Atom_1 r54.2.1 r54.2.2.1 r54.2.2.2).bind fun r56 =>
        cond r56.1
        (cond (room (List.length ([(0, 0, r56.2.1)] : List (Int × Int × (List Int)))) 40)
          ((((lp formula_Reader_formula_1_L0 fuel) (Sum.inr (r56.2.2.1, r56.2.2.2.1, r56.2.2.2.2, ([(0, 0, r56.2.1)] : List (Int × Int × (List Int))), ([] : (List (Int × Bool))))))).bind fun r57 =>
            some (r57.1, r57.2.2.2.2, r57.2.1, r57.2.2.1, r57.2.2.2.1))
          (none))
        (some (false, ([] : (List (Int × Int × (List Int)))), r56.2.2.1, r56.2.2.2.1, r56.2.2.2.2)))))
def formula_Read (a0 : (List QSym)) (a1 : (List (Int × Str))) : Option (Int × (List (Int × Int × (List Int)))) :=
  (formula_SigMay a0).bind fun r3 =>
  cond (!r3)
  (some (2200, ([] : (List (Int × Int × (List Int))))))
  ((formula_Reader_formula_1 a0 a1 false).bind fun r4 =>
    cond (!r4.1)
    (some (2200, ([] : (List (Int × Int × (List Int))))))
    (cond (decide (((List.length r4.2.2.2.1 : Nat) : Int) > 0))
      (some (2200, ([] : (List (Int × Int × (List Int))))))
      (cond r4.2.2.2.2
        (some (2201, ([] : (List (Int × Int × (List Int))))))
        (cond (decide (((List.length r4.2.1 : Nat) : Int) > 40))
          (some (2201, ([] : (List (Int × Int × (List Int))))))
          (some (0, r4.2.1))))))
def formula_Parse (a0 : (List QSym)) (a1 : Str) : Option (Int × (List (Int × Int × (List Int)))) :=
  (lex_Lex a1).bind fun r3 =>
  cond (r3.1 != 0)
  (some (2200, ([] : (List (Int × Int × (List Int))))))
  ((formula_Read a0 r3.2).bind fun r4 =>
    some (r4.1, r4.2))
def law22_awake : Option Bool :=
  (law22_words).bind fun r17 =>
  (formula_Parse r17 ([97, 108, 108, 32, 88, 48, 32, 40, 112, 40, 88, 48, 41, 32, 45, 62, 32, 101, 120, 32, 88, 49, 32, 126, 102, 40, 88, 48, 41, 32, 61, 32, 88, 49, 41] : Str)).bind fun r18 =>
  (law22_words).bind fun r19 =>
  (formula_Show r19 r18.2).bind fun r20 =>
  (law22_words).bind fun r21 =>
  (formula_Parse r21 ([112, 40, 88, 48, 41, 32, 38, 32, 112, 40, 88, 49, 41] : Str)).bind fun r22 =>
  (law22_words).bind fun r23 =>
  (formula_Parse r23 ([112, 40, 97, 44, 32, 98, 41] : Str)).bind fun r24 =>
  (law0_Num r18.1).bind fun r25 =>
  cond (r25 == 0)
  (cond (((List.length r18.2 : Nat) : Int) == 6)
    (cond (r20.1 == ([97, 108, 108, 32, 88, 48, 32, 40, 112, 40, 88, 48, 41, 32, 45, 62, 32, 101, 120, 32, 88, 49, 32, 126, 102, 40, 88, 48, 41, 32, 61, 32, 88, 49, 41] : Str))
      ((law0_Num r20.2).bind fun r26 =>
        cond (r26 == 0)
        ((law0_Num r22.1).bind fun r27 =>
          cond (r27 == 2200)
          ((law0_Num r24.1).bind fun r28 =>
            cond (r28 == 2200)
            ((law22_words).bind fun r29 =>
              (formula_May r29 r18.2).bind fun r30 =>
              cond r30
              ((law22_words).bind fun r31 =>
                (formula_May r31 ([] : (List (Int × Int × (List Int))))).bind fun r32 =>
                some (!r32))
              (some false))
            (some false))
          (some false))
        (some false))
      (some false))
    (some false))
  (some false)
def law0_SameNodes_L0 (rec : ((List (Int × Int × (List Int))) × (List (Int × Int × (List Int))) × Int) → Option (Unit ⊕ Bool)) (x : ((List (Int × Int × (List Int))) × (List (Int × Int × (List Int))) × Int)) : Option (Unit ⊕ Bool) :=
  cond (decide (x.2.2 < ((List.length x.1 : Nat) : Int)))
  ((gx x.1 x.2.2).bind fun e8 =>
    (gx x.2.1 x.2.2).bind fun e9 =>
    cond (e8.1 != e9.1)
    (some (Sum.inr false))
    ((gx x.1 x.2.2).bind fun e10 =>
      (gx x.2.1 x.2.2).bind fun e11 =>
      cond (e10.2.1 != e11.2.1)
      (some (Sum.inr false))
      ((gx x.1 x.2.2).bind fun e12 =>
        (gx x.2.1 x.2.2).bind fun e13 =>
        (law0_SameInts e12.2.2 e13.2.2).bind fun r14 =>
        cond (!r14)
        (some (Sum.inr false))
        (rec (x.1, x.2.1, (IntKind.wrap .i64 (x.2.2 + 1)))))))
  (some (Sum.inl ()))
def law0_SameNodes (a0 : (List (Int × Int × (List Int)))) (a1 : (List (Int × Int × (List Int)))) : Option Bool :=
  cond (((List.length a0 : Nat) : Int) != ((List.length a1 : Nat) : Int))
  (some false)
  (((lp law0_SameNodes_L0 fuel) (a0, a1, 0)).bind fun r18 =>
    caseS r18
    (fun z19 => some true)
    (fun z20 => some z20))
end Go.Abs.Q
namespace Go.Abs.Q
open Go Go.Abs
def law0_SameNodes_L0_go (s1 : (List (Int × Int × (List Int)))) : List (Int × Int × (List Int)) → Nat → Option (Unit ⊕ Bool)
  | [], i => some (Sum.inl ())
  | e :: es, i =>
    (gx s1 (i : Int)).bind fun e9 =>
    cond (e.1 != e9.1)
    (some (Sum.inr false))
    ((gx s1 (i : Int)).bind fun e11 =>
      cond (e.2.1 != e11.2.1)
      (some (Sum.inr false))
      ((gx s1 (i : Int)).bind fun e13 =>
        (law0_SameInts e.2.2 e13.2.2).bind fun r14 =>
        cond (!r14)
        (some (Sum.inr false))
        (law0_SameNodes_L0_go s1 es (i + 1))))
theorem law0_SameNodes_L0_go_eq (s0 : (List (Int × Int × (List Int)))) (s1 : (List (Int × Int × (List Int)))) (hl : List.length s0 ≤ maxLen) : ∀ (es : List (Int × Int × (List Int))) (i : Nat) (k : Nat), s0.drop i = es → es.length < k → lp law0_SameNodes_L0 k (s0, s1, (i : Int)) = law0_SameNodes_L0_go s1 es i := by
  intro es
  induction es with
  | nil =>
    intro i k h hk
    obtain ⟨k, rfl⟩ : ∃ k', k = k' + 1 := ⟨k - 1, by omega⟩
    rw [lp_succ]
    generalize lp law0_SameNodes_L0 k = rec
    unfold law0_SameNodes_L0 law0_SameNodes_L0_go
    simp only [lt_false (drop_nil_le h), cond_false]
  | cons e es ih =>
    intro i k h hk
    obtain ⟨k, rfl⟩ : ∃ k', k = k' + 1 := ⟨k - 1, by omega⟩
    rw [lp_succ]
    have hi := drop_cons_lt h
    have hk2 : es.length < k := Nat.lt_of_succ_lt_succ hk
    have key := fun (_ : Unit) => ih (i + 1) k (drop_cons_next h) hk2
    generalize lp law0_SameNodes_L0 k = rec at key ⊢
    unfold law0_SameNodes_L0 law0_SameNodes_L0_go
    simp only [lt_true hi, cond_true, gx_nat, drop_cons_get h, Option.bind_some, wrap_i1 hi hl, key ()]
theorem law0_SameNodes_L0_go_at0 (s0 : (List (Int × Int × (List Int)))) (s1 : (List (Int × Int × (List Int)))) (hl : List.length s0 ≤ maxLen) : lp law0_SameNodes_L0 fuel (s0, s1, 0) = law0_SameNodes_L0_go s1 s0 0 :=
  law0_SameNodes_L0_go_eq s0 s1 hl s0 0 fuel rfl (Nat.lt_of_le_of_lt hl (by decide))
end Go.Abs.Q
namespace Go.Abs.Q
open Go Go.Abs
section
theorem law22_awake_eq : law22_awake = some true := by kernel_rfl
end
end Go.Abs.Q
namespace Go.Abs.Q
open Go Go.Abs
def ref21_SignMay (a0 : (List QSym)) : Option Bool :=
  (ref1_SignMay a0).bind fun r4 =>
  cond r4
  ((ref1_Code a0 ([97, 108, 108] : Str)).bind fun r5 =>
    cond (decide (r5 < 0))
    ((ref1_Code a0 ([101, 120] : Str)).bind fun r6 =>
      some (decide (r6 < 0)))
    (some false))
  (some false)
def law0_CopyNodes_L0 (rec : ((List (Int × Int × (List Int))) × Int × (List (Int × Int × (List Int)))) → Option (List (Int × Int × (List Int)))) (x : ((List (Int × Int × (List Int))) × Int × (List (Int × Int × (List Int))))) : Option (List (Int × Int × (List Int))) :=
  cond (decide (x.2.1 < ((List.length x.1 : Nat) : Int)))
  ((gx x.1 x.2.1).bind fun e9 =>
    (gx x.1 x.2.1).bind fun e10 =>
    (gx x.1 x.2.1).bind fun e11 =>
    (law0_CopyInts e11.2.2).bind fun r12 =>
    cond (room (List.length x.2.2 + List.length ([(e9.1, e10.2.1, r12)] : List (Int × Int × (List Int)))) 40)
    (rec (x.1, (IntKind.wrap .i64 (x.2.1 + 1)), (x.2.2 ++ ([(e9.1, e10.2.1, r12)] : List (Int × Int × (List Int))))))
    (none))
  (some x.2.2)
def law0_CopyNodes (a0 : (List (Int × Int × (List Int)))) : Option (List (Int × Int × (List Int))) :=
  ((lp law0_CopyNodes_L0 fuel) (a0, 0, ([] : (List (Int × Int × (List Int)))))).bind fun r14 =>
  some r14
def ref21_parts (a0 : Int) : Option Int :=
  cond (a0 == 0)
  (some 0)
  (cond (a0 == 1)
    (cond (a0 == 1)
      (some 1)
      (cond (a0 == 2)
        (cond (a0 == 2)
          (some 2)
          (some (-1)))
        (cond (a0 == 3)
          (cond (a0 == 3)
            (some 2)
            (some (-1)))
          (cond (a0 == 4)
            (some 2)
            (some (-1))))))
    (cond (a0 == 5)
      (cond (a0 == 5)
        (some 1)
        (cond (a0 == 2)
          (cond (a0 == 2)
            (some 2)
            (some (-1)))
          (cond (a0 == 3)
            (cond (a0 == 3)
              (some 2)
              (some (-1)))
            (cond (a0 == 4)
              (some 2)
              (some (-1))))))
      (cond (a0 == 6)
        (some 1)
        (cond (a0 == 2)
          (cond (a0 == 2)
            (some 2)
            (some (-1)))
          (cond (a0 == 3)
            (cond (a0 == 3)
              (some 2)
              (some (-1)))
            (cond (a0 == 4)
              (some 2)
              (some (-1))))))))
def ref21_Behind_L0 (rec : ((List (Int × Int × (List Int))) × Int × Int) → Option (Int ⊕ Int)) (x : ((List (Int × Int × (List Int))) × Int × Int)) : Option (Int ⊕ Int) :=
  cond (decide (x.2.1 > 0))
  (cond (decide (x.2.2 ≥ ((List.length x.1 : Nat) : Int)))
    (some (Sum.inr (-1)))
    ((gx x.1 x.2.2).bind fun e5 =>
      (ref21_parts e5.1).bind fun r6 =>
      cond (decide (r6 < 0))
      (some (Sum.inr (-1)))
      ((gx x.1 x.2.2).bind fun e7 =>
        (ref21_parts e7.1).bind fun r8 =>
        rec (x.1, (IntKind.wrap .i64 ((IntKind.wrap .i64 (x.2.1 - 1)) + r8)), (IntKind.wrap .i64 (x.2.2 + 1))))))
  (some (Sum.inl x.2.2))
def ref21_Behind (a0 : (List (Int × Int × (List Int)))) (a1 : Int) : Option Int :=
  ((lp ref21_Behind_L0 fuel) (a0, 1, a1)).bind fun r12 =>
  caseS r12
  (fun z13 => some z13)
  (fun z14 => some z14)
def ref21_single (a0 : (List QSym)) (a1 : Int) (a2 : Int) (a3 : (List Int)) : Option Bool :=
  (ref21_parts a1).bind fun r3 =>
  cond (decide (r3 < 0))
  (some false)
  (cond (a1 == 0)
    (cond (a2 == 0)
      ((ref1_IsAtom a0 a3).bind fun r4 =>
        some r4)
      (some false))
    (cond (decide (((List.length a3 : Nat) : Int) > 0))
      (some false)
      (cond (a1 == 5)
        (cond (decide (a2 ≥ 0))
          (some (decide (a2 ≤ 23)))
          (some false))
        (cond (a1 == 6)
          (cond (decide (a2 ≥ 0))
            (some (decide (a2 ≤ 23)))
            (some false))
          (some (a2 == 0))))))
def ref21_May_L0 (rec : ((List QSym) × (List (Int × Int × (List Int))) × Int) → Option (Unit ⊕ Bool)) (x : ((List QSym) × (List (Int × Int × (List Int))) × Int)) : Option (Unit ⊕ Bool) :=
  cond (decide (x.2.2 < ((List.length x.2.1 : Nat) : Int)))
  ((gx x.2.1 x.2.2).bind fun e5 =>
    (ref21_single x.1 e5.1 e5.2.1 e5.2.2).bind fun r6 =>
    cond (!r6)
    (some (Sum.inr false))
    (rec (x.1, x.2.1, (IntKind.wrap .i64 (x.2.2 + 1)))))
  (some (Sum.inl ()))
def ref21_May (a0 : (List QSym)) (a1 : (List (Int × Int × (List Int)))) : Option Bool :=
  (ref21_SignMay a0).bind fun r10 =>
  cond (!r10)
  (some false)
  (cond (decide (((List.length a1 : Nat) : Int) > 40))
    (some false)
    ((ref21_Behind a1 0).bind fun r11 =>
      cond (r11 != ((List.length a1 : Nat) : Int))
      (some false)
      (((lp ref21_May_L0 fuel) (a0, a1, 0)).bind fun r12 =>
        caseS r12
        (fun z13 => some true)
        (fun z14 => some z14))))
def ref21_show_S (rf : (((List QSym) × (List (Int × Int × (List Int))) × Int) → Option Str)) (a0 : (List QSym)) (a1 : (List (Int × Int × (List Int)))) (a2 : Int) : Option Str :=
  (gx a1 a2).bind fun e20 =>
  cond (e20.1 == 0)
  ((ref21_Atom a0 e20.2.2).bind fun r21 =>
    some r21)
  (cond (e20.1 == 1)
    ((rf (a0, a1, (IntKind.wrap .i64 (a2 + 1)))).bind fun r22 =>
      cond (decide ((List.length ([126] : Str) + List.length r22 : Nat) < 4611686018427387904))
      (some (([126] : Str) ++ r22))
      (none))
    (cond (e20.1 == 5)
      ((ref17_Decimal e20.2.1).bind fun r23 =>
        cond (decide ((List.length ([97, 108, 108, 32, 88] : Str) + List.length r23 : Nat) < 4611686018427387904))
        (cond (decide ((List.length (([97, 108, 108, 32, 88] : Str) ++ r23) + List.length ([32] : Str) : Nat) < 4611686018427387904))
          ((rf (a0, a1, (IntKind.wrap .i64 (a2 + 1)))).bind fun r24 =>
            cond (decide ((List.length ((([97, 108, 108, 32, 88] : Str) ++ r23) ++ ([32] : Str)) + List.length r24 : Nat) < 4611686018427387904))
            (some (((([97, 108, 108, 32, 88] : Str) ++ r23) ++ ([32] : Str)) ++ r24))
            (none))
          (none))
        (none))
      (cond (e20.1 == 6)
        ((ref17_Decimal e20.2.1).bind fun r25 =>
          cond (decide ((List.length ([101, 120, 32, 88] : Str) + List.length r25 : Nat) < 4611686018427387904))
          (cond (decide ((List.length (([101, 120, 32, 88] : Str) ++ r25) + List.length ([32] : Str) : Nat) < 4611686018427387904))
            ((rf (a0, a1, (IntKind.wrap .i64 (a2 + 1)))).bind fun r26 =>
              cond (decide ((List.length ((([101, 120, 32, 88] : Str) ++ r25) ++ ([32] : Str)) + List.length r26 : Nat) < 4611686018427387904))
              (some (((([101, 120, 32, 88] : Str) ++ r25) ++ ([32] : Str)) ++ r26))
              (none))
            (none))
          (none))
        (cond (e20.1 == 3)
          (cond (e20.1 == 4)
            ((rf (a0, a1, (IntKind.wrap .i64 (a2 + 1)))).bind fun r27 =>
              cond (decide ((List.length ([40] : Str) + List.length r27 : Nat) < 4611686018427387904))
              (cond (decide ((List.length (([40] : Str) ++ r27) + List.length ([32, 45, 62, 32] : Str) : Nat) < 4611686018427387904))
                ((ref21_Behind a1 (IntKind.wrap .i64 (a2 + 1))).bind fun r28 =>
                  (rf (a0, a1, r28)).bind fun r29 =>
                  cond (decide ((List.length ((([40] : Str) ++ r27) ++ ([32, 45, 62, 32] : Str)) + List.length r29 : Nat) < 4611686018427387904))
                  (cond (decide ((List.length (((([40] : Str) ++ r27) ++ ([32, 45, 62, 32] : Str)) ++ r29) + List.length ([41] : Str) : Nat) < 4611686018427387904))
                    (some ((((([40] : Str) ++ r27) ++ ([32, 45, 62, 32] : Str)) ++ r29) ++ ([41] : Str)))
                    (none))
                  (none))
                (none))
              (none))
            ((rf (a0, a1, (IntKind.wrap .i64 (a2 + 1)))).bind fun r30 =>
              cond (decide ((List.length ([40] : Str) + List.length r30 : Nat) < 4611686018427387904))
              (cond (decide ((List.length (([40] : Str) ++ r30) + List.length ([32, 124, 32] : Str) : Nat) < 4611686018427387904))
                ((ref21_Behind a1 (IntKind.wrap .i64 (a2 + 1))).bind fun r31 =>
                  (rf (a0, a1, r31)).bind fun r32 =>
                  cond (decide ((List.length ((([40] : Str) ++ r30) ++ ([32, 124, 32] : Str)) + List.length r32 : Nat) < 4611686018427387904))
                  (cond (decide ((List.length (((([40] : Str) ++ r30) ++ ([32, 124, 32] : Str)) ++ r32) + List.length ([41] : Str) : Nat) < 4611686018427387904))
                    (some ((((([40] : Str) ++ r30) ++ ([32, 124, 32] : Str)) ++ r32) ++ ([41] : Str)))
                    (none))
                  (none))
                (none))
              (none)))
          (cond (e20.1 == 4)
            ((rf (a0, a1, (IntKind.wrap .i64 (a2 + 1)))).bind fun r33 =>
              cond (decide ((List.length ([40] : Str) + List.length r33 : Nat) < 4611686018427387904))
              (cond (decide ((List.length (([40] : Str) ++ r33) + List.length ([32, 45, 62, 32] : Str) : Nat) < 4611686018427387904))
                ((ref21_Behind a1 (IntKind.wrap .i64 (a2 + 1))).bind fun r34 =>
                  (rf (a0, a1, r34)).bind fun r35 =>
                  cond (decide ((List.length ((([40] : Str) ++ r33) ++ ([32, 45, 62, 32] : Str)) + List.length r35 : Nat) < 4611686018427387904))
                  (cond (decide ((List.length (((([40] : Str) ++ r33) ++ ([32, 45, 62, 32] : Str)) ++ r35) + List.length ([41] : Str) : Nat) < 4611686018427387904))
                    (some ((((([40] : Str) ++ r33) ++ ([32, 45, 62, 32] : Str)) ++ r35) ++ ([41] : Str)))
                    (none))
                  (none))
                (none))
              (none))
            ((rf (a0, a1, (IntKind.wrap .i64 (a2 + 1)))).bind fun r36 =>
              cond (decide ((List.length ([40] : Str) + List.length r36 : Nat) < 4611686018427387904))
              (cond (decide ((List.length (([40] : Str) ++ r36) + List.length ([32, 38, 32] : Str) : Nat) < 4611686018427387904))
                ((ref21_Behind a1 (IntKind.wrap .i64 (a2 + 1))).bind fun r37 =>
                  (rf (a0, a1, r37)).bind fun r38 =>
                  cond (decide ((List.length ((([40] : Str) ++ r36) ++ ([32, 38, 32] : Str)) + List.length r38 : Nat) < 4611686018427387904))
                  (cond (decide ((List.length (((([40] : Str) ++ r36) ++ ([32, 38, 32] : Str)) ++ r38) + List.length ([41] : Str) : Nat) < 4611686018427387904))
                    (some ((((([40] : Str) ++ r36) ++ ([32, 38, 32] : Str)) ++ r38) ++ ([41] : Str)))
                    (none))
                  (none))
                (none))
              (none)))))))
def ref21_show_R_step (rf : (((List QSym) × (List (Int × Int × (List Int))) × Int) → Option Str)) : (((List QSym) × (List (Int × Int × (List Int))) × Int) → Option Str) :=
  fun (x : ((List QSym) × (List (Int × Int × (List Int))) × Int)) => ref21_show_S rf x.1 x.2.1 x.2.2
def ref21_show_R_base : (((List QSym) × (List (Int × Int × (List Int))) × Int) → Option Str) := fun _ => none
def ref21_show_R (k : Nat) : (((List QSym) × (List (Int × Int × (List Int))) × Int) → Option Str) := lpR ref21_show_R_base ref21_show_R_step k
def ref21_show (a0 : (List QSym)) (a1 : (List (Int × Int × (List Int)))) (a2 : Int) : Option Str := (ref21_show_R fuel) (a0, a1, a2)
def ref21_Show (a0 : (List QSym)) (a1 : (List (Int × Int × (List Int)))) : Option (Str × Int) :=
  (ref21_May a0 a1).bind fun r3 =>
  cond (!r3)
  (some (([] : Str), 2200))
  ((ref21_show a0 a1 0).bind fun r4 =>
    some (r4, 0))
def law22_Shows (a0 : (List QSym)) (a1 : (List (Int × Int × (List Int)))) : Option Bool :=
  (law0_CopyNodes a1).bind fun r9 =>
  (formula_Show a0 a1).bind fun r10 =>
  (ref21_Show a0 a1).bind fun r11 =>
  (formula_May a0 a1).bind fun r12 =>
  (ref21_May a0 a1).bind fun r13 =>
  cond (r12 == r13)
  (cond (r10.1 == r11.1)
    ((law0_Num r10.2).bind fun r14 =>
      cond (r14 == r11.2)
      ((law0_SameNodes a1 r9).bind fun r15 =>
        cond r15
        ((law22_awake).bind fun r16 =>
          some r16)
        (some false))
      (some false))
    (some false))
  (some false)
end Go.Abs.Q
namespace Go.Abs.Q
open Go Go.Abs
def law0_CopyNodes_L0_go : List (Int × Int × (List Int)) → (List (Int × Int × (List Int))) → Option (List (Int × Int × (List Int)))
  | [], s2 => some s2
  | e :: es, s2 =>
    (law0_CopyInts e.2.2).bind fun r12 =>
    cond (room (List.length s2 + List.length ([(e.1, e.2.1, r12)] : List (Int × Int × (List Int)))) 40)
    (law0_CopyNodes_L0_go es (s2 ++ ([(e.1, e.2.1, r12)] : List (Int × Int × (List Int)))))
    (none)
theorem law0_CopyNodes_L0_go_eq (s0 : (List (Int × Int × (List Int)))) (hl : List.length s0 ≤ maxLen) : ∀ (es : List (Int × Int × (List Int))) (i : Nat) (k : Nat) (s2 : (List (Int × Int × (List Int)))), s0.drop i = es → es.length < k → lp law0_CopyNodes_L0 k (s0, (i : Int), s2) = law0_CopyNodes_L0_go es s2 := by
  intro es
  induction es with
  | nil =>
    intro i k s2 h hk
    obtain ⟨k, rfl⟩ : ∃ k', k = k' + 1 := ⟨k - 1, by omega⟩
    rw [lp_succ]
    generalize lp law0_CopyNodes_L0 k = rec
    unfold law0_CopyNodes_L0 law0_CopyNodes_L0_go
    simp only [lt_false (drop_nil_le h), cond_false]
  | cons e es ih =>
    intro i k s2 h hk
    obtain ⟨k, rfl⟩ : ∃ k', k = k' + 1 := ⟨k - 1, by omega⟩
    rw [lp_succ]
    have hi := drop_cons_lt h
    have hk2 : es.length < k := Nat.lt_of_succ_lt_succ hk
    have key := fun s2 => ih (i + 1) k s2 (drop_cons_next h) hk2
    generalize lp law0_CopyNodes_L0 k = rec at key ⊢
    unfold law0_CopyNodes_L0 law0_CopyNodes_L0_go
    simp only [lt_true hi, cond_true, gx_nat, drop_cons_get h, Option.bind_some, wrap_i1 hi hl, key]
theorem law0_CopyNodes_L0_go_at0 (s0 : (List (Int × Int × (List Int)))) (s2 : (List (Int × Int × (List Int)))) (hl : List.length s0 ≤ maxLen) : lp law0_CopyNodes_L0 fuel (s0, 0, s2) = law0_CopyNodes_L0_go s0 s2 :=
  law0_CopyNodes_L0_go_eq s0 hl s0 0 fuel s2 rfl (Nat.lt_of_le_of_lt hl (by decide))
def ref21_May_L0_go (s0 : (List QSym)) : List (Int × Int × (List Int)) → Option (Unit ⊕ Bool)
  | [] => some (Sum.inl ())
  | e :: es =>
    (ref21_single s0 e.1 e.2.1 e.2.2).bind fun r6 =>
    cond (!r6)
    (some (Sum.inr false))
    (ref21_May_L0_go s0 es)
theorem ref21_May_L0_go_eq (s0 : (List QSym)) (s1 : (List (Int × Int × (List Int)))) (hl : List.length s1 ≤ maxLen) : ∀ (es : List (Int × Int × (List Int))) (i : Nat) (k : Nat), s1.drop i = es → es.length < k → lp ref21_May_L0 k (s0, s1, (i : Int)) = ref21_May_L0_go s0 es := by
  intro es
  induction es with
  | nil =>
    intro i k h hk
    obtain ⟨k, rfl⟩ : ∃ k', k = k' + 1 := ⟨k - 1, by omega⟩
    rw [lp_succ]
    generalize lp ref21_May_L0 k = rec
    unfold ref21_May_L0 ref21_May_L0_go
    simp only [lt_false (drop_nil_le h), cond_false]
  | cons e es ih =>
    intro i k h hk
    obtain ⟨k, rfl⟩ : ∃ k', k = k' + 1 := ⟨k - 1, by omega⟩
    rw [lp_succ]
    have hi := drop_cons_lt h
    have hk2 : es.length < k := Nat.lt_of_succ_lt_succ hk
    have key := fun (_ : Unit) => ih (i + 1) k (drop_cons_next h) hk2
    generalize lp ref21_May_L0 k = rec at key ⊢
    unfold ref21_May_L0 ref21_May_L0_go
    simp only [lt_true hi, cond_true, gx_nat, drop_cons_get h, Option.bind_some, wrap_i1 hi hl, key ()]
theorem ref21_May_L0_go_at0 (s0 : (List QSym)) (s1 : (List (Int × Int × (List Int)))) (hl : List.length s1 ≤ maxLen) : lp ref21_May_L0 fuel (s0, s1, 0) = ref21_May_L0_go s0 s1 :=
  ref21_May_L0_go_eq s0 s1 hl s1 0 fuel rfl (Nat.lt_of_le_of_lt hl (by decide))
end Go.Abs.Q
namespace Go.Abs.Q
open Go Go.Abs
section
abbrev QNode := Int × Int × List Int
inductive Fm where
  | atom (a : List Int)
  | not (f : Fm)
  | qu (k v : Int) (f : Fm)
  | bin (k : Int) (f g : Fm)
def Fm.flat : Fm → List QNode
  | .atom a => [(0, 0, a)]
  | .not f => (1, 0, []) :: f.flat
  | .qu k v f => (k, v, []) :: f.flat
  | .bin k f g => (k, 0, []) :: (f.flat ++ g.flat)
def Fm.ok (a0 : List QSym) : Fm → Bool
  | .atom a => atomB a0 a
  | .not f => f.ok a0
  | .qu k v f => (k == 5 || k == 6) && decide (0 ≤ v) && decide (v ≤ 23) && f.ok a0
  | .bin k f g => (k == 2 || k == 3 || k == 4) && f.ok a0 && g.ok a0
def joinT (k : Int) : Str := cond (k == 2) [32, 38, 32] (cond (k == 3) [32, 124, 32] [32, 45, 62, 32])
def bindT (k : Int) : Str := cond (k == 5) [97, 108, 108] [101, 120]
def Fm.text (a0 : List QSym) : Fm → Str
  | .atom a => showA a0 a
  | .not f => [126] ++ f.text a0
  | .qu k v f => (((bindT k ++ [32, 88]) ++ dig2 v.toNat) ++ [32]) ++ f.text a0
  | .bin k f g => ((([40] ++ f.text a0) ++ joinT k) ++ g.text a0) ++ [41]
def partN (k : Int) : Int := cond (k == 0) 0 (cond (k == 1 || k == 5 || k == 6) 1 (cond (k == 2 || k == 3 || k == 4) 2 (-1)))
theorem formula_parts_eq (k : Int) : formula_parts k = some (partN k) := by
  by_cases h0 : k = 0
  · subst h0; rfl
  by_cases h1 : k = 1
  · subst h1; rfl
  by_cases h2 : k = 2
  · subst h2; rfl
  by_cases h3 : k = 3
  · subst h3; rfl
  by_cases h4 : k = 4
  · subst h4; rfl
  by_cases h5 : k = 5
  · subst h5; rfl
  by_cases h6 : k = 6
  · subst h6; rfl
  have e0 : (k == 0) = false := by rw [beq_eq_false_iff_ne]; exact h0
  have e1 : (k == 1) = false := by rw [beq_eq_false_iff_ne]; exact h1
  have e2 : (k == 2) = false := by rw [beq_eq_false_iff_ne]; exact h2
  have e3 : (k == 3) = false := by rw [beq_eq_false_iff_ne]; exact h3
  have e4 : (k == 4) = false := by rw [beq_eq_false_iff_ne]; exact h4
  have e5 : (k == 5) = false := by rw [beq_eq_false_iff_ne]; exact h5
  have e6 : (k == 6) = false := by rw [beq_eq_false_iff_ne]; exact h6
  unfold formula_parts partN
  rw [e0, e1, e2, e3, e4, e5, e6]
  rfl
theorem ref21_parts_eq (k : Int) : ref21_parts k = some (partN k) := by
  rw [← formula_parts_eq]
  rfl
def nodeB (a0 : List QSym) (x : QNode) : Bool :=
  cond (x.1 == 0) (x.2.1 == 0 && atomB a0 x.2.2) (cond (x.1 == 5 || x.1 == 6) (decide (x.2.1 ≥ 0) && (decide (x.2.1 ≤ 23) && x.2.2.isEmpty)) (x.2.1 == 0 && x.2.2.isEmpty))
theorem empty_eq (a : List Int) : (((List.length a : Nat) : Int) == 0) = a.isEmpty := by
  cases a with
  | nil => rfl
  | cons x a => rw [List.length_cons, List.isEmpty_cons, beq_eq_false_iff_ne]; omega
theorem empty_pos (a : List Int) : decide (((List.length a : Nat) : Int) > 0) = !a.isEmpty := by
  cases a with
  | nil => rfl
  | cons x a => rw [List.length_cons, List.isEmpty_cons, Bool.not_false, decide_eq_true_eq]; omega
theorem formula_nodeMay_eq (a0 : List QSym) (x : QNode) : formula_nodeMay a0 x.1 x.2.1 x.2.2 = some (nodeB a0 x) := by
  unfold formula_nodeMay nodeB
  simp only [term_IsAtom_eq, empty_eq, Option.bind_some]
  cases h0 : (x.1 == 0) with
  | true => cases (x.2.1 == 0) <;> rfl
  | false =>
    cases h5 : (x.1 == 5) with
    | true => cases decide (x.2.1 ≥ 0) <;> cases decide (x.2.1 ≤ 23) <;> rfl
    | false =>
      cases h6 : (x.1 == 6) with
      | true => cases decide (x.2.1 ≥ 0) <;> cases decide (x.2.1 ≤ 23) <;> rfl
      | false => cases (x.2.1 == 0) <;> rfl
theorem ref21_single_eq {a0 : List QSym} (hs : signB a0 = true) (x : QNode) : ref21_single a0 x.1 x.2.1 x.2.2 = some (decide (0 ≤ partN x.1) && nodeB a0 x) := by
  unfold ref21_single nodeB
  rw [ref21_parts_eq, Option.bind_some]
  by_cases hp : partN x.1 < 0
  · rw [decide_eq_true hp, decide_eq_false (show ¬ (0 ≤ partN x.1) by omega)]; rfl
  · rw [decide_eq_false hp, decide_eq_true (show 0 ≤ partN x.1 by omega), cond_false, Bool.true_and]
    simp only [ref1_IsAtom_eq hs, empty_pos, Option.bind_some]
    cases h0 : (x.1 == 0) with
    | true => cases (x.2.1 == 0) <;> rfl
    | false =>
      cases h5 : (x.1 == 5) with
      | true => cases decide (x.2.1 ≥ 0) <;> cases decide (x.2.1 ≤ 23) <;> cases x.2.2.isEmpty <;> rfl
      | false =>
        cases h6 : (x.1 == 6) with
        | true => cases decide (x.2.1 ≥ 0) <;> cases decide (x.2.1 ≤ 23) <;> cases x.2.2.isEmpty <;> rfl
        | false => cases (x.2.1 == 0) <;> cases x.2.2.isEmpty <;> rfl
def walkB (a0 : List QSym) : Nat → List QNode → Bool
  | n, [] => n == 0
  | 0, _ :: _ => false
  | n + 1, x :: f => decide (0 ≤ partN x.1) && (nodeB a0 x && walkB a0 (n + (partN x.1).toNat) f)
theorem partN_le (k : Int) : -1 ≤ partN k ∧ partN k ≤ 2 := by
  unfold partN
  cases (k == 0) <;> cases (k == 1 || k == 5 || k == 6) <;> cases (k == 2 || k == 3 || k == 4) <;> decide
theorem fmay_go (a0 : List QSym) : (es : List QNode) → (n : Nat) → n + 2 * es.length ≤ 1000000 → ∃ r, formula_May_L0_go a0 es (n : Int) = some r ∧ (match r with
    | .inl z => (z == 0)
    | .inr b => b) = walkB a0 n es
  | [], n, _ => ⟨.inl (n : Int), rfl, by
    cases n with
    | zero => rfl
    | succ n =>
      unfold walkB
      show (((n + 1 : Nat) : Int) == 0) = ((n + 1) == 0)
      rw [show (((n + 1 : Nat) : Int) == 0) = false from by rw [beq_eq_false_iff_ne]; omega]
      rfl⟩
  | x :: es, n, h => by
    have hp := partN_le x.1
    rw [List.length_cons] at h
    unfold formula_May_L0_go
    rw [formula_parts_eq, Option.bind_some]
    cases n with
    | zero => exact ⟨.inr false, rfl, rfl⟩
    | succ n =>
      rw [show (((n + 1 : Nat) : Int) == 0) = false from by rw [beq_eq_false_iff_ne]; omega, cond_false]
      unfold walkB
      by_cases h0 : partN x.1 < 0
      · rw [decide_eq_true h0, decide_eq_false (show ¬ (0 ≤ partN x.1) by omega)]
        exact ⟨.inr false, rfl, rfl⟩
      · rw [decide_eq_false h0, decide_eq_true (show 0 ≤ partN x.1 by omega), cond_false, formula_nodeMay_eq, Option.bind_some, Bool.true_and]
        cases nodeB a0 x with
        | false => exact ⟨.inr false, rfl, rfl⟩
        | true =>
          have w1 : IntKind.wrap .i64 (partN x.1 - 1) = partN x.1 - 1 := by rw [wrap64] <;> omega
          have w2 : IntKind.wrap .i64 (((n + 1 : Nat) : Int) + (partN x.1 - 1)) = ((n + (partN x.1).toNat : Nat) : Int) := by rw [wrap64] <;> omega
          rw [w1, w2, Bool.not_true, cond_false, Bool.true_and]
          exact fmay_go a0 es (n + (partN x.1).toNat) (by omega)
def fmayB (a0 : List QSym) (f : List QNode) : Bool := sigB a0 && (decide (f.length ≤ 40) && walkB a0 1 f)
theorem formula_May_eq (a0 : List QSym) (f : List QNode) : formula_May a0 f = some (fmayB a0 f) := by
  unfold formula_May fmayB
  rw [formula_SigMay_eq, Option.bind_some]
  cases sigB a0 with
  | false => rfl
  | true =>
    rw [Bool.not_true, cond_false, Bool.true_and]
    cases f with
    | nil => rfl
    | cons x f =>
      rw [show (((List.length (x :: f) : Nat) : Int) == 0) = false from by rw [beq_eq_false_iff_ne, List.length_cons]; omega, cond_false]
      by_cases hl : (x :: f).length ≤ 40
      · rw [decide_eq_false (show ¬ (((List.length (x :: f) : Nat) : Int) > 40) by omega), decide_eq_true hl, cond_false, Bool.true_and, formula_May_L0_go_at0 _ _ _ (by unfold maxLen; omega)]
        obtain ⟨r, h1, h2⟩ := fmay_go a0 (x :: f) 1 (by omega)
        rw [show ((1 : Nat) : Int) = 1 from rfl] at h1
        rw [h1, ← h2]
        cases r <;> rfl
      · rw [decide_eq_true (show (((List.length (x :: f) : Nat) : Int) > 40) by omega), decide_eq_false hl]
        rfl
theorem fm_ind {a0 : List QSym} : (f : List QNode) → (n : Nat) → walkB a0 n f = true → ∃ ts : List Fm, ts.length = n ∧ f = ts.flatMap Fm.flat ∧ ∀ t ∈ ts, t.ok a0 = true
  | [], n, h => by
    unfold walkB at h
    have : n = 0 := by simpa using h
    subst this
    exact ⟨[], rfl, rfl, fun t ht => by cases ht⟩
  | x :: f, 0, h => by cases h
  | x :: f, n + 1, h => by
    obtain ⟨k, v, a⟩ := x
    unfold walkB at h
    simp only [Bool.and_eq_true, decide_eq_true_eq] at h
    obtain ⟨hp, hn, hw⟩ := h
    obtain ⟨ts, h1, h2, h3⟩ := fm_ind f _ hw
    unfold nodeB at hn
    simp only at hn hp h1
    by_cases h0 : k = 0
    · subst h0
      simp only [show ((0 : Int) == 0) = true from rfl, cond_true, Bool.and_eq_true, beq_iff_eq] at hn
      obtain ⟨rfl, ha⟩ := hn
      refine ⟨.atom a :: ts, by simpa [partN] using h1, by rw [List.flatMap_cons, ← h2]; rfl, fun t ht => ?_⟩
      rcases List.mem_cons.1 ht with rfl | ht
      · exact ha
      · exact h3 t ht
    · rw [show (k == 0) = false from by simpa using h0, cond_false] at hn
      by_cases hq : (k == 5 || k == 6) = true
      · rw [hq, cond_true] at hn
        simp only [Bool.and_eq_true, decide_eq_true_eq, List.isEmpty_iff] at hn
        obtain ⟨hv1, hv2, rfl⟩ := hn
        have hk : partN k = 1 := by
          simp only [Bool.or_eq_true, beq_iff_eq] at hq
          rcases hq with rfl | rfl <;> rfl
        rw [hk] at h1
        cases ts with
        | nil => simp at h1
        | cons t ts =>
          refine ⟨.qu k v t :: ts, by simpa using h1, by rw [h2]; simp [Fm.flat], fun u hu => ?_⟩
          rcases List.mem_cons.1 hu with rfl | hu
          · unfold Fm.ok
            rw [hq, decide_eq_true hv1, decide_eq_true hv2, h3 t (List.mem_cons_self ..)]; rfl
          · exact h3 u (List.mem_cons_of_mem _ hu)
      · rw [show (k == 5 || k == 6) = false from by simpa using hq, cond_false] at hn
        simp only [Bool.and_eq_true, beq_iff_eq, List.isEmpty_iff] at hn
        obtain ⟨rfl, rfl⟩ := hn
        by_cases hk1 : k = 1
        · subst hk1
          have hk : partN 1 = 1 := rfl
          rw [hk] at h1
          cases ts with
          | nil => simp at h1
          | cons t ts =>
            refine ⟨.not t :: ts, by simpa using h1, by rw [h2]; simp [Fm.flat], fun u hu => ?_⟩
            rcases List.mem_cons.1 hu with rfl | hu
            · exact h3 t (List.mem_cons_self ..)
            · exact h3 u (List.mem_cons_of_mem _ hu)
        · have hb : (k == 2 || k == 3 || k == 4) = true := by
            cases hb : (k == 2 || k == 3 || k == 4) with
            | true => rfl
            | false =>
              unfold partN at hp
              rw [show (k == 0) = false from by simpa using h0, show (k == 1 || k == 5 || k == 6) = false from by
                simp only [Bool.or_eq_true, not_or, Bool.not_eq_true] at hq
                simp [hk1, hq.1, hq.2], hb] at hp
              simp at hp
          have hk : partN k = 2 := by
            simp only [Bool.or_eq_true, beq_iff_eq] at hb
            rcases hb with (rfl | rfl) | rfl <;> rfl
          rw [hk] at h1
          cases ts with
          | nil => simp at h1
          | cons t ts =>
            cases ts with
            | nil => simp at h1
            | cons u ts =>
              refine ⟨.bin k t u :: ts, by simpa using h1, by rw [h2]; simp [Fm.flat], fun w hw => ?_⟩
              rcases List.mem_cons.1 hw with rfl | hw
              · unfold Fm.ok
                rw [hb, h3 t (by simp), h3 u (by simp)]; rfl
              · exact h3 w (by simp [hw])
theorem fm_of {a0 : List QSym} {f : List QNode} (h : walkB a0 1 f = true) : ∃ t : Fm, f = t.flat ∧ t.ok a0 = true := by
  obtain ⟨ts, h1, h2, h3⟩ := fm_ind f 1 h
  match ts, h1 with
  | [t], _ => exact ⟨t, by simpa using h2, h3 t (by simp)⟩
end
end Go.Abs.Q
namespace Go.Abs.Q
open Go Go.Abs
section
theorem joinT_len (k : Int) : (joinT k).length ≤ 4 := by
  unfold joinT
  cases (k == 2) <;> cases (k == 3) <;> decide
theorem bindT_len (k : Int) : (bindT k).length ≤ 3 := by
  unfold bindT
  cases (k == 5) <;> decide
theorem Fm.text_len {a0 : List QSym} : (t : Fm) → t.ok a0 = true → (t.text a0).length ≤ 700 * t.flat.length
  | .atom a, h => by
    have h1 := (formula_ShowAtom_eq (show atomB a0 a = true from h)).2
    have h2 := atomB_len (show atomB a0 a = true from h)
    simp only [Fm.text, Fm.flat, List.length_singleton]
    omega
  | .not f, h => by
    have := Fm.text_len f h
    simp only [Fm.text, Fm.flat, List.length_append, List.length_cons, List.length_nil]
    omega
  | .qu k v f, h => by
    unfold Fm.ok at h
    simp only [Bool.and_eq_true] at h
    have := Fm.text_len f h.2
    have h1 := bindT_len k
    have h2 := (dig2_len v.toNat).2
    simp only [Fm.text, Fm.flat, List.length_append, List.length_cons, List.length_nil]
    omega
  | .bin k f g, h => by
    unfold Fm.ok at h
    simp only [Bool.and_eq_true] at h
    have h1 := Fm.text_len f h.1.2
    have h2 := Fm.text_len g h.2
    have h3 := joinT_len k
    simp only [Fm.text, Fm.flat, List.length_append, List.length_cons, List.length_nil]
    omega
theorem show_R {a0 : List QSym} (hs : SignOk a0) : (t : Fm) → t.ok a0 = true → (rest : List QNode) → (k : Nat) → t.flat.length ≤ 1000000 → t.flat.length < k → formula_show_R k (a0, t.flat ++ rest) = some (t.text a0, rest)
  | .atom a, h, rest, k, hl, hk => by
    obtain ⟨k, rfl⟩ : ∃ k', k = k' + 1 := ⟨k - 1, by omega⟩
    show formula_show_S (formula_show_R k) a0 ((0, 0, a) :: rest) = _
    unfold formula_show_S
    rw [gx_zero, List.getElem?_cons_zero, Option.bind_some, slc_tail, Option.bind_some, show (((0 : Int), (0 : Int), a).1 == 0) = true from rfl, cond_true, (formula_ShowAtom_eq (show atomB a0 a = true from h)).1]
    rfl
  | .not f, h, rest, k, hl, hk => by
    obtain ⟨k, rfl⟩ : ∃ k', k = k' + 1 := ⟨k - 1, by omega⟩
    have hfl : f.flat.length ≤ 1000000 ∧ f.flat.length < k := by simp only [Fm.flat, List.length_cons] at hl hk; omega
    have ih := show_R hs f h rest k hfl.1 hfl.2
    have ht := Fm.text_len f h
    show formula_show_S (formula_show_R k) a0 ((1, 0, []) :: (f.flat ++ rest)) = _
    unfold formula_show_S
    rw [gx_zero, List.getElem?_cons_zero, Option.bind_some, slc_tail, Option.bind_some, show (((1 : Int), (0 : Int), ([] : List Int)).1 == 0) = false from rfl, cond_false, show (((1 : Int), (0 : Int), ([] : List Int)).1 == 1) = true from rfl, cond_true, ih, Option.bind_some]
    rw [decide_eq_true (by simp; omega), cond_true]
    rfl
  | .qu q v f, h, rest, k, hl, hk => by
    obtain ⟨k, rfl⟩ : ∃ k', k = k' + 1 := ⟨k - 1, by omega⟩
    unfold Fm.ok at h
    simp only [Bool.and_eq_true, Bool.or_eq_true, beq_iff_eq, decide_eq_true_eq] at h
    obtain ⟨⟨⟨hq, hv0⟩, hv1⟩, h⟩ := h
    have hfl : f.flat.length ≤ 1000000 ∧ f.flat.length < k := by simp only [Fm.flat, List.length_cons] at hl hk; omega
    have ih := show_R hs f h rest k hfl.1 hfl.2
    have ht := Fm.text_len f h
    have hd := (dig2_len v.toNat).2
    have hi : strconv_Itoa v = some (dig2 v.toNat) := itoaF_eq hv0 (by omega)
    rcases hq with rfl | rfl
    · show formula_show_S (formula_show_R k) a0 ((5, v, []) :: (f.flat ++ rest)) = _
      unfold formula_show_S
      rw [gx_zero, List.getElem?_cons_zero, Option.bind_some, slc_tail, Option.bind_some]
      simp only [Int.reduceBEq, cond_false, cond_true, ih, Option.bind_some]
      rw [show inR (IntKind.wrap .i64 ((5 : Int) - 5)) (List.length ([([97, 108, 108] : Str), ([101, 120] : Str)] : List Str)) = some 0 from rfl, Option.bind_some]
      simp only [List.getElem?_cons_zero, Option.bind_some, hi]
      rw [decide_eq_true (by simp), cond_true, decide_eq_true (by simp; omega), cond_true, decide_eq_true (by simp; omega), cond_true, decide_eq_true (by simp; omega), cond_true]
      rfl
    · show formula_show_S (formula_show_R k) a0 ((6, v, []) :: (f.flat ++ rest)) = _
      unfold formula_show_S
      rw [gx_zero, List.getElem?_cons_zero, Option.bind_some, slc_tail, Option.bind_some]
      simp only [Int.reduceBEq, cond_false, cond_true, ih, Option.bind_some]
      rw [show inR (IntKind.wrap .i64 ((6 : Int) - 5)) (List.length ([([97, 108, 108] : Str), ([101, 120] : Str)] : List Str)) = some 1 from rfl, Option.bind_some]
      simp only [List.getElem?_cons_succ, List.getElem?_cons_zero, Option.bind_some, hi]
      rw [decide_eq_true (by simp), cond_true, decide_eq_true (by simp; omega), cond_true, decide_eq_true (by simp; omega), cond_true, decide_eq_true (by simp; omega), cond_true]
      rfl
  | .bin q f g, h, rest, k, hl, hk => by
    obtain ⟨k, rfl⟩ : ∃ k', k = k' + 1 := ⟨k - 1, by omega⟩
    unfold Fm.ok at h
    simp only [Bool.and_eq_true, Bool.or_eq_true, beq_iff_eq] at h
    obtain ⟨⟨hq, hf⟩, hg⟩ := h
    have hfl : (f.flat.length ≤ 1000000 ∧ f.flat.length < k) ∧ (g.flat.length ≤ 1000000 ∧ g.flat.length < k) := by simp only [Fm.flat, List.length_cons, List.length_append] at hl hk; omega
    have ih1 := show_R hs f hf (g.flat ++ rest) k hfl.1.1 hfl.1.2
    have ih2 := show_R hs g hg rest k hfl.2.1 hfl.2.2
    have ht1 := Fm.text_len f hf
    have ht2 := Fm.text_len g hg
    have e : (Fm.bin q f g).flat ++ rest = (q, 0, []) :: (f.flat ++ (g.flat ++ rest)) := by simp [Fm.flat]
    rw [e]
    rcases hq with (rfl | rfl) | rfl
    · show formula_show_S (formula_show_R k) a0 ((2, 0, []) :: (f.flat ++ (g.flat ++ rest))) = _
      unfold formula_show_S
      rw [gx_zero, List.getElem?_cons_zero, Option.bind_some, slc_tail, Option.bind_some]
      simp only [Int.reduceBEq, cond_false, ih1, ih2, Option.bind_some]
      rw [decide_eq_true (by simp; omega), cond_true, show inR (IntKind.wrap .i64 ((2 : Int) - 2)) (List.length ([([32, 38, 32] : Str), ([32, 124, 32] : Str), ([32, 45, 62, 32] : Str)] : List Str)) = some 0 from rfl, Option.bind_some]
      simp only [List.getElem?_cons_succ, List.getElem?_cons_zero, Option.bind_some]
      rw [decide_eq_true (by simp; omega), cond_true, decide_eq_true (by simp; omega), cond_true, decide_eq_true (by simp; omega), cond_true]
      rfl
    · show formula_show_S (formula_show_R k) a0 ((3, 0, []) :: (f.flat ++ (g.flat ++ rest))) = _
      unfold formula_show_S
      rw [gx_zero, List.getElem?_cons_zero, Option.bind_some, slc_tail, Option.bind_some]
      simp only [Int.reduceBEq, cond_false, ih1, ih2, Option.bind_some]
      rw [decide_eq_true (by simp; omega), cond_true, show inR (IntKind.wrap .i64 ((3 : Int) - 2)) (List.length ([([32, 38, 32] : Str), ([32, 124, 32] : Str), ([32, 45, 62, 32] : Str)] : List Str)) = some 1 from rfl, Option.bind_some]
      simp only [List.getElem?_cons_succ, List.getElem?_cons_zero, Option.bind_some]
      rw [decide_eq_true (by simp; omega), cond_true, decide_eq_true (by simp; omega), cond_true, decide_eq_true (by simp; omega), cond_true]
      rfl
    · show formula_show_S (formula_show_R k) a0 ((4, 0, []) :: (f.flat ++ (g.flat ++ rest))) = _
      unfold formula_show_S
      rw [gx_zero, List.getElem?_cons_zero, Option.bind_some, slc_tail, Option.bind_some]
      simp only [Int.reduceBEq, cond_false, ih1, ih2, Option.bind_some]
      rw [decide_eq_true (by simp; omega), cond_true, show inR (IntKind.wrap .i64 ((4 : Int) - 2)) (List.length ([([32, 38, 32] : Str), ([32, 124, 32] : Str), ([32, 45, 62, 32] : Str)] : List Str)) = some 2 from rfl, Option.bind_some]
      simp only [List.getElem?_cons_succ, List.getElem?_cons_zero, Option.bind_some]
      rw [decide_eq_true (by simp; omega), cond_true, decide_eq_true (by simp; omega), cond_true, decide_eq_true (by simp; omega), cond_true]
      rfl
theorem sigB_ok {a0 : List QSym} (h : sigB a0 = true) : SignOk a0 := by
  unfold sigB at h
  rw [Bool.and_eq_true] at h
  exact signB_ok h.1
theorem fmayB_tree {a0 : List QSym} {f : List QNode} (h : fmayB a0 f = true) : sigB a0 = true ∧ f.length ≤ 40 ∧ ∃ t : Fm, f = t.flat ∧ t.ok a0 = true := by
  unfold fmayB at h
  simp only [Bool.and_eq_true, decide_eq_true_eq] at h
  exact ⟨h.1, h.2.1, fm_of h.2.2⟩
theorem formula_Show_tree {a0 : List QSym} {t : Fm} (h : fmayB a0 t.flat = true) (ht : t.ok a0 = true) : formula_Show a0 t.flat = some (t.text a0, 0) := by
  obtain ⟨h1, h2, -⟩ := fmayB_tree h
  unfold formula_Show
  rw [formula_May_eq, h, Option.bind_some, Bool.not_true, cond_false]
  have := show_R (sigB_ok h1) t ht [] fuel (by omega) (by unfold fuel; omega)
  rw [List.append_nil] at this
  show (formula_show_R fuel (a0, t.flat)).bind _ = _
  rw [this]
  rfl
theorem formula_Show_not {a0 : List QSym} {f : List QNode} (h : fmayB a0 f = false) : formula_Show a0 f = some ([], 2200) := by
  unfold formula_Show
  rw [formula_May_eq, h]
  rfl
end
end Go.Abs.Q
namespace Go.Abs.Q
open Go Go.Abs
section
def skipN : Nat → List QNode → Option Nat
  | 0, _ => some 0
  | _ + 1, [] => none
  | n + 1, x :: f => cond (decide (partN x.1 < 0)) none ((skipN (n + (partN x.1).toNat) f).map (· + 1))
theorem skipN_walk (a0 : List QSym) : (f : List QNode) → (n : Nat) → walkB a0 n f = (decide (skipN n f = some f.length) && f.all fun x => decide (0 ≤ partN x.1) && nodeB a0 x)
  | [], 0 => rfl
  | [], n + 1 => rfl
  | x :: f, 0 => by
    have : skipN 0 (x :: f) = some 0 := rfl
    rw [this, decide_eq_false (by simp)]
    rfl
  | x :: f, n + 1 => by
    unfold walkB skipN
    rw [List.all_cons]
    by_cases hp : partN x.1 < 0
    · rw [decide_eq_false (show ¬ (0 ≤ partN x.1) by omega), Bool.false_and, Bool.false_and, Bool.false_and, Bool.and_false]
    · rw [decide_eq_true (show 0 ≤ partN x.1 by omega), decide_eq_false hp, cond_false, Bool.true_and, Bool.true_and, skipN_walk a0 f]
      have e : decide (Option.map (· + 1) (skipN (n + (partN x.1).toNat) f) = some (x :: f).length) = decide (skipN (n + (partN x.1).toNat) f = some f.length) := by
        cases skipN (n + (partN x.1).toNat) f with
        | none => simp
        | some j => simp
      rw [e]
      cases nodeB a0 x <;> cases decide (skipN (n + (partN x.1).toNat) f = some f.length) <;> rfl
theorem skipN_flat {a0 : List QSym} : (t : Fm) → t.ok a0 = true → (n : Nat) → (rest : List QNode) → skipN (n + 1) (t.flat ++ rest) = (skipN n rest).map (· + t.flat.length)
  | .atom a, h, n, rest => by
    show cond (decide (partN 0 < 0)) none ((skipN (n + (partN 0).toNat) rest).map (· + 1)) = _
    rfl
  | .not f, h, n, rest => by
    show cond (decide (partN 1 < 0)) none ((skipN (n + (partN 1).toNat) (f.flat ++ rest)).map (· + 1)) = _
    rw [show decide (partN 1 < 0) = false from rfl, cond_false, show (partN 1).toNat = 1 from rfl, skipN_flat f h n rest, Option.map_map]
    congr 1
  | .qu k v f, h, n, rest => by
    unfold Fm.ok at h
    simp only [Bool.and_eq_true, Bool.or_eq_true, beq_iff_eq] at h
    obtain ⟨⟨⟨hq, -⟩, -⟩, h⟩ := h
    have hk : partN k = 1 := by rcases hq with rfl | rfl <;> rfl
    show cond (decide (partN k < 0)) none ((skipN (n + (partN k).toNat) (f.flat ++ rest)).map (· + 1)) = _
    rw [hk, show decide ((1 : Int) < 0) = false from rfl, cond_false, show (1 : Int).toNat = 1 from rfl, skipN_flat f h n rest, Option.map_map]
    congr 1
  | .bin k f g, h, n, rest => by
    unfold Fm.ok at h
    simp only [Bool.and_eq_true, Bool.or_eq_true, beq_iff_eq] at h
    obtain ⟨⟨hq, hf⟩, hg⟩ := h
    have hk : partN k = 2 := by rcases hq with (rfl | rfl) | rfl <;> rfl
    have e : (Fm.bin k f g).flat ++ rest = (k, 0, []) :: (f.flat ++ (g.flat ++ rest)) := by simp [Fm.flat]
    rw [e]
    show cond (decide (partN k < 0)) none ((skipN (n + (partN k).toNat) (f.flat ++ (g.flat ++ rest))).map (· + 1)) = _
    rw [hk, show decide ((2 : Int) < 0) = false from rfl, cond_false, show n + (2 : Int).toNat = (n + 1) + 1 from rfl, skipN_flat f hf (n + 1), skipN_flat g hg n, Option.map_map, Option.map_map]
    congr 1
    funext j
    simp [Fm.flat]
    omega
theorem behindN_round (F : List QNode) (hF : F.length ≤ 1000000) : ∀ (m i n k : Nat), F.length - i = m → i ≤ F.length → n + 2 * (F.length - i) ≤ 3000000 → m < k →
    lp ref21_Behind_L0 k (F, (n : Int), (i : Int)) = some (match skipN n (F.drop i) with
      | some j => .inl ((i + j : Nat) : Int)
      | none => .inr (-1)) := by
  intro m
  induction m with
  | zero =>
    intro i n k hm hi hn hk
    obtain ⟨k, rfl⟩ : ∃ k', k = k' + 1 := ⟨k - 1, by omega⟩
    rw [lp_succ]
    generalize lp ref21_Behind_L0 k = rec
    unfold ref21_Behind_L0
    rw [List.drop_eq_nil_iff.2 (by omega)]
    cases n with
    | zero => rfl
    | succ n =>
      rw [decide_eq_true (show ((n + 1 : Nat) : Int) > 0 by omega), cond_true, decide_eq_true (show (i : Int) ≥ ((List.length F : Nat) : Int) by omega)]
      rfl
  | succ m ih =>
    intro i n k hm hi hn hk
    obtain ⟨k, rfl⟩ : ∃ k', k = k' + 1 := ⟨k - 1, by omega⟩
    rw [lp_succ]
    have key := fun n' h => ih (i + 1) n' k (by omega) (by omega) h (by omega)
    generalize lp ref21_Behind_L0 k = rec at key ⊢
    unfold ref21_Behind_L0
    cases n with
    | zero =>
      have : skipN 0 (F.drop i) = some 0 := by cases F.drop i <;> rfl
      rw [this]; rfl
    | succ n =>
      have hlt : i < F.length := by omega
      obtain ⟨x, hx⟩ : ∃ x, F[i]? = some x := ⟨_, List.getElem?_eq_getElem hlt⟩
      have hd : F.drop i = x :: F.drop (i + 1) := drop_cons_of hx
      have hp := partN_le x.1
      rw [decide_eq_true (show ((n + 1 : Nat) : Int) > 0 by omega), cond_true, decide_eq_false (show ¬ ((i : Int) ≥ ((List.length F : Nat) : Int)) by omega), cond_false, hd]
      simp only [gx_nat, hx, Option.bind_some, ref21_parts_eq]
      unfold skipN
      by_cases h0 : partN x.1 < 0
      · rw [decide_eq_true h0]; rfl
      · rw [decide_eq_false h0, cond_false, cond_false]
        have w1 : IntKind.wrap .i64 (((n + 1 : Nat) : Int) - 1) = (n : Int) := by rw [wrap64] <;> omega
        have w2 : IntKind.wrap .i64 ((n : Int) + partN x.1) = ((n + (partN x.1).toNat : Nat) : Int) := by rw [wrap64] <;> omega
        have w3 : IntKind.wrap .i64 ((i : Int) + 1) = ((i + 1 : Nat) : Int) := by rw [wrap64] <;> omega
        rw [w1, w2, w3, key _ (by omega)]
        cases skipN (n + (partN x.1).toNat) (F.drop (i + 1)) with
        | none => rfl
        | some j => simp only [Option.map_some]; congr 3; omega
theorem ref21_Behind_eq {F : List QNode} (hF : F.length ≤ 1000000) {i : Nat} (hi : i ≤ F.length) : ref21_Behind F (i : Int) = some (match skipN 1 (F.drop i) with
      | some j => ((i + j : Nat) : Int)
      | none => -1) := by
  unfold ref21_Behind
  rw [show (1 : Int) = ((1 : Nat) : Int) from rfl, behindN_round F hF _ i 1 fuel rfl hi (by omega) (by unfold fuel; omega)]
  cases skipN 1 (F.drop i) <;> rfl
theorem code_none (a0 : List QSym) (nm : Str) : decide (idxI (a0.findIdx? (fun e => e.1 == nm)) < 0) = !(a0.any fun e => e.1 == nm) := by
  cases h : a0.findIdx? (fun e => e.1 == nm) with
  | none =>
    have : (a0.any fun e => e.1 == nm) = false := by
      rw [List.any_eq_false]
      exact fun x hx => by simpa using List.findIdx?_eq_none_iff.1 h x hx
    rw [this]; rfl
  | some i =>
    have : (a0.any fun e => e.1 == nm) = true := by
      rw [List.any_eq_true]
      obtain ⟨hi, hp, -⟩ := List.findIdx?_eq_some_iff_getElem.1 h
      exact ⟨_, List.getElem_mem hi, hp⟩
    rw [this]
    show decide (((i : Nat) : Int) < 0) = false
    simp
theorem any_or {α : Type} (p q : α → Bool) : (xs : List α) → (xs.any fun e => p e || q e) = (xs.any p || xs.any q)
  | [] => rfl
  | x :: xs => by
    rw [List.any_cons, List.any_cons, List.any_cons, any_or p q xs]
    cases p x <;> cases q x <;> cases xs.any p <;> cases xs.any q <;> rfl
theorem ref21_SignMay_eq (a0 : List QSym) : ref21_SignMay a0 = some (sigB a0) := by
  unfold ref21_SignMay sigB
  rw [ref1_SignMay_eq, Option.bind_some]
  cases hs : signB a0 with
  | false => rfl
  | true =>
    have hl := (signB_ok hs).max
    rw [cond_true, ref1_Code_eq _ _ hl, Option.bind_some, ref1_Code_eq _ _ hl, Option.bind_some, code_none, code_none]
    have : (a0.any fun e => bindName e.1) = ((a0.any fun e => e.1 == [97, 108, 108]) || (a0.any fun e => e.1 == [101, 120])) := any_or _ _ a0
    rw [this]
    cases (a0.any fun e => e.1 == [97, 108, 108]) <;> cases (a0.any fun e => e.1 == [101, 120]) <;> rfl
theorem single_go {a0 : List QSym} (hs : signB a0 = true) : (es : List QNode) → ref21_May_L0_go a0 es = some (cond (es.all fun x => decide (0 ≤ partN x.1) && nodeB a0 x) (.inl ()) (.inr false))
  | [] => rfl
  | x :: es => by
    unfold ref21_May_L0_go
    rw [ref21_single_eq hs, Option.bind_some, List.all_cons]
    cases (decide (0 ≤ partN x.1) && nodeB a0 x) with
    | false => rfl
    | true => rw [Bool.not_true, cond_false, single_go hs es, Bool.true_and]
theorem ref21_May_eq (a0 : List QSym) (f : List QNode) : ref21_May a0 f = some (fmayB a0 f) := by
  unfold ref21_May fmayB
  rw [ref21_SignMay_eq, Option.bind_some]
  cases hs : sigB a0 with
  | false => rfl
  | true =>
    have hs2 : signB a0 = true := by unfold sigB at hs; rw [Bool.and_eq_true] at hs; exact hs.1
    rw [Bool.not_true, cond_false, Bool.true_and]
    by_cases hl : f.length ≤ 40
    · rw [decide_eq_false (show ¬ (((List.length f : Nat) : Int) > 40) by omega), decide_eq_true hl, cond_false, Bool.true_and, skipN_walk]
      have hb := ref21_Behind_eq (F := f) (by omega) (i := 0) (by omega)
      rw [show ((0 : Nat) : Int) = 0 from rfl, List.drop_zero] at hb
      rw [hb, Option.bind_some]
      cases hk : skipN 1 f with
      | none =>
        rw [show ((-1 : Int) != ((List.length f : Nat) : Int)) = true from by rw [bne_iff_ne]; omega, decide_eq_false (by simp)]
        rfl
      | some j =>
        simp only [Nat.zero_add]
        by_cases hj : j = f.length
        · subst hj
          rw [show (((List.length f : Nat) : Int) != ((List.length f : Nat) : Int)) = false from by simp, cond_false, ref21_May_L0_go_at0 _ _ (by unfold maxLen; omega), single_go hs2, decide_eq_true rfl, Bool.true_and]
          cases (f.all fun x => decide (0 ≤ partN x.1) && nodeB a0 x) <;> rfl
        · rw [show ((j : Int) != ((List.length f : Nat) : Int)) = true from by rw [bne_iff_ne]; omega, decide_eq_false (by simpa using hj)]
          rfl
    · rw [decide_eq_true (show (((List.length f : Nat) : Int) > 40) by omega), decide_eq_false hl]
      rfl
end
end Go.Abs.Q
namespace Go.Abs.Q
open Go Go.Abs
section
theorem drop_app {α : Type} {F xs rest : List α} {i : Nat} (h : F.drop i = xs ++ rest) : F.drop (i + xs.length) = rest := by
  rw [← List.drop_drop, h, List.drop_left]
theorem rshow_R {a0 : List QSym} (F : List QNode) (hF : F.length ≤ 1000000) : (t : Fm) → t.ok a0 = true → (rest : List QNode) → (i k : Nat) → F.drop i = t.flat ++ rest → t.flat.length < k → ref21_show_R k (a0, F, (i : Int)) = some (t.text a0)
  | .atom a, h, rest, i, k, hd, hk => by
    obtain ⟨k, rfl⟩ : ∃ k', k = k' + 1 := ⟨k - 1, by omega⟩
    have hd : F.drop i = (0, 0, a) :: rest := hd
    show ref21_show_S (ref21_show_R k) a0 F (i : Int) = _
    unfold ref21_show_S
    rw [gx_nat, drop_cons_get hd, Option.bind_some, show (((0 : Int), (0 : Int), a).1 == 0) = true from rfl, cond_true, ref21_Atom_eq (show atomB a0 a = true from h)]
    rfl
  | .not f, h, rest, i, k, hd, hk => by
    obtain ⟨k, rfl⟩ : ∃ k', k = k' + 1 := ⟨k - 1, by omega⟩
    have hd : F.drop i = (1, 0, []) :: (f.flat ++ rest) := hd
    have hi := drop_cons_lt hd
    have hfl : f.flat.length < k := by simp only [Fm.flat, List.length_cons] at hk; omega
    have ih := rshow_R F hF f h rest (i + 1) k (drop_cons_next hd) hfl
    have ht := Fm.text_len f h
    have hlen : f.flat.length ≤ F.length := by have := congrArg List.length hd; simp at this; omega
    have w : IntKind.wrap .i64 ((i : Int) + 1) = ((i + 1 : Nat) : Int) := by rw [wrap64] <;> omega
    show ref21_show_S (ref21_show_R k) a0 F (i : Int) = _
    unfold ref21_show_S
    rw [gx_nat, drop_cons_get hd, Option.bind_some]
    simp only [Int.reduceBEq, cond_false, cond_true, w, ih, Option.bind_some]
    rw [decide_eq_true (by simp; omega), cond_true]
    rfl
  | .qu q v f, h, rest, i, k, hd, hk => by
    obtain ⟨k, rfl⟩ : ∃ k', k = k' + 1 := ⟨k - 1, by omega⟩
    have hd : F.drop i = (q, v, []) :: (f.flat ++ rest) := hd
    have hi := drop_cons_lt hd
    unfold Fm.ok at h
    simp only [Bool.and_eq_true, Bool.or_eq_true, beq_iff_eq, decide_eq_true_eq] at h
    obtain ⟨⟨⟨hq, hv0⟩, hv1⟩, h⟩ := h
    have hfl : f.flat.length < k := by simp only [Fm.flat, List.length_cons] at hk; omega
    have ih := rshow_R F hF f h rest (i + 1) k (drop_cons_next hd) hfl
    have ht := Fm.text_len f h
    have hlen : f.flat.length ≤ F.length := by have := congrArg List.length hd; simp at this; omega
    have w : IntKind.wrap .i64 ((i : Int) + 1) = ((i + 1 : Nat) : Int) := by rw [wrap64] <;> omega
    have hd2 := (dig2_len v.toNat).2
    have hD : ref17_Decimal v = some (dig2 v.toNat) := ref17_Decimal_eq hv0 (by omega)
    show ref21_show_S (ref21_show_R k) a0 F (i : Int) = _
    unfold ref21_show_S
    rw [gx_nat, drop_cons_get hd, Option.bind_some]
    rcases hq with rfl | rfl
    · simp only [Int.reduceBEq, cond_false, cond_true, w, ih, hD, Option.bind_some]
      rw [decide_eq_true (by simp; omega), cond_true, decide_eq_true (by simp; omega), cond_true, decide_eq_true (by simp; omega), cond_true]
      rfl
    · simp only [Int.reduceBEq, cond_false, cond_true, w, ih, hD, Option.bind_some]
      rw [decide_eq_true (by simp; omega), cond_true, decide_eq_true (by simp; omega), cond_true, decide_eq_true (by simp; omega), cond_true]
      rfl
  | .bin q f g, h, rest, i, k, hd, hk => by
    obtain ⟨k, rfl⟩ : ∃ k', k = k' + 1 := ⟨k - 1, by omega⟩
    have hd : F.drop i = (q, 0, []) :: (f.flat ++ (g.flat ++ rest)) := by rw [hd]; simp [Fm.flat]
    have hi := drop_cons_lt hd
    have hn := drop_cons_next hd
    unfold Fm.ok at h
    simp only [Bool.and_eq_true, Bool.or_eq_true, beq_iff_eq] at h
    obtain ⟨⟨hq, hf⟩, hg⟩ := h
    have hfl : f.flat.length < k ∧ g.flat.length < k := by simp only [Fm.flat, List.length_cons, List.length_append] at hk; omega
    have hlen : f.flat.length + g.flat.length ≤ F.length := by have := congrArg List.length hd; simp at this; omega
    have ih1 := rshow_R F hF f hf (g.flat ++ rest) (i + 1) k hn hfl.1
    have ih2 := rshow_R F hF g hg rest (i + 1 + f.flat.length) k (drop_app hn) hfl.2
    have ht1 := Fm.text_len f hf
    have ht2 := Fm.text_len g hg
    have w : IntKind.wrap .i64 ((i : Int) + 1) = ((i + 1 : Nat) : Int) := by rw [wrap64] <;> omega
    have hb : ref21_Behind F ((i + 1 : Nat) : Int) = some ((i + 1 + f.flat.length : Nat) : Int) := by
      rw [ref21_Behind_eq hF (by omega), hn, show (1 : Nat) = 0 + 1 from rfl, skipN_flat f hf 0 (g.flat ++ rest)]
      have : skipN 0 (g.flat ++ rest) = some 0 := by cases (g.flat ++ rest) <;> rfl
      rw [this]
      simp
    show ref21_show_S (ref21_show_R k) a0 F (i : Int) = _
    unfold ref21_show_S
    rw [gx_nat, drop_cons_get hd, Option.bind_some]
    rcases hq with (rfl | rfl) | rfl
    · simp only [Int.reduceBEq, cond_false, cond_true, w, ih1, hb, ih2, Option.bind_some]
      rw [decide_eq_true (by simp; omega), cond_true, decide_eq_true (by simp; omega), cond_true, decide_eq_true (by simp; omega), cond_true, decide_eq_true (by simp; omega), cond_true]
      rfl
    · simp only [Int.reduceBEq, cond_false, cond_true, w, ih1, hb, ih2, Option.bind_some]
      rw [decide_eq_true (by simp; omega), cond_true, decide_eq_true (by simp; omega), cond_true, decide_eq_true (by simp; omega), cond_true, decide_eq_true (by simp; omega), cond_true]
      rfl
    · simp only [Int.reduceBEq, cond_false, cond_true, w, ih1, hb, ih2, Option.bind_some]
      rw [decide_eq_true (by simp; omega), cond_true, decide_eq_true (by simp; omega), cond_true, decide_eq_true (by simp; omega), cond_true, decide_eq_true (by simp; omega), cond_true]
      rfl
theorem ref21_Show_eq (a0 : List QSym) (f : List QNode) : ref21_Show a0 f = formula_Show a0 f := by
  cases h : fmayB a0 f with
  | false =>
    rw [formula_Show_not h]
    unfold ref21_Show
    rw [ref21_May_eq, h]
    rfl
  | true =>
    obtain ⟨h1, h2, t, rfl, ht⟩ := fmayB_tree h
    rw [formula_Show_tree h ht]
    unfold ref21_Show
    rw [ref21_May_eq, h, Option.bind_some, Bool.not_true, cond_false]
    have := rshow_R (a0 := a0) t.flat (by omega) t ht [] 0 fuel (by simp) (by unfold fuel; omega)
    show (ref21_show_R fuel (a0, t.flat, ((0 : Nat) : Int))).bind _ = _
    rw [this]
    rfl
theorem formula_Show_some (a0 : List QSym) (f : List QNode) : ∃ y, formula_Show a0 f = some y := by
  cases h : fmayB a0 f with
  | false => exact ⟨_, formula_Show_not h⟩
  | true =>
    obtain ⟨h1, h2, t, rfl, ht⟩ := fmayB_tree h
    exact ⟨_, formula_Show_tree h ht⟩
theorem copyNodes_go : (es out : List QNode) → (∀ e ∈ es, e.2.2.length ≤ 1000000000) → out.length + es.length ≤ 1000000000 → law0_CopyNodes_L0_go es out = some (out ++ es)
  | [], out, _, _ => by simp [law0_CopyNodes_L0_go]
  | e :: es, out, h, hl => by
    rw [List.length_cons] at hl
    unfold law0_CopyNodes_L0_go
    rw [law0_CopyInts_eq (h e (List.mem_cons_self ..)), Option.bind_some, room_ok (show (out.length + ([(e.1, e.2.1, e.2.2)] : List QNode).length) * 40 ≤ 140737488351232 by simp; omega), cond_true,
      copyNodes_go es _ (fun x hx => h x (List.mem_cons_of_mem _ hx)) (by simp; omega)]
    simp
theorem law0_CopyNodes_eq {f : List QNode} (h : ∀ e ∈ f, e.2.2.length ≤ 1000000000) (hl : f.length ≤ 1000000000) : law0_CopyNodes f = some f := by
  unfold law0_CopyNodes
  rw [law0_CopyNodes_L0_go_at0 _ _ (by unfold maxLen; omega), copyNodes_go f [] h (by simp; omega)]
  rfl
theorem sameNodes_go (ys : List QNode) : (es : List QNode) → (i : Nat) → es.length = (ys.drop i).length → (∀ e ∈ es, e.2.2.length ≤ maxLen) → law0_SameNodes_L0_go ys es i = some (cond (decide (es = ys.drop i)) (.inl ()) (.inr false))
  | [], i, h, _ => by
    have : ys.drop i = [] := List.eq_nil_of_length_eq_zero h.symm
    rw [this]; rfl
  | e :: es, i, h, hm => by
    cases hd : ys.drop i with
    | nil => rw [hd] at h; simp at h
    | cons y r =>
      have hn := drop_cons_next hd
      have ih := sameNodes_go ys es (i + 1) (by rw [hn]; rw [hd] at h; simpa using h) (fun x hx => hm x (List.mem_cons_of_mem _ hx))
      have he := hm e (List.mem_cons_self ..)
      obtain ⟨e1, e2, e3⟩ := e
      obtain ⟨y1, y2, y3⟩ := y
      unfold law0_SameNodes_L0_go
      simp only [gx_nat, drop_cons_get hd, Option.bind_some, ih, hn, law0_SameInts_eq he]
      by_cases h1 : e1 = y1
      · subst h1
        by_cases h2 : e2 = y2
        · subst h2
          by_cases h3 : e3 = y3
          · subst h3; simp
          · simp [h3]
        · have : (e2 != y2) = true := by simpa using h2
          simp [this, h2]
      · have : (e1 != y1) = true := by simpa using h1
        simp [this, h1]
theorem law0_SameNodes_eq {xs ys : List QNode} (h : xs.length ≤ maxLen) (hm : ∀ e ∈ xs, e.2.2.length ≤ maxLen) : law0_SameNodes xs ys = some (decide (xs = ys)) := by
  unfold law0_SameNodes
  by_cases hl : xs.length = ys.length
  · rw [show (((List.length xs : Nat) : Int) != ((List.length ys : Nat) : Int)) = false from by simp [hl], cond_false, law0_SameNodes_L0_go_at0 _ _ h, sameNodes_go ys xs 0 hl hm, List.drop_zero]
    cases decide (xs = ys) <;> rfl
  · rw [show (((List.length xs : Nat) : Int) != ((List.length ys : Nat) : Int)) = true from by simp; omega, cond_true, decide_eq_false (by intro h; subst h; exact hl rfl)]
theorem wtT_node (x : QNode) : wtT (.cons (.int .i64) (.cons (.int .i64) (.one (.sl (.one (.int .i64)))))) x = x.2.2.length + 3 := by
  show 1 + (1 + wt (.sl (.one (.int .i64))) x.2.2) = _
  rw [wt_ints]; omega
theorem wt_nodes {f : List QNode} {b : Nat} (h : wt (.sl (.cons (.int .i64) (.cons (.int .i64) (.one (.sl (.one (.int .i64))))))) f ≤ b) : f.length ≤ b ∧ ∀ x ∈ f, x.2.2.length ≤ b := by
  have e : (wtT (.cons (.int .i64) (.cons (.int .i64) (.one (.sl (.one (.int .i64)))))) : QNode → Nat) = fun x => x.2.2.length + 3 := funext wtT_node
  have h : (List.map (wtT (.cons (.int .i64) (.cons (.int .i64) (.one (.sl (.one (.int .i64)))))) : QNode → Nat) f).sum + 1 ≤ b := h
  rw [e] at h
  replace h : (List.map (fun x : QNode => x.2.2.length + 3) f).sum + 1 ≤ b := h
  have h1 := wt_len (f := fun x : QNode => x.2.2.length + 3) (fun x => by omega) f
  refine ⟨by omega, fun x hx => ?_⟩
  have := wt_mem (f := fun x : QNode => x.2.2.length + 3) hx
  omega
theorem law22_Shows_true (a0 : List QSym) (f : List QNode) (h1 : f.length ≤ 1048576) (h2 : ∀ x ∈ f, x.2.2.length ≤ 1048576) : law22_Shows a0 f = some true := by
  obtain ⟨y, hy⟩ := formula_Show_some a0 f
  unfold law22_Shows
  rw [law0_CopyNodes_eq (fun x hx => by have := h2 x hx; omega) (by omega), Option.bind_some, ref21_Show_eq, hy, Option.bind_some, Option.bind_some, formula_May_eq, Option.bind_some, ref21_May_eq, Option.bind_some,
    law0_SameNodes_eq (by unfold maxLen; omega) (fun x hx => by have := h2 x hx; unfold maxLen; omega), law22_awake_eq]
  unfold law0_Num
  simp
theorem shows_plain (x : List QSym × List QNode) (h : wtL [.sl tSym, .sl (.cons (.int .i64) (.cons (.int .i64) (.one (.sl (.one (.int .i64))))))] x ≤ 1048576) : law22_Shows x.1 x.2 = some true := by
  have h' : wt (.sl tSym) x.1 + wt (.sl (.cons (.int .i64) (.cons (.int .i64) (.one (.sl (.one (.int .i64))))))) x.2 ≤ 1048576 := h
  obtain ⟨g1, g2⟩ := wt_nodes (b := 1048576) (f := x.2) (by omega)
  exact law22_Shows_true x.1 x.2 g1 g2
end
end Go.Abs.Q
