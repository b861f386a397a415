import Derived.Test.YtanopgblnhaigaaGreatDoorFc
/-
  What the functions make of plain values, and what the law says of that.
-/
namespace Go.Abs.Q
open Go Go.Abs
abbrev QSym := Str × Int × Int × Int
abbrev tSym : Tys := .cons .str (.cons (.int .i64) (.cons (.int .i64) (.one (.int .i64))))
abbrev QLit := Bool × List Int
def sign_small (a0 : Int) : Option Bool :=
  cond (decide (a0 ≥ 97))
  (some (decide (a0 ≤ 122)))
  (some false)
def sign_called_L0 (rec : (Str × Int × Int) → Option (Unit ⊕ Bool)) (x : (Str × Int × Int)) : Option (Unit ⊕ Bool) :=
  cond (decide (x.2.2 < x.2.1))
  ((gx x.1 x.2.2).bind fun c7 =>
    (sign_small ((UInt8.toNat c7 : Nat) : Int)).bind fun r8 =>
    cond (!r8)
    ((gx x.1 x.2.2).bind fun c9 =>
      cond (decide (((UInt8.toNat c9 : Nat) : Int) < 48))
      (some (Sum.inr false))
      ((gx x.1 x.2.2).bind fun c10 =>
        cond (decide (((UInt8.toNat c10 : Nat) : Int) > 57))
        (some (Sum.inr false))
        (rec (x.1, x.2.1, (IntKind.wrap .i64 (x.2.2 + 1))))))
    (rec (x.1, x.2.1, (IntKind.wrap .i64 (x.2.2 + 1)))))
  (some (Sum.inl ()))
def sign_called (a0 : Str) : Option Bool :=
  cond (a0 == ([] : Str))
  (some false)
  (cond (decide (((List.length a0 : Nat) : Int) > 8))
    (some false)
    ((gx a0 0).bind fun c14 =>
      (sign_small ((UInt8.toNat c14 : Nat) : Int)).bind fun r15 =>
      cond (!r15)
      (some false)
      (((lp sign_called_L0 fuel) (a0, ((List.length a0 : Nat) : Int), 0)).bind fun r16 =>
        caseS r16
        (fun z17 => some true)
        (fun z18 => some z18))))
def sign_SymMay (a0 : Str) (a1 : Int) (a2 : Int) (a3 : Int) : Option Bool :=
  (sign_called a0).bind fun r2 =>
  cond r2
  (cond (decide (a1 ≥ 0))
    (cond (decide (a1 ≤ 2))
      (cond (decide (a2 ≥ 0))
        (cond (decide (a2 ≤ 3))
          (cond (decide (a3 ≥ 1))
            (some (decide (a3 ≤ 20)))
            (some false))
          (some false))
        (some false))
      (some false))
    (some false))
  (some false)
def sign_find_L0 (rec : ((List QSym) × Str × Int × Int) → Option (Unit ⊕ Int)) (x : ((List QSym) × Str × Int × Int)) : Option (Unit ⊕ Int) :=
  cond (decide (x.2.2.2 < x.2.2.1))
  ((gx x.1 x.2.2.2).bind fun e2 =>
    cond (e2.1 == x.2.1)
    (some (Sum.inr x.2.2.2))
    (rec (x.1, x.2.1, x.2.2.1, (IntKind.wrap .i64 (x.2.2.2 + 1)))))
  (some (Sum.inl ()))
def sign_find (a0 : (List QSym)) (a1 : Str) : Option Int :=
  ((lp sign_find_L0 fuel) (a0, a1, ((List.length a0 : Nat) : Int), 0)).bind fun r6 =>
  caseS r6
  (fun z7 => some (-1))
  (fun z8 => some z8)
def sign_May_L0 (rec : ((List QSym) × Int) → Option (Unit ⊕ Bool)) (x : ((List QSym) × Int)) : Option (Unit ⊕ Bool) :=
  cond (decide (x.2 < ((List.length x.1 : Nat) : Int)))
  ((gx x.1 x.2).bind fun e6 =>
    (sign_SymMay e6.1 e6.2.1 e6.2.2.1 e6.2.2.2).bind fun r7 =>
    cond (!r7)
    (some (Sum.inr false))
    ((gx x.1 x.2).bind fun e8 =>
      (sign_find x.1 e8.1).bind fun r9 =>
      cond (r9 != x.2)
      (some (Sum.inr false))
      (rec (x.1, (IntKind.wrap .i64 (x.2 + 1))))))
  (some (Sum.inl ()))
def sign_May (a0 : (List QSym)) : Option Bool :=
  cond (decide (((List.length a0 : Nat) : Int) < 1))
  (some false)
  (cond (decide (((List.length a0 : Nat) : Int) > 20))
    (some false)
    ((gx a0 0).bind fun e13 =>
      cond (!(cond (eqS e13.1 [61]) (cond (eqI e13.2.1 0) (cond (eqI e13.2.2.1 2) (cond (eqI e13.2.2.2 1) true false) false) false) false))
      (some false)
      (((lp sign_May_L0 fuel) (a0, 1)).bind fun r14 =>
        caseS r14
        (fun z15 => some true)
        (fun z16 => some z16))))
def term_Number (a0 : Int) : Option Int :=
  some (IntKind.wrap .i64 ((-1) - a0))
def term_args (a0 : (List QSym)) (a1 : Int) : Option (Int × Bool) :=
  cond (decide (a1 < 0))
  ((term_Number 23).bind fun r4 =>
    some (0, (decide (a1 ≥ r4))))
  (cond (decide (a1 ≥ ((List.length a0 : Nat) : Int)))
    (some (0, false))
    ((gx a0 a1).bind fun e5 =>
      cond (e5.2.1 == 0)
      (some (0, false))
      ((gx a0 a1).bind fun e6 =>
        some (e6.2.2.1, true))))
def term_Skip_L0 (rec : ((List QSym) × (List Int) × Int × Int) → Option (Int × Bool)) (x : ((List QSym) × (List Int) × Int × Int)) : Option (Int × Bool) :=
  cond (decide (x.2.2.1 ≥ ((List.length x.2.1 : Nat) : Int)))
  (some (0, false))
  ((gx x.2.1 x.2.2.1).bind fun e5 =>
    (term_args x.1 e5).bind fun r6 =>
    cond (!r6.2)
    (some (0, false))
    (cond (decide ((IntKind.wrap .i64 (x.2.2.2 + (IntKind.wrap .i64 (r6.1 - 1)))) > 0))
      (rec (x.1, x.2.1, (IntKind.wrap .i64 (x.2.2.1 + 1)), (IntKind.wrap .i64 (x.2.2.2 + (IntKind.wrap .i64 (r6.1 - 1))))))
      (some ((IntKind.wrap .i64 (x.2.2.1 + 1)), true))))
def term_Skip (a0 : (List QSym)) (a1 : (List Int)) (a2 : Int) : Option (Int × Bool) :=
  cond (decide (a2 ≥ ((List.length a1 : Nat) : Int)))
  (some (0, false))
  ((gx a1 a2).bind fun e8 =>
    (term_args a0 e8).bind fun r9 =>
    cond (!r9.2)
    (some (0, false))
    (cond (decide ((IntKind.wrap .i64 (1 + (IntKind.wrap .i64 (r9.1 - 1)))) > 0))
      ((((lp term_Skip_L0 fuel) (a0, a1, (IntKind.wrap .i64 (a2 + 1)), (IntKind.wrap .i64 (1 + (IntKind.wrap .i64 (r9.1 - 1))))))).bind fun r10 =>
        some (r10.1, r10.2))
      (some ((IntKind.wrap .i64 (a2 + 1)), true))))
def term_begins_L0 (rec : ((List QSym) × (List Int) × Int × (List Int)) → Option QLit) (x : ((List QSym) × (List Int) × Int × (List Int))) : Option QLit :=
  cond (x.2.2.1 == ((List.length x.2.1 : Nat) : Int))
  (some (true, x.2.2.2))
  ((term_Skip x.1 x.2.1 x.2.2.1).bind fun r4 =>
    cond (!r4.2)
    (some (false, ([] : (List Int))))
    (cond (room (List.length x.2.2.2 + List.length ([x.2.2.1] : List Int)) 8)
      (rec (x.1, x.2.1, r4.1, (x.2.2.2 ++ ([x.2.2.1] : List Int))))
      (none)))
def term_begins (a0 : (List QSym)) (a1 : (List Int)) : Option QLit :=
  (sign_May a0).bind fun r6 =>
  cond (!r6)
  (some (false, ([] : (List Int))))
  (cond (decide (((List.length a1 : Nat) : Int) > 48))
    (some (false, ([] : (List Int))))
    (cond (0 == ((List.length a1 : Nat) : Int))
      (some (true, ([] : (List Int))))
      ((term_Skip a0 a1 0).bind fun r7 =>
        cond (!r7.2)
        (some (false, ([] : (List Int))))
        (cond (room (List.length ([0] : List Int)) 8)
          ((((lp term_begins_L0 fuel) (a0, a1, r7.1, ([0] : List Int)))).bind fun r8 =>
            some (r8.1, r8.2))
          (none)))))
def term_IsAtom (a0 : (List QSym)) (a1 : (List Int)) : Option Bool :=
  cond (((List.length a1 : Nat) : Int) == 0)
  (some false)
  ((gx a1 0).bind fun e9 =>
    cond (decide (e9 < 0))
    (some false)
    ((gx a1 0).bind fun e10 =>
      cond (decide (e10 ≥ ((List.length a0 : Nat) : Int)))
      (some false)
      ((gx a1 0).bind fun e11 =>
        (gx a0 e11).bind fun e12 =>
        cond (e12.2.1 != 0)
        (some false)
        ((slc2 a1 (some 1) none).bind fun y13 =>
          (term_begins a0 y13).bind fun r14 =>
          cond r14.1
          ((gx a1 0).bind fun e15 =>
            (gx a0 e15).bind fun e16 =>
            some (((List.length r14.2 : Nat) : Int) == e16.2.2.1))
          (some false)))))
def term_Pieces_L0 (rec : ((List QSym) × (List Int) × Int × (List (List Int))) → Option ((List (List Int)) ⊕ (List (List Int)))) (x : ((List QSym) × (List Int) × Int × (List (List Int)))) : Option ((List (List Int)) ⊕ (List (List Int))) :=
  cond (decide (x.2.2.1 < ((List.length x.2.1 : Nat) : Int)))
  ((term_Skip x.1 x.2.1 x.2.2.1).bind fun r5 =>
    cond (!r5.2)
    (some (Sum.inr x.2.2.2))
    ((slc2 x.2.1 (some x.2.2.1) (some r5.1)).bind fun y6 =>
      cond (room (List.length x.2.2.2 + List.length ([y6] : List (List Int))) 24)
      (rec (x.1, x.2.1, r5.1, (x.2.2.2 ++ ([y6] : List (List Int)))))
      (none)))
  (some (Sum.inl x.2.2.2))
def term_Pieces (a0 : (List QSym)) (a1 : (List Int)) : Option (List (List Int)) :=
  ((lp term_Pieces_L0 fuel) (a0, a1, 0, ([] : (List (List Int))))).bind fun r10 =>
  caseS r10
  (fun z11 => some z11)
  (fun z12 => some z12)
def strconv_Itoa (a0 : Int) : Option Str := itoaF a0
def strings_Join (a0 : List Str) (a1 : Str) : Option Str := joinF a0 a1
def formula_ShowTerms_L0 (rf : (((List QSym) × (List Int)) → Option Str)) (rec : ((List QSym) × (List (List Int)) × Int × Int × (List Str)) → Option (List Str)) (x : ((List QSym) × (List (List Int)) × Int × Int × (List Str))) : Option (List Str) :=
  cond (decide (x.2.2.2.1 < x.2.2.1))
  ((gx x.2.1 x.2.2.2.1).bind fun e18 =>
    (gx e18 0).bind fun e19 =>
    cond (decide (e19 < 0))
    ((gx e18 0).bind fun e20 =>
      (term_Number e20).bind fun r21 =>
      (strconv_Itoa r21).bind fun r22 =>
      cond (decide ((List.length ([88] : Str) + List.length r22 : Nat) < 4611686018427387904))
      (cond (room (List.length x.2.2.2.2 + List.length ([(([88] : Str) ++ r22)] : List Str)) 16)
        (rec (x.1, x.2.1, x.2.2.1, (IntKind.wrap .i64 (x.2.2.2.1 + 1)), (x.2.2.2.2 ++ ([(([88] : Str) ++ r22)] : List Str))))
        (none))
      (none))
    (cond (((List.length e18 : Nat) : Int) == 1)
      ((gx e18 0).bind fun e23 =>
        (gx x.1 e23).bind fun e24 =>
        cond (room (List.length x.2.2.2.2 + List.length ([e24.1] : List Str)) 16)
        (rec (x.1, x.2.1, x.2.2.1, (IntKind.wrap .i64 (x.2.2.2.1 + 1)), (x.2.2.2.2 ++ ([e24.1] : List Str))))
        (none))
      ((gx e18 0).bind fun e25 =>
        (gx x.1 e25).bind fun e26 =>
        cond (decide ((List.length e26.1 + List.length ([40] : Str) : Nat) < 4611686018427387904))
        ((slc2 e18 (some 1) none).bind fun y27 =>
          (rf (x.1, y27)).bind fun r28 =>
          cond (decide ((List.length (e26.1 ++ ([40] : Str)) + List.length r28 : Nat) < 4611686018427387904))
          (cond (decide ((List.length ((e26.1 ++ ([40] : Str)) ++ r28) + List.length ([41] : Str) : Nat) < 4611686018427387904))
            (cond (room (List.length x.2.2.2.2 + List.length ([(((e26.1 ++ ([40] : Str)) ++ r28) ++ ([41] : Str))] : List Str)) 16)
              (rec (x.1, x.2.1, x.2.2.1, (IntKind.wrap .i64 (x.2.2.2.1 + 1)), (x.2.2.2.2 ++ ([(((e26.1 ++ ([40] : Str)) ++ r28) ++ ([41] : Str))] : List Str))))
              (none))
            (none))
          (none))
        (none))))
  (some x.2.2.2.2)
def formula_ShowTerms_S (rf : (((List QSym) × (List Int)) → Option Str)) (a0 : (List QSym)) (a1 : (List Int)) : Option Str :=
  (term_Pieces a0 a1).bind fun r31 =>
  ((lp (formula_ShowTerms_L0 rf) fuel) (a0, r31, ((List.length r31 : Nat) : Int), 0, ([] : (List Str)))).bind fun r32 =>
  (strings_Join r32 ([44, 32] : Str)).bind fun r33 =>
  some r33
def formula_ShowTerms_R_step (rf : (((List QSym) × (List Int)) → Option Str)) : (((List QSym) × (List Int)) → Option Str) :=
  fun (x : ((List QSym) × (List Int))) => formula_ShowTerms_S rf x.1 x.2
def formula_ShowTerms_R_base : (((List QSym) × (List Int)) → Option Str) := fun _ => none
def formula_ShowTerms_R (k : Nat) : (((List QSym) × (List Int)) → Option Str) := lpR formula_ShowTerms_R_base formula_ShowTerms_R_step k
def formula_ShowTerms (a0 : (List QSym)) (a1 : (List Int)) : Option Str := (formula_ShowTerms_R fuel) (a0, a1)
def formula_ShowAtom (a0 : (List QSym)) (a1 : (List Int)) : Option Str :=
  (gx a1 0).bind fun e16 =>
  cond (e16 == 0)
  ((slc2 a1 (some 1) none).bind fun y17 =>
    (term_Pieces a0 y17).bind fun r18 =>
    (inR 0 (List.length r18)).bind fun k19 =>
    (r18[k19]?).bind fun x20 =>
    (formula_ShowTerms a0 x20).bind fun r21 =>
    cond (decide ((List.length r21 + List.length ([32, 61, 32] : Str) : Nat) < 4611686018427387904))
    ((inR 1 (List.length r18)).bind fun k22 =>
      (r18[k22]?).bind fun x23 =>
      (formula_ShowTerms a0 x23).bind fun r24 =>
      cond (decide ((List.length (r21 ++ ([32, 61, 32] : Str)) + List.length r24 : Nat) < 4611686018427387904))
      (some ((r21 ++ ([32, 61, 32] : Str)) ++ r24))
      (none))
    (none))
  (cond (((List.length a1 : Nat) : Int) == 1)
    ((gx a1 0).bind fun e25 =>
      (gx a0 e25).bind fun e26 =>
      some e26.1)
    ((gx a1 0).bind fun e27 =>
      (gx a0 e27).bind fun e28 =>
      cond (decide ((List.length e28.1 + List.length ([40] : Str) : Nat) < 4611686018427387904))
      ((slc2 a1 (some 1) none).bind fun y29 =>
        (formula_ShowTerms a0 y29).bind fun r30 =>
        cond (decide ((List.length (e28.1 ++ ([40] : Str)) + List.length r30 : Nat) < 4611686018427387904))
        (cond (decide ((List.length ((e28.1 ++ ([40] : Str)) ++ r30) + List.length ([41] : Str) : Nat) < 4611686018427387904))
          (some (((e28.1 ++ ([40] : Str)) ++ r30) ++ ([41] : Str)))
          (none))
        (none))
      (none)))
def law0_Num (a0 : Int) : Option Int :=
  some a0
def law0_SameInts_L0 (rec : ((List Int) × (List Int) × Int) → Option (Unit ⊕ Bool)) (x : ((List Int) × (List Int) × Int)) : Option (Unit ⊕ Bool) :=
  cond (decide (x.2.2 < ((List.length x.1 : Nat) : Int)))
  ((gx x.1 x.2.2).bind fun e3 =>
    (gx x.2.1 x.2.2).bind fun e4 =>
    cond (e3 != e4)
    (some (Sum.inr false))
    (rec (x.1, x.2.1, (IntKind.wrap .i64 (x.2.2 + 1)))))
  (some (Sum.inl ()))
def law0_SameInts (a0 : (List Int)) (a1 : (List Int)) : Option Bool :=
  cond (((List.length a0 : Nat) : Int) != ((List.length a1 : Nat) : Int))
  (some false)
  (((lp law0_SameInts_L0 fuel) (a0, a1, 0)).bind fun r8 =>
    caseS r8
    (fun z9 => some true)
    (fun z10 => some z10))
end Go.Abs.Q
namespace Go.Abs.Q
open Go Go.Abs
section
theorem lp_succ {X Y : Type} (s : (X → Option Y) → X → Option Y) (k : Nat) : lp s (k + 1) = s (lp s k) := rfl
theorem lp_fuel {X Y : Type} (s : (X → Option Y) → X → Option Y) : lp s fuel = s (lp s 18446744073709551615) := rfl
theorem gx_nat {α : Type} (xs : List α) (i : Nat) : gx xs (i : Int) = xs[i]? := by
  unfold gx
  rw [show decide ((0 : Int) ≤ (i : Int)) = true from by simp]
  rfl
theorem gx_zero {α : Type} (xs : List α) : gx xs 0 = xs[0]? := gx_nat xs 0
theorem inR_nat {i l : Nat} (h : i < l) : inR (i : Int) l = some i := by
  unfold inR
  simp [h]
theorem wrap64 {n : Int} (h1 : -9223372036854775808 ≤ n) (h2 : n ≤ 9223372036854775807) : IntKind.wrap .i64 n = n := by
  simp [IntKind.wrap, IntKind.signed, IntKind.bits]
  omega
theorem wrap_i1 {i l : Nat} (h : i < l) (hl : l ≤ maxLen) : IntKind.wrap .i64 ((i : Int) + 1) = ((i + 1 : Nat) : Int) := by
  unfold maxLen at hl
  rw [wrap64] <;> omega
theorem lt_true {i l : Nat} (h : i < l) : decide ((i : Int) < (l : Int)) = true := by simp [h]
theorem lt_false {i l : Nat} (h : l ≤ i) : decide ((i : Int) < (l : Int)) = false := by simp; omega
theorem drop_nil_le {α : Type} {xs : List α} {i : Nat} (h : xs.drop i = []) : xs.length ≤ i := by simpa using h
theorem drop_cons_lt {α : Type} {xs es : List α} {e : α} {i : Nat} (h : xs.drop i = e :: es) : i < xs.length := by
  rw [← Nat.not_le]
  intro hn
  rw [List.drop_eq_nil_iff.2 hn] at h
  cases h
theorem drop_cons_get {α : Type} {xs es : List α} {e : α} {i : Nat} (h : xs.drop i = e :: es) : xs[i]? = some e := by
  have := congrArg (·[0]?) h
  simpa using this
theorem drop_cons_next {α : Type} {xs es : List α} {e : α} {i : Nat} (h : xs.drop i = e :: es) : xs.drop (i + 1) = es := by
  rw [← List.drop_drop, h]
  rfl
end
end Go.Abs.Q
namespace Go.Abs.Q
open Go Go.Abs
def sign_called_L0_go : List UInt8 → Option (Unit ⊕ Bool)
  | [] => some (Sum.inl ())
  | e :: es =>
    (sign_small ((UInt8.toNat e : Nat) : Int)).bind fun r8 =>
    cond (!r8)
    (cond (decide (((UInt8.toNat e : Nat) : Int) < 48))
      (some (Sum.inr false))
      (cond (decide (((UInt8.toNat e : Nat) : Int) > 57))
        (some (Sum.inr false))
        (sign_called_L0_go es)))
    (sign_called_L0_go es)
theorem sign_called_L0_go_eq (s0 : Str) (hl : List.length s0 ≤ maxLen) : ∀ (es : List UInt8) (i : Nat) (k : Nat), s0.drop i = es → es.length < k → lp sign_called_L0 k (s0, ((List.length s0 : Nat) : Int), (i : Int)) = sign_called_L0_go es := by
  intro es
  induction es with
  | nil =>
    intro i k h hk
    obtain ⟨k, rfl⟩ : ∃ k', k = k' + 1 := ⟨k - 1, by omega⟩
    rw [lp_succ]
    generalize lp sign_called_L0 k = rec
    unfold sign_called_L0 sign_called_L0_go
    simp only [lt_false (drop_nil_le h), cond_false]
  | cons e es ih =>
    intro i k h hk
    obtain ⟨k, rfl⟩ : ∃ k', k = k' + 1 := ⟨k - 1, by omega⟩
    rw [lp_succ]
    have hi := drop_cons_lt h
    have hk2 : es.length < k := Nat.lt_of_succ_lt_succ hk
    have key := fun (_ : Unit) => ih (i + 1) k (drop_cons_next h) hk2
    generalize lp sign_called_L0 k = rec at key ⊢
    unfold sign_called_L0 sign_called_L0_go
    simp only [lt_true hi, cond_true, gx_nat, drop_cons_get h, Option.bind_some, wrap_i1 hi hl, key ()]
theorem sign_called_L0_go_at0 (s0 : Str) (hl : List.length s0 ≤ maxLen) : lp sign_called_L0 fuel (s0, ((List.length s0 : Nat) : Int), 0) = sign_called_L0_go s0 :=
  sign_called_L0_go_eq s0 hl s0 0 fuel rfl (Nat.lt_of_le_of_lt hl (by decide))
def sign_find_L0_go (s1 : Str) : List QSym → Nat → Option (Unit ⊕ Int)
  | [], i => some (Sum.inl ())
  | e :: es, i =>
    cond (e.1 == s1)
    (some (Sum.inr (i : Int)))
    (sign_find_L0_go s1 es (i + 1))
theorem sign_find_L0_go_eq (s0 : (List QSym)) (s1 : Str) (hl : List.length s0 ≤ maxLen) : ∀ (es : List QSym) (i : Nat) (k : Nat), s0.drop i = es → es.length < k → lp sign_find_L0 k (s0, s1, ((List.length s0 : Nat) : Int), (i : Int)) = sign_find_L0_go s1 es i := by
  intro es
  induction es with
  | nil =>
    intro i k h hk
    obtain ⟨k, rfl⟩ : ∃ k', k = k' + 1 := ⟨k - 1, by omega⟩
    rw [lp_succ]
    generalize lp sign_find_L0 k = rec
    unfold sign_find_L0 sign_find_L0_go
    simp only [lt_false (drop_nil_le h), cond_false]
  | cons e es ih =>
    intro i k h hk
    obtain ⟨k, rfl⟩ : ∃ k', k = k' + 1 := ⟨k - 1, by omega⟩
    rw [lp_succ]
    have hi := drop_cons_lt h
    have hk2 : es.length < k := Nat.lt_of_succ_lt_succ hk
    have key := fun (_ : Unit) => ih (i + 1) k (drop_cons_next h) hk2
    generalize lp sign_find_L0 k = rec at key ⊢
    unfold sign_find_L0 sign_find_L0_go
    simp only [lt_true hi, cond_true, gx_nat, drop_cons_get h, Option.bind_some, wrap_i1 hi hl, key ()]
theorem sign_find_L0_go_at0 (s0 : (List QSym)) (s1 : Str) (hl : List.length s0 ≤ maxLen) : lp sign_find_L0 fuel (s0, s1, ((List.length s0 : Nat) : Int), 0) = sign_find_L0_go s1 s0 0 :=
  sign_find_L0_go_eq s0 s1 hl s0 0 fuel rfl (Nat.lt_of_le_of_lt hl (by decide))
def sign_May_L0_go (s0 : (List QSym)) : List QSym → Nat → Option (Unit ⊕ Bool)
  | [], i => some (Sum.inl ())
  | e :: es, i =>
    (sign_SymMay e.1 e.2.1 e.2.2.1 e.2.2.2).bind fun r7 =>
    cond (!r7)
    (some (Sum.inr false))
    ((sign_find s0 e.1).bind fun r9 =>
      cond (r9 != (i : Int))
      (some (Sum.inr false))
      (sign_May_L0_go s0 es (i + 1)))
theorem sign_May_L0_go_eq (s0 : (List QSym)) (hl : List.length s0 ≤ maxLen) : ∀ (es : List QSym) (i : Nat) (k : Nat), s0.drop i = es → es.length < k → lp sign_May_L0 k (s0, (i : Int)) = sign_May_L0_go s0 es i := by
  intro es
  induction es with
  | nil =>
    intro i k h hk
    obtain ⟨k, rfl⟩ : ∃ k', k = k' + 1 := ⟨k - 1, by omega⟩
    rw [lp_succ]
    generalize lp sign_May_L0 k = rec
    unfold sign_May_L0 sign_May_L0_go
    simp only [lt_false (drop_nil_le h), cond_false]
  | cons e es ih =>
    intro i k h hk
    obtain ⟨k, rfl⟩ : ∃ k', k = k' + 1 := ⟨k - 1, by omega⟩
    rw [lp_succ]
    have hi := drop_cons_lt h
    have hk2 : es.length < k := Nat.lt_of_succ_lt_succ hk
    have key := fun (_ : Unit) => ih (i + 1) k (drop_cons_next h) hk2
    generalize lp sign_May_L0 k = rec at key ⊢
    unfold sign_May_L0 sign_May_L0_go
    simp only [lt_true hi, cond_true, gx_nat, drop_cons_get h, Option.bind_some, wrap_i1 hi hl, key ()]
def law0_SameInts_L0_go (s1 : (List Int)) : List Int → Nat → Option (Unit ⊕ Bool)
  | [], i => some (Sum.inl ())
  | e :: es, i =>
    (gx s1 (i : Int)).bind fun e4 =>
    cond (e != e4)
    (some (Sum.inr false))
    (law0_SameInts_L0_go s1 es (i + 1))
theorem law0_SameInts_L0_go_eq (s0 : (List Int)) (s1 : (List Int)) (hl : List.length s0 ≤ maxLen) : ∀ (es : List Int) (i : Nat) (k : Nat), s0.drop i = es → es.length < k → lp law0_SameInts_L0 k (s0, s1, (i : Int)) = law0_SameInts_L0_go s1 es i := by
  intro es
  induction es with
  | nil =>
    intro i k h hk
    obtain ⟨k, rfl⟩ : ∃ k', k = k' + 1 := ⟨k - 1, by omega⟩
    rw [lp_succ]
    generalize lp law0_SameInts_L0 k = rec
    unfold law0_SameInts_L0 law0_SameInts_L0_go
    simp only [lt_false (drop_nil_le h), cond_false]
  | cons e es ih =>
    intro i k h hk
    obtain ⟨k, rfl⟩ : ∃ k', k = k' + 1 := ⟨k - 1, by omega⟩
    rw [lp_succ]
    have hi := drop_cons_lt h
    have hk2 : es.length < k := Nat.lt_of_succ_lt_succ hk
    have key := fun (_ : Unit) => ih (i + 1) k (drop_cons_next h) hk2
    generalize lp law0_SameInts_L0 k = rec at key ⊢
    unfold law0_SameInts_L0 law0_SameInts_L0_go
    simp only [lt_true hi, cond_true, gx_nat, drop_cons_get h, Option.bind_some, wrap_i1 hi hl, key ()]
theorem law0_SameInts_L0_go_at0 (s0 : (List Int)) (s1 : (List Int)) (hl : List.length s0 ≤ maxLen) : lp law0_SameInts_L0 fuel (s0, s1, 0) = law0_SameInts_L0_go s1 s0 0 :=
  law0_SameInts_L0_go_eq s0 s1 hl s0 0 fuel rfl (Nat.lt_of_le_of_lt hl (by decide))
end Go.Abs.Q
namespace Go.Abs.Q
open Go Go.Abs
section
def smallB (n : Int) : Bool := decide (97 ≤ n) && decide (n ≤ 122)
theorem sign_small_eq (n : Int) : sign_small n = some (smallB n) := by
  unfold sign_small smallB
  by_cases h : n ≥ 97 <;> simp [h]
def nameB (e : UInt8) : Bool := smallB ((UInt8.toNat e : Nat) : Int) || (decide (48 ≤ ((UInt8.toNat e : Nat) : Int)) && decide (((UInt8.toNat e : Nat) : Int) ≤ 57))
theorem called_go (es : List UInt8) : sign_called_L0_go es = some (cond (es.all nameB) (.inl ()) (.inr false)) := by
  induction es with
  | nil => rfl
  | cons e es ih =>
    unfold sign_called_L0_go
    rw [sign_small_eq, Option.bind_some, ih, List.all_cons]
    unfold nameB
    cases h : smallB ((UInt8.toNat e : Nat) : Int) with
    | true => simp
    | false =>
      by_cases h1 : ((UInt8.toNat e : Nat) : Int) < 48
      · have : ¬ (48 ≤ ((UInt8.toNat e : Nat) : Int)) := by omega
        simp only [Bool.not_false, cond_true, decide_eq_true h1, decide_eq_false this, Bool.false_and, Bool.or_false, cond_false]
      · have h3 : 48 ≤ ((UInt8.toNat e : Nat) : Int) := by omega
        by_cases h2 : ((UInt8.toNat e : Nat) : Int) > 57
        · have : ¬ (((UInt8.toNat e : Nat) : Int) ≤ 57) := by omega
          simp only [Bool.not_false, cond_true, decide_eq_false h1, decide_eq_true h2, decide_eq_false this, Bool.and_false, Bool.false_and, Bool.or_false, cond_false]
        · have h4 : ((UInt8.toNat e : Nat) : Int) ≤ 57 := by omega
          simp only [Bool.not_false, cond_true, decide_eq_false h1, decide_eq_false h2, decide_eq_true h3, decide_eq_true h4, Bool.and_true, Bool.true_and, Bool.or_true, cond_false]
def calledB (s : Str) : Bool := match s with
  | [] => false
  | c :: _ => decide (s.length ≤ 8) && smallB ((UInt8.toNat c : Nat) : Int) && s.all nameB
theorem sign_called_eq (s : Str) : sign_called s = some (calledB s) := by
  unfold sign_called calledB
  cases s with
  | nil => rfl
  | cons c r =>
    rw [show ((c :: r : Str) == ([] : Str)) = false from rfl, cond_false]
    by_cases h : (c :: r).length ≤ 8
    · have h1 : ¬ (((List.length (c :: r) : Nat) : Int) > 8) := by omega
      rw [decide_eq_false h1, cond_false, gx_zero, List.getElem?_cons_zero, Option.bind_some, sign_small_eq, Option.bind_some, sign_called_L0_go_at0 _ (by unfold maxLen; omega), called_go, decide_eq_true h]
      dsimp only
      cases smallB ((UInt8.toNat c : Nat) : Int) with
      | false => rfl
      | true => cases (c :: r).all nameB <;> rfl
    · have h1 : ((List.length (c :: r) : Nat) : Int) > 8 := by omega
      rw [decide_eq_true h1, decide_eq_false h]
      rfl
def symB (e : QSym) : Bool := calledB e.1 && decide (0 ≤ e.2.1) && decide (e.2.1 ≤ 2) && decide (0 ≤ e.2.2.1) && decide (e.2.2.1 ≤ 3) && decide (1 ≤ e.2.2.2) && decide (e.2.2.2 ≤ 20)
theorem sign_SymMay_eq (e : QSym) : sign_SymMay e.1 e.2.1 e.2.2.1 e.2.2.2 = some (symB e) := by
  unfold sign_SymMay symB
  rw [sign_called_eq, Option.bind_some]
  cases calledB e.1 <;> simp only [cond_true, cond_false, Bool.true_and, Bool.false_and, ge_iff_le]
  cases decide (0 ≤ e.2.1) <;> simp only [cond_true, cond_false, Bool.true_and, Bool.false_and]
  cases decide (e.2.1 ≤ 2) <;> simp only [cond_true, cond_false, Bool.true_and, Bool.false_and]
  cases decide (0 ≤ e.2.2.1) <;> simp only [cond_true, cond_false, Bool.true_and, Bool.false_and]
  cases decide (e.2.2.1 ≤ 3) <;> simp only [cond_true, cond_false, Bool.true_and, Bool.false_and]
  cases decide (1 ≤ e.2.2.2) <;> simp only [cond_true, cond_false, Bool.true_and, Bool.false_and]
def idxI (o : Option Nat) : Int := match o with
  | some i => (i : Int)
  | none => -1
theorem find_go (nm : Str) (es : List QSym) (i : Nat) : sign_find_L0_go nm es i = some (match es.findIdx? (fun e => e.1 == nm) with
    | some j => .inr ((i + j : Nat) : Int)
    | none => .inl ()) := by
  induction es generalizing i with
  | nil => rfl
  | cons e es ih =>
    unfold sign_find_L0_go
    rw [List.findIdx?_cons]
    cases h : (e.1 == nm) with
    | true => simp
    | false =>
      rw [cond_false, ih]
      cases es.findIdx? (fun e => e.1 == nm) with
      | none => rfl
      | some j => simp; omega
theorem sign_find_eq (a0 : List QSym) (nm : Str) (h : a0.length ≤ maxLen) : sign_find a0 nm = some (idxI (a0.findIdx? (fun e => e.1 == nm))) := by
  unfold sign_find
  rw [sign_find_L0_go_at0 _ _ h, find_go]
  cases a0.findIdx? (fun e => e.1 == nm) with
  | none => rfl
  | some j => simp [caseS, idxI]
def mayGo (a0 : List QSym) : List QSym → Nat → Bool
  | [], _ => true
  | e :: es, i => symB e && (idxI (a0.findIdx? (fun d => d.1 == e.1)) == (i : Int)) && mayGo a0 es (i + 1)
theorem may_go (a0 : List QSym) (h : a0.length ≤ maxLen) (es : List QSym) (i : Nat) : sign_May_L0_go a0 es i = some (cond (mayGo a0 es i) (.inl ()) (.inr false)) := by
  induction es generalizing i with
  | nil => rfl
  | cons e es ih =>
    unfold sign_May_L0_go mayGo
    rw [sign_SymMay_eq, Option.bind_some, sign_find_eq _ _ h, Option.bind_some, ih, bne]
    cases symB e with
    | false => rfl
    | true =>
      cases (idxI (a0.findIdx? (fun d => d.1 == e.1)) == (i : Int)) with
      | false => rfl
      | true => simp
def equalsQ : QSym := ([61], 0, 2, 1)
def eqQ (e : QSym) : Bool := cond (eqS e.1 [61]) (cond (eqI e.2.1 0) (cond (eqI e.2.2.1 2) (cond (eqI e.2.2.2 1) true false) false) false) false
theorem eqQ_iff (e : QSym) : eqQ e = true ↔ e = equalsQ := by
  obtain ⟨a, b, c, d⟩ := e
  unfold eqQ equalsQ eqS eqI
  cases h1 : (a == ([61] : List UInt8)) <;> cases h2 : (b == 0) <;> cases h3 : (c == 2) <;> cases h4 : (d == 1) <;> simp_all
def signB (a0 : List QSym) : Bool := match a0 with
  | [] => false
  | e :: es => decide (a0.length ≤ 20) && eqQ e && mayGo a0 es 1
theorem sign_May_eq (a0 : List QSym) : sign_May a0 = some (signB a0) := by
  unfold sign_May signB
  cases a0 with
  | nil => rfl
  | cons e es =>
    rw [decide_eq_false (show ¬ (((List.length (e :: es) : Nat) : Int) < 1) by rw [List.length_cons]; omega), cond_false]
    by_cases h : (e :: es).length ≤ 20
    · have h1 : ¬ (((List.length (e :: es) : Nat) : Int) > 20) := by omega
      have hm : (e :: es).length ≤ maxLen := by unfold maxLen; omega
      rw [decide_eq_false h1, cond_false, gx_zero, List.getElem?_cons_zero, Option.bind_some, decide_eq_true h]
      show cond (!(eqQ e)) _ _ = some (true && eqQ e && mayGo (e :: es) es 1)
      cases eqQ e with
      | false => rfl
      | true =>
        have := sign_May_L0_go_eq (e :: es) hm es 1 fuel rfl (by simp [fuel]; simp at h; omega)
        simp only [Bool.not_true, cond_false]
        rw [show ((1 : Int)) = ((1 : Nat) : Int) from rfl, this, may_go _ hm]
        cases mayGo (e :: es) es 1 <;> rfl
    · have h1 : ((List.length (e :: es) : Nat) : Int) > 20 := by omega
      rw [decide_eq_true h1, decide_eq_false h]
      rfl
theorem mayGo_at {a0 : List QSym} : {es : List QSym} → {i : Nat} → mayGo a0 es i = true → ∀ (j : Nat) e, es[j]? = some e → symB e = true ∧ idxI (a0.findIdx? (fun d => d.1 == e.1)) = ((i + j : Nat) : Int)
  | [], _, _, j, e, he => by simp at he
  | d :: es, i, h, 0, e, he => by
    injection he with he; subst he
    simp only [mayGo, Bool.and_eq_true] at h
    exact ⟨h.1.1, by simpa using h.1.2⟩
  | d :: es, i, h, j + 1, e, he => by
    simp only [mayGo, Bool.and_eq_true] at h
    have := mayGo_at h.2 j e (by simpa using he)
    exact ⟨this.1, by rw [this.2]; omega⟩
structure SignOk (a0 : List QSym) : Prop where
  pos : 1 ≤ a0.length
  len : a0.length ≤ 20
  eq : a0[0]? = some equalsQ
  sym : ∀ (i : Nat) e, a0[i + 1]? = some e → symB e = true ∧ idxI (a0.findIdx? (fun d => d.1 == e.1)) = ((i + 1 : Nat) : Int)
theorem signB_ok {a0 : List QSym} (h : signB a0 = true) : SignOk a0 := by
  unfold signB at h
  cases a0 with
  | nil => cases h
  | cons e es =>
    simp only [Bool.and_eq_true, decide_eq_true_eq] at h
    exact ⟨by simp, h.1.1, by rw [List.getElem?_cons_zero, (eqQ_iff e).1 h.1.2], fun i d hd => by
      have := mayGo_at h.2 i d (by simpa using hd)
      exact ⟨this.1, by rw [this.2]; omega⟩⟩
theorem SignOk.max {a0 : List QSym} (h : SignOk a0) : a0.length ≤ maxLen := Nat.le_trans h.len (by unfold maxLen; omega)
theorem symB_spec {e : QSym} (h : symB e = true) : calledB e.1 = true ∧ 0 ≤ e.2.1 ∧ e.2.1 ≤ 2 ∧ 0 ≤ e.2.2.1 ∧ e.2.2.1 ≤ 3 ∧ 1 ≤ e.2.2.2 ∧ e.2.2.2 ≤ 20 := by
  unfold symB at h
  simp only [Bool.and_eq_true, decide_eq_true_eq] at h
  exact ⟨h.1.1.1.1.1.1, h.1.1.1.1.1.2, h.1.1.1.1.2, h.1.1.1.2, h.1.1.2, h.1.2, h.2⟩
theorem calledB_len {s : Str} (h : calledB s = true) : 1 ≤ s.length ∧ s.length ≤ 8 := by
  unfold calledB at h
  cases s with
  | nil => cases h
  | cons c r =>
    simp only [Bool.and_eq_true, decide_eq_true_eq] at h
    exact ⟨by simp, h.1.1⟩
theorem SignOk.at {a0 : List QSym} (h : SignOk a0) {i : Nat} {e : QSym} (he : a0[i]? = some e) : 1 ≤ e.1.length ∧ e.1.length ≤ 8 ∧ 0 ≤ e.2.1 ∧ e.2.1 ≤ 2 ∧ 0 ≤ e.2.2.1 ∧ e.2.2.1 ≤ 3 := by
  cases i with
  | zero =>
    rw [h.eq] at he
    injection he with he; subst he
    decide
  | succ i =>
    obtain ⟨h1, h2, h3, h4, h5, _⟩ := symB_spec (h.sym i e he).1
    have := calledB_len h1
    exact ⟨this.1, this.2, h2, h3, h4, h5⟩
def arity (a0 : List QSym) (x : Int) : Option Nat :=
  cond (decide (x < 0)) (cond (decide (-24 ≤ x)) (some 0) none) (match a0[x.toNat]? with
    | some e => cond (e.2.1 == 0) none (some e.2.2.1.toNat)
    | none => none)
theorem term_Number_eq {x : Int} (h1 : -9223372036854775808 ≤ x) (h2 : x ≤ 9223372036854775807) : term_Number x = some (-1 - x) := by
  unfold term_Number
  rw [wrap64] <;> omega
def sk (a0 : List QSym) : Nat → List Int → Option Nat
  | 0, _ => some 0
  | _ + 1, [] => none
  | n + 1, x :: xs => match arity a0 x with
    | none => none
    | some k => (sk a0 (n + k) xs).map (· + 1)
theorem sk_le {a0 : List QSym} : {xs : List Int} → {n k : Nat} → sk a0 n xs = some k → k ≤ xs.length ∧ (0 < n → 0 < k) ∧ n ≤ k
  | [], 0, k, h => by simp [sk] at h; omega
  | [], n + 1, k, h => by simp [sk] at h
  | x :: xs, 0, k, h => by simp [sk] at h; omega
  | x :: xs, n + 1, k, h => by
    unfold sk at h
    cases ha : arity a0 x with
    | none => rw [ha] at h; cases h
    | some m =>
      rw [ha] at h
      simp only [Option.map_eq_some_iff] at h
      obtain ⟨j, hj, rfl⟩ := h
      have := sk_le hj
      rw [List.length_cons]
      omega
end
end Go.Abs.Q
namespace Go.Abs.Q
open Go Go.Abs
section
def cutsN (a0 : List QSym) : Nat → List Int → Option (List (List Int))
  | _, [] => some []
  | 0, _ :: _ => none
  | n + 1, x :: xs => match sk a0 1 (x :: xs) with
    | none => none
    | some k => (cutsN a0 n ((x :: xs).drop k)).map ((x :: xs).take k :: ·)
def cuts (a0 : List QSym) (xs : List Int) : Option (List (List Int)) := cutsN a0 xs.length xs
theorem cutsN_more {a0 : List QSym} : {n m : Nat} → {xs : List Int} → xs.length ≤ n → n ≤ m → cutsN a0 m xs = cutsN a0 n xs
  | n, m, [], _, _ => by cases n <;> cases m <;> rfl
  | 0, _, _ :: _, h, _ => by simp at h
  | n + 1, 0, _ :: _, _, h => by omega
  | n + 1, m + 1, x :: xs, h, hm => by
    unfold cutsN
    cases hk : sk a0 1 (x :: xs) with
    | none => rfl
    | some k =>
      have := sk_le hk
      simp only
      rw [cutsN_more (n := n) (m := m) (by simp at h ⊢; omega) (by omega)]
theorem cuts_step {a0 : List QSym} {xs : List Int} (h : xs ≠ []) : cuts a0 xs = match sk a0 1 xs with
    | none => none
    | some k => (cuts a0 (xs.drop k)).map (xs.take k :: ·) := by
  cases xs with
  | nil => exact absurd rfl h
  | cons x xs =>
    show cutsN a0 (xs.length + 1) (x :: xs) = _
    unfold cutsN
    cases hk : sk a0 1 (x :: xs) with
    | none => rfl
    | some k =>
      have := sk_le hk
      simp only
      unfold cuts
      rw [cutsN_more (n := ((x :: xs).drop k).length) (m := xs.length) (Nat.le_refl _) (by simp; omega)]
theorem room_ok {n b : Nat} (h : n * b ≤ 140737488351232) : room n b = true := by simpa [room] using h
def beginsB (a0 : List QSym) (a1 : List Int) : Option (List (List Int)) := cond (signB a0 && decide (a1.length ≤ 48)) (cuts a0 a1) none
def atomB (a0 : List QSym) (xs : List Int) : Bool := match xs with
  | [] => false
  | x :: r => decide (0 ≤ x) && (match a0[x.toNat]? with
    | none => false
    | some e => (e.2.1 == 0) && (match beginsB a0 r with
      | none => false
      | some ps => ((ps.length : Nat) : Int) == e.2.2.1))
theorem slc_tail {α : Type} (x : α) (r : List α) : slc2 (x :: r) (some 1) none = some r := by
  show slc (x :: r) 1 ((x :: r).length : Int) = some r
  unfold slc
  simp only [List.length_cons]
  rw [decide_eq_true (show (0 : Int) ≤ 1 by omega), decide_eq_true (show (1 : Int) ≤ ((r.length + 1 : Nat) : Int) by omega), decide_eq_true (show ((r.length + 1 : Nat) : Int) ≤ ((r.length + 1 : Nat) : Int) by omega)]
  simp
theorem atomB_len {a0 : List QSym} {xs : List Int} (h : atomB a0 xs = true) : xs.length ≤ 49 := by
  unfold atomB at h
  cases xs with
  | nil => cases h
  | cons x r =>
    simp only [Bool.and_eq_true] at h
    cases he : a0[x.toNat]? with
    | none => rw [he] at h; simp at h
    | some e =>
      rw [he] at h
      simp only [Bool.and_eq_true] at h
      cases hb : beginsB a0 r with
      | none => rw [hb] at h; simp at h
      | some ps =>
        unfold beginsB at hb
        cases hl : decide (r.length ≤ 48) with
        | false => rw [hl, Bool.and_false] at hb; cases hb
        | true => rw [decide_eq_true_eq] at hl; simp; omega
end
end Go.Abs.Q
namespace Go.Abs.Q
open Go Go.Abs
section
theorem sk_add {a0 : List QSym} : {xs : List Int} → {n m k : Nat} → sk a0 (n + m) xs = some k → ∃ j, sk a0 n xs = some j ∧ j ≤ k ∧ sk a0 m (xs.drop j) = some (k - j)
  | xs, 0, m, k, h => ⟨0, by cases xs <;> rfl, Nat.zero_le _, by simpa using h⟩
  | [], n + 1, m, k, h => by rw [show n + 1 + m = n + m + 1 from by omega] at h; simp [sk] at h
  | x :: xs, n + 1, m, k, h => by
    rw [show n + 1 + m = n + m + 1 from by omega] at h
    unfold sk at h
    cases ha : arity a0 x with
    | none => rw [ha] at h; cases h
    | some q =>
      rw [ha] at h
      simp only [Option.map_eq_some_iff] at h
      obtain ⟨j, hj, rfl⟩ := h
      rw [show n + m + q = (n + q) + m from by omega] at hj
      obtain ⟨i, h1, h2, h3⟩ := sk_add hj
      refine ⟨i + 1, ?_, by omega, ?_⟩
      · unfold sk; rw [ha]; simp only [h1, Option.map_some]
      · rw [List.drop_succ_cons, h3]; congr 1; omega
theorem cuts_sk {a0 : List QSym} : ∀ (n : Nat) (xs : List Int), sk a0 n xs = some xs.length → ∃ ps, cuts a0 xs = some ps ∧ ps.length = n := by
  intro n
  induction n with
  | zero =>
    intro xs h
    have : xs.length = 0 := by cases xs <;> simp [sk] at h ⊢
    obtain rfl := List.length_eq_zero_iff.1 this
    exact ⟨[], rfl, rfl⟩
  | succ n ih =>
    intro xs h
    rw [Nat.add_comm] at h
    obtain ⟨j, h1, h2, h3⟩ := sk_add h
    have hj := sk_le h1
    have hne : xs ≠ [] := fun e => by subst e; simp at hj; omega
    obtain ⟨ps, h4, h5⟩ := ih (xs.drop j) (by rw [h3, List.length_drop])
    refine ⟨xs.take j :: ps, ?_, by simp [h5]⟩
    rw [cuts_step hne, h1]
    dsimp only
    rw [h4]; rfl
def nameOf (a0 : List QSym) (x : Int) : Str := match a0[x.toNat]? with
  | some e => e.1
  | none => []
end
end Go.Abs.Q
namespace Go.Abs.Q
open Go Go.Abs
section
end
end Go.Abs.Q
namespace Go.Abs.Q
open Go Go.Abs
section
def hit (p s : Str) : Nat := cond (List.isPrefixOf p s && decide (4 ≤ s.length)) 1 0
def occ (p : Str) : Str → Nat
  | [] => 0
  | c :: r => hit p (c :: r) + occ p r
def bad (t : UInt8) : Bool := t == 111 || t == 114 || t == 105 || t == 102 || t == 38
def HeadOk (c : Str) : Prop := ∀ t r, c = t :: r → bad t = false
structure Wd (w : Str) : Prop where
  ne : w ≠ []
  ch : ∀ c ∈ w, c ≠ 32 ∧ c ≠ 38
  o : w ≠ [111, 114]
  i : w ≠ [105, 102]
structure Quiet (p : Str) (t : Str) : Prop where
  occ : ∀ c, occ p (t ++ c) = Q.occ p c
  hit : ∀ c, HeadOk c → hit p (32 :: (t ++ c)) = 0
def Words (a0 : List QSym) : Prop := ∀ (i : Nat) e, a0[i]? = some e → Wd e.1
structure QuietA (p : Str) (t : Str) : Prop where
  occ : ∀ c, HeadOk c → occ p (t ++ c) = Q.occ p c
  hit : ∀ c, HeadOk c → hit p (32 :: (t ++ c)) = 0
theorem Quiet.a {p t : Str} (h : Quiet p t) : QuietA p t := ⟨fun c _ => h.occ c, h.hit⟩
end
end Go.Abs.Q
namespace Go.Abs.Q
open Go Go.Abs
section
theorem slc_at {α : Type} (s : List α) {i j : Nat} (hij : i ≤ j) (h : j ≤ s.length) : slc2 s (some (i : Int)) (some (j : Int)) = some ((s.drop i).take (j - i)) := by
  show slc s _ _ = _
  unfold slc
  rw [decide_eq_true (show (0 : Int) ≤ (i : Int) by omega), decide_eq_true (show (i : Int) ≤ (j : Int) by omega), decide_eq_true (show (j : Int) ≤ ((s.length : Nat) : Int) by omega)]
  simp only [cond_true, Int.toNat_natCast, Option.some.injEq]
  rw [List.drop_take]
end
end Go.Abs.Q
namespace Go.Abs.Q
open Go Go.Abs
def ref1_small (a0 : Int) : Option Bool :=
  cond (decide (a0 ≥ 97))
  (some (decide (a0 ≤ 122)))
  (some false)
def ref1_SymMay_L0 (rec : (Int × Str × Int × Int × Int) → Option (Unit ⊕ Bool)) (x : (Int × Str × Int × Int × Int)) : Option (Unit ⊕ Bool) :=
  cond (decide (x.1 < ((List.length x.2.1 : Nat) : Int)))
  ((gx x.2.1 x.1).bind fun c7 =>
    (ref1_small ((UInt8.toNat c7 : Nat) : Int)).bind fun r8 =>
    cond (!r8)
    ((gx x.2.1 x.1).bind fun c9 =>
      cond (decide (((UInt8.toNat c9 : Nat) : Int) < 48))
      (some (Sum.inr false))
      ((gx x.2.1 x.1).bind fun c10 =>
        cond (decide (((UInt8.toNat c10 : Nat) : Int) > 57))
        (some (Sum.inr false))
        (rec ((IntKind.wrap .i64 (x.1 + 1)), x.2.1, x.2.2.1, x.2.2.2.1, x.2.2.2.2))))
    (rec ((IntKind.wrap .i64 (x.1 + 1)), x.2.1, x.2.2.1, x.2.2.2.1, x.2.2.2.2)))
  (some (Sum.inl ()))
def ref1_SymMay (a0 : Str) (a1 : Int) (a2 : Int) (a3 : Int) : Option Bool :=
  cond (decide (((List.length a0 : Nat) : Int) < 1))
  (some false)
  (cond (decide (((List.length a0 : Nat) : Int) > 8))
    (some false)
    ((gx a0 0).bind fun c14 =>
      (ref1_small ((UInt8.toNat c14 : Nat) : Int)).bind fun r15 =>
      cond (!r15)
      (some false)
      (((lp ref1_SymMay_L0 fuel) (0, a0, a1, a2, a3)).bind fun r16 =>
        caseS r16
        (fun z17 => cond (decide (a1 ≥ 0))
          (cond (decide (a1 ≤ 2))
            (cond (decide (a2 ≥ 0))
              (cond (decide (a2 ≤ 3))
                (cond (decide (a3 ≥ 1))
                  (some (decide (a3 ≤ 20)))
                  (some false))
                (some false))
              (some false))
            (some false))
          (some false))
        (fun z18 => some z18))))
def ref1_Code_L0 (rec : ((List QSym) × Str × Int) → Option (Unit ⊕ Int)) (x : ((List QSym) × Str × Int)) : Option (Unit ⊕ Int) :=
  cond (decide (x.2.2 < ((List.length x.1 : Nat) : Int)))
  ((gx x.1 x.2.2).bind fun e2 =>
    cond (e2.1 == x.2.1)
    (some (Sum.inr x.2.2))
    (rec (x.1, x.2.1, (IntKind.wrap .i64 (x.2.2 + 1)))))
  (some (Sum.inl ()))
def ref1_Code (a0 : (List QSym)) (a1 : Str) : Option Int :=
  ((lp ref1_Code_L0 fuel) (a0, a1, 0)).bind fun r6 =>
  caseS r6
  (fun z7 => some (-1))
  (fun z8 => some z8)
def ref1_SignMay_L0 (rec : ((List QSym) × Int) → Option (Unit ⊕ Bool)) (x : ((List QSym) × Int)) : Option (Unit ⊕ Bool) :=
  cond (decide (x.2 < ((List.length x.1 : Nat) : Int)))
  ((gx x.1 x.2).bind fun e6 =>
    (ref1_SymMay e6.1 e6.2.1 e6.2.2.1 e6.2.2.2).bind fun r7 =>
    cond (!r7)
    (some (Sum.inr false))
    ((gx x.1 x.2).bind fun e8 =>
      (ref1_Code x.1 e8.1).bind fun r9 =>
      cond (r9 != x.2)
      (some (Sum.inr false))
      (rec (x.1, (IntKind.wrap .i64 (x.2 + 1))))))
  (some (Sum.inl ()))
def ref1_SignMay (a0 : (List QSym)) : Option Bool :=
  cond (decide (((List.length a0 : Nat) : Int) < 1))
  (some false)
  (cond (decide (((List.length a0 : Nat) : Int) > 20))
    (some false)
    ((gx a0 0).bind fun e13 =>
      cond (!(cond (eqS e13.1 ([61] : Str)) (cond (eqI e13.2.1 0) (cond (eqI e13.2.2.1 2) (cond (eqI e13.2.2.2 1) true false) false) false) false))
      (some false)
      (((lp ref1_SignMay_L0 fuel) (a0, 1)).bind fun r14 =>
        caseS r14
        (fun z15 => some true)
        (fun z16 => some z16))))
end Go.Abs.Q
namespace Go.Abs.Q
open Go Go.Abs
def ref1_SymMay_L0_go : List UInt8 → Option (Unit ⊕ Bool)
  | [] => some (Sum.inl ())
  | e :: es =>
    (ref1_small ((UInt8.toNat e : Nat) : Int)).bind fun r8 =>
    cond (!r8)
    (cond (decide (((UInt8.toNat e : Nat) : Int) < 48))
      (some (Sum.inr false))
      (cond (decide (((UInt8.toNat e : Nat) : Int) > 57))
        (some (Sum.inr false))
        (ref1_SymMay_L0_go es)))
    (ref1_SymMay_L0_go es)
theorem ref1_SymMay_L0_go_eq (s1 : Str) (s2 : Int) (s3 : Int) (s4 : Int) (hl : List.length s1 ≤ maxLen) : ∀ (es : List UInt8) (i : Nat) (k : Nat), s1.drop i = es → es.length < k → lp ref1_SymMay_L0 k ((i : Int), s1, s2, s3, s4) = ref1_SymMay_L0_go es := by
  intro es
  induction es with
  | nil =>
    intro i k h hk
    obtain ⟨k, rfl⟩ : ∃ k', k = k' + 1 := ⟨k - 1, by omega⟩
    rw [lp_succ]
    generalize lp ref1_SymMay_L0 k = rec
    unfold ref1_SymMay_L0 ref1_SymMay_L0_go
    simp only [lt_false (drop_nil_le h), cond_false]
  | cons e es ih =>
    intro i k h hk
    obtain ⟨k, rfl⟩ : ∃ k', k = k' + 1 := ⟨k - 1, by omega⟩
    rw [lp_succ]
    have hi := drop_cons_lt h
    have hk2 : es.length < k := Nat.lt_of_succ_lt_succ hk
    have key := fun (_ : Unit) => ih (i + 1) k (drop_cons_next h) hk2
    generalize lp ref1_SymMay_L0 k = rec at key ⊢
    unfold ref1_SymMay_L0 ref1_SymMay_L0_go
    simp only [lt_true hi, cond_true, gx_nat, drop_cons_get h, Option.bind_some, wrap_i1 hi hl, key ()]
theorem ref1_SymMay_L0_go_at0 (s1 : Str) (s2 : Int) (s3 : Int) (s4 : Int) (hl : List.length s1 ≤ maxLen) : lp ref1_SymMay_L0 fuel (0, s1, s2, s3, s4) = ref1_SymMay_L0_go s1 :=
  ref1_SymMay_L0_go_eq s1 s2 s3 s4 hl s1 0 fuel rfl (Nat.lt_of_le_of_lt hl (by decide))
def ref1_Code_L0_go (s1 : Str) : List QSym → Nat → Option (Unit ⊕ Int)
  | [], i => some (Sum.inl ())
  | e :: es, i =>
    cond (e.1 == s1)
    (some (Sum.inr (i : Int)))
    (ref1_Code_L0_go s1 es (i + 1))
theorem ref1_Code_L0_go_eq (s0 : (List QSym)) (s1 : Str) (hl : List.length s0 ≤ maxLen) : ∀ (es : List QSym) (i : Nat) (k : Nat), s0.drop i = es → es.length < k → lp ref1_Code_L0 k (s0, s1, (i : Int)) = ref1_Code_L0_go s1 es i := by
  intro es
  induction es with
  | nil =>
    intro i k h hk
    obtain ⟨k, rfl⟩ : ∃ k', k = k' + 1 := ⟨k - 1, by omega⟩
    rw [lp_succ]
    generalize lp ref1_Code_L0 k = rec
    unfold ref1_Code_L0 ref1_Code_L0_go
    simp only [lt_false (drop_nil_le h), cond_false]
  | cons e es ih =>
    intro i k h hk
    obtain ⟨k, rfl⟩ : ∃ k', k = k' + 1 := ⟨k - 1, by omega⟩
    rw [lp_succ]
    have hi := drop_cons_lt h
    have hk2 : es.length < k := Nat.lt_of_succ_lt_succ hk
    have key := fun (_ : Unit) => ih (i + 1) k (drop_cons_next h) hk2
    generalize lp ref1_Code_L0 k = rec at key ⊢
    unfold ref1_Code_L0 ref1_Code_L0_go
    simp only [lt_true hi, cond_true, gx_nat, drop_cons_get h, Option.bind_some, wrap_i1 hi hl, key ()]
theorem ref1_Code_L0_go_at0 (s0 : (List QSym)) (s1 : Str) (hl : List.length s0 ≤ maxLen) : lp ref1_Code_L0 fuel (s0, s1, 0) = ref1_Code_L0_go s1 s0 0 :=
  ref1_Code_L0_go_eq s0 s1 hl s0 0 fuel rfl (Nat.lt_of_le_of_lt hl (by decide))
def ref1_SignMay_L0_go (s0 : (List QSym)) : List QSym → Nat → Option (Unit ⊕ Bool)
  | [], i => some (Sum.inl ())
  | e :: es, i =>
    (ref1_SymMay e.1 e.2.1 e.2.2.1 e.2.2.2).bind fun r7 =>
    cond (!r7)
    (some (Sum.inr false))
    ((ref1_Code s0 e.1).bind fun r9 =>
      cond (r9 != (i : Int))
      (some (Sum.inr false))
      (ref1_SignMay_L0_go s0 es (i + 1)))
theorem ref1_SignMay_L0_go_eq (s0 : (List QSym)) (hl : List.length s0 ≤ maxLen) : ∀ (es : List QSym) (i : Nat) (k : Nat), s0.drop i = es → es.length < k → lp ref1_SignMay_L0 k (s0, (i : Int)) = ref1_SignMay_L0_go s0 es i := by
  intro es
  induction es with
  | nil =>
    intro i k h hk
    obtain ⟨k, rfl⟩ : ∃ k', k = k' + 1 := ⟨k - 1, by omega⟩
    rw [lp_succ]
    generalize lp ref1_SignMay_L0 k = rec
    unfold ref1_SignMay_L0 ref1_SignMay_L0_go
    simp only [lt_false (drop_nil_le h), cond_false]
  | cons e es ih =>
    intro i k h hk
    obtain ⟨k, rfl⟩ : ∃ k', k = k' + 1 := ⟨k - 1, by omega⟩
    rw [lp_succ]
    have hi := drop_cons_lt h
    have hk2 : es.length < k := Nat.lt_of_succ_lt_succ hk
    have key := fun (_ : Unit) => ih (i + 1) k (drop_cons_next h) hk2
    generalize lp ref1_SignMay_L0 k = rec at key ⊢
    unfold ref1_SignMay_L0 ref1_SignMay_L0_go
    simp only [lt_true hi, cond_true, gx_nat, drop_cons_get h, Option.bind_some, wrap_i1 hi hl, key ()]
end Go.Abs.Q
namespace Go.Abs.Q
open Go Go.Abs
section
theorem ref1_small_eq (n : Int) : ref1_small n = some (smallB n) := sign_small_eq n
theorem rcalled_go (es : List UInt8) : ref1_SymMay_L0_go es = some (cond (es.all nameB) (.inl ()) (.inr false)) := by
  have : ∀ es, ref1_SymMay_L0_go es = sign_called_L0_go es := by
    intro es
    induction es with
    | nil => rfl
    | cons e es ih =>
      unfold ref1_SymMay_L0_go sign_called_L0_go
      rw [ref1_small_eq, sign_small_eq, ih]
  rw [this, called_go]
theorem ref1_SymMay_eq (e : QSym) : ref1_SymMay e.1 e.2.1 e.2.2.1 e.2.2.2 = some (symB e) := by
  obtain ⟨s, a, b, c⟩ := e
  unfold ref1_SymMay symB calledB
  dsimp only
  cases s with
  | nil => rfl
  | cons x r =>
    rw [decide_eq_false (show ¬ (((List.length (x :: r) : Nat) : Int) < 1) by rw [List.length_cons]; omega), cond_false]
    by_cases h : (x :: r).length ≤ 8
    · rw [decide_eq_false (show ¬ (((List.length (x :: r) : Nat) : Int) > 8) by omega), cond_false, gx_zero, List.getElem?_cons_zero, Option.bind_some, ref1_small_eq, Option.bind_some, ref1_SymMay_L0_go_at0 _ _ _ _ (by unfold maxLen; omega), rcalled_go, decide_eq_true h]
      dsimp only
      cases smallB ((UInt8.toNat x : Nat) : Int) with
      | false => rfl
      | true =>
        cases (x :: r).all nameB with
        | false => rfl
        | true =>
          simp only [Bool.not_true, cond_false, cond_true, Option.bind_some, caseS_inl, Bool.true_and, Bool.and_true, ge_iff_le]
          cases decide (0 ≤ a) <;> simp only [cond_true, cond_false, Bool.true_and, Bool.false_and]
          cases decide (a ≤ 2) <;> simp only [cond_true, cond_false, Bool.true_and, Bool.false_and]
          cases decide (0 ≤ b) <;> simp only [cond_true, cond_false, Bool.true_and, Bool.false_and]
          cases decide (b ≤ 3) <;> simp only [cond_true, cond_false, Bool.true_and, Bool.false_and]
          cases decide (1 ≤ c) <;> simp only [cond_true, cond_false, Bool.true_and, Bool.false_and]
    · rw [decide_eq_true (show (((List.length (x :: r) : Nat) : Int) > 8) by omega), decide_eq_false h]
      rfl
theorem ref1_Code_eq (a0 : List QSym) (nm : Str) (h : a0.length ≤ maxLen) : ref1_Code a0 nm = some (idxI (a0.findIdx? (fun e => e.1 == nm))) := by
  have : ∀ es i, ref1_Code_L0_go nm es i = sign_find_L0_go nm es i := by
    intro es
    induction es with
    | nil => intro i; rfl
    | cons e es ih => intro i; unfold ref1_Code_L0_go sign_find_L0_go; rw [ih]
  unfold ref1_Code
  rw [ref1_Code_L0_go_at0 _ _ h, this, find_go]
  cases a0.findIdx? (fun e => e.1 == nm) with
  | none => rfl
  | some j => simp [caseS, idxI]
theorem rmay_go (a0 : List QSym) (h : a0.length ≤ maxLen) (es : List QSym) (i : Nat) : ref1_SignMay_L0_go a0 es i = some (cond (mayGo a0 es i) (.inl ()) (.inr false)) := by
  induction es generalizing i with
  | nil => rfl
  | cons e es ih =>
    unfold ref1_SignMay_L0_go mayGo
    rw [ref1_SymMay_eq, Option.bind_some, ref1_Code_eq _ _ h, Option.bind_some, ih, bne]
    cases symB e with
    | false => rfl
    | true =>
      cases (idxI (a0.findIdx? (fun d => d.1 == e.1)) == (i : Int)) with
      | false => rfl
      | true => simp
theorem ref1_SignMay_eq (a0 : List QSym) : ref1_SignMay a0 = some (signB a0) := by
  unfold ref1_SignMay signB
  cases a0 with
  | nil => rfl
  | cons e es =>
    rw [decide_eq_false (show ¬ (((List.length (e :: es) : Nat) : Int) < 1) by rw [List.length_cons]; omega), cond_false]
    by_cases h : (e :: es).length ≤ 20
    · have h1 : ¬ (((List.length (e :: es) : Nat) : Int) > 20) := by omega
      have hm : (e :: es).length ≤ maxLen := by unfold maxLen; omega
      rw [decide_eq_false h1, cond_false, gx_zero, List.getElem?_cons_zero, Option.bind_some, decide_eq_true h]
      show cond (!(eqQ e)) _ _ = some (true && eqQ e && mayGo (e :: es) es 1)
      cases eqQ e with
      | false => rfl
      | true =>
        have := ref1_SignMay_L0_go_eq (e :: es) hm es 1 fuel rfl (by simp [fuel]; simp at h; omega)
        simp only [Bool.not_true, cond_false]
        rw [show ((1 : Int)) = ((1 : Nat) : Int) from rfl, this, rmay_go _ hm]
        cases mayGo (e :: es) es 1 <;> rfl
    · have h1 : ((List.length (e :: es) : Nat) : Int) > 20 := by omega
      rw [decide_eq_true h1, decide_eq_false h]
      rfl
end
end Go.Abs.Q
namespace Go.Abs.Q
open Go Go.Abs
section
end
end Go.Abs.Q
namespace Go.Abs.Q
open Go Go.Abs
section
end
end Go.Abs.Q
namespace Go.Abs.Q
open Go Go.Abs
section
theorem sameInts_go (ys : List Int) : (es : List Int) → (i : Nat) → es.length = (ys.drop i).length → law0_SameInts_L0_go ys es i = some (cond (decide (es = ys.drop i)) (.inl ()) (.inr false))
  | [], i, h => by
    have : ys.drop i = [] := List.length_eq_zero_iff.1 h.symm
    rw [this]; rfl
  | e :: es, i, h => by
    unfold law0_SameInts_L0_go
    rw [List.length_cons, List.length_drop] at h
    have hi : i < ys.length := by omega
    rw [gx_nat, List.getElem?_eq_getElem hi, Option.bind_some, List.drop_eq_getElem_cons hi, sameInts_go ys es (i + 1) (by rw [List.length_drop]; omega)]
    generalize ys[i] = y
    by_cases he : e = y
    · subst he
      rw [show (e != e) = false from by simp, cond_false]
      simp
    · rw [show (e != y) = true from by simpa using he, cond_true]
      rw [decide_eq_false (by intro h; injection h with h1 h2; exact he h1)]
      rfl
theorem law0_SameInts_eq {xs ys : List Int} (h : xs.length ≤ maxLen) : law0_SameInts xs ys = some (decide (xs = ys)) := by
  unfold law0_SameInts
  by_cases hl : xs.length = ys.length
  · rw [show (((List.length xs : Nat) : Int) != ((List.length ys : Nat) : Int)) = false from by simp [hl], cond_false, law0_SameInts_L0_go_at0 _ _ h, sameInts_go ys xs 0 hl, List.drop_zero]
    cases decide (xs = ys) <;> rfl
  · rw [show (((List.length xs : Nat) : Int) != ((List.length ys : Nat) : Int)) = true from by simp; omega, cond_true, decide_eq_false (by intro h; subst h; exact hl rfl)]
theorem wt_len {α : Type} {f : α → Nat} (hf : ∀ x, 1 ≤ f x) (xs : List α) : xs.length ≤ (xs.map f).sum := by
  induction xs with
  | nil => simp
  | cons y ys ih =>
    simp only [List.map_cons, List.sum_cons, List.length_cons]
    have := hf y
    omega
end
end Go.Abs.Q
namespace Go.Abs.Q
open Go Go.Abs
def formula_SigMay_c1 (a0 : Str) (a1 : Int) (a2 : Int) (a3 : Int) : Option Bool :=
  cond (a0 == ([97, 108, 108] : Str))
  (some true)
  (some (a0 == ([101, 120] : Str)))
def slices_IndexFunc_5_L0 (rec : ((List QSym) × Int × Int) → Option (Unit ⊕ Int)) (x : ((List QSym) × Int × Int)) : Option (Unit ⊕ Int) :=
  cond (decide (x.2.2 < x.2.1))
  ((gx x.1 x.2.2).bind fun e3 =>
    (formula_SigMay_c1 e3.1 e3.2.1 e3.2.2.1 e3.2.2.2).bind fun r4 =>
    cond r4
    (some (Sum.inr x.2.2))
    (rec (x.1, x.2.1, (IntKind.wrap .i64 (x.2.2 + 1)))))
  (some (Sum.inl ()))
def slices_IndexFunc_5 (a0 : (List QSym)) : Option Int :=
  ((lp slices_IndexFunc_5_L0 fuel) (a0, ((List.length a0 : Nat) : Int), 0)).bind fun r8 =>
  caseS r8
  (fun z9 => some (-1))
  (fun z10 => some z10)
def slices_ContainsFunc_5 (a0 : (List QSym)) : Option Bool :=
  (slices_IndexFunc_5 a0).bind fun r2 =>
  some (decide (r2 ≥ 0))
def formula_SigMay (a0 : (List QSym)) : Option Bool :=
  (sign_May a0).bind fun r3 =>
  cond r3
  ((slices_ContainsFunc_5 a0).bind fun r4 =>
    some (!r4))
  (some false)
def formula_parts (a0 : Int) : Option Int :=
  cond (a0 == 0)
  (some 0)
  (cond (a0 == 1)
    (cond (a0 == 1)
      (some 1)
      (cond (a0 == 2)
        (cond (a0 == 2)
          (some 2)
          (some (-1)))
        (cond (a0 == 3)
          (cond (a0 == 3)
            (some 2)
            (some (-1)))
          (cond (a0 == 4)
            (some 2)
            (some (-1))))))
    (cond (a0 == 5)
      (cond (a0 == 5)
        (some 1)
        (cond (a0 == 2)
          (cond (a0 == 2)
            (some 2)
            (some (-1)))
          (cond (a0 == 3)
            (cond (a0 == 3)
              (some 2)
              (some (-1)))
            (cond (a0 == 4)
              (some 2)
              (some (-1))))))
      (cond (a0 == 6)
        (some 1)
        (cond (a0 == 2)
          (cond (a0 == 2)
            (some 2)
            (some (-1)))
          (cond (a0 == 3)
            (cond (a0 == 3)
              (some 2)
              (some (-1)))
            (cond (a0 == 4)
              (some 2)
              (some (-1))))))))
def formula_nodeMay (a0 : (List QSym)) (a1 : Int) (a2 : Int) (a3 : (List Int)) : Option Bool :=
  cond (a1 == 0)
  (cond (a2 == 0)
    ((term_IsAtom a0 a3).bind fun r2 =>
      some r2)
    (some false))
  (cond (a1 == 5)
    (cond (a1 == 5)
      (cond (decide (a2 ≥ 0))
        (cond (decide (a2 ≤ 23))
          (some (((List.length a3 : Nat) : Int) == 0))
          (some false))
        (some false))
      (cond (a2 == 0)
        (some (((List.length a3 : Nat) : Int) == 0))
        (some false)))
    (cond (a1 == 6)
      (cond (decide (a2 ≥ 0))
        (cond (decide (a2 ≤ 23))
          (some (((List.length a3 : Nat) : Int) == 0))
          (some false))
        (some false))
      (cond (a2 == 0)
        (some (((List.length a3 : Nat) : Int) == 0))
        (some false))))
def formula_May_L0 (rec : ((List QSym) × Int × (List (Int × Int × (List Int))) × Int × Int) → Option (Int ⊕ Bool)) (x : ((List QSym) × Int × (List (Int × Int × (List Int))) × Int × Int)) : Option (Int ⊕ Bool) :=
  cond (decide (x.2.2.2.2 < x.2.2.2.1))
  ((gx x.2.2.1 x.2.2.2.2).bind fun e5 =>
    (formula_parts e5.1).bind fun r6 =>
    cond (x.2.1 == 0)
    (some (Sum.inr false))
    (cond (decide (r6 < 0))
      (some (Sum.inr false))
      ((formula_nodeMay x.1 e5.1 e5.2.1 e5.2.2).bind fun r7 =>
        cond (!r7)
        (some (Sum.inr false))
        (rec (x.1, (IntKind.wrap .i64 (x.2.1 + (IntKind.wrap .i64 (r6 - 1)))), x.2.2.1, x.2.2.2.1, (IntKind.wrap .i64 (x.2.2.2.2 + 1)))))))
  (some (Sum.inl x.2.1))
def formula_May (a0 : (List QSym)) (a1 : (List (Int × Int × (List Int)))) : Option Bool :=
  (formula_SigMay a0).bind fun r11 =>
  cond (!r11)
  (some false)
  (cond (((List.length a1 : Nat) : Int) == 0)
    (some false)
    (cond (decide (((List.length a1 : Nat) : Int) > 40))
      (some false)
      (((lp formula_May_L0 fuel) (a0, 1, a1, ((List.length a1 : Nat) : Int), 0)).bind fun r12 =>
        caseS r12
        (fun z13 => some (z13 == 0))
        (fun z14 => some z14))))
def formula_show_S (rf : (((List QSym) × (List (Int × Int × (List Int)))) → Option (Str × (List (Int × Int × (List Int)))))) (a0 : (List QSym)) (a1 : (List (Int × Int × (List Int)))) : Option (Str × (List (Int × Int × (List Int)))) :=
  (gx a1 0).bind fun e21 =>
  (slc2 a1 (some 1) none).bind fun y22 =>
  cond (e21.1 == 0)
  ((formula_ShowAtom a0 e21.2.2).bind fun r23 =>
    some (r23, y22))
  (cond (e21.1 == 1)
    ((rf (a0, y22)).bind fun r24 =>
      cond (decide ((List.length ([126] : Str) + List.length r24.1 : Nat) < 4611686018427387904))
      (some ((([126] : Str) ++ r24.1), r24.2))
      (none))
    (cond (e21.1 == 5)
      (cond (e21.1 == 5)
        ((rf (a0, y22)).bind fun r25 =>
          (inR (IntKind.wrap .i64 (e21.1 - 5)) (List.length ([([97, 108, 108] : Str), ([101, 120] : Str)] : List Str))).bind fun k26 =>
          (([([97, 108, 108] : Str), ([101, 120] : Str)] : List Str)[k26]?).bind fun x27 =>
          cond (decide ((List.length x27 + List.length ([32, 88] : Str) : Nat) < 4611686018427387904))
          ((strconv_Itoa e21.2.1).bind fun r28 =>
            cond (decide ((List.length (x27 ++ ([32, 88] : Str)) + List.length r28 : Nat) < 4611686018427387904))
            (cond (decide ((List.length ((x27 ++ ([32, 88] : Str)) ++ r28) + List.length ([32] : Str) : Nat) < 4611686018427387904))
              (cond (decide ((List.length (((x27 ++ ([32, 88] : Str)) ++ r28) ++ ([32] : Str)) + List.length r25.1 : Nat) < 4611686018427387904))
                (some (((((x27 ++ ([32, 88] : Str)) ++ r28) ++ ([32] : Str)) ++ r25.1), r25.2))
                (none))
              (none))
            (none))
          (none))
        ((rf (a0, y22)).bind fun r29 =>
          (rf (a0, r29.2)).bind fun r30 =>
          cond (decide ((List.length ([40] : Str) + List.length r29.1 : Nat) < 4611686018427387904))
          ((inR (IntKind.wrap .i64 (e21.1 - 2)) (List.length ([([32, 38, 32] : Str), ([32, 124, 32] : Str), ([32, 45, 62, 32] : Str)] : List Str))).bind fun k31 =>
            (([([32, 38, 32] : Str), ([32, 124, 32] : Str), ([32, 45, 62, 32] : Str)] : List Str)[k31]?).bind fun x32 =>
            cond (decide ((List.length (([40] : Str) ++ r29.1) + List.length x32 : Nat) < 4611686018427387904))
            (cond (decide ((List.length ((([40] : Str) ++ r29.1) ++ x32) + List.length r30.1 : Nat) < 4611686018427387904))
              (cond (decide ((List.length (((([40] : Str) ++ r29.1) ++ x32) ++ r30.1) + List.length ([41] : Str) : Nat) < 4611686018427387904))
                (some (((((([40] : Str) ++ r29.1) ++ x32) ++ r30.1) ++ ([41] : Str)), r30.2))
                (none))
              (none))
            (none))
          (none)))
      (cond (e21.1 == 6)
        ((rf (a0, y22)).bind fun r33 =>
          (inR (IntKind.wrap .i64 (e21.1 - 5)) (List.length ([([97, 108, 108] : Str), ([101, 120] : Str)] : List Str))).bind fun k34 =>
          (([([97, 108, 108] : Str), ([101, 120] : Str)] : List Str)[k34]?).bind fun x35 =>
          cond (decide ((List.length x35 + List.length ([32, 88] : Str) : Nat) < 4611686018427387904))
          ((strconv_Itoa e21.2.1).bind fun r36 =>
            cond (decide ((List.length (x35 ++ ([32, 88] : Str)) + List.length r36 : Nat) < 4611686018427387904))
            (cond (decide ((List.length ((x35 ++ ([32, 88] : Str)) ++ r36) + List.length ([32] : Str) : Nat) < 4611686018427387904))
              (cond (decide ((List.length (((x35 ++ ([32, 88] : Str)) ++ r36) ++ ([32] : Str)) + List.length r33.1 : Nat) < 4611686018427387904))
                (some (((((x35 ++ ([32, 88] : Str)) ++ r36) ++ ([32] : Str)) ++ r33.1), r33.2))
                (none))
              (none))
            (none))
          (none))
        ((rf (a0, y22)).bind fun r37 =>
          (rf (a0, r37.2)).bind fun r38 =>
          cond (decide ((List.length ([40] : Str) + List.length r37.1 : Nat) < 4611686018427387904))
          ((inR (IntKind.wrap .i64 (e21.1 - 2)) (List.length ([([32, 38, 32] : Str), ([32, 124, 32] : Str), ([32, 45, 62, 32] : Str)] : List Str))).bind fun k39 =>
            (([([32, 38, 32] : Str), ([32, 124, 32] : Str), ([32, 45, 62, 32] : Str)] : List Str)[k39]?).bind fun x40 =>
            cond (decide ((List.length (([40] : Str) ++ r37.1) + List.length x40 : Nat) < 4611686018427387904))
            (cond (decide ((List.length ((([40] : Str) ++ r37.1) ++ x40) + List.length r38.1 : Nat) < 4611686018427387904))
              (cond (decide ((List.length (((([40] : Str) ++ r37.1) ++ x40) ++ r38.1) + List.length ([41] : Str) : Nat) < 4611686018427387904))
                (some (((((([40] : Str) ++ r37.1) ++ x40) ++ r38.1) ++ ([41] : Str)), r38.2))
                (none))
              (none))
            (none))
          (none)))))
def formula_show_R_step (rf : (((List QSym) × (List (Int × Int × (List Int)))) → Option (Str × (List (Int × Int × (List Int)))))) : (((List QSym) × (List (Int × Int × (List Int)))) → Option (Str × (List (Int × Int × (List Int))))) :=
  fun (x : ((List QSym) × (List (Int × Int × (List Int))))) => formula_show_S rf x.1 x.2
def formula_show_R_base : (((List QSym) × (List (Int × Int × (List Int)))) → Option (Str × (List (Int × Int × (List Int))))) := fun _ => none
def formula_show_R (k : Nat) : (((List QSym) × (List (Int × Int × (List Int)))) → Option (Str × (List (Int × Int × (List Int))))) := lpR formula_show_R_base formula_show_R_step k
def formula_show (a0 : (List QSym)) (a1 : (List (Int × Int × (List Int)))) : Option (Str × (List (Int × Int × (List Int)))) := (formula_show_R fuel) (a0, a1)
def formula_Show (a0 : (List QSym)) (a1 : (List (Int × Int × (List Int)))) : Option (Str × Int) :=
  (formula_May a0 a1).bind fun r3 =>
  cond (!r3)
  (some (([] : Str), 2200))
  ((formula_show a0 a1).bind fun r4 =>
    some (r4.1, 0))
end Go.Abs.Q
namespace Go.Abs.Q
open Go Go.Abs
def slices_IndexFunc_5_L0_go : List QSym → Nat → Option (Unit ⊕ Int)
  | [], i => some (Sum.inl ())
  | e :: es, i =>
    (formula_SigMay_c1 e.1 e.2.1 e.2.2.1 e.2.2.2).bind fun r4 =>
    cond r4
    (some (Sum.inr (i : Int)))
    (slices_IndexFunc_5_L0_go es (i + 1))
theorem slices_IndexFunc_5_L0_go_eq (s0 : (List QSym)) (hl : List.length s0 ≤ maxLen) : ∀ (es : List QSym) (i : Nat) (k : Nat), s0.drop i = es → es.length < k → lp slices_IndexFunc_5_L0 k (s0, ((List.length s0 : Nat) : Int), (i : Int)) = slices_IndexFunc_5_L0_go es i := by
  intro es
  induction es with
  | nil =>
    intro i k h hk
    obtain ⟨k, rfl⟩ : ∃ k', k = k' + 1 := ⟨k - 1, by omega⟩
    rw [lp_succ]
    generalize lp slices_IndexFunc_5_L0 k = rec
    unfold slices_IndexFunc_5_L0 slices_IndexFunc_5_L0_go
    simp only [lt_false (drop_nil_le h), cond_false]
  | cons e es ih =>
    intro i k h hk
    obtain ⟨k, rfl⟩ : ∃ k', k = k' + 1 := ⟨k - 1, by omega⟩
    rw [lp_succ]
    have hi := drop_cons_lt h
    have hk2 : es.length < k := Nat.lt_of_succ_lt_succ hk
    have key := fun (_ : Unit) => ih (i + 1) k (drop_cons_next h) hk2
    generalize lp slices_IndexFunc_5_L0 k = rec at key ⊢
    unfold slices_IndexFunc_5_L0 slices_IndexFunc_5_L0_go
    simp only [lt_true hi, cond_true, gx_nat, drop_cons_get h, Option.bind_some, wrap_i1 hi hl, key ()]
theorem slices_IndexFunc_5_L0_go_at0 (s0 : (List QSym)) (hl : List.length s0 ≤ maxLen) : lp slices_IndexFunc_5_L0 fuel (s0, ((List.length s0 : Nat) : Int), 0) = slices_IndexFunc_5_L0_go s0 0 :=
  slices_IndexFunc_5_L0_go_eq s0 hl s0 0 fuel rfl (Nat.lt_of_le_of_lt hl (by decide))
end Go.Abs.Q
namespace Go.Abs.Q
open Go Go.Abs
section
def bindName (s : Str) : Bool := s == [97, 108, 108] || s == [101, 120]
def sigB (a0 : List QSym) : Bool := signB a0 && !(a0.any fun e => bindName e.1)
theorem sig_go : (es : List QSym) → (i : Nat) → ((es.any fun e => bindName e.1) = true → ∃ j : Nat, slices_IndexFunc_5_L0_go es i = some (.inr (j : Int))) ∧ ((es.any fun e => bindName e.1) = false → slices_IndexFunc_5_L0_go es i = some (.inl ()))
  | [], _ => ⟨fun h => (by cases h), fun _ => rfl⟩
  | e :: es, i => by
    have hr := sig_go es (i + 1)
    have hc : formula_SigMay_c1 e.1 e.2.1 e.2.2.1 e.2.2.2 = some (bindName e.1) := by
      unfold formula_SigMay_c1 bindName
      cases (e.1 == ([97, 108, 108] : Str)) <;> rfl
    unfold slices_IndexFunc_5_L0_go
    rw [List.any_cons, hc, Option.bind_some]
    cases bindName e.1 with
    | true => exact ⟨fun _ => ⟨i, rfl⟩, fun h => (by cases h)⟩
    | false => exact hr
theorem formula_SigMay_eq (a0 : List QSym) : formula_SigMay a0 = some (sigB a0) := by
  unfold formula_SigMay sigB
  rw [sign_May_eq, Option.bind_some]
  cases hs : signB a0 with
  | false => rfl
  | true =>
    have hS := signB_ok hs
    obtain ⟨h1, h2⟩ := sig_go a0 0
    have hc : slices_ContainsFunc_5 a0 = some (a0.any fun e => bindName e.1) := by
      unfold slices_ContainsFunc_5 slices_IndexFunc_5
      rw [slices_IndexFunc_5_L0_go_at0 _ hS.max]
      cases hb : a0.any fun e => bindName e.1 with
      | true =>
        obtain ⟨j, hj⟩ := h1 hb
        rw [hj]
        show some (decide ((j : Int) ≥ 0)) = some true
        rw [decide_eq_true (by omega)]
      | false => rw [h2 hb]; rfl
    rw [cond_true, hc]; rfl
end
end Go.Abs.Q
namespace Go.Abs.Q
open Go Go.Abs
end Go.Abs.Q
namespace Go.Abs.Q
open Go Go.Abs
end Go.Abs.Q
namespace Go.Abs.Q
open Go Go.Abs
section
structure RenOk (s : List Int × Int) (b : Int) : Prop where
  len : s.1.length = 24
  lo : 0 ≤ s.2
  hi : s.2 ≤ b
  all : ∀ x ∈ s.1, 0 ≤ x ∧ x ≤ s.2
theorem RenOk.get {s : List Int × Int} {b : Int} (h : RenOk s b) (v : Nat) : 0 ≤ s.1.getD v 0 ∧ s.1.getD v 0 ≤ s.2 := by
  have h0 := h.lo
  rw [List.getD_eq_getElem?_getD]
  cases hv : s.1[v]? with
  | none => exact ⟨Int.le_refl _, h0⟩
  | some x => exact h.all x (List.mem_of_getElem? hv)
theorem set_mid {α : Type} (done es : List α) (e x : α) : (done ++ e :: es).set done.length x = done ++ x :: es := by
  rw [List.set_append_right _ _ (Nat.le_refl _), Nat.sub_self]
  rfl
theorem get_mid {α : Type} (done es : List α) (e : α) : (done ++ e :: es)[done.length]? = some e := by
  rw [List.getElem?_append_right (Nat.le_refl _), Nat.sub_self]
  rfl
end
end Go.Abs.Q
namespace Go.Abs.Q
open Go Go.Abs
section
end
end Go.Abs.Q
namespace Go.Abs.Q
open Go Go.Abs
section
theorem slc_last {α : Type} (xs : List α) (y : α) : slc2 (xs ++ [y]) none (some (xs.length : Int)) = some xs := by
  show slc (xs ++ [y]) 0 (xs.length : Int) = some xs
  unfold slc
  rw [decide_eq_true (show (0 : Int) ≤ 0 by omega), decide_eq_true (show (0 : Int) ≤ (xs.length : Int) by omega), decide_eq_true (show (xs.length : Int) ≤ (((xs ++ [y]).length : Nat) : Int) by simp; omega)]
  simp
theorem nn_some {α : Type} {xs : List α} (h : xs ≠ []) : nn xs = some xs := by
  cases xs with
  | nil => exact absurd rfl h
  | cons x xs => rfl
end
end Go.Abs.Q
namespace Go.Abs.Q
open Go Go.Abs
def law22_words : Option (List QSym) :=
  some ([(([61] : Str), 0, 2, 1), (([97] : Str), 1, 0, 1), (([98] : Str), 1, 0, 2), (([102] : Str), 1, 1, 1), (([103] : Str), 1, 2, 3), (([112] : Str), 0, 1, 1), (([114] : Str), 0, 2, 2)] : List QSym)
def lex_small (a0 : Int) : Option Bool :=
  cond (decide (a0 ≥ 97))
  (some (decide (a0 ≤ 122)))
  (some false)
def lex_digit (a0 : Int) : Option Bool :=
  cond (decide (a0 ≥ 48))
  (some (decide (a0 ≤ 57)))
  (some false)
def lex_run_L0 (rec : (Str × Int × Bool) → Option Int) (x : (Str × Int × Bool)) : Option Int :=
  cond (decide (x.2.1 < ((List.length x.1 : Nat) : Int)))
  ((gx x.1 x.2.1).bind fun c5 =>
    (lex_digit ((UInt8.toNat c5 : Nat) : Int)).bind fun r6 =>
    cond r6
    (rec (x.1, (IntKind.wrap .i64 (x.2.1 + 1)), x.2.2))
    (cond x.2.2
      ((gx x.1 x.2.1).bind fun c7 =>
        (lex_small ((UInt8.toNat c7 : Nat) : Int)).bind fun r8 =>
        cond r8
        (rec (x.1, (IntKind.wrap .i64 (x.2.1 + 1)), x.2.2))
        (some x.2.1))
      (some x.2.1)))
  (some x.2.1)
def lex_run (a0 : Str) (a1 : Int) (a2 : Bool) : Option Int :=
  ((lp lex_run_L0 fuel) (a0, a1, a2)).bind fun r10 =>
  some r10
def internal_stringslite_HasPrefix (a0 : Str) (a1 : Str) : Option Bool :=
  cond (decide (((List.length a0 : Nat) : Int) ≥ ((List.length a1 : Nat) : Int)))
  ((slc2 a0 none (some ((List.length a1 : Nat) : Int))).bind fun y2 =>
    some (y2 == a1))
  (some false)
def strings_HasPrefix (a0 : Str) (a1 : Str) : Option Bool :=
  (internal_stringslite_HasPrefix a0 a1).bind fun r2 =>
  some r2
def strings_Contains (a0 : Str) (a1 : Str) : Option Bool := containsF a0 a1
def lex_number (a0 : Str) (a1 : Int) : Option Bool :=
  cond (!(a0 == ([] : Str)))
  (cond (decide (((List.length a0 : Nat) : Int) ≤ a1))
    ((gx a0 0).bind fun c2 =>
      cond (((UInt8.toNat c2 : Nat) : Int) != 48)
      (some true)
      (some (((List.length a0 : Nat) : Int) == 1)))
    (some false))
  (some false)
def lex_Number_L0 (rec : QSym → Option Int) (x : QSym) : Option Int :=
  cond (decide (x.2.2.2 < x.2.2.1))
  ((gx x.1 x.2.2.2).bind fun c2 =>
    rec (x.1, (IntKind.wrap .i64 ((IntKind.wrap .i64 (10 * x.2.1)) + (IntKind.wrap .i64 (IntKind.wrap .u8 (((UInt8.toNat c2 : Nat) : Int) - 48))))), x.2.2.1, (IntKind.wrap .i64 (x.2.2.2 + 1))))
  (some x.2.1)
def lex_Number (a0 : Str) : Option Int :=
  ((lp lex_Number_L0 fuel) (a0, 0, ((List.length a0 : Nat) : Int), 0)).bind fun r4 =>
  some r4
def lex_Lex_L2 (rec : (Str × Int) → Option Int) (x : (Str × Int)) : Option Int :=
  cond (decide (x.2 < ((List.length x.1 : Nat) : Int)))
  ((gx x.1 x.2).bind fun c11 =>
    cond (((UInt8.toNat c11 : Nat) : Int) == 32)
    (rec (x.1, (IntKind.wrap .i64 (x.2 + 1))))
    (some x.2))
  (some x.2)
def lex_Lex_L1 (rec : (Str × Int) → Option Int) (x : (Str × Int)) : Option Int :=
  cond (decide (x.2 < ((List.length x.1 : Nat) : Int)))
  ((gx x.1 x.2).bind fun c3 =>
    cond (((UInt8.toNat c3 : Nat) : Int) == 32)
    (rec (x.1, (IntKind.wrap .i64 (x.2 + 1))))
    (some x.2))
  (some x.2)
def lex_Lex_L0 (rec : (Unit ⊕ ((Str × Int × (List (Int × Str))) ⊕ ((Str × Int × (List (Int × Str))) ⊕ ((Str × Int × (List (Int × Str))) ⊕ ((Str × Int × (List (Int × Str))) ⊕ (Str × Int × Int × Int × (List (Int × Str)))))))) → Option (Int × (List (Int × Str)))) (y : (Unit ⊕ ((Str × Int × (List (Int × Str))) ⊕ ((Str × Int × (List (Int × Str))) ⊕ ((Str × Int × (List (Int × Str))) ⊕ ((Str × Int × (List (Int × Str))) ⊕ (Str × Int × Int × Int × (List (Int × Str))))))))) : Option (Int × (List (Int × Str))) :=
  caseS y
  (fun x => some (2100, ([] : (List (Int × Str)))))
  (fun q1 => caseS q1
    (fun x => ((lp lex_Lex_L2 fuel) (x.1, x.2.1)).bind fun r33 =>
      cond (r33 == ((List.length x.1 : Nat) : Int))
      (some (0, x.2.2))
      ((gx x.1 r33).bind fun c34 =>
        (lex_small ((UInt8.toNat c34 : Nat) : Int)).bind fun r35 =>
        cond r35
        (rec (Sum.inr (Sum.inr (Sum.inl (x.1, r33, x.2.2)))))
        ((gx x.1 r33).bind fun c36 =>
          cond (((UInt8.toNat c36 : Nat) : Int) == 88)
          (rec (Sum.inr (Sum.inr (Sum.inr (Sum.inl (x.1, r33, x.2.2))))))
          ((gx x.1 r33).bind fun c37 =>
            (lex_digit ((UInt8.toNat c37 : Nat) : Int)).bind fun r38 =>
            cond r38
            (rec (Sum.inr (Sum.inr (Sum.inr (Sum.inr (Sum.inl (x.1, r33, x.2.2)))))))
            ((slc2 x.1 (some r33) none).bind fun y39 =>
              (strings_HasPrefix y39 ([45, 62] : Str)).bind fun r40 =>
              cond r40
              (rec (Sum.inr (Sum.inr (Sum.inr (Sum.inr (Sum.inr (x.1, r33, (IntKind.wrap .i64 ((IntKind.wrap .i64 (r33 + 1)) + 1)), 3, x.2.2)))))))
              ((slc2 x.1 (some r33) (some (IntKind.wrap .i64 (r33 + 1)))).bind fun y41 =>
                (strings_Contains ([40, 41, 44, 61, 126, 38, 124, 58] : Str) y41).bind fun r42 =>
                cond (!r42)
                (rec (Sum.inl ()))
                (rec (Sum.inr (Sum.inr (Sum.inr (Sum.inr (Sum.inr (x.1, r33, (IntKind.wrap .i64 (r33 + 1)), 3, x.2.2)))))))))))))
    (fun q2 => caseS q2
      (fun x => (lex_run x.1 x.2.1 true).bind fun r43 =>
        cond (decide ((IntKind.wrap .i64 (r43 - x.2.1)) > 8))
        (rec (Sum.inl ()))
        (rec (Sum.inr (Sum.inr (Sum.inr (Sum.inr (Sum.inr (x.1, x.2.1, r43, 0, x.2.2))))))))
      (fun q3 => caseS q3
        (fun x => (lex_run x.1 (IntKind.wrap .i64 (x.2.1 + 1)) false).bind fun r44 =>
          (slc2 x.1 (some (IntKind.wrap .i64 (x.2.1 + 1))) (some r44)).bind fun y45 =>
          (lex_number y45 2).bind fun r46 =>
          cond (!r46)
          (rec (Sum.inl ()))
          ((slc2 x.1 (some (IntKind.wrap .i64 (x.2.1 + 1))) (some r44)).bind fun y47 =>
            (lex_Number y47).bind fun r48 =>
            cond (decide (r48 > 23))
            (rec (Sum.inl ()))
            (rec (Sum.inr (Sum.inr (Sum.inr (Sum.inr (Sum.inr (x.1, x.2.1, r44, 1, x.2.2)))))))))
        (fun q4 => caseS q4
          (fun x => (lex_run x.1 x.2.1 false).bind fun r49 =>
            (slc2 x.1 (some x.2.1) (some r49)).bind fun y50 =>
            (lex_number y50 4).bind fun r51 =>
            cond (!r51)
            (rec (Sum.inl ()))
            ((slc2 x.1 (some x.2.1) (some r49)).bind fun y52 =>
              cond (room (List.length x.2.2 + List.length ([(2, y52)] : List (Int × Str))) 24)
              (rec (Sum.inr (Sum.inl (x.1, r49, (x.2.2 ++ ([(2, y52)] : List (Int × Str)))))))
              (none)))
          (fun x => (slc2 x.1 (some x.2.1) (some x.2.2.1)).bind fun y53 =>
            cond (room (List.length x.2.2.2.2 + List.length ([(x.2.2.2.1, y53)] : List (Int × Str))) 24)
            (rec (Sum.inr (Sum.inl (x.1, x.2.2.1, (x.2.2.2.2 ++ ([(x.2.2.2.1, y53)] : List (Int × Str)))))))
            (none))))))
def lex_Lex (a0 : Str) : Option (Int × (List (Int × Str))) :=
  cond (decide (((List.length a0 : Nat) : Int) > 2048))
  ((((lp lex_Lex_L0 fuel) (Sum.inl ()))).bind fun r67 =>
    some (r67.1, r67.2))
  (((lp lex_Lex_L1 fuel) (a0, 0)).bind fun r68 =>
    cond (r68 == ((List.length a0 : Nat) : Int))
    (some (0, ([] : (List (Int × Str)))))
    ((gx a0 r68).bind fun c69 =>
      (lex_small ((UInt8.toNat c69 : Nat) : Int)).bind fun r70 =>
      cond r70
      ((((lp lex_Lex_L0 fuel) (Sum.inr (Sum.inr (Sum.inl (a0, r68, ([] : (List (Int × Str))))))))).bind fun r71 =>
        some (r71.1, r71.2))
      ((gx a0 r68).bind fun c72 =>
        cond (((UInt8.toNat c72 : Nat) : Int) == 88)
        ((((lp lex_Lex_L0 fuel) (Sum.inr (Sum.inr (Sum.inr (Sum.inl (a0, r68, ([] : (List (Int × Str)))))))))).bind fun r73 =>
          some (r73.1, r73.2))
        ((gx a0 r68).bind fun c74 =>
          (lex_digit ((UInt8.toNat c74 : Nat) : Int)).bind fun r75 =>
          cond r75
          ((((lp lex_Lex_L0 fuel) (Sum.inr (Sum.inr (Sum.inr (Sum.inr (Sum.inl (a0, r68, ([] : (List (Int × Str))))))))))).bind fun r76 =>
            some (r76.1, r76.2))
          ((slc2 a0 (some r68) none).bind fun y77 =>
            (strings_HasPrefix y77 ([45, 62] : Str)).bind fun r78 =>
            cond r78
            ((((lp lex_Lex_L0 fuel) (Sum.inr (Sum.inr (Sum.inr (Sum.inr (Sum.inr (a0, r68, (IntKind.wrap .i64 ((IntKind.wrap .i64 (r68 + 1)) + 1)), 3, ([] : (List (Int × Str))))))))))).bind fun r79 =>
              some (r79.1, r79.2))
            ((slc2 a0 (some r68) (some (IntKind.wrap .i64 (r68 + 1)))).bind fun y80 =>
              (strings_Contains ([40, 41, 44, 61, 126, 38, 124, 58] : Str) y80).bind fun r81 =>
              cond (!r81)
              ((((lp lex_Lex_L0 fuel) (Sum.inl ()))).bind fun r82 =>
                some (r82.1, r82.2))
              ((((lp lex_Lex_L0 fuel) (Sum.inr (Sum.inr (Sum.inr (Sum.inr (Sum.inr (a0, r68, (IntKind.wrap .i64 (r68 + 1)), 3, ([] : (List (Int × Str))))))))))).bind fun r83 =>
                some (r83.1, r83.2))))))))
def formula_Reader_Is_1 (a0 : Str) (a1 : (List QSym)) (a2 : (List (Int × Str))) (a3 : Bool) : Option (Bool × (List QSym) × (List (Int × Str)) × Bool) :=
  cond (((List.length a2 : Nat) : Int) == 0)
  (some (false, a1, a2, a3))
  ((gx a2 0).bind fun e4 =>
    cond (e4.1 != 3)
    (some (false, a1, a2, a3))
    ((gx a2 0).bind fun e5 =>
      cond (!(e5.2 == a0))
      (some (false, a1, a2, a3))
      ((slc2 a2 (some 1) none).bind fun y6 =>
        some (true, a1, y6, a3))))
def formula_Reader_binder_1 (a0 : (List QSym)) (a1 : (List (Int × Str))) (a2 : Bool) : Option (Int × Int × Bool × (List QSym) × (List (Int × Str)) × Bool) :=
  cond (decide (((List.length a1 : Nat) : Int) < 2))
  (some (0, 0, false, a0, a1, a2))
  ((gx a1 0).bind fun e9 =>
    cond (e9.1 != 0)
    (some (0, 0, false, a0, a1, a2))
    ((gx a1 1).bind fun e10 =>
      cond (e10.1 != 1)
      (some (0, 0, false, a0, a1, a2))
      ((gx a1 1).bind fun e11 =>
        (slc2 e11.2 (some 1) none).bind fun y12 =>
        (lex_Number y12).bind fun r13 =>
        (gx a1 0).bind fun e14 =>
        cond (e14.2 == ([101, 120] : Str))
        ((slc2 a1 (some 2) none).bind fun y15 =>
          some (6, r13, true, a0, y15, a2))
        (cond (e14.2 == ([97, 108, 108] : Str))
          ((slc2 a1 (some 2) none).bind fun y16 =>
            some (5, r13, true, a0, y16, a2))
          (some (0, 0, false, a0, a1, a2))))))
def sign_Find (a0 : (List QSym)) (a1 : Str) : Option (Int × Int) :=
  (sign_May a0).bind fun r3 =>
  cond (!r3)
  (some (0, 100))
  ((sign_find a0 a1).bind fun r4 =>
    some (r4, 0))
def formula_Reader_symbol_1 (a0 : (List QSym)) (a1 : (List (Int × Str))) (a2 : Bool) : Option (Int × Bool × (List QSym) × (List (Int × Str)) × Bool) :=
  cond (((List.length a1 : Nat) : Int) == 0)
  (some (0, false, a0, a1, a2))
  ((gx a1 0).bind fun e5 =>
    cond (e5.1 != 0)
    (some (0, false, a0, a1, a2))
    ((gx a1 0).bind fun e6 =>
      (sign_Find a0 e6.2).bind fun r7 =>
      cond (decide (r7.1 < 0))
      (some (0, false, a0, a1, a2))
      ((slc2 a1 (some 1) none).bind fun y8 =>
        some (r7.1, true, a0, y8, a2))))
def formula_Reader_Var_1 (a0 : (List QSym)) (a1 : (List (Int × Str))) (a2 : Bool) : Option (Int × Bool × (List QSym) × (List (Int × Str)) × Bool) :=
  cond (((List.length a1 : Nat) : Int) == 0)
  (some (0, false, a0, a1, a2))
  ((gx a1 0).bind fun e6 =>
    cond (e6.1 != 1)
    (some (0, false, a0, a1, a2))
    ((gx a1 0).bind fun e7 =>
      (slc2 e7.2 (some 1) none).bind fun y8 =>
      (lex_Number y8).bind fun r9 =>
      (slc2 a1 (some 1) none).bind fun y10 =>
      some (r9, true, a0, y10, a2)))
def formula_Reader_term_1_S (rf : ((((List QSym) × (List (Int × Str)) × Bool) → Option (Bool × (List Int) × (List QSym) × (List (Int × Str)) × Bool)) × ((Int × (List QSym) × (List (Int × Str)) × Bool) → Option (Bool × (List Int) × (List QSym) × (List (Int × Str)) × Bool)))) (a0 : (List QSym)) (a1 : (List (Int × Str))) (a2 : Bool) : Option (Bool × (List Int) × (List QSym) × (List (Int × Str)) × Bool) :=
  (formula_Reader_Var_1 a0 a1 a2).bind fun r6 =>
  cond r6.2.1
  ((term_Number r6.1).bind fun r7 =>
    some (true, ([r7] : List Int), r6.2.2.1, r6.2.2.2.1, r6.2.2.2.2))
  ((formula_Reader_symbol_1 r6.2.2.1 r6.2.2.2.1 r6.2.2.2.2).bind fun r8 =>
    cond (!r8.2.1)
    (some (false, ([] : (List Int)), r8.2.2.1, r8.2.2.2.1, r8.2.2.2.2))
    ((gx r8.2.2.1 r8.1).bind fun e9 =>
      cond (e9.2.1 == 0)
      (some (false, ([] : (List Int)), r8.2.2.1, r8.2.2.2.1, r8.2.2.2.2))
      ((rf.2 (r8.1, r8.2.2.1, r8.2.2.2.1, r8.2.2.2.2)).bind fun r10 =>
        some (r10.1, r10.2.1, r10.2.2.1, r10.2.2.2.1, r10.2.2.2.2))))
def formula_Reader_behind_1_L0 (rf : ((((List QSym) × (List (Int × Str)) × Bool) → Option (Bool × (List Int) × (List QSym) × (List (Int × Str)) × Bool)) × ((Int × (List QSym) × (List (Int × Str)) × Bool) → Option (Bool × (List Int) × (List QSym) × (List (Int × Str)) × Bool)))) (rec : (Int × Int × Int × (List QSym) × (List (Int × Str)) × Bool × (List Int)) → Option (((List QSym) × (List (Int × Str)) × Bool × (List Int)) ⊕ (Bool × (List QSym) × (List (Int × Str)) × Bool))) (x : (Int × Int × Int × (List QSym) × (List (Int × Str)) × Bool × (List Int))) : Option (((List QSym) × (List (Int × Str)) × Bool × (List Int)) ⊕ (Bool × (List QSym) × (List (Int × Str)) × Bool)) :=
  cond (decide (x.2.2.1 < x.2.1))
  (cond (x.2.2.1 == 0)
    ((formula_Reader_Is_1 ([40] : Str) x.2.2.2.1 x.2.2.2.2.1 x.2.2.2.2.2.1).bind fun r8 =>
      cond (!r8.1)
      (some (Sum.inr (false, r8.2.1, r8.2.2.1, r8.2.2.2)))
      ((rf.1 (r8.2.1, r8.2.2.1, r8.2.2.2)).bind fun r9 =>
        cond (!r9.1)
        (some (Sum.inr (false, r9.2.2.1, r9.2.2.2.1, r9.2.2.2.2)))
        (cond (room (List.length x.2.2.2.2.2.2 + List.length r9.2.1) 8)
          (rec (x.1, x.2.1, (IntKind.wrap .i64 (x.2.2.1 + 1)), r9.2.2.1, r9.2.2.2.1, r9.2.2.2.2, (x.2.2.2.2.2.2 ++ r9.2.1)))
          (none))))
    ((formula_Reader_Is_1 ([44] : Str) x.2.2.2.1 x.2.2.2.2.1 x.2.2.2.2.2.1).bind fun r10 =>
      cond (!r10.1)
      (some (Sum.inr (false, r10.2.1, r10.2.2.1, r10.2.2.2)))
      ((rf.1 (r10.2.1, r10.2.2.1, r10.2.2.2)).bind fun r11 =>
        cond (!r11.1)
        (some (Sum.inr (false, r11.2.2.1, r11.2.2.2.1, r11.2.2.2.2)))
        (cond (room (List.length x.2.2.2.2.2.2 + List.length r11.2.1) 8)
          (rec (x.1, x.2.1, (IntKind.wrap .i64 (x.2.2.1 + 1)), r11.2.2.1, r11.2.2.2.1, r11.2.2.2.2, (x.2.2.2.2.2.2 ++ r11.2.1)))
          (none)))))
  (some (Sum.inl (x.2.2.2.1, x.2.2.2.2.1, x.2.2.2.2.2.1, x.2.2.2.2.2.2)))
def formula_Reader_behind_1_S (rf : ((((List QSym) × (List (Int × Str)) × Bool) → Option (Bool × (List Int) × (List QSym) × (List (Int × Str)) × Bool)) × ((Int × (List QSym) × (List (Int × Str)) × Bool) → Option (Bool × (List Int) × (List QSym) × (List (Int × Str)) × Bool)))) (a0 : Int) (a1 : (List QSym)) (a2 : (List (Int × Str))) (a3 : Bool) : Option (Bool × (List Int) × (List QSym) × (List (Int × Str)) × Bool) :=
  (gx a1 a0).bind fun e17 =>
  ((lp (formula_Reader_behind_1_L0 rf) fuel) (a0, e17.2.2.1, 0, a1, a2, a3, ([a0] : List Int))).bind fun r18 =>
  caseS r18
  (fun z19 => (gx z19.1 a0).bind fun e20 =>
    cond (e20.2.2.1 == 0)
    (some (true, z19.2.2.2, z19.1, z19.2.1, z19.2.2.1))
    ((formula_Reader_Is_1 ([41] : Str) z19.1 z19.2.1 z19.2.2.1).bind fun r21 =>
      some (r21.1, z19.2.2.2, r21.2.1, r21.2.2.1, r21.2.2.2)))
  (fun z22 => some (z22.1, ([] : (List Int)), z22.2.1, z22.2.2.1, z22.2.2.2))
def formula_Reader_behind_1_R_step (rf : ((((List QSym) × (List (Int × Str)) × Bool) → Option (Bool × (List Int) × (List QSym) × (List (Int × Str)) × Bool)) × ((Int × (List QSym) × (List (Int × Str)) × Bool) → Option (Bool × (List Int) × (List QSym) × (List (Int × Str)) × Bool)))) : ((((List QSym) × (List (Int × Str)) × Bool) → Option (Bool × (List Int) × (List QSym) × (List (Int × Str)) × Bool)) × ((Int × (List QSym) × (List (Int × Str)) × Bool) → Option (Bool × (List Int) × (List QSym) × (List (Int × Str)) × Bool))) :=
  (fun (x : ((List QSym) × (List (Int × Str)) × Bool)) => formula_Reader_term_1_S rf x.1 x.2.1 x.2.2, fun (x : (Int × (List QSym) × (List (Int × Str)) × Bool)) => formula_Reader_behind_1_S rf x.1 x.2.1 x.2.2.1 x.2.2.2)
def formula_Reader_behind_1_R_base : ((((List QSym) × (List (Int × Str)) × Bool) → Option (Bool × (List Int) × (List QSym) × (List (Int × Str)) × Bool)) × ((Int × (List QSym) × (List (Int × Str)) × Bool) → Option (Bool × (List Int) × (List QSym) × (List (Int × Str)) × Bool))) := (fun _ => none, fun _ => none)
def formula_Reader_behind_1_R (k : Nat) : ((((List QSym) × (List (Int × Str)) × Bool) → Option (Bool × (List Int) × (List QSym) × (List (Int × Str)) × Bool)) × ((Int × (List QSym) × (List (Int × Str)) × Bool) → Option (Bool × (List Int) × (List QSym) × (List (Int × Str)) × Bool))) := lpR formula_Reader_behind_1_R_base formula_Reader_behind_1_R_step k
def formula_Reader_term_1 (a0 : (List QSym)) (a1 : (List (Int × Str))) (a2 : Bool) : Option (Bool × (List Int) × (List QSym) × (List (Int × Str)) × Bool) := (formula_Reader_behind_1_R fuel).1 (a0, a1, a2)
def formula_Reader_behind_1 (a0 : Int) (a1 : (List QSym)) (a2 : (List (Int × Str))) (a3 : Bool) : Option (Bool × (List Int) × (List QSym) × (List (Int × Str)) × Bool) := (formula_Reader_behind_1_R fuel).2 (a0, a1, a2, a3)
def slices_Grow_2 (a0 : Int) : Option (List Int) :=
  cond (decide (a0 < 0))
  (none)
  (cond (decide ((IntKind.wrap .i64 (a0 - 0)) > 0))
    (cond (eqI 0 0 && eqI 0 0)
      (cond (posI (IntKind.wrap .i64 (a0 - 0)))
        (cond (room (Int.toNat (IntKind.wrap .i64 (a0 - 0))) 8)
          ((slc2 (List.replicate (Int.toNat (IntKind.wrap .i64 (a0 - 0))) (0 : Int)) none (some 0)).bind fun y2 =>
            some y2)
          (none))
        (none))
      (none))
    (some ([] : (List Int))))
def slices_Concat_2_L1 (rec : ((List (List Int)) × Int × Int × (List Int)) → Option (List Int)) (x : ((List (List Int)) × Int × Int × (List Int))) : Option (List Int) :=
  cond (decide (x.2.2.1 < x.2.1))
  ((gx x.1 x.2.2.1).bind fun e7 =>
    cond (room (List.length x.2.2.2 + List.length e7) 8)
    (rec (x.1, x.2.1, (IntKind.wrap .i64 (x.2.2.1 + 1)), (x.2.2.2 ++ e7)))
    (none))
  (some x.2.2.2)
def slices_Concat_2_L0 (rec : ((List (List Int)) × Int × (List (List Int)) × Int × Int) → Option Int) (x : ((List (List Int)) × Int × (List (List Int)) × Int × Int)) : Option Int :=
  cond (decide (x.2.2.2.2 < x.2.2.2.1))
  ((gx x.2.2.1 x.2.2.2.2).bind fun e2 =>
    cond (decide ((IntKind.wrap .i64 (x.2.1 + ((List.length e2 : Nat) : Int))) < 0))
    (none)
    (rec (x.1, (IntKind.wrap .i64 (x.2.1 + ((List.length e2 : Nat) : Int))), x.2.2.1, x.2.2.2.1, (IntKind.wrap .i64 (x.2.2.2.2 + 1)))))
  (some x.2.1)
def slices_Concat_2 (a0 : (List (List Int))) : Option (List Int) :=
  ((lp slices_Concat_2_L0 fuel) (a0, 0, a0, ((List.length a0 : Nat) : Int), 0)).bind fun r9 =>
  (slices_Grow_2 r9).bind fun r10 =>
  ((lp slices_Concat_2_L1 fuel) (a0, ((List.length a0 : Nat) : Int), 0, r10)).bind fun r11 =>
  some r11
def formula_Reader_Atom_1 (a0 : (List QSym)) (a1 : (List (Int × Str))) (a2 : Bool) : Option (Bool × (List Int) × (List QSym) × (List (Int × Str)) × Bool) :=
  (formula_Reader_symbol_1 a0 a1 a2).bind fun r12 =>
  cond r12.2.1
  ((gx r12.2.2.1 r12.1).bind fun e13 =>
    cond (e13.2.1 == 0)
    ((formula_Reader_behind_1 r12.1 r12.2.2.1 r12.2.2.2.1 r12.2.2.2.2).bind fun r14 =>
      cond r14.2.2.2.2
      (some (r14.1, r14.2.1, r14.2.2.1, r14.2.2.2.1, true))
      (some (r14.1, r14.2.1, r14.2.2.1, r14.2.2.2.1, (decide (((List.length r14.2.1 : Nat) : Int) > 49)))))
    ((formula_Reader_term_1 r12.2.2.1 a1 r12.2.2.2.2).bind fun r15 =>
      cond (!r15.1)
      (some (false, ([] : (List Int)), r15.2.2.1, r15.2.2.2.1, r15.2.2.2.2))
      ((formula_Reader_Is_1 ([61] : Str) r15.2.2.1 r15.2.2.2.1 r15.2.2.2.2).bind fun r16 =>
        cond (!r16.1)
        (some (false, ([] : (List Int)), r16.2.1, r16.2.2.1, r16.2.2.2))
        ((formula_Reader_term_1 r16.2.1 r16.2.2.1 r16.2.2.2).bind fun r17 =>
          (slices_Concat_2 ([([0] : List Int), r15.2.1, r17.2.1] : List (List Int))).bind fun r18 =>
          cond r17.2.2.2.2
          (some (r17.1, r18, r17.2.2.1, r17.2.2.2.1, true))
          (some (r17.1, r18, r17.2.2.1, r17.2.2.2.1, (decide (((List.length r18 : Nat) : Int) > 49))))))))
  ((formula_Reader_term_1 r12.2.2.1 a1 r12.2.2.2.2).bind fun r19 =>
    cond (!r19.1)
    (some (false, ([] : (List Int)), r19.2.2.1, r19.2.2.2.1, r19.2.2.2.2))
    ((formula_Reader_Is_1 ([61] : Str) r19.2.2.1 r19.2.2.2.1 r19.2.2.2.2).bind fun r20 =>
      cond (!r20.1)
      (some (false, ([] : (List Int)), r20.2.1, r20.2.2.1, r20.2.2.2))
      ((formula_Reader_term_1 r20.2.1 r20.2.2.1 r20.2.2.2).bind fun r21 =>
        (slices_Concat_2 ([([0] : List Int), r19.2.1, r21.2.1] : List (List Int))).bind fun r22 =>
        cond r21.2.2.2.2
        (some (r21.1, r22, r21.2.2.1, r21.2.2.2.1, true))
        (some (r21.1, r22, r21.2.2.1, r21.2.2.2.1, (decide (((List.length r22 : Nat) : Int) > 49)))))))
def formula_Reader_joint_1_L0 (rec : ((List Str) × Int × Int × (List QSym) × (List (Int × Str)) × Bool) → Option (((List QSym) × (List (Int × Str)) × Bool) ⊕ (Int × Bool × (List QSym) × (List (Int × Str)) × Bool))) (x : ((List Str) × Int × Int × (List QSym) × (List (Int × Str)) × Bool)) : Option (((List QSym) × (List (Int × Str)) × Bool) ⊕ (Int × Bool × (List QSym) × (List (Int × Str)) × Bool)) :=
  cond (decide (x.2.2.1 < x.2.1))
  ((gx x.1 x.2.2.1).bind fun e5 =>
    (formula_Reader_Is_1 e5 x.2.2.2.1 x.2.2.2.2.1 x.2.2.2.2.2).bind fun r6 =>
    cond r6.1
    (some (Sum.inr ((IntKind.wrap .i64 (2 + x.2.2.1)), true, r6.2.1, r6.2.2.1, r6.2.2.2)))
    (rec (x.1, x.2.1, (IntKind.wrap .i64 (x.2.2.1 + 1)), r6.2.1, r6.2.2.1, r6.2.2.2)))
  (some (Sum.inl (x.2.2.2.1, x.2.2.2.2.1, x.2.2.2.2.2)))
def formula_Reader_joint_1 (a0 : (List QSym)) (a1 : (List (Int × Str))) (a2 : Bool) : Option (Int × Bool × (List QSym) × (List (Int × Str)) × Bool) :=
  ((lp formula_Reader_joint_1_L0 fuel) (([([38] : Str), ([124] : Str), ([45, 62] : Str)] : List Str), ((List.length ([([38] : Str), ([124] : Str), ([45, 62] : Str)] : List Str) : Nat) : Int), 0, a0, a1, a2)).bind fun r10 =>
  caseS r10
  (fun z11 => some (0, false, z11.1, z11.2.1, z11.2.2))
  (fun z12 => some (z12.1, z12.2.1, z12.2.2.1, z12.2.2.2.1, z12.2.2.2.2))
def formula_Reader_formula_1_L0 (rec : (((List QSym) × (List (Int × Str)) × Bool × (List (Int × Int × (List Int))) × (List (Int × Bool))) ⊕ ((List QSym) × (List (Int × Str)) × Bool × (List (Int × Int × (List Int))) × (List (Int × Bool)))) → Option (Bool × (List QSym) × (List (Int × Str)) × Bool × (List (Int × Int × (List Int))))) (y : (((List QSym) × (List (Int × Str)) × Bool × (List (Int × Int × (List Int))) × (List (Int × Bool))) ⊕ ((List QSym) × (List (Int × Str)) × Bool × (List (Int × Int × (List Int))) × (List (Int × Bool))))) : Option (Bool × (List QSym) × (List (Int × Str)) × Bool × (List (Int × Int × (List Int)))) :=
  caseS y
  (fun x => (formula_Reader_Is_1 ([126] : Str) x.1 x.2.1 x.2.2.1).bind fun r26 =>
    cond r26.1
    (cond (room (List.length x.2.2.2.1 + List.length ([(1, 0, ([] : (List Int)))] : List (Int × Int × (List Int)))) 40)
      (rec (Sum.inl (r26.2.1, r26.2.2.1, r26.2.2.2, (x.2.2.2.1 ++ ([(1, 0, ([] : (List Int)))] : List (Int × Int × (List Int)))), x.2.2.2.2)))
      (none))
    ((formula_Reader_binder_1 r26.2.1 r26.2.2.1 r26.2.2.2).bind fun r27 =>
      cond r27.2.2.1
      (cond (room (List.length x.2.2.2.1 + List.length ([(r27.1, r27.2.1, ([] : (List Int)))] : List (Int × Int × (List Int)))) 40)
        (rec (Sum.inl (r27.2.2.2.1, r27.2.2.2.2.1, r27.2.2.2.2.2, (x.2.2.2.1 ++ ([(r27.1, r27.2.1, ([] : (List Int)))] : List (Int × Int × (List Int)))), x.2.2.2.2)))
        (none))
      ((formula_Reader_Is_1 ([40] : Str) r27.2.2.2.1 r27.2.2.2.2.1 r27.2.2.2.2.2).bind fun r28 =>
        cond r28.1
        (cond (room (List.length x.2.2.2.2 + List.length ([(((List.length x.2.2.2.1 : Nat) : Int), false)] : List (Int × Bool))) 16)
          (cond (room (List.length x.2.2.2.1 + List.length ([(0, 0, ([] : (List Int)))] : List (Int × Int × (List Int)))) 40)
            (rec (Sum.inl (r28.2.1, r28.2.2.1, r28.2.2.2, (x.2.2.2.1 ++ ([(0, 0, ([] : (List Int)))] : List (Int × Int × (List Int)))), (x.2.2.2.2 ++ ([(((List.length x.2.2.2.1 : Nat) : Int), false)] : List (Int × Bool))))))
            (none))
          (none))
        ((formula_Reader_Atom_1 r28.2.1 r28.2.2.1 r28.2.2.2).bind fun r29 =>
          cond r29.1
          (cond (room (List.length x.2.2.2.1 + List.length ([(0, 0, r29.2.1)] : List (Int × Int × (List Int)))) 40)
            (rec (Sum.inr (r29.2.2.1, r29.2.2.2.1, r29.2.2.2.2, (x.2.2.2.1 ++ ([(0, 0, r29.2.1)] : List (Int × Int × (List Int)))), x.2.2.2.2)))
            (none))
          (some (false, r29.2.2.1, r29.2.2.2.1, r29.2.2.2.2, ([] : (List (Int × Int × (List Int))))))))))
  (fun x => cond (((List.length x.2.2.2.2 : Nat) : Int) == 0)
    (some (true, x.1, x.2.1, x.2.2.1, x.2.2.2.1))
    ((inR (IntKind.wrap .i64 (((List.length x.2.2.2.2 : Nat) : Int) - 1)) (List.length x.2.2.2.2)).bind fun k30 =>
      (formula_Reader_joint_1 x.1 x.2.1 x.2.2.1).bind fun r31 =>
      cond r31.2.1
      ((x.2.2.2.2[k30]?).bind fun x32 =>
        cond (!x32.2)
        ((x.2.2.2.2[k30]?).bind fun x33 =>
          (inR x33.1 (List.length x.2.2.2.1)).bind fun k34 =>
          (x.2.2.2.1[k34]?).bind fun x35 =>
          (x.2.2.2.2[k30]?).bind fun x36 =>
          rec (Sum.inl (r31.2.2.1, r31.2.2.2.1, r31.2.2.2.2, (List.set x.2.2.2.1 k34 (r31.1, x35.2)), (List.set x.2.2.2.2 k30 (x36.1, true)))))
        (cond r31.2.1
          (some (false, r31.2.2.1, r31.2.2.2.1, r31.2.2.2.2, ([] : (List (Int × Int × (List Int))))))
          ((x.2.2.2.2[k30]?).bind fun x37 =>
            cond (!x37.2)
            (some (false, r31.2.2.1, r31.2.2.2.1, r31.2.2.2.2, ([] : (List (Int × Int × (List Int))))))
            ((formula_Reader_Is_1 ([41] : Str) r31.2.2.1 r31.2.2.2.1 r31.2.2.2.2).bind fun r38 =>
              cond (!r38.1)
              (some (false, r38.2.1, r38.2.2.1, r38.2.2.2, ([] : (List (Int × Int × (List Int))))))
              ((slc2 x.2.2.2.2 none (some (IntKind.wrap .i64 (((List.length x.2.2.2.2 : Nat) : Int) - 1)))).bind fun y39 =>
                rec (Sum.inr (r38.2.1, r38.2.2.1, r38.2.2.2, x.2.2.2.1, y39)))))))
      (cond r31.2.1
        (some (false, r31.2.2.1, r31.2.2.2.1, r31.2.2.2.2, ([] : (List (Int × Int × (List Int))))))
        ((x.2.2.2.2[k30]?).bind fun x40 =>
          cond (!x40.2)
          (some (false, r31.2.2.1, r31.2.2.2.1, r31.2.2.2.2, ([] : (List (Int × Int × (List Int))))))
          ((formula_Reader_Is_1 ([41] : Str) r31.2.2.1 r31.2.2.2.1 r31.2.2.2.2).bind fun r41 =>
            cond (!r41.1)
            (some (false, r41.2.1, r41.2.2.1, r41.2.2.2, ([] : (List (Int × Int × (List Int))))))
            ((slc2 x.2.2.2.2 none (some (IntKind.wrap .i64 (((List.length x.2.2.2.2 : Nat) : Int) - 1)))).bind fun y42 =>
              rec (Sum.inr (r41.2.1, r41.2.2.1, r41.2.2.2, x.2.2.2.1, y42))))))))
def formula_Reader_formula_1 (a0 : (List QSym)) (a1 : (List (Int × Str))) (a2 : Bool) : Option (Bool × (List (Int × Int × (List Int))) × (List QSym) × (List (Int × Str)) × Bool) :=
  (formula_Reader_Is_1 ([126] : Str) a0 a1 a2).bind fun r50 =>
  cond r50.1
  (cond (room (List.length ([(1, 0, ([] : (List Int)))] : List (Int × Int × (List Int)))) 40)
    ((((lp formula_Reader_formula_1_L0 fuel) (Sum.inl (r50.2.1, r50.2.2.1, r50.2.2.2, ([(1, 0, ([] : (List Int)))] : List (Int × Int × (List Int))), ([] : (List (Int × Bool))))))).bind fun r51 =>
      some (r51.1, r51.2.2.2.2, r51.2.1, r51.2.2.1, r51.2.2.2.1))
    (none))
  ((formula_Reader_binder_1 r50.2.1 r50.2.2.1 r50.2.2.2).bind fun r52 =>
    cond r52.2.2.1
    (cond (room (List.length ([(r52.1, r52.2.1, ([] : (List Int)))] : List (Int × Int × (List Int)))) 40)
      ((((lp formula_Reader_formula_1_L0 fuel) (Sum.inl (r52.2.2.2.1, r52.2.2.2.2.1, r52.2.2.2.2.2, ([(r52.1, r52.2.1, ([] : (List Int)))] : List (Int × Int × (List Int))), ([] : (List (Int × Bool))))))).bind fun r53 =>
        some (r53.1, r53.2.2.2.2, r53.2.1, r53.2.2.1, r53.2.2.2.1))
      (none))
    ((formula_Reader_Is_1 ([40] : Str) r52.2.2.2.1 r52.2.2.2.2.1 r52.2.2.2.2.2).bind fun r54 =>
      cond r54.1
      (cond (room (List.length ([(0, false)] : List (Int × Bool))) 16)
        (cond (room (List.length ([(0, 0, ([] : (List Int)))] : List (Int × Int × (List Int)))) 40)
          ((((lp formula_Reader_formula_1_L0 fuel) (Sum.inl (r54.2.1, r54.2.2.1, r54.2.2.2, ([(0, 0, ([] : (List Int)))] : List (Int × Int × (List Int))), ([(0, false)] : List (Int × Bool)))))).bind fun r55 =>
            some (r55.1, r55.2.2.2.2, r55.2.1, r55.2.2.1, r55.2.2.2.1))
          (none))
        (none))
      ((formula_Reader_Atom_1 r54.2.1 r54.2.2.1 r54.2.2.2).bind fun r56 =>
        cond r56.1
        (cond (room (List.length ([(0, 0, r56.2.1)] : List (Int × Int × (List Int)))) 40)
          ((((lp formula_Reader_formula_1_L0 fuel) (Sum.inr (r56.2.2.1, r56.2.2.2.1, r56.2.2.2.2, ([(0, 0, r56.2.1)] : List (Int × Int × (List Int))), ([] : (List (Int × Bool))))))).bind fun r57 =>
            some (r57.1, r57.2.2.2.2, r57.2.1, r57.2.2.1, r57.2.2.2.1))
          (none))
        (some (false, ([] : (List (Int × Int × (List Int)))), r56.2.2.1, r56.2.2.2.1, r56.2.2.2.2)))))
def formula_Read (a0 : (List QSym)) (a1 : (List (Int × Str))) : Option (Int × (List (Int × Int × (List Int)))) :=
  (formula_SigMay a0).bind fun r3 =>
  cond (!r3)
  (some (2200, ([] : (List (Int × Int × (List Int))))))
  ((formula_Reader_formula_1 a0 a1 false).bind fun r4 =>
    cond (!r4.1)
    (some (2200, ([] : (List (Int × Int × (List Int))))))
    (cond (decide (((List.length r4.2.2.2.1 : Nat) : Int) > 0))
      (some (2200, ([] : (List (Int × Int × (List Int))))))
      (cond r4.2.2.2.2
        (some (2201, ([] : (List (Int × Int × (List Int))))))
        (cond (decide (((List.length r4.2.1 : Nat) : Int) > 40))
          (some (2201, ([] : (List (Int × Int × (List Int))))))
          (some (0, r4.2.1))))))
def formula_Parse (a0 : (List QSym)) (a1 : Str) : Option (Int × (List (Int × Int × (List Int)))) :=
  (lex_Lex a1).bind fun r3 =>
  cond (r3.1 != 0)
  (some (2200, ([] : (List (Int × Int × (List Int))))))
  ((formula_Read a0 r3.2).bind fun r4 =>
    some (r4.1, r4.2))
def law22_awake : Option Bool :=
  (law22_words).bind fun r17 =>
  (formula_Parse r17 ([97, 108, 108, 32, 88, 48, 32, 40, 112, 40, 88, 48, 41, 32, 45, 62, 32, 101, 120, 32, 88, 49, 32, 126, 102, 40, 88, 48, 41, 32, 61, 32, 88, 49, 41] : Str)).bind fun r18 =>
  (law22_words).bind fun r19 =>
  (formula_Show r19 r18.2).bind fun r20 =>
  (law22_words).bind fun r21 =>
  (formula_Parse r21 ([112, 40, 88, 48, 41, 32, 38, 32, 112, 40, 88, 49, 41] : Str)).bind fun r22 =>
  (law22_words).bind fun r23 =>
  (formula_Parse r23 ([112, 40, 97, 44, 32, 98, 41] : Str)).bind fun r24 =>
  (law0_Num r18.1).bind fun r25 =>
  cond (r25 == 0)
  (cond (((List.length r18.2 : Nat) : Int) == 6)
    (cond (r20.1 == ([97, 108, 108, 32, 88, 48, 32, 40, 112, 40, 88, 48, 41, 32, 45, 62, 32, 101, 120, 32, 88, 49, 32, 126, 102, 40, 88, 48, 41, 32, 61, 32, 88, 49, 41] : Str))
      ((law0_Num r20.2).bind fun r26 =>
        cond (r26 == 0)
        ((law0_Num r22.1).bind fun r27 =>
          cond (r27 == 2200)
          ((law0_Num r24.1).bind fun r28 =>
            cond (r28 == 2200)
            ((law22_words).bind fun r29 =>
              (formula_May r29 r18.2).bind fun r30 =>
              cond r30
              ((law22_words).bind fun r31 =>
                (formula_May r31 ([] : (List (Int × Int × (List Int))))).bind fun r32 =>
                some (!r32))
              (some false))
            (some false))
          (some false))
        (some false))
      (some false))
    (some false))
  (some false)
def law0_SameNodes_L0 (rec : ((List (Int × Int × (List Int))) × (List (Int × Int × (List Int))) × Int) → Option (Unit ⊕ Bool)) (x : ((List (Int × Int × (List Int))) × (List (Int × Int × (List Int))) × Int)) : Option (Unit ⊕ Bool) :=
  cond (decide (x.2.2 < ((List.length x.1 : Nat) : Int)))
  ((gx x.1 x.2.2).bind fun e8 =>
    (gx x.2.1 x.2.2).bind fun e9 =>
    cond (e8.1 != e9.1)
    (some (Sum.inr false))
    ((gx x.1 x.2.2).bind fun e10 =>
      (gx x.2.1 x.2.2).bind fun e11 =>
      cond (e10.2.1 != e11.2.1)
      (some (Sum.inr false))
      ((gx x.1 x.2.2).bind fun e12 =>
        (gx x.2.1 x.2.2).bind fun e13 =>
        (law0_SameInts e12.2.2 e13.2.2).bind fun r14 =>
        cond (!r14)
        (some (Sum.inr false))
        (rec (x.1, x.2.1, (IntKind.wrap .i64 (x.2.2 + 1)))))))
  (some (Sum.inl ()))
def law0_SameNodes (a0 : (List (Int × Int × (List Int)))) (a1 : (List (Int × Int × (List Int)))) : Option Bool :=
  cond (((List.length a0 : Nat) : Int) != ((List.length a1 : Nat) : Int))
  (some false)
  (((lp law0_SameNodes_L0 fuel) (a0, a1, 0)).bind fun r18 =>
    caseS r18
    (fun z19 => some true)
    (fun z20 => some z20))
end Go.Abs.Q
namespace Go.Abs.Q
open Go Go.Abs
def lex_run_L0_go (s2 : Bool) : List UInt8 → Nat → Option Int
  | [], i => some (i : Int)
  | e :: es, i =>
    (lex_digit ((UInt8.toNat e : Nat) : Int)).bind fun r6 =>
    cond r6
    (lex_run_L0_go s2 es (i + 1))
    (cond s2
      ((lex_small ((UInt8.toNat e : Nat) : Int)).bind fun r8 =>
        cond r8
        (lex_run_L0_go s2 es (i + 1))
        (some (i : Int)))
      (some (i : Int)))
theorem lex_run_L0_go_eq (s0 : Str) (s2 : Bool) (hl : List.length s0 ≤ maxLen) : ∀ (es : List UInt8) (i : Nat) (k : Nat), s0.drop i = es → es.length < k → lp lex_run_L0 k (s0, (i : Int), s2) = lex_run_L0_go s2 es i := by
  intro es
  induction es with
  | nil =>
    intro i k h hk
    obtain ⟨k, rfl⟩ : ∃ k', k = k' + 1 := ⟨k - 1, by omega⟩
    rw [lp_succ]
    generalize lp lex_run_L0 k = rec
    unfold lex_run_L0 lex_run_L0_go
    simp only [lt_false (drop_nil_le h), cond_false]
  | cons e es ih =>
    intro i k h hk
    obtain ⟨k, rfl⟩ : ∃ k', k = k' + 1 := ⟨k - 1, by omega⟩
    rw [lp_succ]
    have hi := drop_cons_lt h
    have hk2 : es.length < k := Nat.lt_of_succ_lt_succ hk
    have key := fun (_ : Unit) => ih (i + 1) k (drop_cons_next h) hk2
    generalize lp lex_run_L0 k = rec at key ⊢
    unfold lex_run_L0 lex_run_L0_go
    simp only [lt_true hi, cond_true, gx_nat, drop_cons_get h, Option.bind_some, wrap_i1 hi hl, key ()]
def lex_Number_L0_go : List UInt8 → Int → Option Int
  | [], s1 => some s1
  | e :: es, s1 =>
    lex_Number_L0_go es (IntKind.wrap .i64 ((IntKind.wrap .i64 (10 * s1)) + (IntKind.wrap .i64 (IntKind.wrap .u8 (((UInt8.toNat e : Nat) : Int) - 48)))))
theorem lex_Number_L0_go_eq (s0 : Str) (hl : List.length s0 ≤ maxLen) : ∀ (es : List UInt8) (i : Nat) (k : Nat) (s1 : Int), s0.drop i = es → es.length < k → lp lex_Number_L0 k (s0, s1, ((List.length s0 : Nat) : Int), (i : Int)) = lex_Number_L0_go es s1 := by
  intro es
  induction es with
  | nil =>
    intro i k s1 h hk
    obtain ⟨k, rfl⟩ : ∃ k', k = k' + 1 := ⟨k - 1, by omega⟩
    rw [lp_succ]
    generalize lp lex_Number_L0 k = rec
    unfold lex_Number_L0 lex_Number_L0_go
    simp only [lt_false (drop_nil_le h), cond_false]
  | cons e es ih =>
    intro i k s1 h hk
    obtain ⟨k, rfl⟩ : ∃ k', k = k' + 1 := ⟨k - 1, by omega⟩
    rw [lp_succ]
    have hi := drop_cons_lt h
    have hk2 : es.length < k := Nat.lt_of_succ_lt_succ hk
    have key := fun s1 => ih (i + 1) k s1 (drop_cons_next h) hk2
    generalize lp lex_Number_L0 k = rec at key ⊢
    unfold lex_Number_L0 lex_Number_L0_go
    simp only [lt_true hi, cond_true, gx_nat, drop_cons_get h, Option.bind_some, wrap_i1 hi hl, key]
theorem lex_Number_L0_go_at0 (s0 : Str) (s1 : Int) (hl : List.length s0 ≤ maxLen) : lp lex_Number_L0 fuel (s0, s1, ((List.length s0 : Nat) : Int), 0) = lex_Number_L0_go s0 s1 :=
  lex_Number_L0_go_eq s0 hl s0 0 fuel s1 rfl (Nat.lt_of_le_of_lt hl (by decide))
def lex_Lex_L2_go : List UInt8 → Nat → Option Int
  | [], i => some (i : Int)
  | e :: es, i =>
    cond (((UInt8.toNat e : Nat) : Int) == 32)
    (lex_Lex_L2_go es (i + 1))
    (some (i : Int))
theorem lex_Lex_L2_go_eq (s0 : Str) (hl : List.length s0 ≤ maxLen) : ∀ (es : List UInt8) (i : Nat) (k : Nat), s0.drop i = es → es.length < k → lp lex_Lex_L2 k (s0, (i : Int)) = lex_Lex_L2_go es i := by
  intro es
  induction es with
  | nil =>
    intro i k h hk
    obtain ⟨k, rfl⟩ : ∃ k', k = k' + 1 := ⟨k - 1, by omega⟩
    rw [lp_succ]
    generalize lp lex_Lex_L2 k = rec
    unfold lex_Lex_L2 lex_Lex_L2_go
    simp only [lt_false (drop_nil_le h), cond_false]
  | cons e es ih =>
    intro i k h hk
    obtain ⟨k, rfl⟩ : ∃ k', k = k' + 1 := ⟨k - 1, by omega⟩
    rw [lp_succ]
    have hi := drop_cons_lt h
    have hk2 : es.length < k := Nat.lt_of_succ_lt_succ hk
    have key := fun (_ : Unit) => ih (i + 1) k (drop_cons_next h) hk2
    generalize lp lex_Lex_L2 k = rec at key ⊢
    unfold lex_Lex_L2 lex_Lex_L2_go
    simp only [lt_true hi, cond_true, gx_nat, drop_cons_get h, Option.bind_some, wrap_i1 hi hl, key ()]
def slices_Concat_2_L1_go : List (List Int) → (List Int) → Option (List Int)
  | [], s3 => some s3
  | e :: es, s3 =>
    cond (room (List.length s3 + List.length e) 8)
    (slices_Concat_2_L1_go es (s3 ++ e))
    (none)
theorem slices_Concat_2_L1_go_eq (s0 : (List (List Int))) (hl : List.length s0 ≤ maxLen) : ∀ (es : List (List Int)) (i : Nat) (k : Nat) (s3 : (List Int)), s0.drop i = es → es.length < k → lp slices_Concat_2_L1 k (s0, ((List.length s0 : Nat) : Int), (i : Int), s3) = slices_Concat_2_L1_go es s3 := by
  intro es
  induction es with
  | nil =>
    intro i k s3 h hk
    obtain ⟨k, rfl⟩ : ∃ k', k = k' + 1 := ⟨k - 1, by omega⟩
    rw [lp_succ]
    generalize lp slices_Concat_2_L1 k = rec
    unfold slices_Concat_2_L1 slices_Concat_2_L1_go
    simp only [lt_false (drop_nil_le h), cond_false]
  | cons e es ih =>
    intro i k s3 h hk
    obtain ⟨k, rfl⟩ : ∃ k', k = k' + 1 := ⟨k - 1, by omega⟩
    rw [lp_succ]
    have hi := drop_cons_lt h
    have hk2 : es.length < k := Nat.lt_of_succ_lt_succ hk
    have key := fun s3 => ih (i + 1) k s3 (drop_cons_next h) hk2
    generalize lp slices_Concat_2_L1 k = rec at key ⊢
    unfold slices_Concat_2_L1 slices_Concat_2_L1_go
    simp only [lt_true hi, cond_true, gx_nat, drop_cons_get h, Option.bind_some, wrap_i1 hi hl, key]
theorem slices_Concat_2_L1_go_at0 (s0 : (List (List Int))) (s3 : (List Int)) (hl : List.length s0 ≤ maxLen) : lp slices_Concat_2_L1 fuel (s0, ((List.length s0 : Nat) : Int), 0, s3) = slices_Concat_2_L1_go s0 s3 :=
  slices_Concat_2_L1_go_eq s0 hl s0 0 fuel s3 rfl (Nat.lt_of_le_of_lt hl (by decide))
def slices_Concat_2_L0_go : List (List Int) → Int → Option Int
  | [], s1 => some s1
  | e :: es, s1 =>
    cond (decide ((IntKind.wrap .i64 (s1 + ((List.length e : Nat) : Int))) < 0))
    (none)
    (slices_Concat_2_L0_go es (IntKind.wrap .i64 (s1 + ((List.length e : Nat) : Int))))
theorem slices_Concat_2_L0_go_eq (s0 : (List (List Int))) (s2 : (List (List Int))) (hl : List.length s2 ≤ maxLen) : ∀ (es : List (List Int)) (i : Nat) (k : Nat) (s1 : Int), s2.drop i = es → es.length < k → lp slices_Concat_2_L0 k (s0, s1, s2, ((List.length s2 : Nat) : Int), (i : Int)) = slices_Concat_2_L0_go es s1 := by
  intro es
  induction es with
  | nil =>
    intro i k s1 h hk
    obtain ⟨k, rfl⟩ : ∃ k', k = k' + 1 := ⟨k - 1, by omega⟩
    rw [lp_succ]
    generalize lp slices_Concat_2_L0 k = rec
    unfold slices_Concat_2_L0 slices_Concat_2_L0_go
    simp only [lt_false (drop_nil_le h), cond_false]
  | cons e es ih =>
    intro i k s1 h hk
    obtain ⟨k, rfl⟩ : ∃ k', k = k' + 1 := ⟨k - 1, by omega⟩
    rw [lp_succ]
    have hi := drop_cons_lt h
    have hk2 : es.length < k := Nat.lt_of_succ_lt_succ hk
    have key := fun s1 => ih (i + 1) k s1 (drop_cons_next h) hk2
    generalize lp slices_Concat_2_L0 k = rec at key ⊢
    unfold slices_Concat_2_L0 slices_Concat_2_L0_go
    simp only [lt_true hi, cond_true, gx_nat, drop_cons_get h, Option.bind_some, wrap_i1 hi hl, key]
theorem slices_Concat_2_L0_go_at0 (s0 : (List (List Int))) (s2 : (List (List Int))) (s1 : Int) (hl : List.length s2 ≤ maxLen) : lp slices_Concat_2_L0 fuel (s0, s1, s2, ((List.length s2 : Nat) : Int), 0) = slices_Concat_2_L0_go s2 s1 :=
  slices_Concat_2_L0_go_eq s0 s2 hl s2 0 fuel s1 rfl (Nat.lt_of_le_of_lt hl (by decide))
def formula_Reader_joint_1_L0_go : List Str → Nat → (List QSym) → (List (Int × Str)) → Bool → Option (((List QSym) × (List (Int × Str)) × Bool) ⊕ (Int × Bool × (List QSym) × (List (Int × Str)) × Bool))
  | [], i, s3, s4, s5 => some (Sum.inl (s3, s4, s5))
  | e :: es, i, s3, s4, s5 =>
    (formula_Reader_Is_1 e s3 s4 s5).bind fun r6 =>
    cond r6.1
    (some (Sum.inr ((IntKind.wrap .i64 (2 + (i : Int))), true, r6.2.1, r6.2.2.1, r6.2.2.2)))
    (formula_Reader_joint_1_L0_go es (i + 1) r6.2.1 r6.2.2.1 r6.2.2.2)
theorem formula_Reader_joint_1_L0_go_eq (s0 : (List Str)) (hl : List.length s0 ≤ maxLen) : ∀ (es : List Str) (i : Nat) (k : Nat) (s3 : (List QSym)) (s4 : (List (Int × Str))) (s5 : Bool), s0.drop i = es → es.length < k → lp formula_Reader_joint_1_L0 k (s0, ((List.length s0 : Nat) : Int), (i : Int), s3, s4, s5) = formula_Reader_joint_1_L0_go es i s3 s4 s5 := by
  intro es
  induction es with
  | nil =>
    intro i k s3 s4 s5 h hk
    obtain ⟨k, rfl⟩ : ∃ k', k = k' + 1 := ⟨k - 1, by omega⟩
    rw [lp_succ]
    generalize lp formula_Reader_joint_1_L0 k = rec
    unfold formula_Reader_joint_1_L0 formula_Reader_joint_1_L0_go
    simp only [lt_false (drop_nil_le h), cond_false]
  | cons e es ih =>
    intro i k s3 s4 s5 h hk
    obtain ⟨k, rfl⟩ : ∃ k', k = k' + 1 := ⟨k - 1, by omega⟩
    rw [lp_succ]
    have hi := drop_cons_lt h
    have hk2 : es.length < k := Nat.lt_of_succ_lt_succ hk
    have key := fun s3 s4 s5 => ih (i + 1) k s3 s4 s5 (drop_cons_next h) hk2
    generalize lp formula_Reader_joint_1_L0 k = rec at key ⊢
    unfold formula_Reader_joint_1_L0 formula_Reader_joint_1_L0_go
    simp only [lt_true hi, cond_true, gx_nat, drop_cons_get h, Option.bind_some, wrap_i1 hi hl, key]
theorem formula_Reader_joint_1_L0_go_at0 (s0 : (List Str)) (s3 : (List QSym)) (s4 : (List (Int × Str))) (s5 : Bool) (hl : List.length s0 ≤ maxLen) : lp formula_Reader_joint_1_L0 fuel (s0, ((List.length s0 : Nat) : Int), 0, s3, s4, s5) = formula_Reader_joint_1_L0_go s0 0 s3 s4 s5 :=
  formula_Reader_joint_1_L0_go_eq s0 hl s0 0 fuel s3 s4 s5 rfl (Nat.lt_of_le_of_lt hl (by decide))
def law0_SameNodes_L0_go (s1 : (List (Int × Int × (List Int)))) : List (Int × Int × (List Int)) → Nat → Option (Unit ⊕ Bool)
  | [], i => some (Sum.inl ())
  | e :: es, i =>
    (gx s1 (i : Int)).bind fun e9 =>
    cond (e.1 != e9.1)
    (some (Sum.inr false))
    ((gx s1 (i : Int)).bind fun e11 =>
      cond (e.2.1 != e11.2.1)
      (some (Sum.inr false))
      ((gx s1 (i : Int)).bind fun e13 =>
        (law0_SameInts e.2.2 e13.2.2).bind fun r14 =>
        cond (!r14)
        (some (Sum.inr false))
        (law0_SameNodes_L0_go s1 es (i + 1))))
theorem law0_SameNodes_L0_go_eq (s0 : (List (Int × Int × (List Int)))) (s1 : (List (Int × Int × (List Int)))) (hl : List.length s0 ≤ maxLen) : ∀ (es : List (Int × Int × (List Int))) (i : Nat) (k : Nat), s0.drop i = es → es.length < k → lp law0_SameNodes_L0 k (s0, s1, (i : Int)) = law0_SameNodes_L0_go s1 es i := by
  intro es
  induction es with
  | nil =>
    intro i k h hk
    obtain ⟨k, rfl⟩ : ∃ k', k = k' + 1 := ⟨k - 1, by omega⟩
    rw [lp_succ]
    generalize lp law0_SameNodes_L0 k = rec
    unfold law0_SameNodes_L0 law0_SameNodes_L0_go
    simp only [lt_false (drop_nil_le h), cond_false]
  | cons e es ih =>
    intro i k h hk
    obtain ⟨k, rfl⟩ : ∃ k', k = k' + 1 := ⟨k - 1, by omega⟩
    rw [lp_succ]
    have hi := drop_cons_lt h
    have hk2 : es.length < k := Nat.lt_of_succ_lt_succ hk
    have key := fun (_ : Unit) => ih (i + 1) k (drop_cons_next h) hk2
    generalize lp law0_SameNodes_L0 k = rec at key ⊢
    unfold law0_SameNodes_L0 law0_SameNodes_L0_go
    simp only [lt_true hi, cond_true, gx_nat, drop_cons_get h, Option.bind_some, wrap_i1 hi hl, key ()]
theorem law0_SameNodes_L0_go_at0 (s0 : (List (Int × Int × (List Int)))) (s1 : (List (Int × Int × (List Int)))) (hl : List.length s0 ≤ maxLen) : lp law0_SameNodes_L0 fuel (s0, s1, 0) = law0_SameNodes_L0_go s1 s0 0 :=
  law0_SameNodes_L0_go_eq s0 s1 hl s0 0 fuel rfl (Nat.lt_of_le_of_lt hl (by decide))
end Go.Abs.Q
namespace Go.Abs.Q
open Go Go.Abs
section
theorem law22_awake_eq : law22_awake = some true := by kernel_rfl
end
end Go.Abs.Q
namespace Go.Abs.Q
open Go Go.Abs
def law0_CopySyms (a0 : (List QSym)) : Option (List QSym) :=
  cond (room (List.length ([] : List QSym) + List.length a0) 40)
  (some (([] : List QSym) ++ a0))
  (none)
def ref21_small (a0 : Int) : Option Bool :=
  cond (decide (a0 ≥ 97))
  (some (decide (a0 ≤ 122)))
  (some false)
def ref21_digit (a0 : Int) : Option Bool :=
  cond (decide (a0 ≥ 48))
  (some (decide (a0 ≤ 57)))
  (some false)
def ref21_digits_L0 (rec : (Str × Int) → Option Int) (x : (Str × Int)) : Option Int :=
  cond (decide (x.2 < ((List.length x.1 : Nat) : Int)))
  ((gx x.1 x.2).bind fun c3 =>
    (ref21_digit ((UInt8.toNat c3 : Nat) : Int)).bind fun r4 =>
    cond r4
    (rec (x.1, (IntKind.wrap .i64 (x.2 + 1))))
    (some x.2))
  (some x.2)
def ref21_digits (a0 : Str) (a1 : Int) : Option Int :=
  ((lp ref21_digits_L0 fuel) (a0, a1)).bind fun r6 =>
  some r6
def ref21_Number_L0 (rec : (Str × Int × Int) → Option (Int ⊕ (Int × Bool))) (x : (Str × Int × Int)) : Option (Int ⊕ (Int × Bool)) :=
  cond (decide (x.2.2 < ((List.length x.1 : Nat) : Int)))
  ((gx x.1 x.2.2).bind fun c5 =>
    (ref21_digit ((UInt8.toNat c5 : Nat) : Int)).bind fun r6 =>
    cond (!r6)
    (some (Sum.inr (0, false)))
    ((gx x.1 x.2.2).bind fun c7 =>
      rec (x.1, (IntKind.wrap .i64 ((IntKind.wrap .i64 (x.2.1 * 10)) + (IntKind.wrap .i64 (IntKind.wrap .u8 (((UInt8.toNat c7 : Nat) : Int) - 48))))), (IntKind.wrap .i64 (x.2.2 + 1)))))
  (some (Sum.inl x.2.1))
def ref21_Number (a0 : Str) : Option (Int × Bool) :=
  cond (decide (((List.length a0 : Nat) : Int) < 1))
  (some (0, false))
  (cond (decide (((List.length a0 : Nat) : Int) > 4))
    (some (0, false))
    (cond (decide (((List.length a0 : Nat) : Int) > 1))
      ((gx a0 0).bind fun c14 =>
        cond (((UInt8.toNat c14 : Nat) : Int) == 48)
        (some (0, false))
        (((lp ref21_Number_L0 fuel) (a0, 0, 0)).bind fun r15 =>
          caseS r15
          (fun z16 => some (z16, true))
          (fun z17 => some (z17.1, z17.2))))
      (((lp ref21_Number_L0 fuel) (a0, 0, 0)).bind fun r18 =>
        caseS r18
        (fun z19 => some (z19, true))
        (fun z20 => some (z20.1, z20.2)))))
def ref21_word_L0 (rec : (Str × Int × Int × Int × Str) → Option Int) (x : (Str × Int × Int × Int × Str)) : Option Int :=
  cond (decide (x.2.2.1 < ((List.length x.1 : Nat) : Int)))
  ((gx x.1 x.2.2.1).bind fun c7 =>
    (ref21_small ((UInt8.toNat c7 : Nat) : Int)).bind fun r8 =>
    cond r8
    (rec (x.1, x.2.1, (IntKind.wrap .i64 (x.2.2.1 + 1)), x.2.2.2.1, x.2.2.2.2))
    ((gx x.1 x.2.2.1).bind fun c9 =>
      (ref21_digit ((UInt8.toNat c9 : Nat) : Int)).bind fun r10 =>
      cond r10
      (rec (x.1, x.2.1, (IntKind.wrap .i64 (x.2.2.1 + 1)), x.2.2.2.1, x.2.2.2.2))
      (some x.2.2.1)))
  (some x.2.2.1)
def ref21_word (a0 : Str) (a1 : Int) : Option (Int × Str × Bool) :=
  (gx a0 a1).bind fun c31 =>
  (ref21_small ((UInt8.toNat c31 : Nat) : Int)).bind fun r32 =>
  cond r32
  (((lp ref21_word_L0 fuel) (a0, a1, a1, 0, ([] : Str))).bind fun r33 =>
    (slc2 a0 (some a1) (some r33)).bind fun y34 =>
    some (0, y34, (decide ((IntKind.wrap .i64 (r33 - a1)) ≤ 8))))
  (cond (((UInt8.toNat c31 : Nat) : Int) == 88)
    ((ref21_digits a0 (IntKind.wrap .i64 (a1 + 1))).bind fun r35 =>
      (slc2 a0 (some (IntKind.wrap .i64 (a1 + 1))) (some r35)).bind fun y36 =>
      (ref21_Number y36).bind fun r37 =>
      (slc2 a0 (some a1) (some r35)).bind fun y38 =>
      cond r37.2
      (some (1, y38, (decide (r37.1 ≤ 23))))
      (some (1, y38, false)))
    ((ref21_digit ((UInt8.toNat c31 : Nat) : Int)).bind fun r39 =>
      cond r39
      ((ref21_digits a0 a1).bind fun r40 =>
        (slc2 a0 (some a1) (some r40)).bind fun y41 =>
        (ref21_Number y41).bind fun r42 =>
        (slc2 a0 (some a1) (some r40)).bind fun y43 =>
        some (2, y43, r42.2))
      (cond (((UInt8.toNat c31 : Nat) : Int) == 45)
        (cond (decide ((IntKind.wrap .i64 (a1 + 1)) < ((List.length a0 : Nat) : Int)))
          ((gx a0 (IntKind.wrap .i64 (a1 + 1))).bind fun c44 =>
            some (3, ([45, 62] : Str), (((UInt8.toNat c44 : Nat) : Int) == 62)))
          (some (3, ([45, 62] : Str), false)))
        (cond (((UInt8.toNat c31 : Nat) : Int) == 40)
          ((slc2 a0 (some a1) (some (IntKind.wrap .i64 (a1 + 1)))).bind fun y45 =>
            some (3, y45, true))
          (cond (((UInt8.toNat c31 : Nat) : Int) == 41)
            ((slc2 a0 (some a1) (some (IntKind.wrap .i64 (a1 + 1)))).bind fun y46 =>
              some (3, y46, true))
            (cond (((UInt8.toNat c31 : Nat) : Int) == 44)
              ((slc2 a0 (some a1) (some (IntKind.wrap .i64 (a1 + 1)))).bind fun y47 =>
                some (3, y47, true))
              (cond (((UInt8.toNat c31 : Nat) : Int) == 61)
                ((slc2 a0 (some a1) (some (IntKind.wrap .i64 (a1 + 1)))).bind fun y48 =>
                  some (3, y48, true))
                (cond (((UInt8.toNat c31 : Nat) : Int) == 126)
                  ((slc2 a0 (some a1) (some (IntKind.wrap .i64 (a1 + 1)))).bind fun y49 =>
                    some (3, y49, true))
                  (cond (((UInt8.toNat c31 : Nat) : Int) == 38)
                    ((slc2 a0 (some a1) (some (IntKind.wrap .i64 (a1 + 1)))).bind fun y50 =>
                      some (3, y50, true))
                    (cond (((UInt8.toNat c31 : Nat) : Int) == 124)
                      ((slc2 a0 (some a1) (some (IntKind.wrap .i64 (a1 + 1)))).bind fun y51 =>
                        some (3, y51, true))
                      ((slc2 a0 (some a1) (some (IntKind.wrap .i64 (a1 + 1)))).bind fun y52 =>
                        some (3, y52, (((UInt8.toNat c31 : Nat) : Int) == 58)))))))))))))
def ref21_Lex_L0 (rec : (Str × Int × (List (Int × Str))) → Option ((List (Int × Str)) ⊕ Int)) (x : (Str × Int × (List (Int × Str)))) : Option ((List (Int × Str)) ⊕ Int) :=
  cond (decide (x.2.1 < ((List.length x.1 : Nat) : Int)))
  ((gx x.1 x.2.1).bind fun c5 =>
    cond (((UInt8.toNat c5 : Nat) : Int) == 32)
    (rec (x.1, (IntKind.wrap .i64 (x.2.1 + 1)), x.2.2))
    ((ref21_word x.1 x.2.1).bind fun r6 =>
      cond (!r6.2.2)
      (some (Sum.inr 2100))
      (cond (room (List.length x.2.2 + List.length ([(r6.1, r6.2.1)] : List (Int × Str))) 24)
        (rec (x.1, (IntKind.wrap .i64 (x.2.1 + ((List.length r6.2.1 : Nat) : Int))), (x.2.2 ++ ([(r6.1, r6.2.1)] : List (Int × Str)))))
        (none))))
  (some (Sum.inl x.2.2))
def ref21_Lex (a0 : Str) : Option (Int × (List (Int × Str))) :=
  cond (decide (((List.length a0 : Nat) : Int) > 2048))
  (some (2100, ([] : (List (Int × Str)))))
  (((lp ref21_Lex_L0 fuel) (a0, 0, ([] : (List (Int × Str))))).bind fun r10 =>
    caseS r10
    (fun z11 => some (0, z11))
    (fun z12 => some (z12, ([] : (List (Int × Str))))))
def ref21_SignMay (a0 : (List QSym)) : Option Bool :=
  (ref1_SignMay a0).bind fun r4 =>
  cond r4
  ((ref1_Code a0 ([97, 108, 108] : Str)).bind fun r5 =>
    cond (decide (r5 < 0))
    ((ref1_Code a0 ([101, 120] : Str)).bind fun r6 =>
      some (decide (r6 < 0)))
    (some false))
  (some false)
def ref21_reader_mark_1 (a0 : Str) (a1 : (List QSym)) (a2 : (List (Int × Str))) (a3 : Int) (a4 : Bool) (a5 : Bool) : Option (Bool × (List QSym) × (List (Int × Str)) × Int × Bool × Bool) :=
  cond (decide (a3 < ((List.length a2 : Nat) : Int)))
  ((gx a2 a3).bind fun e3 =>
    cond (e3.1 == 3)
    ((gx a2 a3).bind fun e4 =>
      cond (e4.2 == a0)
      (some (true, a1, a2, (IntKind.wrap .i64 (a3 + 1)), a4, a5))
      (some (false, a1, a2, a3, a4, a5)))
    (some (false, a1, a2, a3, a4, a5)))
  (some (false, a1, a2, a3, a4, a5))
def ref21_reader_variable_1 (a0 : (List QSym)) (a1 : (List (Int × Str))) (a2 : Int) (a3 : Bool) (a4 : Bool) : Option (Int × (List QSym) × (List (Int × Str)) × Int × Bool × Bool) :=
  cond (decide (a2 ≥ ((List.length a1 : Nat) : Int)))
  (some ((-1), a0, a1, a2, a3, a4))
  ((gx a1 a2).bind fun e5 =>
    cond (e5.1 != 1)
    (some ((-1), a0, a1, a2, a3, a4))
    ((gx a1 a2).bind fun e6 =>
      (slc2 e6.2 (some 1) none).bind fun y7 =>
      (ref21_Number y7).bind fun r8 =>
      some (r8.1, a0, a1, (IntKind.wrap .i64 (a2 + 1)), a3, a4)))
def ref21_reader_want_1 (a0 : Str) (a1 : (List QSym)) (a2 : (List (Int × Str))) (a3 : Int) (a4 : Bool) (a5 : Bool) : Option ((List QSym) × (List (Int × Str)) × Int × Bool × Bool) :=
  (ref21_reader_mark_1 a0 a1 a2 a3 a4 a5).bind fun r2 =>
  cond (!r2.1)
  (some (r2.2.1, r2.2.2.1, r2.2.2.2.1, true, r2.2.2.2.2.2))
  (some (r2.2.1, r2.2.2.1, r2.2.2.2.1, r2.2.2.2.2.1, r2.2.2.2.2.2))
def ref21_reader_name_1 (a0 : (List QSym)) (a1 : (List (Int × Str))) (a2 : Int) (a3 : Bool) (a4 : Bool) : Option (Int × (List QSym) × (List (Int × Str)) × Int × Bool × Bool) :=
  cond (decide (a2 ≥ ((List.length a1 : Nat) : Int)))
  (some ((-1), a0, a1, a2, a3, a4))
  ((gx a1 a2).bind fun e4 =>
    cond (e4.1 != 0)
    (some ((-1), a0, a1, a2, a3, a4))
    ((gx a1 (IntKind.wrap .i64 ((IntKind.wrap .i64 (a2 + 1)) - 1))).bind fun e5 =>
      (ref1_Code a0 e5.2).bind fun r6 =>
      some (r6, a0, a1, (IntKind.wrap .i64 (a2 + 1)), a3, a4)))
def ref21_reader_term_1_S (rf : ((((List QSym) × (List (Int × Str)) × Int × Bool × Bool) → Option ((List Int) × (List QSym) × (List (Int × Str)) × Int × Bool × Bool)) × ((Int × (List QSym) × (List (Int × Str)) × Int × Bool × Bool) → Option ((List Int) × (List QSym) × (List (Int × Str)) × Int × Bool × Bool)))) (a0 : (List QSym)) (a1 : (List (Int × Str))) (a2 : Int) (a3 : Bool) (a4 : Bool) : Option ((List Int) × (List QSym) × (List (Int × Str)) × Int × Bool × Bool) :=
  (ref21_reader_variable_1 a0 a1 a2 a3 a4).bind fun r6 =>
  cond (decide (r6.1 ≥ 0))
  (some (([(IntKind.wrap .i64 ((-1) - r6.1))] : List Int), r6.2.1, r6.2.2.1, r6.2.2.2.1, r6.2.2.2.2.1, r6.2.2.2.2.2))
  ((ref21_reader_name_1 r6.2.1 r6.2.2.1 r6.2.2.2.1 r6.2.2.2.2.1 r6.2.2.2.2.2).bind fun r7 =>
    cond r7.2.2.2.2.1
    (some (([] : (List Int)), r7.2.1, r7.2.2.1, r7.2.2.2.1, true, r7.2.2.2.2.2))
    (cond (decide (r7.1 < 0))
      (some (([] : (List Int)), r7.2.1, r7.2.2.1, r7.2.2.2.1, true, r7.2.2.2.2.2))
      ((gx r7.2.1 r7.1).bind fun e8 =>
        cond (e8.2.1 == 0)
        (some (([] : (List Int)), r7.2.1, r7.2.2.1, r7.2.2.2.1, true, r7.2.2.2.2.2))
        ((gx r7.2.1 r7.1).bind fun e9 =>
          (rf.2 (e9.2.2.1, r7.2.1, r7.2.2.1, r7.2.2.2.1, r7.2.2.2.2.1, r7.2.2.2.2.2)).bind fun r10 =>
          cond (room (List.length ([r7.1] : List Int) + List.length r10.1) 8)
          (some ((([r7.1] : List Int) ++ r10.1), r10.2.1, r10.2.2.1, r10.2.2.2.1, r10.2.2.2.2.1, r10.2.2.2.2.2))
          (none)))))
def ref21_reader_args_1_L0 (rf : ((((List QSym) × (List (Int × Str)) × Int × Bool × Bool) → Option ((List Int) × (List QSym) × (List (Int × Str)) × Int × Bool × Bool)) × ((Int × (List QSym) × (List (Int × Str)) × Int × Bool × Bool) → Option ((List Int) × (List QSym) × (List (Int × Str)) × Int × Bool × Bool)))) (rec : (Int × Int × (List QSym) × (List (Int × Str)) × Int × Bool × Bool × (List Int)) → Option ((List QSym) × (List (Int × Str)) × Int × Bool × Bool × (List Int))) (x : (Int × Int × (List QSym) × (List (Int × Str)) × Int × Bool × Bool × (List Int))) : Option ((List QSym) × (List (Int × Str)) × Int × Bool × Bool × (List Int)) :=
  cond (decide (x.2.1 < x.1))
  (cond (!x.2.2.2.2.2.1)
    (cond (decide (x.2.1 > 0))
      ((ref21_reader_want_1 ([44] : Str) x.2.2.1 x.2.2.2.1 x.2.2.2.2.1 x.2.2.2.2.2.1 x.2.2.2.2.2.2.1).bind fun r7 =>
        (rf.1 (r7.1, r7.2.1, r7.2.2.1, r7.2.2.2.1, r7.2.2.2.2)).bind fun r8 =>
        cond (room (List.length x.2.2.2.2.2.2.2 + List.length r8.1) 8)
        (rec (x.1, (IntKind.wrap .i64 (x.2.1 + 1)), r8.2.1, r8.2.2.1, r8.2.2.2.1, r8.2.2.2.2.1, r8.2.2.2.2.2, (x.2.2.2.2.2.2.2 ++ r8.1)))
        (none))
      ((rf.1 (x.2.2.1, x.2.2.2.1, x.2.2.2.2.1, x.2.2.2.2.2.1, x.2.2.2.2.2.2.1)).bind fun r9 =>
        cond (room (List.length x.2.2.2.2.2.2.2 + List.length r9.1) 8)
        (rec (x.1, (IntKind.wrap .i64 (x.2.1 + 1)), r9.2.1, r9.2.2.1, r9.2.2.2.1, r9.2.2.2.2.1, r9.2.2.2.2.2, (x.2.2.2.2.2.2.2 ++ r9.1)))
        (none)))
    (some (x.2.2.1, x.2.2.2.1, x.2.2.2.2.1, x.2.2.2.2.2.1, x.2.2.2.2.2.2.1, x.2.2.2.2.2.2.2)))
  (some (x.2.2.1, x.2.2.2.1, x.2.2.2.2.1, x.2.2.2.2.2.1, x.2.2.2.2.2.2.1, x.2.2.2.2.2.2.2))
def ref21_reader_args_1_S (rf : ((((List QSym) × (List (Int × Str)) × Int × Bool × Bool) → Option ((List Int) × (List QSym) × (List (Int × Str)) × Int × Bool × Bool)) × ((Int × (List QSym) × (List (Int × Str)) × Int × Bool × Bool) → Option ((List Int) × (List QSym) × (List (Int × Str)) × Int × Bool × Bool)))) (a0 : Int) (a1 : (List QSym)) (a2 : (List (Int × Str))) (a3 : Int) (a4 : Bool) (a5 : Bool) : Option ((List Int) × (List QSym) × (List (Int × Str)) × Int × Bool × Bool) :=
  cond (a0 == 0)
  (some (([] : (List Int)), a1, a2, a3, a4, a5))
  ((ref21_reader_want_1 ([40] : Str) a1 a2 a3 a4 a5).bind fun r12 =>
    ((lp (ref21_reader_args_1_L0 rf) fuel) (a0, 0, r12.1, r12.2.1, r12.2.2.1, r12.2.2.2.1, r12.2.2.2.2, ([] : (List Int)))).bind fun r13 =>
    (ref21_reader_want_1 ([41] : Str) r13.1 r13.2.1 r13.2.2.1 r13.2.2.2.1 r13.2.2.2.2.1).bind fun r14 =>
    some (r13.2.2.2.2.2, r14.1, r14.2.1, r14.2.2.1, r14.2.2.2.1, r14.2.2.2.2))
def ref21_reader_args_1_R_step (rf : ((((List QSym) × (List (Int × Str)) × Int × Bool × Bool) → Option ((List Int) × (List QSym) × (List (Int × Str)) × Int × Bool × Bool)) × ((Int × (List QSym) × (List (Int × Str)) × Int × Bool × Bool) → Option ((List Int) × (List QSym) × (List (Int × Str)) × Int × Bool × Bool)))) : ((((List QSym) × (List (Int × Str)) × Int × Bool × Bool) → Option ((List Int) × (List QSym) × (List (Int × Str)) × Int × Bool × Bool)) × ((Int × (List QSym) × (List (Int × Str)) × Int × Bool × Bool) → Option ((List Int) × (List QSym) × (List (Int × Str)) × Int × Bool × Bool))) :=
  (fun (x : ((List QSym) × (List (Int × Str)) × Int × Bool × Bool)) => ref21_reader_term_1_S rf x.1 x.2.1 x.2.2.1 x.2.2.2.1 x.2.2.2.2, fun (x : (Int × (List QSym) × (List (Int × Str)) × Int × Bool × Bool)) => ref21_reader_args_1_S rf x.1 x.2.1 x.2.2.1 x.2.2.2.1 x.2.2.2.2.1 x.2.2.2.2.2)
def ref21_reader_args_1_R_base : ((((List QSym) × (List (Int × Str)) × Int × Bool × Bool) → Option ((List Int) × (List QSym) × (List (Int × Str)) × Int × Bool × Bool)) × ((Int × (List QSym) × (List (Int × Str)) × Int × Bool × Bool) → Option ((List Int) × (List QSym) × (List (Int × Str)) × Int × Bool × Bool))) := (fun _ => none, fun _ => none)
def ref21_reader_args_1_R (k : Nat) : ((((List QSym) × (List (Int × Str)) × Int × Bool × Bool) → Option ((List Int) × (List QSym) × (List (Int × Str)) × Int × Bool × Bool)) × ((Int × (List QSym) × (List (Int × Str)) × Int × Bool × Bool) → Option ((List Int) × (List QSym) × (List (Int × Str)) × Int × Bool × Bool))) := lpR ref21_reader_args_1_R_base ref21_reader_args_1_R_step k
def ref21_reader_term_1 (a0 : (List QSym)) (a1 : (List (Int × Str))) (a2 : Int) (a3 : Bool) (a4 : Bool) : Option ((List Int) × (List QSym) × (List (Int × Str)) × Int × Bool × Bool) := (ref21_reader_args_1_R fuel).1 (a0, a1, a2, a3, a4)
def ref21_reader_args_1 (a0 : Int) (a1 : (List QSym)) (a2 : (List (Int × Str))) (a3 : Int) (a4 : Bool) (a5 : Bool) : Option ((List Int) × (List QSym) × (List (Int × Str)) × Int × Bool × Bool) := (ref21_reader_args_1_R fuel).2 (a0, a1, a2, a3, a4, a5)
def ref21_reader_atom_1 (a0 : (List QSym)) (a1 : (List (Int × Str))) (a2 : Int) (a3 : Bool) (a4 : Bool) : Option ((List Int) × (List QSym) × (List (Int × Str)) × Int × Bool × Bool) :=
  cond (decide (a2 < ((List.length a1 : Nat) : Int)))
  ((gx a1 a2).bind fun e19 =>
    cond (e19.1 == 0)
    ((gx a1 a2).bind fun e20 =>
      (ref1_Code a0 e20.2).bind fun r21 =>
      cond (decide (r21 ≥ 0))
      ((gx a0 r21).bind fun e22 =>
        cond (e22.2.1 == 0)
        ((gx a0 r21).bind fun e23 =>
          (ref21_reader_args_1 e23.2.2.1 a0 a1 (IntKind.wrap .i64 (a2 + 1)) a3 a4).bind fun r24 =>
          cond (room (List.length ([r21] : List Int) + List.length r24.1) 8)
          (some ((([r21] : List Int) ++ r24.1), r24.2.1, r24.2.2.1, r24.2.2.2.1, r24.2.2.2.2.1, r24.2.2.2.2.2))
          (none))
        ((ref21_reader_term_1 a0 a1 a2 a3 a4).bind fun r25 =>
          cond (room (List.length ([0] : List Int) + List.length r25.1) 8)
          ((ref21_reader_want_1 ([61] : Str) r25.2.1 r25.2.2.1 r25.2.2.2.1 r25.2.2.2.2.1 r25.2.2.2.2.2).bind fun r26 =>
            cond r26.2.2.2.1
            (some (([] : (List Int)), r26.1, r26.2.1, r26.2.2.1, r26.2.2.2.1, r26.2.2.2.2))
            ((ref21_reader_term_1 r26.1 r26.2.1 r26.2.2.1 r26.2.2.2.1 r26.2.2.2.2).bind fun r27 =>
              cond (room (List.length (([0] : List Int) ++ r25.1) + List.length r27.1) 8)
              (some (((([0] : List Int) ++ r25.1) ++ r27.1), r27.2.1, r27.2.2.1, r27.2.2.2.1, r27.2.2.2.2.1, r27.2.2.2.2.2))
              (none)))
          (none)))
      ((ref21_reader_term_1 a0 a1 a2 a3 a4).bind fun r28 =>
        cond (room (List.length ([0] : List Int) + List.length r28.1) 8)
        ((ref21_reader_want_1 ([61] : Str) r28.2.1 r28.2.2.1 r28.2.2.2.1 r28.2.2.2.2.1 r28.2.2.2.2.2).bind fun r29 =>
          cond r29.2.2.2.1
          (some (([] : (List Int)), r29.1, r29.2.1, r29.2.2.1, r29.2.2.2.1, r29.2.2.2.2))
          ((ref21_reader_term_1 r29.1 r29.2.1 r29.2.2.1 r29.2.2.2.1 r29.2.2.2.2).bind fun r30 =>
            cond (room (List.length (([0] : List Int) ++ r28.1) + List.length r30.1) 8)
            (some (((([0] : List Int) ++ r28.1) ++ r30.1), r30.2.1, r30.2.2.1, r30.2.2.2.1, r30.2.2.2.2.1, r30.2.2.2.2.2))
            (none)))
        (none)))
    ((ref21_reader_term_1 a0 a1 a2 a3 a4).bind fun r31 =>
      cond (room (List.length ([0] : List Int) + List.length r31.1) 8)
      ((ref21_reader_want_1 ([61] : Str) r31.2.1 r31.2.2.1 r31.2.2.2.1 r31.2.2.2.2.1 r31.2.2.2.2.2).bind fun r32 =>
        cond r32.2.2.2.1
        (some (([] : (List Int)), r32.1, r32.2.1, r32.2.2.1, r32.2.2.2.1, r32.2.2.2.2))
        ((ref21_reader_term_1 r32.1 r32.2.1 r32.2.2.1 r32.2.2.2.1 r32.2.2.2.2).bind fun r33 =>
          cond (room (List.length (([0] : List Int) ++ r31.1) + List.length r33.1) 8)
          (some (((([0] : List Int) ++ r31.1) ++ r33.1), r33.2.1, r33.2.2.1, r33.2.2.2.1, r33.2.2.2.2.1, r33.2.2.2.2.2))
          (none)))
      (none)))
  ((ref21_reader_term_1 a0 a1 a2 a3 a4).bind fun r34 =>
    cond (room (List.length ([0] : List Int) + List.length r34.1) 8)
    ((ref21_reader_want_1 ([61] : Str) r34.2.1 r34.2.2.1 r34.2.2.2.1 r34.2.2.2.2.1 r34.2.2.2.2.2).bind fun r35 =>
      cond r35.2.2.2.1
      (some (([] : (List Int)), r35.1, r35.2.1, r35.2.2.1, r35.2.2.2.1, r35.2.2.2.2))
      ((ref21_reader_term_1 r35.1 r35.2.1 r35.2.2.1 r35.2.2.2.1 r35.2.2.2.2).bind fun r36 =>
        cond (room (List.length (([0] : List Int) ++ r34.1) + List.length r36.1) 8)
        (some (((([0] : List Int) ++ r34.1) ++ r36.1), r36.2.1, r36.2.2.1, r36.2.2.2.1, r36.2.2.2.2.1, r36.2.2.2.2.2))
        (none)))
    (none))
def ref21_reader_formula_1_S (rf : (((List QSym) × (List (Int × Str)) × Int × Bool × Bool) → Option ((List (Int × Int × (List Int))) × (List QSym) × (List (Int × Str)) × Int × Bool × Bool))) (a0 : (List QSym)) (a1 : (List (Int × Str))) (a2 : Int) (a3 : Bool) (a4 : Bool) : Option ((List (Int × Int × (List Int))) × (List QSym) × (List (Int × Str)) × Int × Bool × Bool) :=
  cond a3
  (some (([] : (List (Int × Int × (List Int)))), a0, a1, a2, a3, a4))
  ((ref21_reader_mark_1 ([126] : Str) a0 a1 a2 a3 a4).bind fun r43 =>
    cond r43.1
    ((rf (r43.2.1, r43.2.2.1, r43.2.2.2.1, r43.2.2.2.2.1, r43.2.2.2.2.2)).bind fun r44 =>
      cond (room (List.length ([(1, 0, ([] : (List Int)))] : List (Int × Int × (List Int))) + List.length r44.1) 40)
      (some ((([(1, 0, ([] : (List Int)))] : List (Int × Int × (List Int))) ++ r44.1), r44.2.1, r44.2.2.1, r44.2.2.2.1, r44.2.2.2.2.1, r44.2.2.2.2.2))
      (none))
    (cond (decide (r43.2.2.2.1 < ((List.length r43.2.2.1 : Nat) : Int)))
      ((gx r43.2.2.1 r43.2.2.2.1).bind fun e45 =>
        cond (cond (eqI e45.1 0) (cond (eqS e45.2 ([97, 108, 108] : Str)) true false) false)
        ((gx r43.2.2.1 r43.2.2.2.1).bind fun e46 =>
          cond (e46.2 == ([97, 108, 108] : Str))
          ((ref21_reader_variable_1 r43.2.1 r43.2.2.1 (IntKind.wrap .i64 (r43.2.2.2.1 + 1)) r43.2.2.2.2.1 r43.2.2.2.2.2).bind fun r47 =>
            cond (decide (r47.1 < 0))
            ((rf (r47.2.1, r47.2.2.1, r47.2.2.2.1, true, r47.2.2.2.2.2)).bind fun r48 =>
              cond (room (List.length ([(5, r47.1, ([] : (List Int)))] : List (Int × Int × (List Int))) + List.length r48.1) 40)
              (some ((([(5, r47.1, ([] : (List Int)))] : List (Int × Int × (List Int))) ++ r48.1), r48.2.1, r48.2.2.1, r48.2.2.2.1, r48.2.2.2.2.1, r48.2.2.2.2.2))
              (none))
            ((rf (r47.2.1, r47.2.2.1, r47.2.2.2.1, r47.2.2.2.2.1, r47.2.2.2.2.2)).bind fun r49 =>
              cond (room (List.length ([(5, r47.1, ([] : (List Int)))] : List (Int × Int × (List Int))) + List.length r49.1) 40)
              (some ((([(5, r47.1, ([] : (List Int)))] : List (Int × Int × (List Int))) ++ r49.1), r49.2.1, r49.2.2.1, r49.2.2.2.1, r49.2.2.2.2.1, r49.2.2.2.2.2))
              (none)))
          ((ref21_reader_variable_1 r43.2.1 r43.2.2.1 (IntKind.wrap .i64 (r43.2.2.2.1 + 1)) r43.2.2.2.2.1 r43.2.2.2.2.2).bind fun r50 =>
            cond (decide (r50.1 < 0))
            ((rf (r50.2.1, r50.2.2.1, r50.2.2.2.1, true, r50.2.2.2.2.2)).bind fun r51 =>
              cond (room (List.length ([(6, r50.1, ([] : (List Int)))] : List (Int × Int × (List Int))) + List.length r51.1) 40)
              (some ((([(6, r50.1, ([] : (List Int)))] : List (Int × Int × (List Int))) ++ r51.1), r51.2.1, r51.2.2.1, r51.2.2.2.1, r51.2.2.2.2.1, r51.2.2.2.2.2))
              (none))
            ((rf (r50.2.1, r50.2.2.1, r50.2.2.2.1, r50.2.2.2.2.1, r50.2.2.2.2.2)).bind fun r52 =>
              cond (room (List.length ([(6, r50.1, ([] : (List Int)))] : List (Int × Int × (List Int))) + List.length r52.1) 40)
              (some ((([(6, r50.1, ([] : (List Int)))] : List (Int × Int × (List Int))) ++ r52.1), r52.2.1, r52.2.2.1, r52.2.2.2.1, r52.2.2.2.2.1, r52.2.2.2.2.2))
              (none))))
        ((gx r43.2.2.1 r43.2.2.2.1).bind fun e53 =>
          cond (cond (eqI e53.1 0) (cond (eqS e53.2 ([101, 120] : Str)) true false) false)
          ((gx r43.2.2.1 r43.2.2.2.1).bind fun e54 =>
            cond (e54.2 == ([97, 108, 108] : Str))
            ((ref21_reader_variable_1 r43.2.1 r43.2.2.1 (IntKind.wrap .i64 (r43.2.2.2.1 + 1)) r43.2.2.2.2.1 r43.2.2.2.2.2).bind fun r55 =>
              cond (decide (r55.1 < 0))
              ((rf (r55.2.1, r55.2.2.1, r55.2.2.2.1, true, r55.2.2.2.2.2)).bind fun r56 =>
                cond (room (List.length ([(5, r55.1, ([] : (List Int)))] : List (Int × Int × (List Int))) + List.length r56.1) 40)
                (some ((([(5, r55.1, ([] : (List Int)))] : List (Int × Int × (List Int))) ++ r56.1), r56.2.1, r56.2.2.1, r56.2.2.2.1, r56.2.2.2.2.1, r56.2.2.2.2.2))
                (none))
              ((rf (r55.2.1, r55.2.2.1, r55.2.2.2.1, r55.2.2.2.2.1, r55.2.2.2.2.2)).bind fun r57 =>
                cond (room (List.length ([(5, r55.1, ([] : (List Int)))] : List (Int × Int × (List Int))) + List.length r57.1) 40)
                (some ((([(5, r55.1, ([] : (List Int)))] : List (Int × Int × (List Int))) ++ r57.1), r57.2.1, r57.2.2.1, r57.2.2.2.1, r57.2.2.2.2.1, r57.2.2.2.2.2))
                (none)))
            ((ref21_reader_variable_1 r43.2.1 r43.2.2.1 (IntKind.wrap .i64 (r43.2.2.2.1 + 1)) r43.2.2.2.2.1 r43.2.2.2.2.2).bind fun r58 =>
              cond (decide (r58.1 < 0))
              ((rf (r58.2.1, r58.2.2.1, r58.2.2.2.1, true, r58.2.2.2.2.2)).bind fun r59 =>
                cond (room (List.length ([(6, r58.1, ([] : (List Int)))] : List (Int × Int × (List Int))) + List.length r59.1) 40)
                (some ((([(6, r58.1, ([] : (List Int)))] : List (Int × Int × (List Int))) ++ r59.1), r59.2.1, r59.2.2.1, r59.2.2.2.1, r59.2.2.2.2.1, r59.2.2.2.2.2))
                (none))
              ((rf (r58.2.1, r58.2.2.1, r58.2.2.2.1, r58.2.2.2.2.1, r58.2.2.2.2.2)).bind fun r60 =>
                cond (room (List.length ([(6, r58.1, ([] : (List Int)))] : List (Int × Int × (List Int))) + List.length r60.1) 40)
                (some ((([(6, r58.1, ([] : (List Int)))] : List (Int × Int × (List Int))) ++ r60.1), r60.2.1, r60.2.2.1, r60.2.2.2.1, r60.2.2.2.2.1, r60.2.2.2.2.2))
                (none))))
          ((ref21_reader_mark_1 ([40] : Str) r43.2.1 r43.2.2.1 r43.2.2.2.1 r43.2.2.2.2.1 r43.2.2.2.2.2).bind fun r61 =>
            cond r61.1
            ((rf (r61.2.1, r61.2.2.1, r61.2.2.2.1, r61.2.2.2.2.1, r61.2.2.2.2.2)).bind fun r62 =>
              (ref21_reader_mark_1 ([38] : Str) r62.2.1 r62.2.2.1 r62.2.2.2.1 r62.2.2.2.2.1 r62.2.2.2.2.2).bind fun r63 =>
              cond r63.1
              (cond (room (List.length ([(2, 0, ([] : (List Int)))] : List (Int × Int × (List Int))) + List.length r62.1) 40)
                ((rf (r63.2.1, r63.2.2.1, r63.2.2.2.1, r63.2.2.2.2.1, r63.2.2.2.2.2)).bind fun r64 =>
                  cond (room (List.length (([(2, 0, ([] : (List Int)))] : List (Int × Int × (List Int))) ++ r62.1) + List.length r64.1) 40)
                  ((ref21_reader_want_1 ([41] : Str) r64.2.1 r64.2.2.1 r64.2.2.2.1 r64.2.2.2.2.1 r64.2.2.2.2.2).bind fun r65 =>
                    some (((([(2, 0, ([] : (List Int)))] : List (Int × Int × (List Int))) ++ r62.1) ++ r64.1), r65.1, r65.2.1, r65.2.2.1, r65.2.2.2.1, r65.2.2.2.2))
                  (none))
                (none))
              ((ref21_reader_mark_1 ([124] : Str) r63.2.1 r63.2.2.1 r63.2.2.2.1 r63.2.2.2.2.1 r63.2.2.2.2.2).bind fun r66 =>
                cond r66.1
                (cond (room (List.length ([(3, 0, ([] : (List Int)))] : List (Int × Int × (List Int))) + List.length r62.1) 40)
                  ((rf (r66.2.1, r66.2.2.1, r66.2.2.2.1, r66.2.2.2.2.1, r66.2.2.2.2.2)).bind fun r67 =>
                    cond (room (List.length (([(3, 0, ([] : (List Int)))] : List (Int × Int × (List Int))) ++ r62.1) + List.length r67.1) 40)
                    ((ref21_reader_want_1 ([41] : Str) r67.2.1 r67.2.2.1 r67.2.2.2.1 r67.2.2.2.2.1 r67.2.2.2.2.2).bind fun r68 =>
                      some (((([(3, 0, ([] : (List Int)))] : List (Int × Int × (List Int))) ++ r62.1) ++ r67.1), r68.1, r68.2.1, r68.2.2.1, r68.2.2.2.1, r68.2.2.2.2))
                    (none))
                  (none))
                ((ref21_reader_want_1 ([45, 62] : Str) r66.2.1 r66.2.2.1 r66.2.2.2.1 r66.2.2.2.2.1 r66.2.2.2.2.2).bind fun r69 =>
                  cond (room (List.length ([(4, 0, ([] : (List Int)))] : List (Int × Int × (List Int))) + List.length r62.1) 40)
                  ((rf (r69.1, r69.2.1, r69.2.2.1, r69.2.2.2.1, r69.2.2.2.2)).bind fun r70 =>
                    cond (room (List.length (([(4, 0, ([] : (List Int)))] : List (Int × Int × (List Int))) ++ r62.1) + List.length r70.1) 40)
                    ((ref21_reader_want_1 ([41] : Str) r70.2.1 r70.2.2.1 r70.2.2.2.1 r70.2.2.2.2.1 r70.2.2.2.2.2).bind fun r71 =>
                      some (((([(4, 0, ([] : (List Int)))] : List (Int × Int × (List Int))) ++ r62.1) ++ r70.1), r71.1, r71.2.1, r71.2.2.1, r71.2.2.2.1, r71.2.2.2.2))
                    (none))
                  (none))))
            ((ref21_reader_atom_1 r61.2.1 r61.2.2.1 r61.2.2.2.1 r61.2.2.2.2.1 r61.2.2.2.2.2).bind fun r72 =>
              cond (decide (((List.length r72.1 : Nat) : Int) > 49))
              (some (([(0, 0, r72.1)] : List (Int × Int × (List Int))), r72.2.1, r72.2.2.1, r72.2.2.2.1, r72.2.2.2.2.1, true))
              (some (([(0, 0, r72.1)] : List (Int × Int × (List Int))), r72.2.1, r72.2.2.1, r72.2.2.2.1, r72.2.2.2.2.1, r72.2.2.2.2.2))))))
      ((ref21_reader_mark_1 ([40] : Str) r43.2.1 r43.2.2.1 r43.2.2.2.1 r43.2.2.2.2.1 r43.2.2.2.2.2).bind fun r73 =>
        cond r73.1
        ((rf (r73.2.1, r73.2.2.1, r73.2.2.2.1, r73.2.2.2.2.1, r73.2.2.2.2.2)).bind fun r74 =>
          (ref21_reader_mark_1 ([38] : Str) r74.2.1 r74.2.2.1 r74.2.2.2.1 r74.2.2.2.2.1 r74.2.2.2.2.2).bind fun r75 =>
          cond r75.1
          (cond (room (List.length ([(2, 0, ([] : (List Int)))] : List (Int × Int × (List Int))) + List.length r74.1) 40)
            ((rf (r75.2.1, r75.2.2.1, r75.2.2.2.1, r75.2.2.2.2.1, r75.2.2.2.2.2)).bind fun r76 =>
              cond (room (List.length (([(2, 0, ([] : (List Int)))] : List (Int × Int × (List Int))) ++ r74.1) + List.length r76.1) 40)
              ((ref21_reader_want_1 ([41] : Str) r76.2.1 r76.2.2.1 r76.2.2.2.1 r76.2.2.2.2.1 r76.2.2.2.2.2).bind fun r77 =>
                some (((([(2, 0, ([] : (List Int)))] : List (Int × Int × (List Int))) ++ r74.1) ++ r76.1), r77.1, r77.2.1, r77.2.2.1, r77.2.2.2.1, r77.2.2.2.2))
              (none))
            (none))
          ((ref21_reader_mark_1 ([124] : Str) r75.2.1 r75.2.2.1 r75.2.2.2.1 r75.2.2.2.2.1 r75.2.2.2.2.2).bind fun r78 =>
            cond r78.1
            (cond (room (List.length ([(3, 0, ([] : (List Int)))] : List (Int × Int × (List Int))) + List.length r74.1) 40)
              ((rf (r78.2.1, r78.2.2.1, r78.2.2.2.1, r78.2.2.2.2.1, r78.2.2.2.2.2)).bind fun r79 =>
                cond (room (List.length (([(3, 0, ([] : (List Int)))] : List (Int × Int × (List Int))) ++ r74.1) + List.length r79.1) 40)
                ((ref21_reader_want_1 ([41] : Str) r79.2.1 r79.2.2.1 r79.2.2.2.1 r79.2.2.2.2.1 r79.2.2.2.2.2).bind fun r80 =>
                  some (((([(3, 0, ([] : (List Int)))] : List (Int × Int × (List Int))) ++ r74.1) ++ r79.1), r80.1, r80.2.1, r80.2.2.1, r80.2.2.2.1, r80.2.2.2.2))
                (none))
              (none))
            ((ref21_reader_want_1 ([45, 62] : Str) r78.2.1 r78.2.2.1 r78.2.2.2.1 r78.2.2.2.2.1 r78.2.2.2.2.2).bind fun r81 =>
              cond (room (List.length ([(4, 0, ([] : (List Int)))] : List (Int × Int × (List Int))) + List.length r74.1) 40)
              ((rf (r81.1, r81.2.1, r81.2.2.1, r81.2.2.2.1, r81.2.2.2.2)).bind fun r82 =>
                cond (room (List.length (([(4, 0, ([] : (List Int)))] : List (Int × Int × (List Int))) ++ r74.1) + List.length r82.1) 40)
                ((ref21_reader_want_1 ([41] : Str) r82.2.1 r82.2.2.1 r82.2.2.2.1 r82.2.2.2.2.1 r82.2.2.2.2.2).bind fun r83 =>
                  some (((([(4, 0, ([] : (List Int)))] : List (Int × Int × (List Int))) ++ r74.1) ++ r82.1), r83.1, r83.2.1, r83.2.2.1, r83.2.2.2.1, r83.2.2.2.2))
                (none))
              (none))))
        ((ref21_reader_atom_1 r73.2.1 r73.2.2.1 r73.2.2.2.1 r73.2.2.2.2.1 r73.2.2.2.2.2).bind fun r84 =>
          cond (decide (((List.length r84.1 : Nat) : Int) > 49))
          (some (([(0, 0, r84.1)] : List (Int × Int × (List Int))), r84.2.1, r84.2.2.1, r84.2.2.2.1, r84.2.2.2.2.1, true))
          (some (([(0, 0, r84.1)] : List (Int × Int × (List Int))), r84.2.1, r84.2.2.1, r84.2.2.2.1, r84.2.2.2.2.1, r84.2.2.2.2.2))))))
def ref21_reader_formula_1_R_step (rf : (((List QSym) × (List (Int × Str)) × Int × Bool × Bool) → Option ((List (Int × Int × (List Int))) × (List QSym) × (List (Int × Str)) × Int × Bool × Bool))) : (((List QSym) × (List (Int × Str)) × Int × Bool × Bool) → Option ((List (Int × Int × (List Int))) × (List QSym) × (List (Int × Str)) × Int × Bool × Bool)) :=
  fun (x : ((List QSym) × (List (Int × Str)) × Int × Bool × Bool)) => ref21_reader_formula_1_S rf x.1 x.2.1 x.2.2.1 x.2.2.2.1 x.2.2.2.2
def ref21_reader_formula_1_R_base : (((List QSym) × (List (Int × Str)) × Int × Bool × Bool) → Option ((List (Int × Int × (List Int))) × (List QSym) × (List (Int × Str)) × Int × Bool × Bool)) := fun _ => none
def ref21_reader_formula_1_R (k : Nat) : (((List QSym) × (List (Int × Str)) × Int × Bool × Bool) → Option ((List (Int × Int × (List Int))) × (List QSym) × (List (Int × Str)) × Int × Bool × Bool)) := lpR ref21_reader_formula_1_R_base ref21_reader_formula_1_R_step k
def ref21_reader_formula_1 (a0 : (List QSym)) (a1 : (List (Int × Str))) (a2 : Int) (a3 : Bool) (a4 : Bool) : Option ((List (Int × Int × (List Int))) × (List QSym) × (List (Int × Str)) × Int × Bool × Bool) := (ref21_reader_formula_1_R fuel) (a0, a1, a2, a3, a4)
def ref21_Words (a0 : (List QSym)) (a1 : (List (Int × Str))) : Option (Int × (List (Int × Int × (List Int)))) :=
  (ref21_SignMay a0).bind fun r3 =>
  cond (!r3)
  (some (2200, ([] : (List (Int × Int × (List Int))))))
  ((ref21_reader_formula_1 a0 a1 0 false false).bind fun r4 =>
    cond r4.2.2.2.2.1
    (some (2200, ([] : (List (Int × Int × (List Int))))))
    (cond (r4.2.2.2.1 != ((List.length a1 : Nat) : Int))
      (some (2200, ([] : (List (Int × Int × (List Int))))))
      (cond r4.2.2.2.2.2
        (some (2201, ([] : (List (Int × Int × (List Int))))))
        (cond (decide (((List.length r4.1 : Nat) : Int) > 40))
          (some (2201, ([] : (List (Int × Int × (List Int))))))
          (some (0, r4.1))))))
def ref21_Parse (a0 : (List QSym)) (a1 : Str) : Option (Int × (List (Int × Int × (List Int)))) :=
  (ref21_Lex a1).bind fun r3 =>
  cond (r3.1 != 0)
  (some (2200, ([] : (List (Int × Int × (List Int))))))
  ((ref21_Words a0 r3.2).bind fun r4 =>
    some (r4.1, r4.2))
def law0_SameSyms_L0 (rec : ((List QSym) × (List QSym) × Int) → Option (Unit ⊕ Bool)) (x : ((List QSym) × (List QSym) × Int)) : Option (Unit ⊕ Bool) :=
  cond (decide (x.2.2 < ((List.length x.1 : Nat) : Int)))
  ((gx x.1 x.2.2).bind fun e3 =>
    (gx x.2.1 x.2.2).bind fun e4 =>
    cond (!(cond (eqS e3.1 e4.1) (cond (eqI e3.2.1 e4.2.1) (cond (eqI e3.2.2.1 e4.2.2.1) (cond (eqI e3.2.2.2 e4.2.2.2) true false) false) false) false))
    (some (Sum.inr false))
    (rec (x.1, x.2.1, (IntKind.wrap .i64 (x.2.2 + 1)))))
  (some (Sum.inl ()))
def law0_SameSyms (a0 : (List QSym)) (a1 : (List QSym)) : Option Bool :=
  cond (((List.length a0 : Nat) : Int) != ((List.length a1 : Nat) : Int))
  (some false)
  (((lp law0_SameSyms_L0 fuel) (a0, a1, 0)).bind fun r8 =>
    caseS r8
    (fun z9 => some true)
    (fun z10 => some z10))
def law22_Parses (a0 : (List QSym)) (a1 : Str) : Option Bool :=
  cond (decide (((List.length a1 : Nat) : Int) > 5000))
  (some true)
  ((law0_CopySyms a0).bind fun r8 =>
    (formula_Parse a0 a1).bind fun r9 =>
    (ref21_Parse a0 a1).bind fun r10 =>
    (law0_SameNodes r9.2 r10.2).bind fun r11 =>
    cond r11
    ((law0_Num r9.1).bind fun r12 =>
      cond (r12 == r10.1)
      ((law0_SameSyms a0 r8).bind fun r13 =>
        cond r13
        ((law22_awake).bind fun r14 =>
          some r14)
        (some false))
      (some false))
    (some false))
end Go.Abs.Q
namespace Go.Abs.Q
open Go Go.Abs
def ref21_digits_L0_go : List UInt8 → Nat → Option Int
  | [], i => some (i : Int)
  | e :: es, i =>
    (ref21_digit ((UInt8.toNat e : Nat) : Int)).bind fun r4 =>
    cond r4
    (ref21_digits_L0_go es (i + 1))
    (some (i : Int))
theorem ref21_digits_L0_go_eq (s0 : Str) (hl : List.length s0 ≤ maxLen) : ∀ (es : List UInt8) (i : Nat) (k : Nat), s0.drop i = es → es.length < k → lp ref21_digits_L0 k (s0, (i : Int)) = ref21_digits_L0_go es i := by
  intro es
  induction es with
  | nil =>
    intro i k h hk
    obtain ⟨k, rfl⟩ : ∃ k', k = k' + 1 := ⟨k - 1, by omega⟩
    rw [lp_succ]
    generalize lp ref21_digits_L0 k = rec
    unfold ref21_digits_L0 ref21_digits_L0_go
    simp only [lt_false (drop_nil_le h), cond_false]
  | cons e es ih =>
    intro i k h hk
    obtain ⟨k, rfl⟩ : ∃ k', k = k' + 1 := ⟨k - 1, by omega⟩
    rw [lp_succ]
    have hi := drop_cons_lt h
    have hk2 : es.length < k := Nat.lt_of_succ_lt_succ hk
    have key := fun (_ : Unit) => ih (i + 1) k (drop_cons_next h) hk2
    generalize lp ref21_digits_L0 k = rec at key ⊢
    unfold ref21_digits_L0 ref21_digits_L0_go
    simp only [lt_true hi, cond_true, gx_nat, drop_cons_get h, Option.bind_some, wrap_i1 hi hl, key ()]
def ref21_Number_L0_go : List UInt8 → Int → Option (Int ⊕ (Int × Bool))
  | [], s1 => some (Sum.inl s1)
  | e :: es, s1 =>
    (ref21_digit ((UInt8.toNat e : Nat) : Int)).bind fun r6 =>
    cond (!r6)
    (some (Sum.inr (0, false)))
    (ref21_Number_L0_go es (IntKind.wrap .i64 ((IntKind.wrap .i64 (s1 * 10)) + (IntKind.wrap .i64 (IntKind.wrap .u8 (((UInt8.toNat e : Nat) : Int) - 48))))))
theorem ref21_Number_L0_go_eq (s0 : Str) (hl : List.length s0 ≤ maxLen) : ∀ (es : List UInt8) (i : Nat) (k : Nat) (s1 : Int), s0.drop i = es → es.length < k → lp ref21_Number_L0 k (s0, s1, (i : Int)) = ref21_Number_L0_go es s1 := by
  intro es
  induction es with
  | nil =>
    intro i k s1 h hk
    obtain ⟨k, rfl⟩ : ∃ k', k = k' + 1 := ⟨k - 1, by omega⟩
    rw [lp_succ]
    generalize lp ref21_Number_L0 k = rec
    unfold ref21_Number_L0 ref21_Number_L0_go
    simp only [lt_false (drop_nil_le h), cond_false]
  | cons e es ih =>
    intro i k s1 h hk
    obtain ⟨k, rfl⟩ : ∃ k', k = k' + 1 := ⟨k - 1, by omega⟩
    rw [lp_succ]
    have hi := drop_cons_lt h
    have hk2 : es.length < k := Nat.lt_of_succ_lt_succ hk
    have key := fun s1 => ih (i + 1) k s1 (drop_cons_next h) hk2
    generalize lp ref21_Number_L0 k = rec at key ⊢
    unfold ref21_Number_L0 ref21_Number_L0_go
    simp only [lt_true hi, cond_true, gx_nat, drop_cons_get h, Option.bind_some, wrap_i1 hi hl, key]
theorem ref21_Number_L0_go_at0 (s0 : Str) (s1 : Int) (hl : List.length s0 ≤ maxLen) : lp ref21_Number_L0 fuel (s0, s1, 0) = ref21_Number_L0_go s0 s1 :=
  ref21_Number_L0_go_eq s0 hl s0 0 fuel s1 rfl (Nat.lt_of_le_of_lt hl (by decide))
def ref21_word_L0_go : List UInt8 → Nat → Option Int
  | [], i => some (i : Int)
  | e :: es, i =>
    (ref21_small ((UInt8.toNat e : Nat) : Int)).bind fun r8 =>
    cond r8
    (ref21_word_L0_go es (i + 1))
    ((ref21_digit ((UInt8.toNat e : Nat) : Int)).bind fun r10 =>
      cond r10
      (ref21_word_L0_go es (i + 1))
      (some (i : Int)))
theorem ref21_word_L0_go_eq (s0 : Str) (s1 : Int) (s3 : Int) (s4 : Str) (hl : List.length s0 ≤ maxLen) : ∀ (es : List UInt8) (i : Nat) (k : Nat), s0.drop i = es → es.length < k → lp ref21_word_L0 k (s0, s1, (i : Int), s3, s4) = ref21_word_L0_go es i := by
  intro es
  induction es with
  | nil =>
    intro i k h hk
    obtain ⟨k, rfl⟩ : ∃ k', k = k' + 1 := ⟨k - 1, by omega⟩
    rw [lp_succ]
    generalize lp ref21_word_L0 k = rec
    unfold ref21_word_L0 ref21_word_L0_go
    simp only [lt_false (drop_nil_le h), cond_false]
  | cons e es ih =>
    intro i k h hk
    obtain ⟨k, rfl⟩ : ∃ k', k = k' + 1 := ⟨k - 1, by omega⟩
    rw [lp_succ]
    have hi := drop_cons_lt h
    have hk2 : es.length < k := Nat.lt_of_succ_lt_succ hk
    have key := fun (_ : Unit) => ih (i + 1) k (drop_cons_next h) hk2
    generalize lp ref21_word_L0 k = rec at key ⊢
    unfold ref21_word_L0 ref21_word_L0_go
    simp only [lt_true hi, cond_true, gx_nat, drop_cons_get h, Option.bind_some, wrap_i1 hi hl, key ()]
def law0_SameSyms_L0_go (s1 : (List QSym)) : List QSym → Nat → Option (Unit ⊕ Bool)
  | [], i => some (Sum.inl ())
  | e :: es, i =>
    (gx s1 (i : Int)).bind fun e4 =>
    cond (!(cond (eqS e.1 e4.1) (cond (eqI e.2.1 e4.2.1) (cond (eqI e.2.2.1 e4.2.2.1) (cond (eqI e.2.2.2 e4.2.2.2) true false) false) false) false))
    (some (Sum.inr false))
    (law0_SameSyms_L0_go s1 es (i + 1))
theorem law0_SameSyms_L0_go_eq (s0 : (List QSym)) (s1 : (List QSym)) (hl : List.length s0 ≤ maxLen) : ∀ (es : List QSym) (i : Nat) (k : Nat), s0.drop i = es → es.length < k → lp law0_SameSyms_L0 k (s0, s1, (i : Int)) = law0_SameSyms_L0_go s1 es i := by
  intro es
  induction es with
  | nil =>
    intro i k h hk
    obtain ⟨k, rfl⟩ : ∃ k', k = k' + 1 := ⟨k - 1, by omega⟩
    rw [lp_succ]
    generalize lp law0_SameSyms_L0 k = rec
    unfold law0_SameSyms_L0 law0_SameSyms_L0_go
    simp only [lt_false (drop_nil_le h), cond_false]
  | cons e es ih =>
    intro i k h hk
    obtain ⟨k, rfl⟩ : ∃ k', k = k' + 1 := ⟨k - 1, by omega⟩
    rw [lp_succ]
    have hi := drop_cons_lt h
    have hk2 : es.length < k := Nat.lt_of_succ_lt_succ hk
    have key := fun (_ : Unit) => ih (i + 1) k (drop_cons_next h) hk2
    generalize lp law0_SameSyms_L0 k = rec at key ⊢
    unfold law0_SameSyms_L0 law0_SameSyms_L0_go
    simp only [lt_true hi, cond_true, gx_nat, drop_cons_get h, Option.bind_some, wrap_i1 hi hl, key ()]
theorem law0_SameSyms_L0_go_at0 (s0 : (List QSym)) (s1 : (List QSym)) (hl : List.length s0 ≤ maxLen) : lp law0_SameSyms_L0 fuel (s0, s1, 0) = law0_SameSyms_L0_go s1 s0 0 :=
  law0_SameSyms_L0_go_eq s0 s1 hl s0 0 fuel rfl (Nat.lt_of_le_of_lt hl (by decide))
end Go.Abs.Q
namespace Go.Abs.Q
open Go Go.Abs
section
abbrev QNode := Int × Int × List Int
inductive Fm where
  | atom (a : List Int)
  | not (f : Fm)
  | qu (k v : Int) (f : Fm)
  | bin (k : Int) (f g : Fm)
def Fm.flat : Fm → List QNode
  | .atom a => [(0, 0, a)]
  | .not f => (1, 0, []) :: f.flat
  | .qu k v f => (k, v, []) :: f.flat
  | .bin k f g => (k, 0, []) :: (f.flat ++ g.flat)
def Fm.ok (a0 : List QSym) : Fm → Bool
  | .atom a => atomB a0 a
  | .not f => f.ok a0
  | .qu k v f => (k == 5 || k == 6) && decide (0 ≤ v) && decide (v ≤ 23) && f.ok a0
  | .bin k f g => (k == 2 || k == 3 || k == 4) && f.ok a0 && g.ok a0
def bindT (k : Int) : Str := cond (k == 5) [97, 108, 108] [101, 120]
end
end Go.Abs.Q
namespace Go.Abs.Q
open Go Go.Abs
section
end
end Go.Abs.Q
namespace Go.Abs.Q
open Go Go.Abs
section
theorem code_none (a0 : List QSym) (nm : Str) : decide (idxI (a0.findIdx? (fun e => e.1 == nm)) < 0) = !(a0.any fun e => e.1 == nm) := by
  cases h : a0.findIdx? (fun e => e.1 == nm) with
  | none =>
    have : (a0.any fun e => e.1 == nm) = false := by
      rw [List.any_eq_false]
      exact fun x hx => by simpa using List.findIdx?_eq_none_iff.1 h x hx
    rw [this]; rfl
  | some i =>
    have : (a0.any fun e => e.1 == nm) = true := by
      rw [List.any_eq_true]
      obtain ⟨hi, hp, -⟩ := List.findIdx?_eq_some_iff_getElem.1 h
      exact ⟨_, List.getElem_mem hi, hp⟩
    rw [this]
    show decide (((i : Nat) : Int) < 0) = false
    simp
theorem any_or {α : Type} (p q : α → Bool) : (xs : List α) → (xs.any fun e => p e || q e) = (xs.any p || xs.any q)
  | [] => rfl
  | x :: xs => by
    rw [List.any_cons, List.any_cons, List.any_cons, any_or p q xs]
    cases p x <;> cases q x <;> cases xs.any p <;> cases xs.any q <;> rfl
theorem ref21_SignMay_eq (a0 : List QSym) : ref21_SignMay a0 = some (sigB a0) := by
  unfold ref21_SignMay sigB
  rw [ref1_SignMay_eq, Option.bind_some]
  cases hs : signB a0 with
  | false => rfl
  | true =>
    have hl := (signB_ok hs).max
    rw [cond_true, ref1_Code_eq _ _ hl, Option.bind_some, ref1_Code_eq _ _ hl, Option.bind_some, code_none, code_none]
    have : (a0.any fun e => bindName e.1) = ((a0.any fun e => e.1 == [97, 108, 108]) || (a0.any fun e => e.1 == [101, 120])) := any_or _ _ a0
    rw [this]
    cases (a0.any fun e => e.1 == [97, 108, 108]) <;> cases (a0.any fun e => e.1 == [101, 120]) <;> rfl
end
end Go.Abs.Q
namespace Go.Abs.Q
open Go Go.Abs
section
theorem sameNodes_go (ys : List QNode) : (es : List QNode) → (i : Nat) → es.length = (ys.drop i).length → (∀ e ∈ es, e.2.2.length ≤ maxLen) → law0_SameNodes_L0_go ys es i = some (cond (decide (es = ys.drop i)) (.inl ()) (.inr false))
  | [], i, h, _ => by
    have : ys.drop i = [] := List.eq_nil_of_length_eq_zero h.symm
    rw [this]; rfl
  | e :: es, i, h, hm => by
    cases hd : ys.drop i with
    | nil => rw [hd] at h; simp at h
    | cons y r =>
      have hn := drop_cons_next hd
      have ih := sameNodes_go ys es (i + 1) (by rw [hn]; rw [hd] at h; simpa using h) (fun x hx => hm x (List.mem_cons_of_mem _ hx))
      have he := hm e (List.mem_cons_self ..)
      obtain ⟨e1, e2, e3⟩ := e
      obtain ⟨y1, y2, y3⟩ := y
      unfold law0_SameNodes_L0_go
      simp only [gx_nat, drop_cons_get hd, Option.bind_some, ih, hn, law0_SameInts_eq he]
      by_cases h1 : e1 = y1
      · subst h1
        by_cases h2 : e2 = y2
        · subst h2
          by_cases h3 : e3 = y3
          · subst h3; simp
          · simp [h3]
        · have : (e2 != y2) = true := by simpa using h2
          simp [this, h2]
      · have : (e1 != y1) = true := by simpa using h1
        simp [this, h1]
theorem law0_SameNodes_eq {xs ys : List QNode} (h : xs.length ≤ maxLen) (hm : ∀ e ∈ xs, e.2.2.length ≤ maxLen) : law0_SameNodes xs ys = some (decide (xs = ys)) := by
  unfold law0_SameNodes
  by_cases hl : xs.length = ys.length
  · rw [show (((List.length xs : Nat) : Int) != ((List.length ys : Nat) : Int)) = false from by simp [hl], cond_false, law0_SameNodes_L0_go_at0 _ _ h, sameNodes_go ys xs 0 hl hm, List.drop_zero]
    cases decide (xs = ys) <;> rfl
  · rw [show (((List.length xs : Nat) : Int) != ((List.length ys : Nat) : Int)) = true from by simp; omega, cond_true, decide_eq_false (by intro h; subst h; exact hl rfl)]
end
end Go.Abs.Q
namespace Go.Abs.Q
open Go Go.Abs
section
abbrev QWord := Int × Str
def letB (c : UInt8) : Bool := smallB ((UInt8.toNat c : Nat) : Int)
def digB (c : UInt8) : Bool := decide (((UInt8.toNat c : Nat) : Int) ≥ 48) && decide (((UInt8.toNat c : Nat) : Int) ≤ 57)
def runP (b : Bool) (c : UInt8) : Bool := digB c || (b && letB c)
theorem lex_digit_eq (c : UInt8) : lex_digit ((UInt8.toNat c : Nat) : Int) = some (digB c) := by
  unfold lex_digit digB
  cases decide (((UInt8.toNat c : Nat) : Int) ≥ 48) <;> rfl
theorem lex_small_eq (c : UInt8) : lex_small ((UInt8.toNat c : Nat) : Int) = some (letB c) := by
  unfold lex_small letB smallB
  cases h : decide (((UInt8.toNat c : Nat) : Int) ≥ 97) <;> rfl
theorem run_go (b : Bool) : (es : List UInt8) → (i : Nat) → lex_run_L0_go b es i = some ((i + (es.takeWhile (runP b)).length : Nat) : Int)
  | [], i => rfl
  | e :: es, i => by
    have ih := run_go b es (i + 1)
    have e1 : ∀ n : Nat, i + 1 + n = i + (n + 1) := fun n => by omega
    unfold lex_run_L0_go
    rw [lex_digit_eq, lex_small_eq, Option.bind_some, Option.bind_some, List.takeWhile_cons]
    unfold runP at ih ⊢
    cases digB e with
    | true => rw [cond_true, ih, e1]; rfl
    | false =>
      cases b with
      | false => rfl
      | true =>
        cases letB e with
        | true => rw [cond_false, cond_true, cond_true, ih, e1]; rfl
        | false => rfl
theorem lex_run_eq {t : Str} (hl : t.length ≤ 1000000) (i : Nat) (b : Bool) : lex_run t (i : Int) b = some ((i + ((t.drop i).takeWhile (runP b)).length : Nat) : Int) := by
  unfold lex_run
  rw [lex_run_L0_go_eq t b (by unfold maxLen; omega) _ i fuel rfl (by simp only [List.length_drop]; unfold fuel; omega), run_go]
  rfl
theorem blank_go : (es : List UInt8) → (i : Nat) → lex_Lex_L2_go es i = some ((i + (es.takeWhile (· == 32)).length : Nat) : Int)
  | [], i => rfl
  | e :: es, i => by
    unfold lex_Lex_L2_go
    rw [List.takeWhile_cons]
    have h1 : (((UInt8.toNat e : Nat) : Int) == 32) = (e == 32) := by
      by_cases h : e = 32
      · subst h; rfl
      · have : (e == 32) = false := by simpa using h
        rw [this, beq_eq_false_iff_ne]
        intro hh
        exact h (UInt8.toNat_inj.1 (by have : e.toNat = 32 := by omega
                                       simpa using this))
    rw [h1]
    cases (e == 32) with
    | true =>
      have e1 : ∀ n : Nat, i + 1 + n = i + (n + 1) := fun n => by omega
      rw [cond_true, blank_go es (i + 1), e1]; rfl
    | false => rfl
def numB (d : Str) (most : Nat) : Bool := match d with
  | [] => false
  | c :: r => decide ((c :: r).length ≤ most) && (c != 48 || (c :: r).length == 1)
def numV (d : Str) : Nat := d.foldl (fun n c => 10 * n + (c.toNat - 48)) 0
theorem toNat_beq (c d : UInt8) : (((UInt8.toNat c : Nat) : Int) == ((UInt8.toNat d : Nat) : Int)) = (c == d) := by
  by_cases h : c = d
  · subst h; simp
  · rw [show (c == d) = false from by simpa using h, beq_eq_false_iff_ne]
    intro hh
    exact h (UInt8.toNat_inj.1 (by omega))
theorem lex_number_eq (d : Str) (most : Nat) (hl : d.length ≤ 1000000) : lex_number d (most : Int) = some (numB d most) := by
  unfold lex_number numB
  cases d with
  | nil => rfl
  | cons c r =>
    rw [show (!((c :: r) == ([] : Str))) = true from rfl, cond_true]
    by_cases h : (c :: r).length ≤ most
    · rw [decide_eq_true (show (((c :: r).length : Nat) : Int) ≤ (most : Int) by omega), cond_true, gx_zero, List.getElem?_cons_zero, Option.bind_some]
      show _ = some (decide ((c :: r).length ≤ most) && (c != 48 || (c :: r).length == 1))
      rw [decide_eq_true h]
      have e1 : (((UInt8.toNat c : Nat) : Int) != 48) = (c != 48) := by
        show (!(((UInt8.toNat c : Nat) : Int) == ((UInt8.toNat 48 : Nat) : Int))) = !(c == 48)
        rw [toNat_beq]
      have e2 : ((((c :: r).length : Nat) : Int) == 1) = ((c :: r).length == 1) := by
        by_cases h1 : (c :: r).length = 1
        · rw [h1]; rfl
        · rw [show ((c :: r).length == 1) = false from by rw [beq_eq_false_iff_ne]; exact h1, beq_eq_false_iff_ne]; omega
      rw [e1, e2]
      cases (c != 48) <;> rfl
    · rw [decide_eq_false (show ¬ ((((c :: r).length : Nat) : Int) ≤ (most : Int)) by omega)]
      show _ = some (decide ((c :: r).length ≤ most) && (c != 48 || (c :: r).length == 1))
      rw [decide_eq_false h]
      rfl
theorem number_go : (d : Str) → (n j : Nat) → (∀ c ∈ d, digB c = true) → n < 10 ^ j → j + d.length ≤ 6 → lex_Number_L0_go d (n : Int) = some ((d.foldl (fun n c => 10 * n + (c.toNat - 48)) n : Nat) : Int) ∧ d.foldl (fun n c => 10 * n + (c.toNat - 48)) n < 10 ^ (j + d.length)
  | [], n, j, _, hn, _ => ⟨rfl, by simpa using hn⟩
  | c :: d, n, j, h, hn, hl => by
    have hc := h c (List.mem_cons_self ..)
    unfold digB at hc
    simp only [Bool.and_eq_true, decide_eq_true_eq, ge_iff_le] at hc
    rw [List.length_cons] at hl
    have hj : 10 ^ j ≤ 10 ^ 6 := Nat.pow_le_pow_right (by omega) (by omega)
    have hj2 : 10 ^ (j + 1) = 10 * 10 ^ j := by rw [Nat.pow_succ]; omega
    have w1 : IntKind.wrap .i64 (10 * (n : Int)) = 10 * (n : Int) := by rw [wrap64] <;> omega
    have w2 : IntKind.wrap .u8 (((UInt8.toNat c : Nat) : Int) - 48) = ((UInt8.toNat c : Nat) : Int) - 48 := by
      simp [IntKind.wrap, IntKind.bits, IntKind.signed]; omega
    have w3 : IntKind.wrap .i64 (((UInt8.toNat c : Nat) : Int) - 48) = ((UInt8.toNat c : Nat) : Int) - 48 := by rw [wrap64] <;> omega
    have w4 : IntKind.wrap .i64 (10 * (n : Int) + (((UInt8.toNat c : Nat) : Int) - 48)) = ((10 * n + (c.toNat - 48) : Nat) : Int) := by rw [wrap64] <;> omega
    have ih := number_go d (10 * n + (c.toNat - 48)) (j + 1) (fun x hx => h x (List.mem_cons_of_mem _ hx)) (by omega) (by omega)
    unfold lex_Number_L0_go
    rw [w1, w2, w3, w4, List.foldl_cons, List.length_cons]
    rw [show j + (d.length + 1) = j + 1 + d.length from by omega]
    exact ih
theorem lex_Number_eq {d : Str} (h : ∀ c ∈ d, digB c = true) (hl : d.length ≤ 6) : lex_Number d = some ((numV d : Nat) : Int) := by
  unfold lex_Number
  rw [lex_Number_L0_go_at0 _ _ (by unfold maxLen; omega), show (0 : Int) = ((0 : Nat) : Int) from rfl, (number_go d 0 0 h (by omega) (by omega)).1]
  rfl
theorem take_all {α : Type} (p : α → Bool) (xs : List α) : ∀ x ∈ xs.takeWhile p, p x = true := by
  induction xs with
  | nil => intro x hx; cases hx
  | cons y xs ih =>
    intro x hx
    rw [List.takeWhile_cons] at hx
    cases hy : p y with
    | true =>
      rw [hy] at hx
      rcases List.mem_cons.1 hx with rfl | hx
      · exact hy
      · exact ih x hx
    | false => rw [hy] at hx; cases hx
theorem take_len {α : Type} (p : α → Bool) (xs : List α) : (xs.takeWhile p).length ≤ xs.length := (List.takeWhile_prefix p).length_le
theorem take_eq {α : Type} (p : α → Bool) (xs : List α) : xs.take (xs.takeWhile p).length = xs.takeWhile p := List.prefix_iff_eq_take.1 (List.takeWhile_prefix p) |>.symm
def markB (c : UInt8) : Bool := decide (c ∈ ([40, 41, 44, 61, 126, 38, 124, 58] : Str))
def wordP (s : Str) : Option (QWord × Str) := match s with
  | [] => none
  | c :: r =>
    cond (letB c) (cond (decide (((c :: r).takeWhile (runP true)).length ≤ 8)) (some ((0, (c :: r).takeWhile (runP true)), (c :: r).drop ((c :: r).takeWhile (runP true)).length)) none)
    (cond (c == 88) (cond (numB (r.takeWhile (runP false)) 2 && decide (numV (r.takeWhile (runP false)) ≤ 23)) (some ((1, c :: r.takeWhile (runP false)), r.drop (r.takeWhile (runP false)).length)) none)
    (cond (digB c) (cond (numB ((c :: r).takeWhile (runP false)) 4) (some ((2, (c :: r).takeWhile (runP false)), (c :: r).drop ((c :: r).takeWhile (runP false)).length)) none)
    (cond ((c :: r).take 2 == [45, 62]) (some ((3, [45, 62]), r.drop 1))
    (cond (markB c) (some ((3, [c]), r)) none))))
def lexN : Nat → Str → Option (List QWord)
  | 0, _ => some []
  | n + 1, s => match s.dropWhile (· == 32) with
    | [] => some []
    | c :: r => match wordP (c :: r) with
      | none => none
      | some (w, rest) => (lexN n rest).map (w :: ·)
def lexP (s : Str) : Option (List QWord) := lexN s.length s
end
end Go.Abs.Q
namespace Go.Abs.Q
open Go Go.Abs
section
abbrev LxS := Unit ⊕ ((Str × Int × (List (Int × Str))) ⊕ ((Str × Int × (List (Int × Str))) ⊕ ((Str × Int × (List (Int × Str))) ⊕ ((Str × Int × (List (Int × Str))) ⊕ (Str × Int × Int × Int × (List (Int × Str)))))))
def sNext (t : Str) (i : Nat) (out : List QWord) : LxS := .inr (.inl (t, (i : Int), out))
def sName (t : Str) (i : Nat) (out : List QWord) : LxS := .inr (.inr (.inl (t, (i : Int), out)))
def sVar (t : Str) (i : Nat) (out : List QWord) : LxS := .inr (.inr (.inr (.inl (t, (i : Int), out))))
def sNum (t : Str) (i : Nat) (out : List QWord) : LxS := .inr (.inr (.inr (.inr (.inl (t, (i : Int), out)))))
def sTold (t : Str) (i e : Nat) (k : Int) (out : List QWord) : LxS := .inr (.inr (.inr (.inr (.inr (t, (i : Int), (e : Int), k, out)))))
def sWrong : LxS := .inl ()
theorem lx_wrong (k : Nat) : lp lex_Lex_L0 (k + 1) sWrong = some (2100, []) := by
  rw [lp_succ]
  generalize lp lex_Lex_L0 k = rec
  unfold lex_Lex_L0 sWrong
  rfl
theorem lx_told {t : Str} {i e : Nat} {q : Int} {out : List QWord} (k : Nat) (h1 : i ≤ e) (h2 : e ≤ t.length) (h3 : out.length ≤ 1000000) :
    lp lex_Lex_L0 (k + 1) (sTold t i e q out) = lp lex_Lex_L0 k (sNext t e (out ++ [(q, (t.drop i).take (e - i))])) := by
  rw [lp_succ]
  generalize lp lex_Lex_L0 k = rec
  unfold lex_Lex_L0 sTold sNext
  simp only [caseS]
  rw [slc_at t h1 h2, Option.bind_some, room_ok (by simp; omega), cond_true]
theorem lx_name {t : Str} {i : Nat} {out : List QWord} (k : Nat) (ht : t.length ≤ 1000000) (hi : i ≤ t.length) :
    lp lex_Lex_L0 (k + 1) (sName t i out) = cond (decide (((t.drop i).takeWhile (runP true)).length ≤ 8)) (lp lex_Lex_L0 k (sTold t i (i + ((t.drop i).takeWhile (runP true)).length) 0 out)) (lp lex_Lex_L0 k sWrong) := by
  have hw := take_len (runP true) (t.drop i)
  rw [List.length_drop] at hw
  rw [lp_succ]
  generalize lp lex_Lex_L0 k = rec
  unfold lex_Lex_L0 sTold sName sWrong
  simp only [caseS]
  rw [lex_run_eq ht, Option.bind_some]
  generalize ((t.drop i).takeWhile (runP true)).length = n at hw
  have w : IntKind.wrap .i64 (((i + n : Nat) : Int) - (i : Int)) = (n : Int) := by rw [wrap64] <;> omega
  rw [w]
  by_cases h : n ≤ 8
  · rw [decide_eq_true h, decide_eq_false (show ¬ ((n : Int) > 8) by omega)]; rfl
  · rw [decide_eq_false h, decide_eq_true (show ((n : Int) > 8) by omega)]; rfl
theorem digits_all (s : Str) : ∀ c ∈ s.takeWhile (runP false), digB c = true := fun c hc => by
  have := take_all _ _ c hc
  unfold runP at this
  simpa using this
theorem numB_len {d : Str} {m : Nat} (h : numB d m = true) : d.length ≤ m := by
  unfold numB at h
  cases d with
  | nil => cases h
  | cons c r =>
    simp only [Bool.and_eq_true, decide_eq_true_eq] at h
    exact h.1
theorem slc_run (t : Str) (i : Nat) (p : UInt8 → Bool) (hi : i ≤ t.length) : slc2 t (some (i : Int)) (some ((i + ((t.drop i).takeWhile p).length : Nat) : Int)) = some ((t.drop i).takeWhile p) := by
  have hw := take_len p (t.drop i)
  rw [List.length_drop] at hw
  rw [slc_at t (by omega) (by omega), show i + ((t.drop i).takeWhile p).length - i = ((t.drop i).takeWhile p).length from by omega, take_eq]
theorem lx_var {t : Str} {i : Nat} {out : List QWord} (k : Nat) (ht : t.length ≤ 1000000) (hi : i < t.length) :
    lp lex_Lex_L0 (k + 1) (sVar t i out) = cond (numB ((t.drop (i + 1)).takeWhile (runP false)) 2 && decide (numV ((t.drop (i + 1)).takeWhile (runP false)) ≤ 23))
      (lp lex_Lex_L0 k (sTold t i (i + 1 + ((t.drop (i + 1)).takeWhile (runP false)).length) 1 out)) (lp lex_Lex_L0 k sWrong) := by
  have hw := take_len (runP false) (t.drop (i + 1))
  rw [List.length_drop] at hw
  have hall := digits_all (t.drop (i + 1))
  have hs := slc_run t (i + 1) (runP false) (by omega)
  rw [lp_succ]
  generalize lp lex_Lex_L0 k = rec
  unfold lex_Lex_L0 sTold sVar sWrong
  have w : IntKind.wrap .i64 ((i : Int) + 1) = ((i + 1 : Nat) : Int) := by rw [wrap64] <;> omega
  simp only [caseS, w]
  rw [lex_run_eq ht, Option.bind_some, hs, Option.bind_some]
  generalize (t.drop (i + 1)).takeWhile (runP false) = d at hw hall
  rw [show (2 : Int) = ((2 : Nat) : Int) from rfl, lex_number_eq d 2 (by omega), Option.bind_some]
  cases hn : numB d 2 with
  | false => rfl
  | true =>
    have hl := numB_len hn
    rw [Bool.not_true, cond_false, Option.bind_some, lex_Number_eq hall (by omega), Option.bind_some, Bool.true_and]
    by_cases h : numV d ≤ 23
    · rw [decide_eq_true h, decide_eq_false (show ¬ (((numV d : Nat) : Int) > 23) by omega)]; rfl
    · rw [decide_eq_false h, decide_eq_true (show ((numV d : Nat) : Int) > 23 by omega)]; rfl
theorem lx_num {t : Str} {i : Nat} {out : List QWord} (k : Nat) (ht : t.length ≤ 1000000) (hi : i < t.length) (ho : out.length ≤ 1000000) :
    lp lex_Lex_L0 (k + 1) (sNum t i out) = cond (numB ((t.drop i).takeWhile (runP false)) 4)
      (lp lex_Lex_L0 k (sNext t (i + ((t.drop i).takeWhile (runP false)).length) (out ++ [(2, (t.drop i).takeWhile (runP false))]))) (lp lex_Lex_L0 k sWrong) := by
  have hw := take_len (runP false) (t.drop i)
  rw [List.length_drop] at hw
  have hs := slc_run t i (runP false) (by omega)
  rw [lp_succ]
  generalize lp lex_Lex_L0 k = rec
  unfold lex_Lex_L0 sNext sNum sWrong
  simp only [caseS]
  rw [lex_run_eq ht, Option.bind_some, hs, Option.bind_some]
  generalize (t.drop i).takeWhile (runP false) = d at hw
  rw [show (4 : Int) = ((4 : Nat) : Int) from rfl, lex_number_eq d 4 (by omega), Option.bind_some]
  cases hn : numB d 4 with
  | false => rfl
  | true =>
    rw [Bool.not_true, cond_false, Option.bind_some, room_ok (by simp; omega)]
    rfl
theorem hasPrefix_eq (s : Str) (h : s.length ≤ 1000000) : strings_HasPrefix s [45, 62] = some (s.take 2 == [45, 62]) := by
  unfold strings_HasPrefix internal_stringslite_HasPrefix
  by_cases hl : 2 ≤ s.length
  · rw [decide_eq_true (show ((List.length s : Nat) : Int) ≥ ((List.length ([45, 62] : Str) : Nat) : Int) by simp; omega), cond_true]
    have : slc2 s none (some ((List.length ([45, 62] : Str) : Nat) : Int)) = some (s.take 2) := by
      show slc s 0 2 = _
      unfold slc
      rw [decide_eq_true (show (0 : Int) ≤ 0 by omega), decide_eq_true (show (0 : Int) ≤ 2 by omega), decide_eq_true (show (2 : Int) ≤ ((s.length : Nat) : Int) by omega)]
      rfl
    rw [this]
    rfl
  · rw [decide_eq_false (show ¬ (((List.length s : Nat) : Int) ≥ ((List.length ([45, 62] : Str) : Nat) : Int)) by simp; omega), cond_false]
    have : (s.take 2 == ([45, 62] : Str)) = false := by
      rw [beq_eq_false_iff_ne]
      intro e
      have := congrArg List.length e
      simp at this
      omega
    rw [this]
    rfl
theorem index_mem : (l : List UInt8) → (c : UInt8) → (0 ≤ Lib.indexByte l c ↔ c ∈ l)
  | [], c => by simp [Lib.indexByte]
  | b :: l, c => by
    have ih := index_mem l c
    have hge := Lib.indexByte_ge l c
    unfold Lib.indexByte
    by_cases hb : b = c
    · subst hb; simp
    · rw [if_neg (by simpa using hb)]
      have hcb : ¬ c = b := fun e => hb e.symm
      by_cases h : Lib.indexByte l c = -1
      · rw [if_pos (by simpa using h)]
        have : ¬ (c ∈ l) := fun hm => by have := ih.2 hm; omega
        simp [this, hcb]
      · rw [if_neg (by simpa using h)]
        have : c ∈ l := ih.1 (by omega)
        simp [this]
        omega
theorem contains_mark (c : UInt8) : strings_Contains [40, 41, 44, 61, 126, 38, 124, 58] [c] = some (markB c) := by
  show some (decide (0 ≤ Lib.indexByte [40, 41, 44, 61, 126, 38, 124, 58] c)) = _
  unfold markB
  congr 1
  exact decide_eq_decide.2 (index_mem _ c)
theorem slc_from {α : Type} (s : List α) {i : Nat} (h : i ≤ s.length) : slc2 s (some (i : Int)) none = some (s.drop i) := by
  show slc s (i : Int) (s.length : Int) = _
  have := slc_at s (i := i) (j := s.length) h (Nat.le_refl _)
  have e : slc2 s (some (i : Int)) (some ((s.length : Nat) : Int)) = slc s (i : Int) (s.length : Int) := rfl
  rw [← e, this]
  congr 1
  rw [List.take_of_length_le (by simp)]
def lx_class (t : Str) (i : Nat) (out : List QWord) : Option LxS := match t.drop i with
  | [] => none
  | c :: r => some (cond (letB c) (sName t i out) (cond (c == 88) (sVar t i out) (cond (digB c) (sNum t i out) (cond ((c :: r).take 2 == [45, 62]) (sTold t i (i + 2) 3 out) (cond (markB c) (sTold t i (i + 1) 3 out) sWrong)))))
theorem take_drop {α : Type} (p : α → Bool) (xs : List α) : xs.drop (xs.takeWhile p).length = xs.dropWhile p := by
  induction xs with
  | nil => rfl
  | cons x xs ih =>
    rw [List.takeWhile_cons, List.dropWhile_cons]
    cases p x with
    | true => simpa using ih
    | false => rfl
theorem lx_next {t : Str} {i : Nat} {out : List QWord} (k : Nat) (ht : t.length ≤ 1000000) (hi : i ≤ t.length) :
    lp lex_Lex_L0 (k + 1) (sNext t i out) = match lx_class t (i + ((t.drop i).takeWhile (· == 32)).length) out with
      | none => some (0, out)
      | some s => lp lex_Lex_L0 k s := by
  have hw := take_len (· == 32) (t.drop i)
  rw [List.length_drop] at hw
  rw [lp_succ]
  generalize lp lex_Lex_L0 k = rec
  unfold lex_Lex_L0 sNext
  simp only [caseS]
  rw [lex_Lex_L2_go_eq t (by unfold maxLen; omega) _ i fuel rfl (by simp only [List.length_drop]; unfold fuel; omega), blank_go, Option.bind_some]
  generalize hj : i + ((t.drop i).takeWhile (· == 32)).length = j
  have hj2 : j ≤ t.length := by omega
  unfold lx_class
  cases hd : t.drop j with
  | nil =>
    have : t.length ≤ j := drop_nil_le hd
    rw [show (((j : Nat) : Int) == ((List.length t : Nat) : Int)) = true from by rw [beq_iff_eq]; omega]
    rfl
  | cons c r =>
    have hlt := drop_cons_lt hd
    have w1 : IntKind.wrap .i64 ((j : Int) + 1) = ((j + 1 : Nat) : Int) := by rw [wrap64] <;> omega
    have w2 : IntKind.wrap .i64 (((j + 1 : Nat) : Int) + 1) = ((j + 2 : Nat) : Int) := by rw [wrap64] <;> omega
    have e88 : (((UInt8.toNat c : Nat) : Int) == 88) = (c == 88) := toNat_beq c 88
    rw [show (((j : Nat) : Int) == ((List.length t : Nat) : Int)) = false from by rw [beq_eq_false_iff_ne]; omega, cond_false]
    simp only [gx_nat, drop_cons_get hd, Option.bind_some, lex_small_eq, lex_digit_eq, e88, w1, w2]
    rw [slc_from t (by omega), Option.bind_some, slc_at t (i := j) (j := j + 1) (by omega) (by omega), Option.bind_some, hd, hasPrefix_eq _ (by rw [← hd, List.length_drop]; omega), Option.bind_some]
    rw [show List.take (j + 1 - j) (c :: r) = [c] from by rw [show j + 1 - j = 1 from by omega]; rfl, contains_mark, Option.bind_some]
    cases letB c with
    | true => rfl
    | false =>
      cases (c == 88) with
      | true => rfl
      | false =>
        cases digB c with
        | true => rfl
        | false =>
          cases ((c :: r).take 2 == [45, 62]) with
          | true => rfl
          | false => cases markB c <;> rfl
theorem run_pos {p : UInt8 → Bool} {c : UInt8} {r : Str} (h : p c = true) : 0 < ((c :: r).takeWhile p).length := by
  rw [List.takeWhile_cons, h]
  simp
theorem wordP_len {s rest : Str} {w : QWord} (h : wordP s = some (w, rest)) : rest.length < s.length := by
  unfold wordP at h
  cases s with
  | nil => cases h
  | cons c r =>
    simp only at h
    cases h1 : letB c with
    | true =>
      have hp : 0 < ((c :: r).takeWhile (runP true)).length := run_pos (by unfold runP; rw [h1]; simp)
      rw [h1, cond_true] at h
      cases h2 : decide (((c :: r).takeWhile (runP true)).length ≤ 8) with
      | false => rw [h2] at h; cases h
      | true =>
        rw [h2, cond_true] at h
        injection h with h; injection h with _ h
        rw [← h, List.length_drop]
        simp only [List.length_cons]
        omega
    | false =>
      rw [h1, cond_false] at h
      cases h2 : (c == 88) with
      | true =>
        rw [h2, cond_true] at h
        cases h3 : (numB (r.takeWhile (runP false)) 2 && decide (numV (r.takeWhile (runP false)) ≤ 23)) with
        | false => rw [h3] at h; cases h
        | true =>
          rw [h3, cond_true] at h
          injection h with h; injection h with _ h
          rw [← h, List.length_drop]
          simp only [List.length_cons]
          omega
      | false =>
        rw [h2, cond_false] at h
        cases h3 : digB c with
        | true =>
          have hp : 0 < ((c :: r).takeWhile (runP false)).length := run_pos (by unfold runP; rw [h3]; simp)
          rw [h3, cond_true] at h
          cases h4 : numB ((c :: r).takeWhile (runP false)) 4 with
          | false => rw [h4] at h; cases h
          | true =>
            rw [h4, cond_true] at h
            injection h with h; injection h with _ h
            rw [← h, List.length_drop]
            simp only [List.length_cons]
            omega
        | false =>
          rw [h3, cond_false] at h
          cases h4 : ((c :: r).take 2 == [45, 62]) with
          | true =>
            rw [h4, cond_true] at h
            injection h with h; injection h with _ h
            rw [← h, List.length_drop]
            simp only [List.length_cons]
            omega
          | false =>
            rw [h4, cond_false] at h
            cases h5 : markB c with
            | false => rw [h5] at h; cases h
            | true =>
              rw [h5, cond_true] at h
              injection h with h; injection h with _ h
              rw [← h]
              simp
theorem lx_run {t : Str} (ht : t.length ≤ 100000) : ∀ (n i k : Nat) (out : List QWord), t.length - i ≤ n → i ≤ t.length → out.length + n ≤ 1000000 → 3 * n + 3 ≤ k →
    lp lex_Lex_L0 k (sNext t i out) = some (match lexN n (t.drop i) with
      | some ws => (0, out ++ ws)
      | none => (2100, [])) := by
  intro n
  induction n with
  | zero =>
    intro i k out hn hi ho hk
    obtain ⟨k, rfl⟩ : ∃ k', k = k' + 1 := ⟨k - 1, by omega⟩
    have e : t.drop i = [] := List.drop_eq_nil_iff.2 (by omega)
    rw [lx_next k (by omega) hi]
    unfold lx_class
    rw [e]
    simp only [List.takeWhile_nil, List.length_nil, Nat.add_zero, e]
    simp [lexN]
  | succ n ih =>
    intro i k out hn hi ho hk
    obtain ⟨k, rfl⟩ : ∃ k', k = k' + 3 := ⟨k - 3, by omega⟩
    have hw := take_len (· == 32) (t.drop i)
    rw [List.length_drop] at hw
    rw [lx_next (k + 2) (by omega) hi]
    unfold lexN
    rw [← take_drop, List.drop_drop]
    generalize hj : i + ((t.drop i).takeWhile (· == 32)).length = j
    have hj1 : i ≤ j := by omega
    have hj2 : j ≤ t.length := by omega
    unfold lx_class
    cases hd : t.drop j with
    | nil => simp
    | cons c r =>
      have hlt := drop_cons_lt hd
      have hlen : t.length = j + (r.length + 1) := by have := congrArg List.length hd; simp at this; omega
      have hr : r = t.drop (j + 1) := (drop_cons_next hd).symm
      simp only
      unfold wordP
      simp only
      have fin : ∀ (w : QWord) (e k2 : Nat), j < e → e ≤ t.length → 3 * n + 3 ≤ k2 → lp lex_Lex_L0 k2 (sNext t e (out ++ [w])) = some (match (lexN n (t.drop e)).map (w :: ·) with
          | some ws => (0, out ++ ws)
          | none => (2100, [])) := by
        intro w e k2 he1 he2 hk2
        rw [ih e k2 (out ++ [w]) (by omega) he2 (by simp; omega) hk2]
        cases lexN n (t.drop e) with
        | none => rfl
        | some ws => simp
      cases h1 : letB c with
      | true =>
        rw [cond_true, cond_true, lx_name (k + 1) (by omega) (by omega), hd]
        have hp : 0 < ((c :: r).takeWhile (runP true)).length := run_pos (by unfold runP; rw [h1]; simp)
        have hq := take_len (runP true) (c :: r)
        rw [List.length_cons] at hq
        have ht2 := take_eq (runP true) (c :: r)
        have hdr : (c :: r).drop ((c :: r).takeWhile (runP true)).length = t.drop (j + ((c :: r).takeWhile (runP true)).length) := by rw [← hd, List.drop_drop]
        cases h2 : decide (((c :: r).takeWhile (runP true)).length ≤ 8) with
        | false => rw [cond_false, cond_false, lx_wrong]
        | true =>
          rw [cond_true, cond_true, lx_told k (by omega) (by omega) (by omega), hd, Nat.add_sub_cancel_left, ht2, hdr]
          exact fin _ _ _ (by omega) (by omega) (by omega)
      | false =>
        rw [cond_false, cond_false]
        cases h2 : (c == 88) with
        | true =>
          rw [cond_true, cond_true, lx_var (k + 1) (by omega) (by omega), ← hr]
          have hq := take_len (runP false) r
          have ht2 := take_eq (runP false) r
          have hdr : r.drop (r.takeWhile (runP false)).length = t.drop (j + 1 + (r.takeWhile (runP false)).length) := by rw [hr, List.drop_drop, ← hr]
          cases h3 : (numB (r.takeWhile (runP false)) 2 && decide (numV (r.takeWhile (runP false)) ≤ 23)) with
          | false => rw [cond_false, cond_false, lx_wrong]
          | true =>
            rw [cond_true, cond_true, lx_told k (by omega) (by omega) (by omega), hd, show j + 1 + (r.takeWhile (runP false)).length - j = (r.takeWhile (runP false)).length + 1 from by omega, List.take_succ_cons, ht2, hdr]
            exact fin _ _ _ (by omega) (by omega) (by omega)
        | false =>
          rw [cond_false, cond_false]
          cases h3 : digB c with
          | true =>
            rw [cond_true, cond_true, lx_num (k + 1) (by omega) (by omega) (by omega), hd]
            have hp : 0 < ((c :: r).takeWhile (runP false)).length := run_pos (by unfold runP; rw [h3]; simp)
            have hq := take_len (runP false) (c :: r)
            rw [List.length_cons] at hq
            have hdr : (c :: r).drop ((c :: r).takeWhile (runP false)).length = t.drop (j + ((c :: r).takeWhile (runP false)).length) := by rw [← hd, List.drop_drop]
            cases h4 : numB ((c :: r).takeWhile (runP false)) 4 with
            | false => rw [cond_false, cond_false, lx_wrong]
            | true =>
              rw [cond_true, cond_true, hdr]
              exact fin _ _ _ (by omega) (by omega) (by omega)
          | false =>
            rw [cond_false, cond_false]
            cases h4 : ((c :: r).take 2 == [45, 62]) with
            | true =>
              have h4' : (c :: r).take 2 = [45, 62] := by simpa using h4
              have hl2 : 2 ≤ (c :: r).length := by have := congrArg List.length h4'; simp at this ⊢; omega
              rw [List.length_cons] at hl2
              have hdr : r.drop 1 = t.drop (j + 2) := by rw [hr, List.drop_drop]
              rw [cond_true, cond_true, lx_told (k + 1) (by omega) (by omega) (by omega), hd, show j + 2 - j = 2 from by omega, h4', hdr]
              exact fin _ _ _ (by omega) (by omega) (by omega)
            | false =>
              rw [cond_false, cond_false]
              cases h5 : markB c with
              | false => rw [cond_false, cond_false, lx_wrong]
              | true =>
                rw [cond_true, cond_true, lx_told (k + 1) (by omega) (by omega) (by omega), hd, show j + 1 - j = 1 from by omega, show List.take 1 (c :: r) = [c] from rfl]
                have := fin (3, [c]) (j + 1) (k + 1) (by omega) (by omega) (by omega)
                rw [← hr] at this
                exact this
end
end Go.Abs.Q
namespace Go.Abs.Q
open Go Go.Abs
section
theorem lexN_more : ∀ (n m : Nat) (s : Str), s.length ≤ n → n ≤ m → lexN m s = lexN n s := by
  intro n
  induction n with
  | zero =>
    intro m s h hm
    obtain rfl : s = [] := List.length_eq_zero_iff.1 (by omega)
    cases m <;> rfl
  | succ n ih =>
    intro m s h hm
    obtain ⟨m, rfl⟩ : ∃ m', m = m' + 1 := ⟨m - 1, by omega⟩
    unfold lexN
    have hd : (s.dropWhile (· == 32)).length ≤ s.length := by rw [← take_drop, List.length_drop]; omega
    cases he : s.dropWhile (· == 32) with
    | nil => rfl
    | cons c r =>
      rw [he] at hd
      simp only
      cases hw : wordP (c :: r) with
      | none => rfl
      | some p =>
        obtain ⟨w, rest⟩ := p
        have := wordP_len hw
        simp only
        rw [ih m rest (by omega) (by omega)]
theorem lexP_step (s : Str) : lexP s = match s.dropWhile (· == 32) with
    | [] => some []
    | c :: r => match wordP (c :: r) with
      | none => none
      | some (w, rest) => (lexP rest).map (w :: ·) := by
  unfold lexP
  cases s with
  | nil => rfl
  | cons x s =>
    rw [List.length_cons]
    conv => lhs; unfold lexN
    have hd : ((x :: s).dropWhile (· == 32)).length ≤ (x :: s).length := by rw [← take_drop, List.length_drop]; omega
    cases he : (x :: s).dropWhile (· == 32) with
    | nil => rfl
    | cons c r =>
      rw [he] at hd
      simp only
      cases hw : wordP (c :: r) with
      | none => rfl
      | some p =>
        obtain ⟨w, rest⟩ := p
        have := wordP_len hw
        simp only [List.length_cons] at hd this
        simp only
        rw [lexN_more rest.length s.length rest (Nat.le_refl _) (by omega)]
theorem lexP_blank (s : Str) : lexP (32 :: s) = lexP s := by
  rw [lexP_step (32 :: s), lexP_step s]
  rfl
theorem lexP_nil : lexP [] = some [] := rfl
theorem lexP_word {c : UInt8} {r : Str} {w : QWord} {rest : Str} (hc : c ≠ 32) (h : wordP (c :: r) = some (w, rest)) : lexP (c :: r) = (lexP rest).map (w :: ·) := by
  rw [lexP_step]
  have : (c :: r).dropWhile (· == 32) = c :: r := by
    rw [List.dropWhile_cons, show (c == 32) = false from by simpa using hc]
    rfl
  rw [this]
  simp only [h]
def lexR (a : Str) : Int × List QWord := cond (decide (a.length > 2048)) (2100, []) (match lexP a with
  | some ws => (0, ws)
  | none => (2100, []))
theorem lex_Lex_eq (a : Str) : lex_Lex a = some (lexR a) := by
  have eta : ∀ o : Option (Int × List QWord), (o.bind fun r => some (r.1, r.2)) = o := fun o => by cases o <;> rfl
  unfold lex_Lex lexR
  by_cases hl : a.length > 2048
  · rw [decide_eq_true (show ((List.length a : Nat) : Int) > 2048 by omega), decide_eq_true hl, cond_true, cond_true, eta]
    exact lx_wrong 18446744073709551615
  · rw [decide_eq_false (show ¬ (((List.length a : Nat) : Int) > 2048) by omega), decide_eq_false hl, cond_false, cond_false]
    have key := lx_run (t := a) (by omega) a.length 0 (fuel + 1) [] (by omega) (by omega) (by simp; omega) (by unfold fuel; omega)
    rw [List.drop_zero] at key
    have e : lexP a = lexN a.length a := rfl
    rw [e]
    refine Eq.trans ?_ (key.trans (by cases lexN a.length a <;> rfl))
    rw [lp_succ]
    generalize lp lex_Lex_L0 fuel = rec
    unfold lex_Lex_L0 sNext
    simp only [eta, caseS]
    rfl
end
end Go.Abs.Q
namespace Go.Abs.Q
open Go Go.Abs
section
def Stop (c : Str) : Prop := c.takeWhile (runP true) = []
theorem stop_cons {x : UInt8} {c : Str} (h : runP true x = false) : Stop (x :: c) := by unfold Stop; rw [List.takeWhile_cons, h]; rfl
def Lx (t : Str) (ws : List QWord) : Prop := ∀ c, Stop c → lexP (t ++ c) = (lexP c).map (ws ++ ·)
theorem lexP_mark {m : UInt8} (h : m ∈ ([40, 41, 44, 61, 126, 38, 124] : Str)) (c : Str) : lexP (m :: c) = (lexP c).map ((3, [m]) :: ·) := by
  have key : ∀ m ∈ ([40, 41, 44, 61, 126, 38, 124] : Str), letB m = false ∧ (m == 88) = false ∧ digB m = false ∧ markB m = true ∧ m ≠ 32 ∧ m ≠ 45 := by decide
  obtain ⟨h1, h2, h3, h4, h5, h6⟩ := key m h
  refine lexP_word h5 ?_
  unfold wordP
  simp only
  have h7 : ((m :: c).take 2 == [45, 62]) = false := by
    rw [beq_eq_false_iff_ne]
    intro e
    cases c with
    | nil => cases e
    | cons x c => exact h6 (List.cons.inj e).1
  rw [h1, cond_false, h2, cond_false, h3, cond_false, h7, cond_false, h4, cond_true]
theorem map_map' {ws vs : List QWord} (o : Option (List QWord)) : (o.map (vs ++ ·)).map (ws ++ ·) = o.map ((ws ++ vs) ++ ·) := by
  cases o with
  | none => rfl
  | some x => simp
def LxM (t : Str) (ws : List QWord) : Prop := ∀ c, lexP (t ++ c) = (lexP c).map (ws ++ ·)
theorem LxM.mark {m : UInt8} (h : m ∈ ([40, 41, 44, 61, 126, 38, 124] : Str)) : LxM [m] [(3, [m])] := fun c => lexP_mark h c
theorem LxM.then {s t : Str} {ws vs : List QWord} (hs : LxM s ws) (ht : Lx t vs) : Lx (s ++ t) (ws ++ vs) := by
  intro c hc
  rw [List.append_assoc, hs, ht c hc, map_map']
theorem Lx.then {s t : Str} {ws vs : List QWord} {x : UInt8} (hs : Lx s ws) (ht : LxM (x :: t) vs) (hx : runP true x = false) : LxM (s ++ x :: t) (ws ++ vs) := by
  intro c
  rw [List.append_assoc, hs (x :: t ++ c) (stop_cons hx), ht, map_map']
def pieceW (a0 : List QSym) (f : List Int → List QWord) : List Int → List QWord
  | [] => []
  | x :: r => cond (decide (x < 0)) [(1, 88 :: dig2 (-1 - x).toNat)] (cond r.isEmpty [(0, nameOf a0 x)] ((([(0, nameOf a0 x)] ++ [(3, [40])]) ++ f r) ++ [(3, [41])]))
def tailW : List (List QWord) → List QWord
  | [] => []
  | w :: ws => [(3, [44])] ++ (w ++ tailW ws)
def joinW : List (List QWord) → List QWord
  | [] => []
  | w :: ws => w ++ tailW ws
def wordsN (a0 : List QSym) : Nat → List Int → List QWord
  | 0, _ => []
  | n + 1, xs => joinW (((cuts a0 xs).getD []).map (pieceW a0 (wordsN a0 n)))
def wordsTs (a0 : List QSym) (xs : List Int) : List QWord := wordsN a0 (xs.length + 1) xs
def atomW (a0 : List QSym) : List Int → List QWord
  | [] => []
  | x :: r => cond (x == 0) (match (cuts a0 r).getD [] with
    | [p, q] => (wordsTs a0 p ++ [(3, [61])]) ++ wordsTs a0 q
    | _ => []) (cond r.isEmpty [(0, nameOf a0 x)] ((([(0, nameOf a0 x)] ++ [(3, [40])]) ++ wordsTs a0 r) ++ [(3, [41])]))
def joinM (k : Int) : Str := cond (k == 2) [38] (cond (k == 3) [124] [45, 62])
def Fm.words (a0 : List QSym) : Fm → List QWord
  | .atom a => atomW a0 a
  | .not f => [(3, [126])] ++ f.words a0
  | .qu k v f => ([(0, bindT k)] ++ [(1, 88 :: dig2 v.toNat)]) ++ f.words a0
  | .bin k f g => ((([(3, [40])] ++ f.words a0) ++ [(3, joinM k)]) ++ g.words a0) ++ [(3, [41])]
end
end Go.Abs.Q
namespace Go.Abs.Q
open Go Go.Abs
section
abbrev QWs := List QWord
def WOk (ws : QWs) : Prop := ∀ w ∈ ws, w.1 = 1 → ∃ d, w.2 = 88 :: d ∧ (∀ c ∈ d, digB c = true) ∧ d.length ≤ 2 ∧ numV d ≤ 23
theorem WOk.tail {w : QWord} {ws : QWs} (h : WOk (w :: ws)) : WOk ws := fun x hx => h x (List.mem_cons_of_mem _ hx)
def isP (m : Str) : QWs → Option QWs
  | [] => none
  | w :: ws => cond (w.1 == 3 && w.2 == m) (some ws) none
def varP : QWs → Option (Nat × QWs)
  | [] => none
  | w :: ws => cond (w.1 == 1) (some (numV w.2.tail, ws)) none
def codeP (a0 : List QSym) (s : Str) : Int := idxI (a0.findIdx? fun e => e.1 == s)
def symP (a0 : List QSym) : QWs → Option (Int × QWs)
  | [] => none
  | w :: ws => cond (w.1 == 0 && decide (0 ≤ codeP a0 w.2)) (some (codeP a0 w.2, ws)) none
theorem reader_is (m : Str) (a0 : List QSym) (ws : QWs) (l : Bool) : formula_Reader_Is_1 m a0 ws l = some (match isP m ws with
    | some ws' => (true, a0, ws', l)
    | none => (false, a0, ws, l)) := by
  unfold formula_Reader_Is_1 isP
  cases ws with
  | nil => rfl
  | cons w ws =>
    rw [show (((List.length (w :: ws) : Nat) : Int) == 0) = false from by rw [beq_eq_false_iff_ne, List.length_cons]; omega, cond_false]
    simp only [gx_zero, List.getElem?_cons_zero, Option.bind_some, slc_tail, bne]
    cases (w.1 == 3) <;> cases (w.2 == m) <;> rfl
theorem reader_var {ws : QWs} (h : WOk ws) (a0 : List QSym) (l : Bool) : formula_Reader_Var_1 a0 ws l = some (match varP ws with
    | some p => ((p.1 : Int), true, a0, p.2, l)
    | none => (0, false, a0, ws, l)) := by
  unfold formula_Reader_Var_1 varP
  cases ws with
  | nil => rfl
  | cons w ws =>
    rw [show (((List.length (w :: ws) : Nat) : Int) == 0) = false from by rw [beq_eq_false_iff_ne, List.length_cons]; omega, cond_false]
    simp only [gx_zero, List.getElem?_cons_zero, Option.bind_some, bne]
    cases h1 : (w.1 == 1) with
    | false => rfl
    | true =>
      obtain ⟨d, hd, h2, h3, -⟩ := h w (List.mem_cons_self ..) (by simpa using h1)
      rw [hd, Bool.not_true, cond_false, slc_tail, Option.bind_some, lex_Number_eq h2 (by omega), Option.bind_some, slc_tail]
      rfl
theorem sign_Find_eq {a0 : List QSym} (h : signB a0 = true) (s : Str) : sign_Find a0 s = some (codeP a0 s, 0) := by
  unfold sign_Find
  rw [sign_May_eq, h, Option.bind_some, Bool.not_true, cond_false, sign_find_eq _ _ (signB_ok h).max, Option.bind_some]
  rfl
theorem reader_sym {a0 : List QSym} (h : signB a0 = true) (ws : QWs) (l : Bool) : formula_Reader_symbol_1 a0 ws l = some (match symP a0 ws with
    | some p => (p.1, true, a0, p.2, l)
    | none => (0, false, a0, ws, l)) := by
  unfold formula_Reader_symbol_1 symP
  cases ws with
  | nil => rfl
  | cons w ws =>
    rw [show (((List.length (w :: ws) : Nat) : Int) == 0) = false from by rw [beq_eq_false_iff_ne, List.length_cons]; omega, cond_false]
    simp only [gx_zero, List.getElem?_cons_zero, Option.bind_some, sign_Find_eq h, slc_tail, bne]
    cases (w.1 == 0) with
    | false => rfl
    | true =>
      by_cases hc : codeP a0 w.2 < 0
      · rw [decide_eq_true hc, decide_eq_false (show ¬ (0 ≤ codeP a0 w.2) by omega)]; rfl
      · rw [decide_eq_false hc, decide_eq_true (show 0 ≤ codeP a0 w.2 by omega)]; rfl
theorem codeP_mem {a0 : List QSym} {s : Str} (h : 0 ≤ codeP a0 s) : ∃ e, a0[(codeP a0 s).toNat]? = some e ∧ gx a0 (codeP a0 s) = some e ∧ e.1 = s := by
  unfold codeP at h ⊢
  cases hf : a0.findIdx? (fun e => e.1 == s) with
  | none => rw [hf] at h; exact absurd h (by decide)
  | some i =>
    obtain ⟨hi, hp, -⟩ := List.findIdx?_eq_some_iff_getElem.1 hf
    refine ⟨a0[i], List.getElem?_eq_getElem hi, ?_, by simpa using hp⟩
    show gx a0 (i : Int) = _
    rw [gx_nat, List.getElem?_eq_getElem hi]
def ariI (a0 : List QSym) (c : Int) : Nat := match a0[c.toNat]? with
  | some e => e.2.2.1.toNat
  | none => 0
def kindI (a0 : List QSym) (c : Int) : Int := match a0[c.toNat]? with
  | some e => e.2.1
  | none => 0
def argsP (tp : QWs → Option (List Int × QWs)) : Nat → Bool → QWs → Option (List Int × QWs)
  | 0, _, ws => some ([], ws)
  | m + 1, first, ws => match isP (cond first [40] [44]) ws with
    | none => none
    | some ws1 => match tp ws1 with
      | none => none
      | some (t, ws2) => (argsP tp m false ws2).map fun p => (t ++ p.1, p.2)
def behindP (a0 : List QSym) (tp : QWs → Option (List Int × QWs)) (c : Int) (ws : QWs) : Option (List Int × QWs) :=
  match argsP tp (ariI a0 c) true ws with
  | none => none
  | some (as, ws1) => cond (ariI a0 c == 0) (some (c :: as, ws1)) ((isP [41] ws1).map fun ws2 => (c :: as, ws2))
def termN (a0 : List QSym) : Nat → QWs → Option (List Int × QWs)
  | 0, _ => none
  | n + 1, ws => match varP ws with
    | some (v, ws1) => some ([-1 - (v : Int)], ws1)
    | none => match symP a0 ws with
      | none => none
      | some (c, ws1) => cond (kindI a0 c == 0) none (behindP a0 (termN a0 n) c ws1)
theorem isP_suf {m : Str} {ws ws' : QWs} (h : isP m ws = some ws') : ∃ w, ws = w :: ws' := by
  unfold isP at h
  cases ws with
  | nil => cases h
  | cons w ws =>
    dsimp only at h
    cases hc : (w.1 == 3 && w.2 == m) with
    | false => rw [hc] at h; cases h
    | true => rw [hc] at h; injection h with h; subst h; exact ⟨w, rfl⟩
theorem varP_suf {ws : QWs} {p : Nat × QWs} (h : varP ws = some p) : ∃ w, ws = w :: p.2 ∧ w.1 = 1 ∧ p.1 = numV w.2.tail := by
  unfold varP at h
  cases ws with
  | nil => cases h
  | cons w ws =>
    dsimp only at h
    cases hc : (w.1 == 1) with
    | false => rw [hc] at h; cases h
    | true => rw [hc] at h; injection h with h; subst h; exact ⟨w, rfl, by simpa using hc, rfl⟩
theorem symP_suf {a0 : List QSym} {ws : QWs} {p : Int × QWs} (h : symP a0 ws = some p) : ∃ w, ws = w :: p.2 ∧ 0 ≤ p.1 ∧ p.1 = codeP a0 w.2 ∧ w.1 = 0 := by
  unfold symP at h
  cases ws with
  | nil => cases h
  | cons w ws =>
    dsimp only at h
    cases hc : (w.1 == 0 && decide (0 ≤ codeP a0 w.2)) with
    | false => rw [hc] at h; cases h
    | true =>
      rw [hc] at h; injection h with h; subst h
      rw [Bool.and_eq_true, decide_eq_true_eq] at hc
      exact ⟨w, rfl, hc.2, rfl, by simpa using hc.1⟩
def Suf (ws' ws : QWs) : Prop := ∃ pre, ws = pre ++ ws'
theorem Suf.refl (ws : QWs) : Suf ws ws := ⟨[], rfl⟩
theorem Suf.trans {a b c : QWs} (h : Suf a b) (h' : Suf b c) : Suf a c := by
  obtain ⟨p, rfl⟩ := h
  obtain ⟨q, rfl⟩ := h'
  exact ⟨q ++ p, by simp⟩
theorem Suf.cons {w : QWord} {a b : QWs} (h : Suf a b) : Suf a (w :: b) := by
  obtain ⟨p, rfl⟩ := h
  exact ⟨w :: p, rfl⟩
theorem Suf.wok {a b : QWs} (h : Suf a b) (hb : WOk b) : WOk a := by
  obtain ⟨p, rfl⟩ := h
  exact fun w hw => hb w (List.mem_append_right _ hw)
theorem Suf.len {a b : QWs} (h : Suf a b) : a.length ≤ b.length := by
  obtain ⟨p, rfl⟩ := h
  simp
theorem args_suf {tp : QWs → Option (List Int × QWs)} (ht : ∀ ws t ws', tp ws = some (t, ws') → Suf ws' ws) : (m : Nat) → (b : Bool) → (ws : QWs) → {p : List Int × QWs} → argsP tp m b ws = some p → Suf p.2 ws
  | 0, b, ws, p, h => by injection h with h; subst h; exact Suf.refl _
  | m + 1, b, ws, p, h => by
    unfold argsP at h
    cases h1 : isP (cond b [40] [44]) ws with
    | none => rw [h1] at h; cases h
    | some ws1 =>
      rw [h1] at h
      obtain ⟨w, rfl⟩ := isP_suf h1
      simp only at h
      cases h2 : tp ws1 with
      | none => rw [h2] at h; cases h
      | some q =>
        obtain ⟨t, ws2⟩ := q
        rw [h2] at h
        simp only [Option.map_eq_some_iff] at h
        obtain ⟨q, hq, rfl⟩ := h
        exact ((args_suf ht m false ws2 hq).trans (ht _ _ _ h2)).cons
theorem behind_suf {a0 : List QSym} {tp : QWs → Option (List Int × QWs)} (ht : ∀ ws t ws', tp ws = some (t, ws') → Suf ws' ws) {c : Int} {ws : QWs} {p : List Int × QWs} (h : behindP a0 tp c ws = some p) : Suf p.2 ws := by
  unfold behindP at h
  cases h1 : argsP tp (ariI a0 c) true ws with
  | none => rw [h1] at h; cases h
  | some q =>
    obtain ⟨as, ws1⟩ := q
    have hs := args_suf ht _ _ _ h1
    rw [h1] at h
    simp only at h
    cases h2 : (ariI a0 c == 0) with
    | true => rw [h2] at h; injection h with h; subst h; exact hs
    | false =>
      rw [h2, cond_false, Option.map_eq_some_iff] at h
      obtain ⟨ws2, h3, rfl⟩ := h
      obtain ⟨w, rfl⟩ := isP_suf h3
      exact (Suf.refl _).cons.trans hs
theorem term_suf {a0 : List QSym} : (n : Nat) → (ws : QWs) → {t : List Int} → {ws' : QWs} → termN a0 n ws = some (t, ws') → Suf ws' ws ∧ ws'.length < ws.length
  | 0, ws, t, ws', h => by cases h
  | n + 1, ws, t, ws', h => by
    unfold termN at h
    cases h1 : varP ws with
    | some p =>
      obtain ⟨v, ws1⟩ := p
      rw [h1] at h
      injection h with h; injection h with _ h
      obtain ⟨w, hw, -⟩ := varP_suf h1
      subst h
      rw [hw]
      exact ⟨(Suf.refl _).cons, by simp⟩
    | none =>
      rw [h1] at h
      simp only at h
      cases h2 : symP a0 ws with
      | none => rw [h2] at h; cases h
      | some p =>
        obtain ⟨c, ws1⟩ := p
        obtain ⟨w, hw, -⟩ := symP_suf h2
        rw [h2] at h
        simp only at h hw
        cases h3 : (kindI a0 c == 0) with
        | true => rw [h3] at h; cases h
        | false =>
          rw [h3, cond_false] at h
          have hs := behind_suf (fun a b c hh => (term_suf n a hh).1) h
          have := hs.len
          rw [hw]
          exact ⟨hs.cons, by simp only at this; simp; omega⟩
end
end Go.Abs.Q
namespace Go.Abs.Q
open Go Go.Abs
section
abbrev RdR := Bool × List Int × List QSym × QWs × Bool
def TR (a0 : List QSym) (l : Bool) (o : Option (List Int × QWs)) (r : RdR) : Prop := match o with
  | some p => r = (true, p.1, a0, p.2, l)
  | none => r.1 = false ∧ r.2.2.1 = a0 ∧ r.2.2.2.2 = l ∧ r.2.1.length ≤ 1000000
theorem TR.some {a0 : List QSym} {l : Bool} {t : List Int} {ws : QWs} : TR a0 l (Option.some (t, ws)) (true, t, a0, ws, l) := rfl
theorem args_len {tp : QWs → Option (List Int × QWs)} (ht : ∀ ws t ws', tp ws = some (t, ws') → t.length + ws'.length ≤ ws.length) : (m : Nat) → (b : Bool) → (ws : QWs) → {p : List Int × QWs} → argsP tp m b ws = some p → p.1.length + p.2.length ≤ ws.length
  | 0, b, ws, p, h => by injection h with h; subst h; simp
  | m + 1, b, ws, p, h => by
    unfold argsP at h
    cases h1 : isP (cond b [40] [44]) ws with
    | none => rw [h1] at h; cases h
    | some ws1 =>
      rw [h1] at h
      obtain ⟨w, rfl⟩ := isP_suf h1
      simp only at h
      cases h2 : tp ws1 with
      | none => rw [h2] at h; cases h
      | some q =>
        obtain ⟨t, ws2⟩ := q
        have e2 := ht _ _ _ h2
        rw [h2] at h
        simp only [Option.map_eq_some_iff] at h
        obtain ⟨q, hq, rfl⟩ := h
        have e3 := args_len ht m false ws2 hq
        simp only [List.length_append, List.length_cons]
        omega
theorem behind_len {a0 : List QSym} {tp : QWs → Option (List Int × QWs)} (ht : ∀ ws t ws', tp ws = some (t, ws') → t.length + ws'.length ≤ ws.length) {c : Int} {ws : QWs} {p : List Int × QWs} (h : behindP a0 tp c ws = some p) : p.1.length + p.2.length ≤ ws.length + 1 := by
  unfold behindP at h
  cases h1 : argsP tp (ariI a0 c) true ws with
  | none => rw [h1] at h; cases h
  | some q =>
    obtain ⟨as, ws1⟩ := q
    have hs := args_len ht _ _ _ h1
    rw [h1] at h
    simp only at h hs
    cases h2 : (ariI a0 c == 0) with
    | true => rw [h2] at h; injection h with h; subst h; simp; omega
    | false =>
      rw [h2, cond_false, Option.map_eq_some_iff] at h
      obtain ⟨ws2, h3, rfl⟩ := h
      obtain ⟨w, rfl⟩ := isP_suf h3
      simp at hs ⊢
      omega
theorem term_len {a0 : List QSym} : (n : Nat) → (ws : QWs) → {t : List Int} → {ws' : QWs} → termN a0 n ws = some (t, ws') → t.length + ws'.length ≤ ws.length
  | 0, ws, t, ws', h => by cases h
  | n + 1, ws, t, ws', h => by
    unfold termN at h
    cases h1 : varP ws with
    | some p =>
      obtain ⟨v, ws1⟩ := p
      rw [h1] at h
      injection h with h; injection h with h2 h
      obtain ⟨w, hw, -⟩ := varP_suf h1
      subst h h2
      rw [hw]
      simp; omega
    | none =>
      rw [h1] at h
      simp only at h
      cases h2 : symP a0 ws with
      | none => rw [h2] at h; cases h
      | some p =>
        obtain ⟨c, ws1⟩ := p
        obtain ⟨w, hw, -⟩ := symP_suf h2
        rw [h2] at h
        simp only at h hw
        cases h3 : (kindI a0 c == 0) with
        | true => rw [h3] at h; cases h
        | false =>
          rw [h3, cond_false] at h
          have := behind_len (fun a b c hh => term_len n a hh) h
          rw [hw]
          simp at this ⊢
          omega
theorem args_run {a0 : List QSym} {tp : QWs → Option (List Int × QWs)} {rf : ((List QSym × QWs × Bool) → Option RdR) × ((Int × List QSym × QWs × Bool) → Option RdR)} {N : Nat} {l : Bool}
    (H : ∀ ws, ws.length < N → WOk ws → ∃ r, rf.1 (a0, ws, l) = some r ∧ TR a0 l (tp ws) r)
    (hl : ∀ ws t ws', tp ws = some (t, ws') → t.length + ws'.length ≤ ws.length) (hs : ∀ ws t ws', tp ws = some (t, ws') → Suf ws' ws) (c : Int) {ari : Nat} (hari : ari ≤ 1000) :
    (m i : Nat) → (ws : QWs) → (out : List Int) → (k : Nat) → i + m = ari → m < k → ws.length ≤ N → WOk ws → out.length + ws.length ≤ 1000000 →
    ∃ r, lp (formula_Reader_behind_1_L0 rf) k (c, (ari : Int), (i : Int), a0, ws, l, out) = some r ∧ (match argsP tp m (i == 0) ws with
      | some p => r = .inl (a0, p.2, l, out ++ p.1)
      | none => ∃ ws', r = .inr (false, a0, ws', l))
  | 0, i, ws, out, k, hi, hk, hN, hw, ho => by
    obtain ⟨k, rfl⟩ : ∃ k', k = k' + 1 := ⟨k - 1, by omega⟩
    refine ⟨.inl (a0, ws, l, out), ?_, by simp [argsP]⟩
    rw [lp_succ]
    generalize lp (formula_Reader_behind_1_L0 rf) k = rec
    unfold formula_Reader_behind_1_L0
    rw [decide_eq_false (show ¬ ((i : Int) < (ari : Int)) by omega)]
    rfl
  | m + 1, i, ws, out, k, hi, hk, hN, hw, ho => by
    obtain ⟨k, rfl⟩ : ∃ k', k = k' + 1 := ⟨k - 1, by omega⟩
    have ih := fun ws out h1 h2 h3 => args_run H hl hs c hari m (i + 1) ws out k (by omega) (by omega) h1 h2 h3
    rw [lp_succ]
    generalize lp (formula_Reader_behind_1_L0 rf) k = rec at ih ⊢
    unfold formula_Reader_behind_1_L0
    have w1 : IntKind.wrap .i64 ((i : Int) + 1) = ((i + 1 : Nat) : Int) := by rw [wrap64] <;> omega
    have e0 : ((i : Int) == 0) = (i == 0) := by
      by_cases h : i = 0
      · subst h; rfl
      · rw [show (i == 0) = false from by simpa using h, beq_eq_false_iff_ne]; omega
    have e2 : ((i + 1) == 0) = false := by simp
    rw [e2] at ih
    simp only [decide_eq_true (show (i : Int) < (ari : Int) by omega), cond_true, e0, w1, reader_is, Option.bind_some]
    unfold argsP
    cases hb : (i == 0) with
    | true =>
      rw [cond_true, cond_true]
      cases h1 : isP [40] ws with
      | none => exact ⟨_, rfl, ws, rfl⟩
      | some ws1 =>
        obtain ⟨w, rfl⟩ := isP_suf h1
        rw [List.length_cons] at hN ho
        simp only [Bool.not_true, cond_false]
        obtain ⟨r, g1, g2⟩ := H ws1 (by omega) hw.tail
        rw [g1, Option.bind_some]
        cases h2 : tp ws1 with
        | none =>
          rw [h2] at g2
          obtain ⟨g3, g4, g5, -⟩ := g2
          rw [g3, g4, g5]
          exact ⟨_, rfl, _, rfl⟩
        | some p =>
          obtain ⟨t, ws2⟩ := p
          rw [h2] at g2
          have g2 : r = (true, t, a0, ws2, l) := g2
          subst g2
          have hle := hl _ _ _ h2
          have hsu := hs _ _ _ h2
          simp only [Bool.not_true, cond_false]
          rw [room_ok (by omega), cond_true]
          obtain ⟨r, k1, k2⟩ := ih ws2 (out ++ t) (by omega) (hsu.wok hw.tail) (by simp; omega)
          refine ⟨r, k1, ?_⟩
          cases h3 : argsP tp m false ws2 with
          | none => rw [h3] at k2; exact k2
          | some q =>
            rw [h3] at k2
            simp only [Option.map_some]
            rw [k2, List.append_assoc]
    | false =>
      rw [cond_false, cond_false]
      cases h1 : isP [44] ws with
      | none => exact ⟨_, rfl, ws, rfl⟩
      | some ws1 =>
        obtain ⟨w, rfl⟩ := isP_suf h1
        rw [List.length_cons] at hN ho
        simp only [Bool.not_true, cond_false]
        obtain ⟨r, g1, g2⟩ := H ws1 (by omega) hw.tail
        rw [g1, Option.bind_some]
        cases h2 : tp ws1 with
        | none =>
          rw [h2] at g2
          obtain ⟨g3, g4, g5, -⟩ := g2
          rw [g3, g4, g5]
          exact ⟨_, rfl, _, rfl⟩
        | some p =>
          obtain ⟨t, ws2⟩ := p
          rw [h2] at g2
          have g2 : r = (true, t, a0, ws2, l) := g2
          subst g2
          have hle := hl _ _ _ h2
          have hsu := hs _ _ _ h2
          simp only [Bool.not_true, cond_false]
          rw [room_ok (by omega), cond_true]
          obtain ⟨r, k1, k2⟩ := ih ws2 (out ++ t) (by omega) (hsu.wok hw.tail) (by simp; omega)
          refine ⟨r, k1, ?_⟩
          cases h3 : argsP tp m false ws2 with
          | none => rw [h3] at k2; exact k2
          | some q =>
            rw [h3] at k2
            simp only [Option.map_some]
            rw [k2, List.append_assoc]
theorem behind_run {a0 : List QSym} (hS : SignOk a0) {tp : QWs → Option (List Int × QWs)} {rf : ((List QSym × QWs × Bool) → Option RdR) × ((Int × List QSym × QWs × Bool) → Option RdR)} {N : Nat} {l : Bool}
    (H : ∀ ws, ws.length < N → WOk ws → ∃ r, rf.1 (a0, ws, l) = some r ∧ TR a0 l (tp ws) r)
    (hl : ∀ ws t ws', tp ws = some (t, ws') → t.length + ws'.length ≤ ws.length) (hs : ∀ ws t ws', tp ws = some (t, ws') → Suf ws' ws) {c : Int} {e : QSym} (hc : a0[c.toNat]? = some e) (hg : gx a0 c = some e)
    {ws : QWs} (hN : ws.length ≤ N) (hw : WOk ws) (ho : ws.length ≤ 900000) : ∃ r, formula_Reader_behind_1_S rf c a0 ws l = some r ∧ TR a0 l (behindP a0 tp c ws) r := by
  have hat := hS.at hc
  have ha : ariI a0 c = e.2.2.1.toNat := by unfold ariI; rw [hc]
  have hai : e.2.2.1 = ((ariI a0 c : Nat) : Int) := by rw [ha, Int.toNat_of_nonneg hat.2.2.2.2.1]
  obtain ⟨r, h1, h2⟩ := args_run H hl hs c (ari := ariI a0 c) (by omega) (ariI a0 c) 0 ws [c] fuel (by omega) (by unfold fuel; omega) hN hw (by simp; omega)
  unfold formula_Reader_behind_1_S
  rw [hg, Option.bind_some, hai, show (0 : Int) = ((0 : Nat) : Int) from rfl, h1, Option.bind_some]
  unfold behindP
  rw [show ((0 : Nat) == 0) = true from rfl] at h2
  cases h3 : argsP tp (ariI a0 c) true ws with
  | none =>
    rw [h3] at h2
    obtain ⟨ws', rfl⟩ := h2
    exact ⟨_, rfl, rfl, rfl, rfl, by simp⟩
  | some p =>
    rw [h3] at h2
    have h2 : r = .inl (a0, p.2, l, [c] ++ p.1) := h2
    subst h2
    simp only [caseS, hg, Option.bind_some, hai]
    have e0 : (((ariI a0 c : Nat) : Int) == ((0 : Nat) : Int)) = (ariI a0 c == 0) := by
      by_cases h : ariI a0 c = 0
      · rw [h]; rfl
      · rw [show (ariI a0 c == 0) = false from by simpa using h, beq_eq_false_iff_ne]; omega
    rw [e0]
    cases (ariI a0 c == 0) with
    | true => exact ⟨_, rfl, rfl⟩
    | false =>
      rw [cond_false, reader_is, Option.bind_some, cond_false]
      cases isP [41] p.2 with
      | none => exact ⟨_, rfl, rfl, rfl, rfl, by have := args_len hl _ _ _ h3; simp; omega⟩
      | some ws2 => exact ⟨_, rfl, rfl⟩
theorem term_run {a0 : List QSym} (hb : signB a0 = true) (l : Bool) : ∀ (n k : Nat) (ws : QWs), 2 * n ≤ k → ws.length < n → WOk ws → ws.length ≤ 900000 → ∃ r, (formula_Reader_behind_1_R k).1 (a0, ws, l) = some r ∧ TR a0 l (termN a0 n ws) r := by
  have hS := signB_ok hb
  intro n
  induction n with
  | zero => intro k ws _ h; omega
  | succ n ih =>
    intro k ws hk hws hw ho
    obtain ⟨k, rfl⟩ : ∃ k', k = k' + 2 := ⟨k - 2, by omega⟩
    show ∃ r, formula_Reader_term_1_S (formula_Reader_behind_1_R (k + 1)) a0 ws l = some r ∧ _
    unfold formula_Reader_term_1_S termN
    rw [reader_var hw, Option.bind_some]
    cases h1 : varP ws with
    | some p =>
      obtain ⟨v, ws1⟩ := p
      obtain ⟨w, hw1, hw2, hw3⟩ := varP_suf h1
      have hv : v ≤ 23 := by
        obtain ⟨d, hd, -, -, h4⟩ := hw w (by rw [hw1]; exact List.mem_cons_self ..) hw2
        simp only at hw3
        rw [hw3, hd]
        exact h4
      simp only [cond_true]
      rw [term_Number_eq (by omega) (by omega), Option.bind_some]
      exact ⟨_, rfl, rfl⟩
    | none =>
      simp only [cond_false]
      rw [reader_sym hb, Option.bind_some]
      cases h2 : symP a0 ws with
      | none => exact ⟨_, rfl, rfl, rfl, rfl, by simp⟩
      | some p =>
        obtain ⟨c, ws1⟩ := p
        obtain ⟨w, hw1, hw2, hw3, -⟩ := symP_suf h2
        simp only at hw1 hw2 hw3
        have hcm := codeP_mem (a0 := a0) (s := w.2) (by omega)
        rw [← hw3] at hcm
        obtain ⟨e, he1, he2, -⟩ := hcm
        have hk2 : kindI a0 c = e.2.1 := by unfold kindI; rw [he1]
        simp only [Bool.not_true, cond_false, he2, Option.bind_some, hk2]
        cases (e.2.1 == 0) with
        | true => exact ⟨_, rfl, rfl, rfl, rfl, by simp⟩
        | false =>
          rw [cond_false, cond_false]
          have hlen : ws1.length < n := by rw [hw1, List.length_cons] at hws; omega
          rw [hw1] at hw ho
          rw [List.length_cons] at ho
          obtain ⟨r, g1, g2⟩ := behind_run hS (rf := formula_Reader_behind_1_R k) (N := ws1.length) (l := l) (tp := termN a0 n)
            (fun ws' h1' h2' => ih k ws' (by omega) (by omega) h2' (by omega)) (fun ws t ws' h => term_len n ws h) (fun ws t ws' h => (term_suf n ws h).1) he1 he2 (ws := ws1) (Nat.le_refl _) hw.tail (by omega)
          have g1 : (formula_Reader_behind_1_R (k + 1)).2 (c, a0, ws1, l) = some r := g1
          rw [g1, Option.bind_some]
          refine ⟨_, rfl, ?_⟩
          exact g2
theorem reader_term {a0 : List QSym} (hb : signB a0 = true) (l : Bool) {ws : QWs} (hw : WOk ws) (ho : ws.length ≤ 900000) : ∃ r, formula_Reader_term_1 a0 ws l = some r ∧ TR a0 l (termN a0 (ws.length + 1) ws) r :=
  term_run hb l (ws.length + 1) fuel ws (by unfold fuel; omega) (by omega) hw ho
theorem args_same {tp tp' : QWs → Option (List Int × QWs)} (hs : ∀ ws t ws', tp ws = some (t, ws') → Suf ws' ws) {N : Nat} (h : ∀ ws, ws.length < N → tp' ws = tp ws) : (m : Nat) → (b : Bool) → (ws : QWs) → ws.length ≤ N → argsP tp' m b ws = argsP tp m b ws
  | 0, b, ws, _ => rfl
  | m + 1, b, ws, hN => by
    unfold argsP
    cases h1 : isP (cond b [40] [44]) ws with
    | none => rfl
    | some ws1 =>
      obtain ⟨w, rfl⟩ := isP_suf h1
      rw [List.length_cons] at hN
      simp only
      rw [h ws1 (by omega)]
      cases h2 : tp ws1 with
      | none => rfl
      | some q =>
        obtain ⟨t, ws2⟩ := q
        have := (hs _ _ _ h2).len
        simp only
        rw [args_same hs h m false ws2 (by omega)]
theorem term_more {a0 : List QSym} : ∀ (n m : Nat) (ws : QWs), ws.length < n → n ≤ m → termN a0 m ws = termN a0 n ws := by
  intro n
  induction n with
  | zero => intro m ws h; omega
  | succ n ih =>
    intro m ws h hm
    obtain ⟨m, rfl⟩ : ∃ m', m = m' + 1 := ⟨m - 1, by omega⟩
    unfold termN
    cases h1 : varP ws with
    | some p => rfl
    | none =>
      simp only
      cases h2 : symP a0 ws with
      | none => rfl
      | some p =>
        obtain ⟨c, ws1⟩ := p
        obtain ⟨w, hw, -⟩ := symP_suf h2
        simp only at hw ⊢
        rw [hw, List.length_cons] at h
        congr 1
        unfold behindP
        rw [args_same (tp := termN a0 n) (N := n) (fun ws t ws' h => (term_suf n ws h).1) (fun ws' h' => ih m ws' h' (by omega)) _ _ ws1 (by omega)]
def termP (a0 : List QSym) (ws : QWs) : Option (List Int × QWs) := termN a0 (ws.length + 1) ws
theorem termP_eq {a0 : List QSym} {n : Nat} {ws : QWs} (h : ws.length < n) : termN a0 n ws = termP a0 ws := term_more _ _ _ (Nat.lt_succ_self _) h
end
end Go.Abs.Q
namespace Go.Abs.Q
open Go Go.Abs
section
theorem termP_suf {a0 : List QSym} {ws : QWs} {t : List Int} {ws' : QWs} (h : termP a0 ws = some (t, ws')) : Suf ws' ws ∧ ws'.length < ws.length := term_suf _ _ h
theorem termP_len {a0 : List QSym} {ws : QWs} {t : List Int} {ws' : QWs} (h : termP a0 ws = some (t, ws')) : t.length + ws'.length ≤ ws.length := term_len _ _ h
theorem behindP_P {a0 : List QSym} {n : Nat} {ws : QWs} (c : Int) (h : ws.length ≤ n) : behindP a0 (termN a0 n) c ws = behindP a0 (termP a0) c ws := by
  unfold behindP
  rw [args_same (tp := termP a0) (N := n) (fun ws t ws' h => (termP_suf h).1) (fun ws' h' => termP_eq h') _ _ ws h]
theorem termP_step (a0 : List QSym) (ws : QWs) : termP a0 ws = match varP ws with
    | some (v, ws1) => some ([-1 - (v : Int)], ws1)
    | none => match symP a0 ws with
      | none => none
      | some (c, ws1) => cond (kindI a0 c == 0) none (behindP a0 (termP a0) c ws1) := by
  conv => lhs; unfold termP; unfold termN
  cases h1 : varP ws with
  | some p => rfl
  | none =>
    simp only
    cases h2 : symP a0 ws with
    | none => rfl
    | some p =>
      obtain ⟨c, ws1⟩ := p
      obtain ⟨w, hw, -⟩ := symP_suf h2
      simp only at hw ⊢
      rw [behindP_P c (by rw [hw]; simp)]
def eqP (a0 : List QSym) (ws : QWs) : Option (List Int × QWs) := match termP a0 ws with
  | none => none
  | some (t, ws1) => match isP [61] ws1 with
    | none => none
    | some ws2 => (termP a0 ws2).map fun p => (([0] ++ t) ++ p.1, p.2)
def atomP (a0 : List QSym) (ws : QWs) : Option (List Int × QWs) := match symP a0 ws with
  | none => eqP a0 ws
  | some (c, ws1) => cond (kindI a0 c == 0) (behindP a0 (termP a0) c ws1) (eqP a0 ws)
end
end Go.Abs.Q
namespace Go.Abs.Q
open Go Go.Abs
section
theorem reader_termP {a0 : List QSym} (hb : signB a0 = true) (l : Bool) {ws : QWs} (hw : WOk ws) (ho : ws.length ≤ 900000) : ∃ r, formula_Reader_term_1 a0 ws l = some r ∧ TR a0 l (termP a0 ws) r := reader_term hb l hw ho
theorem reader_behind {a0 : List QSym} (hb : signB a0 = true) (l : Bool) {c : Int} {e : QSym} (hc : a0[c.toNat]? = some e) (hg : gx a0 c = some e) {ws : QWs} (hw : WOk ws) (ho : ws.length ≤ 900000) :
    ∃ r, formula_Reader_behind_1 c a0 ws l = some r ∧ TR a0 l (behindP a0 (termP a0) c ws) r := by
  show ∃ r, formula_Reader_behind_1_S (formula_Reader_behind_1_R 18446744073709551615) c a0 ws l = some r ∧ _
  refine behind_run (signB_ok hb) (N := ws.length) (fun ws' h1 h2 => ?_) (fun ws t ws' h => termP_len h) (fun ws t ws' h => (termP_suf h).1) hc hg (Nat.le_refl _) hw ho
  exact term_run hb l (ws'.length + 1) _ ws' (by omega) (by omega) h2 (by omega)
theorem slices_Grow_2_eq {n : Nat} (h : n ≤ 10000000) : slices_Grow_2 (n : Int) = some [] := by
  unfold slices_Grow_2
  have e : IntKind.wrap .i64 ((n : Int) - 0) = (n : Int) := by rw [wrap64] <;> omega
  rw [e, decide_eq_false (show ¬ ((n : Int) < 0) by omega), cond_false]
  by_cases h0 : n = 0
  · subst h0; rfl
  · rw [decide_eq_true (show (n : Int) > 0 by omega), cond_true, show (eqI 0 0 && eqI 0 0) = true from rfl, cond_true, show posI (n : Int) = true from decide_eq_true (by omega), cond_true, Int.toNat_natCast, room_ok (by omega), cond_true]
    have : ∀ z : Int, slc2 (List.replicate n z) none (some 0) = some [] := fun z => by
      show slc (List.replicate n z) 0 0 = some []
      unfold slc
      rw [decide_eq_true (show (0 : Int) ≤ 0 by omega), decide_eq_true (show (0 : Int) ≤ (((List.replicate n z).length : Nat) : Int) by omega)]
      rfl
    rw [this]; rfl
theorem concat3 {a b c : List Int} (h : a.length + b.length + c.length ≤ 9000000) : slices_Concat_2 [a, b, c] = some ((a ++ b) ++ c) := by
  have w0 : IntKind.wrap .i64 ((0 : Int) + ((a.length : Nat) : Int)) = ((a.length : Nat) : Int) := by rw [wrap64] <;> omega
  have w1 : IntKind.wrap .i64 (((a.length : Nat) : Int) + ((b.length : Nat) : Int)) = ((a.length + b.length : Nat) : Int) := by rw [wrap64] <;> omega
  have w2 : IntKind.wrap .i64 (((a.length + b.length : Nat) : Int) + ((c.length : Nat) : Int)) = ((a.length + b.length + c.length : Nat) : Int) := by rw [wrap64] <;> omega
  have e0 : slices_Concat_2_L0_go [a, b, c] 0 = some ((a.length + b.length + c.length : Nat) : Int) := by
    unfold slices_Concat_2_L0_go
    rw [w0, decide_eq_false (show ¬ (((a.length : Nat) : Int) < 0) by omega), cond_false]
    unfold slices_Concat_2_L0_go
    rw [w1, decide_eq_false (show ¬ (((a.length + b.length : Nat) : Int) < 0) by omega), cond_false]
    unfold slices_Concat_2_L0_go
    rw [w2, decide_eq_false (show ¬ (((a.length + b.length + c.length : Nat) : Int) < 0) by omega), cond_false]
    rfl
  have e1 : slices_Concat_2_L1_go [a, b, c] [] = some ((a ++ b) ++ c) := by
    unfold slices_Concat_2_L1_go
    rw [room_ok (by simp; omega), cond_true, List.nil_append]
    unfold slices_Concat_2_L1_go
    rw [room_ok (by omega), cond_true]
    unfold slices_Concat_2_L1_go
    rw [room_ok (by simp; omega), cond_true]
    rfl
  unfold slices_Concat_2
  rw [slices_Concat_2_L0_go_at0 _ _ _ (by unfold maxLen; simp), e0, Option.bind_some, slices_Grow_2_eq (by omega), Option.bind_some, slices_Concat_2_L1_go_at0 _ _ (by unfold maxLen; simp), e1]
  rfl
def AR (a0 : List QSym) (l : Bool) (o : Option (List Int × QWs)) (r : RdR) : Prop := match o with
  | some p => r = (true, p.1, a0, p.2, l || decide (p.1.length > 49))
  | none => r.1 = false
theorem len49 (p : List Int) (l : Bool) (f : Bool → Option RdR) : cond l (f true) (f (decide (((List.length p : Nat) : Int) > 49))) = f (l || decide (p.length > 49)) := by
  cases l with
  | true => rfl
  | false =>
    rw [cond_false, Bool.false_or]
    congr 1
    by_cases h : p.length > 49
    · rw [decide_eq_true h, decide_eq_true (show ((List.length p : Nat) : Int) > 49 by omega)]
    · rw [decide_eq_false h, decide_eq_false (show ¬ (((List.length p : Nat) : Int) > 49) by omega)]
theorem eq_run {a0 : List QSym} (hb : signB a0 = true) (l : Bool) {ws : QWs} (hw : WOk ws) (ho : ws.length ≤ 900000) : ∃ r, ((formula_Reader_term_1 a0 ws l).bind fun r15 =>
      cond (!r15.1)
      (some (false, ([] : (List Int)), r15.2.2.1, r15.2.2.2.1, r15.2.2.2.2))
      ((formula_Reader_Is_1 ([61] : Str) r15.2.2.1 r15.2.2.2.1 r15.2.2.2.2).bind fun r16 =>
        cond (!r16.1)
        (some (false, ([] : (List Int)), r16.2.1, r16.2.2.1, r16.2.2.2))
        ((formula_Reader_term_1 r16.2.1 r16.2.2.1 r16.2.2.2).bind fun r17 =>
          (slices_Concat_2 ([([0] : List Int), r15.2.1, r17.2.1] : List (List Int))).bind fun r18 =>
          cond r17.2.2.2.2
          (some (r17.1, r18, r17.2.2.1, r17.2.2.2.1, true))
          (some (r17.1, r18, r17.2.2.1, r17.2.2.2.1, (decide (((List.length r18 : Nat) : Int) > 49))))))) = some r ∧ AR a0 l (eqP a0 ws) r := by
  obtain ⟨r, g1, g2⟩ := reader_termP hb l hw ho
  rw [g1, Option.bind_some]
  unfold eqP
  cases h1 : termP a0 ws with
  | none =>
    rw [h1] at g2
    rw [g2.1]
    exact ⟨_, rfl, rfl⟩
  | some p =>
    obtain ⟨t, ws1⟩ := p
    have hsu := termP_suf h1
    have hle := termP_len h1
    rw [h1] at g2
    have g2 : r = (true, t, a0, ws1, l) := g2
    subst g2
    simp only [Bool.not_true, cond_false, reader_is, Option.bind_some]
    cases h2 : isP [61] ws1 with
    | none => exact ⟨_, rfl, rfl⟩
    | some ws2 =>
      obtain ⟨w, rfl⟩ := isP_suf h2
      have hw1 := hsu.1.wok hw
      rw [List.length_cons] at hle hsu
      simp only [Bool.not_true, cond_false]
      obtain ⟨r, k1, k2⟩ := reader_termP hb l hw1.tail (ws := ws2) (by omega)
      rw [k1, Option.bind_some]
      cases h3 : termP a0 ws2 with
      | none =>
        rw [h3] at k2
        obtain ⟨m1, m2, m3, m4⟩ := k2
        have hct : t.length ≤ 900000 := by omega
        rw [concat3 (by simp; omega), Option.bind_some]
        rw [m1]
        cases r.2.2.2.2 with
        | true => exact ⟨_, rfl, rfl⟩
        | false => exact ⟨_, rfl, rfl⟩
      | some q =>
        obtain ⟨u, ws3⟩ := q
        have hle2 := termP_len h3
        rw [h3] at k2
        have k2 : r = (true, u, a0, ws3, l) := k2
        subst k2
        simp only
        rw [concat3 (by simp; omega), Option.bind_some]
        rw [len49 (([0] ++ t) ++ u) l (fun b => some (true, ([0] ++ t) ++ u, a0, ws3, b))]
        exact ⟨_, rfl, rfl⟩
theorem reader_atom {a0 : List QSym} (hb : signB a0 = true) (l : Bool) {ws : QWs} (hw : WOk ws) (ho : ws.length ≤ 900000) : ∃ r, formula_Reader_Atom_1 a0 ws l = some r ∧ AR a0 l (atomP a0 ws) r := by
  unfold formula_Reader_Atom_1 atomP
  rw [reader_sym hb, Option.bind_some]
  cases h1 : symP a0 ws with
  | none => exact eq_run hb l hw ho
  | some p =>
    obtain ⟨c, ws1⟩ := p
    obtain ⟨w, hw1, hw2, hw3, -⟩ := symP_suf h1
    simp only at hw1 hw2 hw3
    have hcm := codeP_mem (a0 := a0) (s := w.2) (by omega)
    rw [← hw3] at hcm
    obtain ⟨e, he1, he2, -⟩ := hcm
    have hk2 : kindI a0 c = e.2.1 := by unfold kindI; rw [he1]
    simp only [cond_true, he2, Option.bind_some, hk2]
    cases (e.2.1 == 0) with
    | false => exact eq_run hb l hw ho
    | true =>
      rw [cond_true, cond_true]
      have hw' := hw
      rw [hw1] at hw'
      have hl1 : ws1.length ≤ 900000 := by rw [hw1, List.length_cons] at ho; omega
      obtain ⟨r, k1, k2⟩ := reader_behind hb l he1 he2 hw'.tail hl1
      rw [k1, Option.bind_some]
      cases h3 : behindP a0 (termP a0) c ws1 with
      | none =>
        rw [h3] at k2
        rw [k2.1]
        cases r.2.2.2.2 with
        | true => exact ⟨_, rfl, rfl⟩
        | false => exact ⟨_, rfl, rfl⟩
      | some q =>
        obtain ⟨u, ws3⟩ := q
        rw [h3] at k2
        have k2 : r = (true, u, a0, ws3, l) := k2
        subst k2
        simp only
        rw [len49 u l (fun b => some (true, u, a0, ws3, b))]
        exact ⟨_, rfl, rfl⟩
theorem eqP_suf {a0 : List QSym} {ws : QWs} {p : List Int × QWs} (h : eqP a0 ws = some p) : Suf p.2 ws ∧ p.2.length < ws.length ∧ p.1.length + p.2.length ≤ ws.length := by
  unfold eqP at h
  cases h1 : termP a0 ws with
  | none => rw [h1] at h; cases h
  | some q =>
    obtain ⟨t, ws1⟩ := q
    have h2 := termP_suf h1
    have h2l := termP_len h1
    rw [h1] at h
    simp only at h
    cases h3 : isP [61] ws1 with
    | none => rw [h3] at h; cases h
    | some ws2 =>
      obtain ⟨w, rfl⟩ := isP_suf h3
      rw [h3] at h
      simp only [Option.map_eq_some_iff] at h
      obtain ⟨q, hq, rfl⟩ := h
      obtain ⟨u, ws3⟩ := q
      have h4 := termP_suf hq
      have h4l := termP_len hq
      refine ⟨(h4.1.cons).trans h2.1, ?_, ?_⟩
      · simp at h2 h4 ⊢; omega
      · simp at h2 h4 h2l h4l ⊢; omega
theorem atomP_suf {a0 : List QSym} {ws : QWs} {p : List Int × QWs} (h : atomP a0 ws = some p) : Suf p.2 ws ∧ p.2.length < ws.length ∧ p.1.length + p.2.length ≤ ws.length := by
  unfold atomP at h
  cases h1 : symP a0 ws with
  | none => rw [h1] at h; exact eqP_suf h
  | some q =>
    obtain ⟨c, ws1⟩ := q
    obtain ⟨w, hw1, -⟩ := symP_suf h1
    rw [h1] at h
    simp only at h hw1
    cases hk : (kindI a0 c == 0) with
    | false => rw [hk] at h; exact eqP_suf h
    | true =>
      rw [hk, cond_true] at h
      have h2 := behind_suf (fun ws t ws' h => (termP_suf h).1) h
      have h3 := behind_len (fun ws t ws' h => termP_len h) h
      have := h2.len
      rw [hw1]
      exact ⟨h2.cons, by simp; omega, by simp; omega⟩
end
end Go.Abs.Q
namespace Go.Abs.Q
open Go Go.Abs
section
def bindP : QWs → Option (Int × Nat × QWs)
  | w :: v :: ws => cond (w.1 == 0 && v.1 == 1) (cond (w.2 == [101, 120]) (some (6, numV v.2.tail, ws)) (cond (w.2 == [97, 108, 108]) (some (5, numV v.2.tail, ws)) none)) none
  | _ => none
def jointP (ws : QWs) : Option (Int × QWs) := match isP [38] ws with
  | some ws' => some (2, ws')
  | none => match isP [124] ws with
    | some ws' => some (3, ws')
    | none => match isP [45, 62] ws with
      | some ws' => some (4, ws')
      | none => none
def formN (a0 : List QSym) : Nat → QWs → Option (Fm × Bool × QWs)
  | 0, _ => none
  | n + 1, ws => match isP [126] ws with
    | some ws1 => (formN a0 n ws1).map fun p => (.not p.1, p.2)
    | none => match bindP ws with
      | some (k, v, ws1) => (formN a0 n ws1).map fun p => (.qu k (v : Int) p.1, p.2)
      | none => match isP [40] ws with
        | some ws1 => match formN a0 n ws1 with
          | none => none
          | some (f, l1, ws2) => match jointP ws2 with
            | none => none
            | some (k, ws3) => match formN a0 n ws3 with
              | none => none
              | some (g, l2, ws4) => (isP [41] ws4).map fun ws5 => (.bin k f g, l1 || l2, ws5)
        | none => (atomP a0 ws).map fun p => (.atom p.1, decide (p.1.length > 49), p.2)
theorem reader_binder {ws : QWs} (h : WOk ws) (a0 : List QSym) (l : Bool) : formula_Reader_binder_1 a0 ws l = some (match bindP ws with
    | some p => (p.1, (p.2.1 : Int), true, a0, p.2.2, l)
    | none => (0, 0, false, a0, ws, l)) := by
  unfold formula_Reader_binder_1 bindP
  match ws, h with
  | [], _ => rfl
  | [w], _ => rfl
  | w :: v :: ws, h =>
    rw [decide_eq_false (show ¬ (((List.length (w :: v :: ws) : Nat) : Int) < 2) by simp; omega), cond_false]
    have g1 : gx (w :: v :: ws) 1 = some v := gx_nat (w :: v :: ws) 1
    have s2 : slc2 (w :: v :: ws) (some 2) none = some ws := slc_from (w :: v :: ws) (i := 2) (by simp)
    simp only [gx_zero, g1, s2, List.getElem?_cons_zero, Option.bind_some, bne]
    cases h0 : (w.1 == 0) with
    | false => rfl
    | true =>
      cases h1 : (v.1 == 1) with
      | false => rfl
      | true =>
        obtain ⟨d, hd, h2, h3, -⟩ := h v (by simp) (by simpa using h1)
        rw [hd, slc_tail, Bool.not_true, cond_false, cond_false, Option.bind_some, lex_Number_eq h2 (by omega), Option.bind_some]
        cases (w.2 == [101, 120]) with
        | true => rfl
        | false => cases (w.2 == [97, 108, 108]) <;> rfl
theorem reader_joint (a0 : List QSym) (ws : QWs) (l : Bool) : formula_Reader_joint_1 a0 ws l = some (match jointP ws with
    | some p => (p.1, true, a0, p.2, l)
    | none => (0, false, a0, ws, l)) := by
  unfold formula_Reader_joint_1 jointP
  rw [formula_Reader_joint_1_L0_go_at0 _ _ _ _ (by unfold maxLen; simp)]
  unfold formula_Reader_joint_1_L0_go
  rw [reader_is, Option.bind_some]
  cases isP [38] ws with
  | some ws' => rfl
  | none =>
    simp only [cond_false]
    unfold formula_Reader_joint_1_L0_go
    rw [reader_is, Option.bind_some]
    cases isP [124] ws with
    | some ws' => rfl
    | none =>
      simp only [cond_false]
      unfold formula_Reader_joint_1_L0_go
      rw [reader_is, Option.bind_some]
      cases isP [45, 62] ws with
      | some ws' => rfl
      | none => rfl
theorem bindP_suf {ws : QWs} {p : Int × Nat × QWs} (h : bindP ws = some p) : ∃ w v, ws = w :: v :: p.2.2 ∧ (p.1 = 5 ∨ p.1 = 6) ∧ v.1 = 1 ∧ p.2.1 = numV v.2.tail := by
  unfold bindP at h
  match ws, h with
  | w :: v :: ws, h =>
    dsimp only at h
    cases h0 : (w.1 == 0 && v.1 == 1) with
    | false => rw [h0] at h; cases h
    | true =>
      rw [Bool.and_eq_true] at h0
      have hv : v.1 = 1 := by simpa using h0.2
      rw [show (w.1 == 0 && v.1 == 1) = true from by rw [h0.1, h0.2]; rfl, cond_true] at h
      cases h1 : (w.2 == [101, 120]) with
      | true =>
        rw [h1] at h; injection h with h; subst h
        exact ⟨w, v, rfl, .inr rfl, hv, rfl⟩
      | false =>
        rw [h1, cond_false] at h
        cases h2 : (w.2 == [97, 108, 108]) with
        | true =>
          rw [h2] at h; injection h with h; subst h
          exact ⟨w, v, rfl, .inl rfl, hv, rfl⟩
        | false => rw [h2] at h; cases h
theorem jointP_suf {ws : QWs} {p : Int × QWs} (h : jointP ws = some p) : (∃ w, ws = w :: p.2) ∧ (p.1 = 2 ∨ p.1 = 3 ∨ p.1 = 4) := by
  unfold jointP at h
  cases h1 : isP [38] ws with
  | some ws' => rw [h1] at h; injection h with h; subst h; exact ⟨isP_suf h1, .inl rfl⟩
  | none =>
    rw [h1] at h
    simp only at h
    cases h2 : isP [124] ws with
    | some ws' => rw [h2] at h; injection h with h; subst h; exact ⟨isP_suf h2, .inr (.inl rfl)⟩
    | none =>
      rw [h2] at h
      simp only at h
      cases h3 : isP [45, 62] ws with
      | some ws' => rw [h3] at h; injection h with h; subst h; exact ⟨isP_suf h3, .inr (.inr rfl)⟩
      | none => rw [h3] at h; cases h
theorem form_suf {a0 : List QSym} : (n : Nat) → (ws : QWs) → {p : Fm × Bool × QWs} → formN a0 n ws = some p → Suf p.2.2 ws ∧ p.2.2.length < ws.length ∧ p.1.flat.length + p.2.2.length ≤ ws.length
  | 0, ws, p, h => by cases h
  | n + 1, ws, p, h => by
    unfold formN at h
    cases h1 : isP [126] ws with
    | some ws1 =>
      obtain ⟨w, rfl⟩ := isP_suf h1
      rw [h1] at h
      simp only [Option.map_eq_some_iff] at h
      obtain ⟨q, hq, rfl⟩ := h
      have ih := form_suf n ws1 hq
      exact ⟨ih.1.cons, by have := ih.2.1; simp; omega, by have := ih.2.2; simp [Fm.flat]; omega⟩
    | none =>
      rw [h1] at h
      simp only at h
      cases h2 : bindP ws with
      | some q =>
        obtain ⟨k, v, ws1⟩ := q
        obtain ⟨w, v', hw, -⟩ := bindP_suf h2
        simp only at hw
        subst hw
        rw [h2] at h
        simp only [Option.map_eq_some_iff] at h
        obtain ⟨q, hq, rfl⟩ := h
        have ih := form_suf n ws1 hq
        exact ⟨ih.1.cons.cons, by have := ih.2.1; simp; omega, by have := ih.2.2; simp [Fm.flat]; omega⟩
      | none =>
        rw [h2] at h
        simp only at h
        cases h3 : isP [40] ws with
        | none =>
          rw [h3] at h
          simp only [Option.map_eq_some_iff] at h
          obtain ⟨q, hq, rfl⟩ := h
          have := atomP_suf hq
          exact ⟨this.1, this.2.1, by have := this.2.1; simp [Fm.flat]; omega⟩
        | some ws1 =>
          obtain ⟨w, rfl⟩ := isP_suf h3
          rw [h3] at h
          simp only at h
          cases h4 : formN a0 n ws1 with
          | none => rw [h4] at h; cases h
          | some q =>
            obtain ⟨f, l1, ws2⟩ := q
            have ih1 := form_suf n ws1 h4
            rw [h4] at h
            simp only at h ih1
            cases h5 : jointP ws2 with
            | none => rw [h5] at h; cases h
            | some q =>
              obtain ⟨k, ws3⟩ := q
              obtain ⟨⟨w2, hw2⟩, -⟩ := jointP_suf h5
              simp only at hw2
              subst hw2
              rw [h5] at h
              simp only at h
              cases h6 : formN a0 n ws3 with
              | none => rw [h6] at h; cases h
              | some q =>
                obtain ⟨g, l2, ws4⟩ := q
                have ih2 := form_suf n ws3 h6
                rw [h6] at h
                simp only [Option.map_eq_some_iff] at h ih2
                obtain ⟨ws5, h7, rfl⟩ := h
                obtain ⟨w3, rfl⟩ := isP_suf h7
                simp only
                refine ⟨((((Suf.refl ws5).cons).trans ih2.1).cons.trans ih1.1).cons, ?_, ?_⟩
                · have := ih1.2.1; have := ih2.2.1; simp at *; omega
                · have := ih1.2.2; have := ih2.2.2; simp [Fm.flat] at *; omega
abbrev FmS := (List QSym × QWs × Bool × List QNode × List (Int × Bool)) ⊕ (List QSym × QWs × Bool × List QNode × List (Int × Bool))
abbrev FmR := Bool × List QSym × QWs × Bool × List QNode
def sPart (a0 : List QSym) (ws : QWs) (l : Bool) (out : List QNode) (op : List (Int × Bool)) : FmS := .inl (a0, ws, l, out, op)
def sRead (a0 : List QSym) (ws : QWs) (l : Bool) (out : List QNode) (op : List (Int × Bool)) : FmS := .inr (a0, ws, l, out, op)
def Stops (c : Nat) (s : FmS) : Prop := ∃ r : FmR, r.1 = false ∧ ∀ k, lp formula_Reader_formula_1_L0 (k + c) s = some r
def Goes (c : Nat) (s s' : FmS) : Prop := ∀ k, lp formula_Reader_formula_1_L0 (k + c) s = lp formula_Reader_formula_1_L0 k s'
theorem Goes.trans {c d : Nat} {s s' s'' : FmS} (h : Goes c s s') (h' : Goes d s' s'') : Goes (d + c) s s'' := fun k => by
  rw [← Nat.add_assoc, h (k + d), h' k]
theorem Goes.stops {c d : Nat} {s s' : FmS} (h : Goes c s s') (h' : Stops d s') : Stops (d + c) s := by
  obtain ⟨r, h1, h2⟩ := h'
  exact ⟨r, h1, fun k => by rw [← Nat.add_assoc, h (k + d), h2 k]⟩
theorem part_not {a0 : List QSym} {ws ws1 : QWs} {l : Bool} {out : List QNode} {op : List (Int × Bool)} (h1 : isP [126] ws = some ws1) (ho : out.length ≤ 1000000) : Goes 1 (sPart a0 ws l out op) (sPart a0 ws1 l (out ++ [(1, 0, [])]) op) := fun k => by
  rw [lp_succ]
  generalize lp formula_Reader_formula_1_L0 k = rec
  unfold formula_Reader_formula_1_L0 sPart
  simp only [caseS, reader_is, h1, Option.bind_some, cond_true]
  rw [room_ok (by simp; omega), cond_true]
theorem part_bind {a0 : List QSym} {ws ws1 : QWs} {l : Bool} {out : List QNode} {op : List (Int × Bool)} {q : Int} {v : Nat} (hw : WOk ws) (h1 : isP [126] ws = none) (h2 : bindP ws = some (q, v, ws1)) (ho : out.length ≤ 1000000) :
    Goes 1 (sPart a0 ws l out op) (sPart a0 ws1 l (out ++ [(q, (v : Int), [])]) op) := fun k => by
  rw [lp_succ]
  generalize lp formula_Reader_formula_1_L0 k = rec
  unfold formula_Reader_formula_1_L0 sPart
  simp only [caseS, reader_is, h1, Option.bind_some, cond_false, reader_binder hw, h2, cond_true]
  rw [room_ok (by simp; omega), cond_true]
theorem part_open {a0 : List QSym} {ws ws1 : QWs} {l : Bool} {out : List QNode} {op : List (Int × Bool)} (hw : WOk ws) (h1 : isP [126] ws = none) (h2 : bindP ws = none) (h3 : isP [40] ws = some ws1) (ho : out.length ≤ 1000000) (hp : op.length ≤ 1000000) :
    Goes 1 (sPart a0 ws l out op) (sPart a0 ws1 l (out ++ [(0, 0, [])]) (op ++ [((out.length : Int), false)])) := fun k => by
  rw [lp_succ]
  generalize lp formula_Reader_formula_1_L0 k = rec
  unfold formula_Reader_formula_1_L0 sPart
  simp only [caseS, reader_is, h1, Option.bind_some, cond_false, reader_binder hw, h2, h3, cond_true]
  rw [room_ok (by simp; omega), cond_true, room_ok (by simp; omega), cond_true]
theorem part_atom {a0 : List QSym} (hb : signB a0 = true) {ws ws1 : QWs} {l : Bool} {out : List QNode} {op : List (Int × Bool)} {a : List Int} (hw : WOk ws) (hl : ws.length ≤ 900000) (h1 : isP [126] ws = none) (h2 : bindP ws = none) (h3 : isP [40] ws = none) (h4 : atomP a0 ws = some (a, ws1)) (ho : out.length ≤ 1000000) :
    Goes 1 (sPart a0 ws l out op) (sRead a0 ws1 (l || decide (a.length > 49)) (out ++ [(0, 0, a)]) op) := fun k => by
  obtain ⟨r, g1, g2⟩ := reader_atom hb l hw hl
  rw [h4] at g2
  have g2 : r = (true, a, a0, ws1, l || decide (a.length > 49)) := g2
  subst g2
  rw [lp_succ]
  generalize lp formula_Reader_formula_1_L0 k = rec
  unfold formula_Reader_formula_1_L0 sPart sRead
  simp only [caseS, reader_is, h1, Option.bind_some, cond_false, reader_binder hw, h2, h3, g1, cond_true]
  rw [room_ok (by simp; omega), cond_true]
theorem part_stop {a0 : List QSym} (hb : signB a0 = true) {ws : QWs} {l : Bool} {out : List QNode} {op : List (Int × Bool)} (hw : WOk ws) (hl : ws.length ≤ 900000) (h1 : isP [126] ws = none) (h2 : bindP ws = none) (h3 : isP [40] ws = none) (h4 : atomP a0 ws = none) : Stops 1 (sPart a0 ws l out op) := by
  obtain ⟨r, g1, g2⟩ := reader_atom hb l hw hl
  rw [h4] at g2
  have g2 : r.1 = false := g2
  refine ⟨(false, r.2.2.1, r.2.2.2.1, r.2.2.2.2, []), rfl, fun k => ?_⟩
  rw [lp_succ]
  generalize lp formula_Reader_formula_1_L0 k = rec
  unfold formula_Reader_formula_1_L0 sPart
  simp only [caseS, reader_is, h1, Option.bind_some, cond_false, reader_binder hw, h2, h3, g1, g2]
end
end Go.Abs.Q
namespace Go.Abs.Q
open Go Go.Abs
section
theorem read_end {a0 : List QSym} {ws : QWs} {l : Bool} {out : List QNode} (k : Nat) : lp formula_Reader_formula_1_L0 (k + 1) (sRead a0 ws l out []) = some (true, a0, ws, l, out) := by
  rw [lp_succ]
  generalize lp formula_Reader_formula_1_L0 k = rec
  unfold formula_Reader_formula_1_L0 sRead
  rfl
theorem op_last {op : List (Int × Bool)} {h : Int × Bool} (hp : op.length ≤ 1000000) : (((List.length (op ++ [h]) : Nat) : Int) == 0) = false ∧ IntKind.wrap .i64 (((List.length (op ++ [h]) : Nat) : Int) - 1) = ((op.length : Nat) : Int) ∧ inR ((op.length : Nat) : Int) (List.length (op ++ [h])) = some op.length ∧ (op ++ [h])[op.length]? = some h := by
  refine ⟨by rw [beq_eq_false_iff_ne]; simp; omega, ?_, inR_nat (by simp), get_mid op [] h⟩
  rw [List.length_append, List.length_singleton, wrap64] <;> omega
theorem read_joint {a0 : List QSym} {ws ws1 : QWs} {l : Bool} {out rest : List QNode} {op : List (Int × Bool)} {x : QNode} {q : Int} (hj : jointP ws = some (q, ws1)) (hp : op.length ≤ 1000000) (ho : out.length ≤ 1000000) :
    Goes 1 (sRead a0 ws l (out ++ x :: rest) (op ++ [((out.length : Int), false)])) (sPart a0 ws1 l (out ++ (q, x.2) :: rest) (op ++ [((out.length : Int), true)])) := fun k => by
  obtain ⟨h1, h2, h3, h4⟩ := op_last (op := op) (h := ((out.length : Int), false)) hp
  have h5 : inR (out.length : Int) (List.length (out ++ x :: rest)) = some out.length := inR_nat (by simp)
  rw [lp_succ]
  generalize lp formula_Reader_formula_1_L0 k = rec
  unfold formula_Reader_formula_1_L0 sRead sPart
  simp only [caseS]
  rw [h1, cond_false, h2, h3, Option.bind_some, reader_joint, hj, Option.bind_some]
  simp only [cond_true, h4, Option.bind_some, Bool.not_false, h5, get_mid, set_mid]
theorem read_stop1 {a0 : List QSym} {ws : QWs} {l : Bool} {out : List QNode} {op : List (Int × Bool)} {i : Int} (hj : jointP ws = none) (hp : op.length ≤ 1000000) : Stops 1 (sRead a0 ws l out (op ++ [(i, false)])) := by
  obtain ⟨h1, h2, h3, h4⟩ := op_last (op := op) (h := (i, false)) hp
  refine ⟨(false, a0, ws, l, []), rfl, fun k => ?_⟩
  rw [lp_succ]
  generalize lp formula_Reader_formula_1_L0 k = rec
  unfold formula_Reader_formula_1_L0 sRead
  simp only [caseS]
  rw [h1, cond_false, h2, h3, Option.bind_some, reader_joint, hj, Option.bind_some]
  simp only [cond_false, h4, Option.bind_some, Bool.not_false, cond_true]
theorem read_stop2 {a0 : List QSym} {ws : QWs} {l : Bool} {out : List QNode} {op : List (Int × Bool)} {i : Int} (hj : isP [41] ws = none) (hp : op.length ≤ 1000000) : Stops 1 (sRead a0 ws l out (op ++ [(i, true)])) := by
  obtain ⟨h1, h2, h3, h4⟩ := op_last (op := op) (h := (i, true)) hp
  cases hjj : jointP ws with
  | some p =>
    refine ⟨(false, a0, p.2, l, []), rfl, fun k => ?_⟩
    rw [lp_succ]
    generalize lp formula_Reader_formula_1_L0 k = rec
    unfold formula_Reader_formula_1_L0 sRead
    simp only [caseS]
    rw [h1, cond_false, h2, h3, Option.bind_some, reader_joint, hjj, Option.bind_some]
    simp only [cond_true, h4, Option.bind_some, Bool.not_true, cond_false]
  | none =>
    refine ⟨(false, a0, ws, l, []), rfl, fun k => ?_⟩
    rw [lp_succ]
    generalize lp formula_Reader_formula_1_L0 k = rec
    unfold formula_Reader_formula_1_L0 sRead
    simp only [caseS]
    rw [h1, cond_false, h2, h3, Option.bind_some, reader_joint, hjj, Option.bind_some]
    simp only [cond_false, h4, Option.bind_some, Bool.not_true, reader_is, hj, Bool.not_false, cond_true]
theorem joint_shut {ws ws1 : QWs} (h : isP [41] ws = some ws1) : jointP ws = none := by
  obtain ⟨w, rfl⟩ := isP_suf h
  unfold isP at h
  dsimp only at h
  cases hc : (w.1 == 3 && w.2 == [41]) with
  | false => rw [hc] at h; cases h
  | true =>
    rw [Bool.and_eq_true] at hc
    have h2 : w.2 = [41] := by simpa using hc.2
    unfold jointP isP
    dsimp only
    rw [h2]
    cases (w.1 == 3) <;> rfl
theorem read_shut {a0 : List QSym} {ws ws1 : QWs} {l : Bool} {out : List QNode} {op : List (Int × Bool)} {i : Int} (hj : isP [41] ws = some ws1) (hp : op.length ≤ 1000000) :
    Goes 1 (sRead a0 ws l out (op ++ [(i, true)])) (sRead a0 ws1 l out op) := fun k => by
  obtain ⟨h1, h2, h3, h4⟩ := op_last (op := op) (h := (i, true)) hp
  rw [lp_succ]
  generalize lp formula_Reader_formula_1_L0 k = rec
  unfold formula_Reader_formula_1_L0 sRead
  simp only [caseS]
  rw [h1, cond_false, h2, h3, Option.bind_some, reader_joint, joint_shut hj, Option.bind_some]
  simp only [cond_false, h4, Option.bind_some, Bool.not_true, reader_is, hj, slc_last]
theorem machine {a0 : List QSym} (hb : signB a0 = true) : ∀ (n : Nat) (ws : QWs) (l : Bool) (out : List QNode) (op : List (Int × Bool)), ws.length < n → WOk ws → out.length + ws.length ≤ 900000 → op.length + ws.length ≤ 900000 →
    match formN a0 n ws with
    | some p => ∃ c, c ≤ 4 * (ws.length - p.2.2.length) ∧ Goes c (sPart a0 ws l out op) (sRead a0 p.2.2 (l || p.2.1) (out ++ p.1.flat) op)
    | none => ∃ c, c ≤ 4 * ws.length + 4 ∧ Stops c (sPart a0 ws l out op) := by
  intro n
  induction n with
  | zero => intro ws l out op h; omega
  | succ n ih =>
    intro ws l out op hn hw ho hp
    unfold formN
    cases h1 : isP [126] ws with
    | some ws1 =>
      obtain ⟨w, rfl⟩ := isP_suf h1
      rw [List.length_cons] at hn ho hp
      have ih1 := ih ws1 l (out ++ [(1, 0, [])]) op (by omega) hw.tail (by simp; omega) (by omega)
      have g1 := part_not (a0 := a0) (l := l) (out := out) (op := op) h1 (by omega)
      simp only
      cases h2 : formN a0 n ws1 with
      | none =>
        rw [h2] at ih1
        obtain ⟨c, hc, k1⟩ := ih1
        exact ⟨c + 1, by simp; omega, g1.stops k1⟩
      | some p =>
        have hs := form_suf n ws1 h2
        rw [h2] at ih1
        obtain ⟨c, hc, k1⟩ := ih1
        refine ⟨c + 1, by have := hs.2.1; simp; omega, ?_⟩
        have := g1.trans k1
        rw [List.append_assoc] at this
        exact this
    | none =>
      simp only
      cases h2 : bindP ws with
      | some p =>
        obtain ⟨q, v, ws1⟩ := p
        obtain ⟨w, v', hw1, -⟩ := bindP_suf h2
        simp only at hw1
        subst hw1
        rw [List.length_cons, List.length_cons] at hn ho hp
        have ih1 := ih ws1 l (out ++ [(q, (v : Int), [])]) op (by omega) hw.tail.tail (by simp; omega) (by omega)
        have g1 := part_bind (a0 := a0) (l := l) (out := out) (op := op) hw h1 h2 (by omega)
        simp only
        cases h3 : formN a0 n ws1 with
        | none =>
          rw [h3] at ih1
          obtain ⟨c, hc, k1⟩ := ih1
          exact ⟨c + 1, by simp; omega, g1.stops k1⟩
        | some p =>
          have hs := form_suf n ws1 h3
          rw [h3] at ih1
          obtain ⟨c, hc, k1⟩ := ih1
          refine ⟨c + 1, by have := hs.2.1; simp; omega, ?_⟩
          have := g1.trans k1
          rw [List.append_assoc] at this
          exact this
      | none =>
        simp only
        cases h3 : isP [40] ws with
        | none =>
          simp only
          cases h4 : atomP a0 ws with
          | none => exact ⟨1, by omega, part_stop hb hw (by omega) h1 h2 h3 h4⟩
          | some p =>
            obtain ⟨a, ws1⟩ := p
            have hs := atomP_suf h4
            refine ⟨1, by have := hs.2.1; simp only [Option.map_some]; simp at this ⊢; omega, ?_⟩
            exact part_atom hb hw (by omega) h1 h2 h3 h4 (by omega)
        | some ws1 =>
          obtain ⟨w, rfl⟩ := isP_suf h3
          rw [List.length_cons] at hn ho hp
          have g1 := part_open (a0 := a0) (l := l) (out := out) (op := op) hw h1 h2 h3 (by omega) (by omega)
          have ih1 := ih ws1 l (out ++ [(0, 0, [])]) (op ++ [((out.length : Int), false)]) (by omega) hw.tail (by simp; omega) (by simp; omega)
          simp only
          cases h4 : formN a0 n ws1 with
          | none =>
            rw [h4] at ih1
            obtain ⟨c, hc, k1⟩ := ih1
            exact ⟨c + 1, by simp; omega, g1.stops k1⟩
          | some p =>
            obtain ⟨f, l1, ws2⟩ := p
            have hs1 := form_suf n ws1 h4
            rw [h4] at ih1
            obtain ⟨c, hc, k1⟩ := ih1
            have k2 := g1.trans k1
            simp only at hs1 hc k2 ⊢
            rw [List.append_assoc, List.singleton_append] at k2
            cases h5 : jointP ws2 with
            | none => exact ⟨1 + (c + 1), by have := hs1.2.1; simp; omega, k2.stops (read_stop1 h5 (by omega))⟩
            | some p =>
              obtain ⟨q, ws3⟩ := p
              obtain ⟨⟨w2, hw2⟩, -⟩ := jointP_suf h5
              simp only at hw2
              have g2 := read_joint (a0 := a0) (ws := ws2) (l := l || l1) (out := out) (rest := f.flat) (op := op) (x := (0, 0, [])) h5 (by omega) (by omega)
              have k3 := k2.trans g2
              subst hw2
              have hwk3 : WOk ws3 := (hs1.1.wok hw.tail).tail
              simp only [List.length_cons] at hs1 hc
              have ih2 := ih ws3 (l || l1) (out ++ (q, 0, []) :: f.flat) (op ++ [((out.length : Int), true)]) (by omega) hwk3 (by simp; omega) (by simp; omega)
              simp only
              cases h6 : formN a0 n ws3 with
              | none =>
                rw [h6] at ih2
                obtain ⟨d, hd, m1⟩ := ih2
                exact ⟨d + (1 + (c + 1)), by simp; omega, k3.stops m1⟩
              | some p =>
                obtain ⟨g, l2, ws4⟩ := p
                have hs2 := form_suf n ws3 h6
                rw [h6] at ih2
                obtain ⟨d, hd, m1⟩ := ih2
                have k4 := k3.trans m1
                simp only at hs2 hd k4 ⊢
                cases h7 : isP [41] ws4 with
                | none => exact ⟨1 + (d + (1 + (c + 1))), by have := hs2.2.1; simp; omega, k4.stops (read_stop2 h7 (by omega))⟩
                | some ws5 =>
                  have g3 := read_shut (a0 := a0) (ws := ws4) (l := (l || l1) || l2) (out := (out ++ (q, 0, []) :: f.flat) ++ g.flat) (op := op) (i := (out.length : Int)) h7 (by omega)
                  obtain ⟨w3, rfl⟩ := isP_suf h7
                  have k5 := k4.trans g3
                  refine ⟨1 + (d + (1 + (c + 1))), by simp at hs2 hd ⊢; omega, ?_⟩
                  have e1 : (out ++ (q, 0, []) :: f.flat) ++ g.flat = out ++ (Fm.bin q f g).flat := by simp [Fm.flat]
                  rw [e1, Bool.or_assoc] at k5
                  exact k5
end
end Go.Abs.Q
namespace Go.Abs.Q
open Go Go.Abs
section
theorem formula_top {a0 : List QSym} (hb : signB a0 = true) {ws : QWs} (hw : WOk ws) (hl : ws.length ≤ 900000) : formula_Reader_formula_1 a0 ws false = (lp formula_Reader_formula_1_L0 (fuel + 1) (sPart a0 ws false [] [])).bind fun r => some (r.1, r.2.2.2.2, r.2.1, r.2.2.1, r.2.2.2.1) := by
  obtain ⟨r, g1, g2⟩ := reader_atom hb false hw hl
  rw [lp_succ]
  unfold formula_Reader_formula_1
  generalize lp formula_Reader_formula_1_L0 fuel = rec
  unfold formula_Reader_formula_1_L0 sPart
  simp only [caseS, List.nil_append, List.length_nil, Nat.zero_add]
  cases h1 : isP [126] ws with
  | some ws1 =>
    simp only [reader_is, h1, Option.bind_some, cond_true]
    rw [room_ok (by simp), cond_true]
    rfl
  | none =>
    cases h2 : bindP ws with
    | some p =>
      simp only [reader_is, h1, reader_binder hw, h2, Option.bind_some, cond_true, cond_false]
      rw [room_ok (by simp), cond_true]
      rfl
    | none =>
      cases h3 : isP [40] ws with
      | some ws1 =>
        simp only [reader_is, h1, reader_binder hw, h2, h3, Option.bind_some, cond_true, cond_false]
        rw [room_ok (by simp), cond_true, room_ok (by simp), cond_true]
        rfl
      | none =>
        simp only [reader_is, h1, reader_binder hw, h2, h3, g1, Option.bind_some, cond_false]
        cases r.1 with
        | true =>
          simp only [cond_true]
          rw [room_ok (by simp), cond_true]
          rfl
        | false => rfl
def formP (a0 : List QSym) (ws : QWs) : Option (Fm × Bool × QWs) := formN a0 (ws.length + 1) ws
def readR (a0 : List QSym) (ws : QWs) : Int × List QNode := cond (!sigB a0) (2200, []) (match formP a0 ws with
  | none => (2200, [])
  | some p => cond (decide (p.2.2.length > 0)) (2200, []) (cond p.2.1 (2201, []) (cond (decide (p.1.flat.length > 40)) (2201, []) (0, p.1.flat))))
theorem sigB_sign {a0 : List QSym} (h : sigB a0 = true) : signB a0 = true := by
  unfold sigB at h
  rw [Bool.and_eq_true] at h
  exact h.1
theorem formula_Read_eq (a0 : List QSym) {ws : QWs} (hw : WOk ws) (hl : ws.length ≤ 100000) : formula_Read a0 ws = some (readR a0 ws) := by
  unfold formula_Read readR
  rw [formula_SigMay_eq, Option.bind_some]
  cases hs : sigB a0 with
  | false => rfl
  | true =>
    have hb := sigB_sign hs
    rw [Bool.not_true, cond_false, cond_false, formula_top hb hw (by omega)]
    have key := machine hb (ws.length + 1) ws false [] [] (by omega) hw (by simp; omega) (by simp; omega)
    unfold formP
    cases hf : formN a0 (ws.length + 1) ws with
    | none =>
      rw [hf] at key
      obtain ⟨c, hc, r, k1, k2⟩ := key
      have := k2 (fuel + 1 - c)
      rw [show fuel + 1 - c + c = fuel + 1 from by unfold fuel; omega] at this
      rw [this, Option.bind_some, Option.bind_some]
      simp only [k1]
      rfl
    | some p =>
      rw [hf] at key
      obtain ⟨c, hc, k1⟩ := key
      have hle := (form_suf _ _ hf).2.1
      have := k1 (fuel + 1 - c)
      rw [show fuel + 1 - c + c = fuel + 1 from by unfold fuel; omega, show fuel + 1 - c = (fuel - c) + 1 from by unfold fuel; omega, read_end] at this
      rw [this, Option.bind_some, Option.bind_some]
      simp only [Bool.not_true, cond_false, Bool.false_or, List.nil_append]
      have e1 : decide (((List.length p.2.2 : Nat) : Int) > 0) = decide (p.2.2.length > 0) := decide_eq_decide.2 ⟨fun h => by omega, fun h => by omega⟩
      have e2 : decide (((List.length p.1.flat : Nat) : Int) > 40) = decide (p.1.flat.length > 40) := decide_eq_decide.2 ⟨fun h => by omega, fun h => by omega⟩
      rw [e1, e2]
      cases decide (p.2.2.length > 0) with
      | true => rfl
      | false =>
        cases p.2.1 with
        | true => rfl
        | false => cases decide (p.1.flat.length > 40) <;> rfl
theorem wordP_ok {s rest : Str} {w : QWord} (h : wordP s = some (w, rest)) : w.1 = 1 → ∃ d, w.2 = 88 :: d ∧ (∀ c ∈ d, digB c = true) ∧ d.length ≤ 2 ∧ numV d ≤ 23 := by
  intro hk
  unfold wordP at h
  cases s with
  | nil => cases h
  | cons c r =>
    simp only at h
    cases h1 : letB c with
    | true =>
      rw [h1, cond_true] at h
      cases h2 : decide (((c :: r).takeWhile (runP true)).length ≤ 8) with
      | false => rw [h2] at h; cases h
      | true =>
        rw [h2, cond_true] at h
        injection h with h; injection h with h _
        subst h
        cases hk
    | false =>
      rw [h1, cond_false] at h
      cases h2 : (c == 88) with
      | true =>
        rw [h2, cond_true] at h
        cases h3 : (numB (r.takeWhile (runP false)) 2 && decide (numV (r.takeWhile (runP false)) ≤ 23)) with
        | false => rw [h3] at h; cases h
        | true =>
          rw [h3, cond_true] at h
          injection h with h; injection h with h _
          subst h
          rw [Bool.and_eq_true, decide_eq_true_eq] at h3
          have hc : c = 88 := by simpa using h2
          exact ⟨r.takeWhile (runP false), by rw [hc], digits_all r, numB_len h3.1, h3.2⟩
      | false =>
        rw [h2, cond_false] at h
        cases h3 : digB c with
        | true =>
          rw [h3, cond_true] at h
          cases h4 : numB ((c :: r).takeWhile (runP false)) 4 with
          | false => rw [h4] at h; cases h
          | true =>
            rw [h4, cond_true] at h
            injection h with h; injection h with h _
            subst h
            cases hk
        | false =>
          rw [h3, cond_false] at h
          cases h4 : ((c :: r).take 2 == [45, 62]) with
          | true =>
            rw [h4, cond_true] at h
            injection h with h; injection h with h _
            subst h
            cases hk
          | false =>
            rw [h4, cond_false] at h
            cases h5 : markB c with
            | false => rw [h5] at h; cases h
            | true =>
              rw [h5, cond_true] at h
              injection h with h; injection h with h _
              subst h
              cases hk
theorem lexN_ok : (n : Nat) → (s : Str) → {ws : QWs} → lexN n s = some ws → WOk ws ∧ ws.length ≤ n
  | 0, s, ws, h => by
    injection h with h; subst h
    exact ⟨(fun w hw => by cases hw), by simp⟩
  | n + 1, s, ws, h => by
    unfold lexN at h
    cases he : s.dropWhile (· == 32) with
    | nil =>
      rw [he] at h
      injection h with h; subst h
      exact ⟨(fun w hw => by cases hw), by simp⟩
    | cons c r =>
      rw [he] at h
      simp only at h
      cases hw : wordP (c :: r) with
      | none => rw [hw] at h; cases h
      | some p =>
        obtain ⟨w, rest⟩ := p
        rw [hw] at h
        simp only [Option.map_eq_some_iff] at h
        obtain ⟨vs, hv, rfl⟩ := h
        obtain ⟨h1, h2⟩ := lexN_ok n rest hv
        refine ⟨fun x hx => ?_, by simp; omega⟩
        rcases List.mem_cons.1 hx with rfl | hx
        · exact wordP_ok hw
        · exact h1 x hx
def parseR (a0 : List QSym) (t : Str) : Int × List QNode := cond ((lexR t).1 != 0) (2200, []) (readR a0 (lexR t).2)
theorem lexR_ok (t : Str) : WOk (lexR t).2 ∧ (lexR t).2.length ≤ 2048 := by
  unfold lexR
  by_cases h : t.length > 2048
  · rw [decide_eq_true h]
    exact ⟨(fun w hw => by cases hw), by simp⟩
  · rw [decide_eq_false h, cond_false]
    cases hl : lexP t with
    | none => exact ⟨(fun w hw => by cases hw), by simp⟩
    | some ws =>
      obtain ⟨h1, h2⟩ := lexN_ok _ _ hl
      exact ⟨h1, by simp; omega⟩
theorem formula_Parse_eq (a0 : List QSym) (t : Str) : formula_Parse a0 t = some (parseR a0 t) := by
  unfold formula_Parse parseR
  rw [lex_Lex_eq, Option.bind_some]
  cases ((lexR t).1 != 0) with
  | true => rfl
  | false =>
    obtain ⟨h1, h2⟩ := lexR_ok t
    rw [cond_false, cond_false, formula_Read_eq a0 h1 (by omega)]
    rfl
end
end Go.Abs.Q
namespace Go.Abs.Q
open Go Go.Abs
section
theorem isP_kind {m : Str} {w : QWord} (ws : QWs) (h : w.1 ≠ 3) : isP m (w :: ws) = none := by
  unfold isP
  dsimp only
  rw [show (w.1 == 3) = false from by simpa using h, Bool.false_and]
  rfl
theorem bindP_kind {w : QWord} (ws : QWs) (h : w.1 ≠ 0) : bindP (w :: ws) = none := by
  unfold bindP
  cases ws with
  | nil => rfl
  | cons v ws =>
    dsimp only
    rw [show (w.1 == 0) = false from by simpa using h, Bool.false_and]
    rfl
theorem bindP_name {s : Str} (ws : QWs) (h : bindName s = false) : bindP ((0, s) :: ws) = none := by
  unfold bindName at h
  rw [Bool.or_eq_false_iff] at h
  unfold bindP
  cases ws with
  | nil => rfl
  | cons v ws =>
    dsimp only
    rw [h.1, h.2]
    cases ((0 : Int) == 0 && v.1 == 1) <;> rfl
def Begins (a0 : List QSym) (ws : QWs) : Prop := ∃ w rest, ws = w :: rest ∧ (w.1 = 1 ∨ (w.1 = 0 ∧ bindName w.2 = false))
theorem Begins.none {a0 : List QSym} {ws : QWs} (h : Begins a0 ws) : isP [126] ws = none ∧ bindP ws = none ∧ isP [40] ws = none := by
  obtain ⟨w, rest, rfl, h⟩ := h
  have h3 : w.1 ≠ 3 := by rcases h with h | h <;> omega
  refine ⟨isP_kind _ h3, ?_, isP_kind _ h3⟩
  rcases h with h | ⟨h, h2⟩
  · exact bindP_kind _ (by omega)
  · obtain ⟨w1, w2⟩ := w
    simp only at h h2
    subst h
    exact bindP_name _ h2
theorem flat_rows {a0 : List QSym} : (t : Fm) → t.ok a0 = true → ∀ x ∈ t.flat, x.2.2.length ≤ 49
  | .atom a, h, x, hx => by
    rw [Fm.flat, List.mem_singleton] at hx
    subst hx
    exact atomB_len h
  | .not f, h, x, hx => by
    rcases List.mem_cons.1 hx with rfl | hx
    · simp
    · exact flat_rows f h x hx
  | .qu k v f, h, x, hx => by
    unfold Fm.ok at h
    simp only [Bool.and_eq_true] at h
    rcases List.mem_cons.1 hx with rfl | hx
    · simp
    · exact flat_rows f h.2 x hx
  | .bin k f g, h, x, hx => by
    unfold Fm.ok at h
    simp only [Bool.and_eq_true] at h
    rcases List.mem_cons.1 hx with rfl | hx
    · simp
    · rcases List.mem_append.1 hx with hx | hx
      · exact flat_rows f h.1.2 x hx
      · exact flat_rows g h.2 x hx
theorem same_flat {a0 : List QSym} {t : Fm} (h : t.ok a0 = true) (hl : t.flat.length ≤ 40) : law0_SameNodes t.flat t.flat = some true := by
  rw [law0_SameNodes_eq (by unfold maxLen; omega) (fun x hx => by have := flat_rows t h x hx; unfold maxLen; omega)]
  simp
end
end Go.Abs.Q
namespace Go.Abs.Q
open Go Go.Abs
section
end
end Go.Abs.Q
namespace Go.Abs.Q
open Go Go.Abs
section
theorem sk_app {a0 : List QSym} : {xs : List Int} → {n m : Nat} → {ys : List Int} → sk a0 n xs = some xs.length → sk a0 m ys = some ys.length → sk a0 (n + m) (xs ++ ys) = some (xs ++ ys).length
  | [], 0, m, ys, _, h => by rw [Nat.zero_add]; exact h
  | [], n + 1, m, ys, h, _ => by simp [sk] at h
  | x :: xs, 0, m, ys, h, _ => by simp [sk] at h
  | x :: xs, n + 1, m, ys, h, h' => by
    unfold sk at h
    cases ha : arity a0 x with
    | none => rw [ha] at h; cases h
    | some k =>
      rw [ha] at h
      simp only [Option.map_eq_some_iff, List.length_cons] at h
      obtain ⟨j, hj, hjl⟩ := h
      have hj2 : j = xs.length := by omega
      subst hj2
      have ih := sk_app hj h'
      rw [show n + 1 + m = (n + m) + 1 from by omega, List.cons_append]
      unfold sk
      rw [ha]
      simp only
      rw [show n + m + k = n + k + m from by omega, ih]
      rfl
theorem args_sound {a0 : List QSym} {tp : QWs → Option (List Int × QWs)} (hs : ∀ ws t ws', tp ws = some (t, ws') → Suf ws' ws) (ht : ∀ ws t ws', WOk ws → tp ws = some (t, ws') → sk a0 1 t = some t.length) : (m : Nat) → (b : Bool) → (ws : QWs) → {p : List Int × QWs} → WOk ws → argsP tp m b ws = some p → sk a0 m p.1 = some p.1.length
  | 0, b, ws, p, _, h => by injection h with h; subst h; rfl
  | m + 1, b, ws, p, hw, h => by
    unfold argsP at h
    cases h1 : isP (cond b [40] [44]) ws with
    | none => rw [h1] at h; cases h
    | some ws1 =>
      rw [h1] at h
      obtain ⟨w, rfl⟩ := isP_suf h1
      simp only at h
      cases h2 : tp ws1 with
      | none => rw [h2] at h; cases h
      | some q =>
        obtain ⟨t, ws2⟩ := q
        rw [h2] at h
        simp only [Option.map_eq_some_iff] at h
        obtain ⟨q, hq, rfl⟩ := h
        have e1 := ht _ _ _ hw.tail h2
        have e2 := args_sound hs ht m false ws2 ((hs _ _ _ h2).wok hw.tail) hq
        have := sk_app e1 e2
        rw [Nat.add_comm] at this
        exact this
theorem behind_sound {a0 : List QSym} {tp : QWs → Option (List Int × QWs)} (hs : ∀ ws t ws', tp ws = some (t, ws') → Suf ws' ws) (ht : ∀ ws t ws', WOk ws → tp ws = some (t, ws') → sk a0 1 t = some t.length) {c : Int} {ws : QWs} {p : List Int × QWs} (hw : WOk ws) (h : behindP a0 tp c ws = some p) : ∃ as, p.1 = c :: as ∧ sk a0 (ariI a0 c) as = some as.length := by
  unfold behindP at h
  cases h1 : argsP tp (ariI a0 c) true ws with
  | none => rw [h1] at h; cases h
  | some q =>
    obtain ⟨as, ws1⟩ := q
    have e := args_sound hs ht _ _ _ hw h1
    rw [h1] at h
    simp only at h e
    cases h2 : (ariI a0 c == 0) with
    | true => rw [h2] at h; injection h with h; subst h; exact ⟨as, rfl, e⟩
    | false =>
      rw [h2, cond_false, Option.map_eq_some_iff] at h
      obtain ⟨ws2, h3, rfl⟩ := h
      exact ⟨as, rfl, e⟩
theorem arity_of {a0 : List QSym} {c : Int} {e : QSym} (h0 : 0 ≤ c) (he : a0[c.toNat]? = some e) (hk : (kindI a0 c == 0) = false) : arity a0 c = some (ariI a0 c) := by
  unfold kindI at hk
  rw [he] at hk
  unfold arity ariI
  rw [decide_eq_false (show ¬ c < 0 by omega), cond_false, he]
  simp only at hk ⊢
  rw [hk]
  rfl
theorem termN_sound {a0 : List QSym} : (n : Nat) → (ws : QWs) → {t : List Int} → {ws' : QWs} → WOk ws → termN a0 n ws = some (t, ws') → sk a0 1 t = some t.length
  | 0, ws, t, ws', _, hp => by cases hp
  | n + 1, ws, t, ws', hw, hp => by
    unfold termN at hp
    cases h1 : varP ws with
    | some p =>
      obtain ⟨v, ws1⟩ := p
      obtain ⟨w, hw1, hw2, hw3⟩ := varP_suf h1
      rw [h1] at hp
      injection hp with hp; injection hp with hp _
      obtain ⟨d, hd, -, -, h4⟩ := hw w (by rw [hw1]; exact List.mem_cons_self ..) hw2
      simp only at hw3
      rw [hd] at hw3
      have hv : v ≤ 23 := by rw [hw3]; exact h4
      subst hp
      unfold sk arity
      rw [decide_eq_true (show (-1 - (v : Int)) < 0 by omega), cond_true, decide_eq_true (show -24 ≤ (-1 - (v : Int)) by omega)]
      rfl
    | none =>
      rw [h1] at hp
      simp only at hp
      cases h2 : symP a0 ws with
      | none => rw [h2] at hp; cases hp
      | some p =>
        obtain ⟨c, ws1⟩ := p
        obtain ⟨w, hw1, hw2, hw3, -⟩ := symP_suf h2
        simp only at hw1 hw2 hw3
        have hcm := codeP_mem (a0 := a0) (s := w.2) (by omega)
        rw [← hw3] at hcm
        obtain ⟨e, he1, he2, -⟩ := hcm
        rw [h2] at hp
        simp only at hp
        cases hk : (kindI a0 c == 0) with
        | true => rw [hk] at hp; cases hp
        | false =>
          rw [hk, cond_false] at hp
          subst hw1
          obtain ⟨as, e1, e2⟩ := behind_sound (fun ws t ws' h => (term_suf n ws h).1) (fun ws t ws' hw h => termN_sound n ws hw h) hw.tail hp
          simp only at e1
          subst e1
          unfold sk
          rw [arity_of hw2 he1 hk]
          simp only
          rw [Nat.zero_add, e2]
          rfl
theorem termP_sound {a0 : List QSym} {ws : QWs} {t : List Int} {ws' : QWs} (hw : WOk ws) (h : termP a0 ws = some (t, ws')) : sk a0 1 t = some t.length := termN_sound _ ws hw h
theorem atom_mk {a0 : List QSym} (hb : signB a0 = true) {c : Int} {e : QSym} {as : List Int} (h0 : 0 ≤ c) (he : a0[c.toNat]? = some e) (hk : (e.2.1 == 0) = true) {n : Nat} (hn : (n : Int) = e.2.2.1) (hs : sk a0 n as = some as.length) (hl : (c :: as).length ≤ 49) : atomB a0 (c :: as) = true := by
  obtain ⟨ps, hc, hp⟩ := cuts_sk n as hs
  rw [List.length_cons] at hl
  unfold atomB
  dsimp only
  rw [decide_eq_true h0, he]
  simp only
  unfold beginsB
  rw [hb, decide_eq_true (show as.length ≤ 48 by omega), hc, hk]
  simp [hp, hn]
theorem eqP_sound {a0 : List QSym} (hb : signB a0 = true) {ws : QWs} {p : List Int × QWs} (hw : WOk ws) (h : eqP a0 ws = some p) (hl : p.1.length ≤ 49) : atomB a0 p.1 = true := by
  unfold eqP at h
  cases h1 : termP a0 ws with
  | none => rw [h1] at h; cases h
  | some q =>
    obtain ⟨t, ws1⟩ := q
    have s1 := termP_sound hw h1
    rw [h1] at h
    simp only at h
    cases h2 : isP [61] ws1 with
    | none => rw [h2] at h; cases h
    | some ws2 =>
      have hw1 := (termP_suf h1).1.wok hw
      obtain ⟨w, rfl⟩ := isP_suf h2
      rw [h2] at h
      simp only [Option.map_eq_some_iff] at h
      obtain ⟨q, hq, rfl⟩ := h
      obtain ⟨u, ws3⟩ := q
      have s2 := termP_sound hw1.tail hq
      exact atom_mk hb (c := 0) (e := equalsQ) (Int.le_refl _) (signB_ok hb).eq rfl (n := 2) rfl (sk_app s1 s2) hl
theorem atomP_sound {a0 : List QSym} (hb : signB a0 = true) {ws : QWs} {p : List Int × QWs} (hw : WOk ws) (h : atomP a0 ws = some p) (hl : p.1.length ≤ 49) : atomB a0 p.1 = true := by
  unfold atomP at h
  cases h1 : symP a0 ws with
  | none => rw [h1] at h; exact eqP_sound hb hw h hl
  | some q =>
    obtain ⟨c, ws1⟩ := q
    obtain ⟨w, hw1, hw2, hw3, -⟩ := symP_suf h1
    simp only at hw1 hw2 hw3
    have hcm := codeP_mem (a0 := a0) (s := w.2) (by omega)
    rw [← hw3] at hcm
    obtain ⟨e, he1, he2, -⟩ := hcm
    rw [h1] at h
    simp only at h
    cases hk : (kindI a0 c == 0) with
    | false => rw [hk] at h; exact eqP_sound hb hw h hl
    | true =>
      rw [hk, cond_true] at h
      subst hw1
      obtain ⟨as, e1, e2⟩ := behind_sound (fun ws t ws' h => (termP_suf h).1) (fun ws t ws' hw h => termP_sound hw h) hw.tail h
      have hat := (signB_ok hb).at he1
      rw [e1] at hl ⊢
      refine atom_mk hb hw2 he1 ?_ (n := ariI a0 c) ?_ e2 hl
      · unfold kindI at hk
        rw [he1] at hk
        exact hk
      · unfold ariI
        rw [he1]
        simp only
        rw [Int.toNat_of_nonneg hat.2.2.2.2.1]
theorem form_sound {a0 : List QSym} (hb : signB a0 = true) : (n : Nat) → (ws : QWs) → {p : Fm × Bool × QWs} → WOk ws → formN a0 n ws = some p → p.2.1 = false → p.1.ok a0 = true
  | 0, ws, p, _, h, _ => by cases h
  | n + 1, ws, p, hw, h, hf => by
    unfold formN at h
    cases h1 : isP [126] ws with
    | some ws1 =>
      obtain ⟨w, rfl⟩ := isP_suf h1
      rw [h1] at h
      simp only [Option.map_eq_some_iff] at h
      obtain ⟨q, hq, rfl⟩ := h
      have ih := form_sound hb n ws1 (p := q) hw.tail hq hf
      exact ih
    | none =>
      rw [h1] at h
      simp only at h
      cases h2 : bindP ws with
      | some q =>
        obtain ⟨k, v, ws1⟩ := q
        obtain ⟨w, v', hw1, hk, hv1, hv2⟩ := bindP_suf h2
        simp only at hw1 hk hv2
        subst hw1
        obtain ⟨d, hd, -, -, h4⟩ := hw v' (by simp) hv1
        rw [hd] at hv2
        have hv : v ≤ 23 := by rw [hv2]; exact h4
        rw [h2] at h
        simp only [Option.map_eq_some_iff] at h
        obtain ⟨q, hq, rfl⟩ := h
        have ih := form_sound hb n ws1 hw.tail.tail hq hf
        show ((k == 5 || k == 6) && decide (0 ≤ (v : Int)) && decide ((v : Int) ≤ 23) && q.1.ok a0) = true
        rw [ih, decide_eq_true (show 0 ≤ (v : Int) by omega), decide_eq_true (show (v : Int) ≤ 23 by omega)]
        rcases hk with rfl | rfl <;> rfl
      | none =>
        rw [h2] at h
        simp only at h
        cases h3 : isP [40] ws with
        | none =>
          rw [h3] at h
          simp only [Option.map_eq_some_iff] at h
          obtain ⟨q, hq, rfl⟩ := h
          simp only [decide_eq_false_iff_not] at hf
          exact atomP_sound hb hw hq (by omega)
        | some ws1 =>
          obtain ⟨w, rfl⟩ := isP_suf h3
          rw [h3] at h
          simp only at h
          cases h4 : formN a0 n ws1 with
          | none => rw [h4] at h; cases h
          | some q =>
            obtain ⟨f, l1, ws2⟩ := q
            have s1 := form_suf n ws1 h4
            have ih1 := fun hl => form_sound hb n ws1 hw.tail h4 hl
            rw [h4] at h
            simp only at h ih1 s1
            cases h5 : jointP ws2 with
            | none => rw [h5] at h; cases h
            | some q =>
              obtain ⟨k, ws3⟩ := q
              obtain ⟨⟨w2, hw2⟩, hk⟩ := jointP_suf h5
              simp only at hw2 hk
              subst hw2
              have hw3 : WOk ws3 := (s1.1.wok hw.tail).tail
              rw [h5] at h
              simp only at h
              cases h6 : formN a0 n ws3 with
              | none => rw [h6] at h; cases h
              | some q =>
                obtain ⟨g, l2, ws4⟩ := q
                have ih2 := fun hl => form_sound hb n ws3 hw3 h6 hl
                rw [h6] at h
                simp only [Option.map_eq_some_iff] at h ih2
                obtain ⟨ws5, h7, rfl⟩ := h
                simp only [Bool.or_eq_false_iff] at hf
                show ((k == 2 || k == 3 || k == 4) && f.ok a0 && g.ok a0) = true
                rw [ih1 hf.1, ih2 hf.2]
                rcases hk with rfl | rfl | rfl <;> rfl
theorem parse_ok {a0 : List QSym} {t : Str} (h : (parseR a0 t).1 = 0) : sigB a0 = true ∧ ∃ f : Fm, (parseR a0 t).2 = f.flat ∧ f.ok a0 = true ∧ f.flat.length ≤ 40 := by
  unfold parseR at h ⊢
  obtain ⟨hw, -⟩ := lexR_ok t
  cases h1 : ((lexR t).1 != 0) with
  | true => rw [h1] at h; cases h
  | false =>
    rw [h1, cond_false] at h
    rw [cond_false]
    unfold readR at h ⊢
    cases hs : sigB a0 with
    | false => rw [hs] at h; cases h
    | true =>
      refine ⟨rfl, ?_⟩
      rw [hs, Bool.not_true, cond_false] at h
      rw [Bool.not_true, cond_false]
      cases hf : formP a0 (lexR t).2 with
      | none => rw [hf] at h; cases h
      | some p =>
        rw [hf] at h
        simp only at h ⊢
        cases h2 : decide (p.2.2.length > 0) with
        | true => rw [h2] at h; cases h
        | false =>
          rw [h2, cond_false] at h
          rw [cond_false]
          cases h3 : p.2.1 with
          | true => rw [h3] at h; cases h
          | false =>
            rw [h3, cond_false] at h
            rw [cond_false]
            by_cases h4 : p.1.flat.length > 40
            · rw [decide_eq_true h4] at h; cases h
            · rw [decide_eq_false h4, cond_false]
              exact ⟨p.1, rfl, form_sound (sigB_sign hs) _ _ hw hf h3, by omega⟩
theorem parse_err {a0 : List QSym} {t : Str} (h : (parseR a0 t).1 ≠ 0) : (parseR a0 t).2 = [] := by
  unfold parseR at h ⊢
  cases h1 : ((lexR t).1 != 0) with
  | true => rfl
  | false =>
    rw [h1, cond_false] at h
    rw [cond_false]
    unfold readR at h ⊢
    cases hs : sigB a0 with
    | false => rfl
    | true =>
      rw [hs, Bool.not_true, cond_false] at h
      rw [Bool.not_true, cond_false]
      cases hf : formP a0 (lexR t).2 with
      | none => rfl
      | some p =>
        rw [hf] at h
        simp only at h ⊢
        cases h2 : decide (p.2.2.length > 0) with
        | true => rfl
        | false =>
          rw [h2, cond_false] at h
          rw [cond_false]
          cases h3 : p.2.1 with
          | true => rfl
          | false =>
            rw [h3, cond_false] at h
            rw [cond_false]
            cases h4 : decide (p.1.flat.length > 40) with
            | true => rfl
            | false => rw [h4] at h; exact absurd rfl h
end
end Go.Abs.Q
namespace Go.Abs.Q
open Go Go.Abs
section
theorem ref21_digit_eq (c : UInt8) : ref21_digit ((UInt8.toNat c : Nat) : Int) = some (digB c) := lex_digit_eq c
theorem ref21_small_eq (c : UInt8) : ref21_small ((UInt8.toNat c : Nat) : Int) = some (letB c) := lex_small_eq c
theorem rdigits_go : (es : List UInt8) → (i : Nat) → ref21_digits_L0_go es i = some ((i + (es.takeWhile (runP false)).length : Nat) : Int)
  | [], i => rfl
  | e :: es, i => by
    have ih := rdigits_go es (i + 1)
    have e1 : ∀ n : Nat, i + 1 + n = i + (n + 1) := fun n => by omega
    unfold ref21_digits_L0_go
    rw [ref21_digit_eq, Option.bind_some, List.takeWhile_cons]
    have hr : runP false e = digB e := by unfold runP; simp
    rw [hr]
    cases digB e with
    | true => rw [cond_true, ih, e1]; rfl
    | false => rfl
theorem ref21_digits_eq {t : Str} (hl : t.length ≤ 1000000) (i : Nat) : ref21_digits t (i : Int) = some ((i + ((t.drop i).takeWhile (runP false)).length : Nat) : Int) := by
  unfold ref21_digits
  rw [ref21_digits_L0_go_eq t (by unfold maxLen; omega) _ i fuel rfl (by simp only [List.length_drop]; unfold fuel; omega), rdigits_go]
  rfl
theorem rword_go : (es : List UInt8) → (i : Nat) → ref21_word_L0_go es i = some ((i + (es.takeWhile (runP true)).length : Nat) : Int)
  | [], i => rfl
  | e :: es, i => by
    have ih := rword_go es (i + 1)
    have e1 : ∀ n : Nat, i + 1 + n = i + (n + 1) := fun n => by omega
    unfold ref21_word_L0_go
    rw [ref21_small_eq, ref21_digit_eq, Option.bind_some, Option.bind_some, List.takeWhile_cons]
    unfold runP at ih ⊢
    cases letB e with
    | true => rw [cond_true, ih, e1]; cases digB e <;> rfl
    | false =>
      cases digB e with
      | true => rw [cond_false, cond_true, ih, e1]; rfl
      | false => rfl
theorem fold_ge : (r : Str) → (n : Nat) → n * 10 ^ r.length ≤ r.foldl (fun n c => 10 * n + (c.toNat - 48)) n
  | [], n => by simp
  | c :: r, n => by
    have := fold_ge r (10 * n + (c.toNat - 48))
    rw [List.foldl_cons, List.length_cons, Nat.pow_succ]
    refine Nat.le_trans ?_ this
    rw [Nat.mul_comm (10 ^ r.length) 10, ← Nat.mul_assoc]
    exact Nat.mul_le_mul_right _ (by omega)
theorem numB_24 {d : Str} (h : ∀ c ∈ d, digB c = true) : (numB d 4 && decide (numV d ≤ 23)) = (numB d 2 && decide (numV d ≤ 23)) := by
  by_cases hv : numV d ≤ 23
  · rw [decide_eq_true hv, Bool.and_true, Bool.and_true]
    unfold numB
    cases d with
    | nil => rfl
    | cons c r =>
      simp only
      by_cases hl : (c :: r).length ≤ 2
      · rw [decide_eq_true hl, decide_eq_true (show (c :: r).length ≤ 4 by omega)]
      · rw [decide_eq_false hl, Bool.false_and]
        have hl2 : ((c :: r).length == 1) = false := by rw [beq_eq_false_iff_ne]; omega
        rw [hl2, Bool.or_false]
        cases hc : (c != 48) with
        | false => rw [Bool.and_false]
        | true =>
          exfalso
          have hd := h c (List.mem_cons_self ..)
          unfold digB at hd
          simp only [Bool.and_eq_true, decide_eq_true_eq, ge_iff_le] at hd
          have hne : c ≠ 48 := by simpa using hc
          have hn : c.toNat ≠ 48 := fun e => hne (UInt8.toNat_inj.1 e)
          have hf := fold_ge r (10 * 0 + (c.toNat - 48))
          have hlr : 2 ≤ r.length := by rw [List.length_cons] at hl; omega
          have hp : 10 ^ 2 ≤ 10 ^ r.length := Nat.pow_le_pow_right (by omega) hlr
          have h1 : 1 ≤ 10 * 0 + (c.toNat - 48) := by omega
          have h2 : 1 * 10 ^ r.length ≤ (10 * 0 + (c.toNat - 48)) * 10 ^ r.length := Nat.mul_le_mul_right _ h1
          have h3 : numV (c :: r) = r.foldl (fun n c => 10 * n + (c.toNat - 48)) (10 * 0 + (c.toNat - 48)) := rfl
          omega
  · rw [decide_eq_false hv, Bool.and_false, Bool.and_false]
theorem rnumber_go : (d : Str) → (n j : Nat) → (∀ c ∈ d, digB c = true) → n < 10 ^ j → j + d.length ≤ 6 → ref21_Number_L0_go d (n : Int) = some (.inl ((d.foldl (fun n c => 10 * n + (c.toNat - 48)) n : Nat) : Int))
  | [], n, j, _, hn, _ => rfl
  | c :: d, n, j, h, hn, hl => by
    have hc := h c (List.mem_cons_self ..)
    have hc' := hc
    unfold digB at hc
    simp only [Bool.and_eq_true, decide_eq_true_eq, ge_iff_le] at hc
    rw [List.length_cons] at hl
    have hj : 10 ^ j ≤ 10 ^ 6 := Nat.pow_le_pow_right (by omega) (by omega)
    have hj2 : 10 ^ (j + 1) = 10 * 10 ^ j := by rw [Nat.pow_succ]; omega
    have w1 : IntKind.wrap .i64 ((n : Int) * 10) = 10 * (n : Int) := by rw [wrap64] <;> omega
    have w2 : IntKind.wrap .u8 (((UInt8.toNat c : Nat) : Int) - 48) = ((UInt8.toNat c : Nat) : Int) - 48 := by
      simp [IntKind.wrap, IntKind.bits, IntKind.signed]; omega
    have w3 : IntKind.wrap .i64 (((UInt8.toNat c : Nat) : Int) - 48) = ((UInt8.toNat c : Nat) : Int) - 48 := by rw [wrap64] <;> omega
    have w4 : IntKind.wrap .i64 (10 * (n : Int) + (((UInt8.toNat c : Nat) : Int) - 48)) = ((10 * n + (c.toNat - 48) : Nat) : Int) := by rw [wrap64] <;> omega
    have ih := rnumber_go d (10 * n + (c.toNat - 48)) (j + 1) (fun x hx => h x (List.mem_cons_of_mem _ hx)) (by omega) (by omega)
    unfold ref21_Number_L0_go
    rw [ref21_digit_eq, hc', Option.bind_some, Bool.not_true, cond_false, w1, w2, w3, w4, List.foldl_cons]
    exact ih
theorem ref21_Number_eq {d : Str} (h : ∀ c ∈ d, digB c = true) (hl : d.length ≤ 1000000) : ∃ r, ref21_Number d = some r ∧ r.2 = numB d 4 ∧ (numB d 4 = true → r.1 = ((numV d : Nat) : Int)) := by
  unfold ref21_Number
  cases d with
  | nil => exact ⟨_, rfl, rfl, fun h => by cases h⟩
  | cons c r =>
    have hnum : numB (c :: r) 4 = (decide ((c :: r).length ≤ 4) && (c != 48 || (c :: r).length == 1)) := rfl
    rw [decide_eq_false (show ¬ (((List.length (c :: r) : Nat) : Int) < 1) by rw [List.length_cons]; omega), cond_false]
    by_cases h4 : (c :: r).length ≤ 4
    · rw [decide_eq_false (show ¬ (((List.length (c :: r) : Nat) : Int) > 4) by omega), cond_false]
      have hgo : ((lp ref21_Number_L0 fuel) (c :: r, 0, 0)) = some (.inl ((numV (c :: r) : Nat) : Int)) := by
        rw [ref21_Number_L0_go_at0 _ _ (by unfold maxLen; omega), show (0 : Int) = ((0 : Nat) : Int) from rfl, rnumber_go (c :: r) 0 0 h (by omega) (by omega)]
        rfl
      rw [hgo, Option.bind_some]
      simp only [caseS]
      rw [decide_eq_true h4, Bool.true_and] at hnum
      by_cases h1 : (c :: r).length > 1
      · have e1 : ((c :: r).length == 1) = false := by rw [beq_eq_false_iff_ne]; omega
        rw [e1, Bool.or_false] at hnum
        rw [decide_eq_true (show ((List.length (c :: r) : Nat) : Int) > 1 by omega), cond_true, gx_zero, List.getElem?_cons_zero, Option.bind_some,
          show (((UInt8.toNat c : Nat) : Int) == 48) = (c == 48) from toNat_beq c 48]
        cases hc : (c == 48) with
        | true =>
          refine ⟨_, rfl, ?_, fun h => ?_⟩
          · rw [hnum, bne, hc]; rfl
          · rw [hnum, bne, hc] at h; cases h
        | false => exact ⟨_, rfl, by rw [hnum, bne, hc]; rfl, fun _ => rfl⟩
      · have e1 : ((c :: r).length == 1) = true := by rw [beq_iff_eq]; rw [List.length_cons] at h1 ⊢; omega
        rw [e1, Bool.or_true] at hnum
        rw [decide_eq_false (show ¬ (((List.length (c :: r) : Nat) : Int) > 1) by omega), cond_false]
        exact ⟨_, rfl, hnum.symm, fun _ => rfl⟩
    · rw [decide_eq_false h4, Bool.false_and] at hnum
      rw [decide_eq_true (show ((List.length (c :: r) : Nat) : Int) > 4 by omega), cond_true]
      exact ⟨_, rfl, hnum.symm, fun h => by rw [hnum] at h; cases h⟩
end
end Go.Abs.Q
