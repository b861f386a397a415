import Derived.Test.YtbgkkdmmddkdbaaGreatDoorQa
/-
  What the functions make of plain values, and what the law says of that.
-/
namespace Go.Abs.Q
open Go Go.Abs
def ref1_In_L0_go (s1 : Int) : List Int → Option (Unit ⊕ Bool)
 | [] => some (Sum.inl ())
 | e :: es =>
  cond (e == (IntKind.wrap .i64 ((-1) - s1)))
  (some (Sum.inr true))
  (ref1_In_L0_go s1 es)
theorem ref1_In_L0_go_eq (s0 : (List Int)) (s1 : Int) (hl : List.length s0 ≤ maxLen) : ∀ (es : List Int) (i : Nat) (k : Nat), s0.drop i = es → es.length < k → lp ref1_In_L0 k (s0, s1, (i : Int)) = ref1_In_L0_go s1 es := by
 intro es
 induction es with
 | nil =>
  intro i k h hk
  obtain ⟨k, rfl⟩ : ∃ k', k = k' + 1 := ⟨k - 1, by omega⟩
  rw [lp_succ]
  generalize lp ref1_In_L0 k = rec
  unfold ref1_In_L0 ref1_In_L0_go
  simp only [lt_false (drop_nil_le h), cond_false]
 | cons e es ih =>
  intro i k h hk
  obtain ⟨k, rfl⟩ : ∃ k', k = k' + 1 := ⟨k - 1, by omega⟩
  rw [lp_succ]
  have hi := drop_cons_lt h
  have hk2 : es.length < k := Nat.lt_of_succ_lt_succ hk
  have key := fun (_ : Unit) => ih (i + 1) k (drop_cons_next h) hk2
  generalize lp ref1_In_L0 k = rec at key ⊢
  unfold ref1_In_L0 ref1_In_L0_go
  simp only [lt_true hi, cond_true, gx_nat, drop_cons_get h, Option.bind_some, wrap_i1 hi hl, key ()]
theorem ref1_In_L0_go_at0 (s0 : (List Int)) (s1 : Int) (hl : List.length s0 ≤ maxLen) : lp ref1_In_L0 fuel (s0, s1, 0) = ref1_In_L0_go s1 s0 :=
 ref1_In_L0_go_eq s0 s1 hl s0 0 fuel rfl (Nat.lt_of_le_of_lt hl (by decide))
def ref8_VarsOf_L0_go : List (List Int) → (List Int) → Option (List Int)
 | [], s2 => some s2
 | e :: es, s2 =>
  cond (room (List.length s2 + List.length e) 8)
  (ref8_VarsOf_L0_go es (s2 ++ e))
  (none)
theorem ref8_VarsOf_L0_go_eq (s0 : (List (List Int))) (hl : List.length s0 ≤ maxLen) : ∀ (es : List (List Int)) (i : Nat) (k : Nat) (s2 : (List Int)), s0.drop i = es → es.length < k → lp ref8_VarsOf_L0 k (s0, (i : Int), s2) = ref8_VarsOf_L0_go es s2 := by
 intro es
 induction es with
 | nil =>
  intro i k s2 h hk
  obtain ⟨k, rfl⟩ : ∃ k', k = k' + 1 := ⟨k - 1, by omega⟩
  rw [lp_succ]
  generalize lp ref8_VarsOf_L0 k = rec
  unfold ref8_VarsOf_L0 ref8_VarsOf_L0_go
  simp only [lt_false (drop_nil_le h), cond_false]
 | cons e es ih =>
  intro i k s2 h hk
  obtain ⟨k, rfl⟩ : ∃ k', k = k' + 1 := ⟨k - 1, by omega⟩
  rw [lp_succ]
  have hi := drop_cons_lt h
  have hk2 : es.length < k := Nat.lt_of_succ_lt_succ hk
  have key := fun s2 => ih (i + 1) k s2 (drop_cons_next h) hk2
  generalize lp ref8_VarsOf_L0 k = rec at key ⊢
  unfold ref8_VarsOf_L0 ref8_VarsOf_L0_go
  simp only [lt_true hi, cond_true, gx_nat, drop_cons_get h, Option.bind_some, wrap_i1 hi hl, key]
theorem ref8_VarsOf_L0_go_at0 (s0 : (List (List Int))) (s2 : (List Int)) (hl : List.length s0 ≤ maxLen) : lp ref8_VarsOf_L0 fuel (s0, 0, s2) = ref8_VarsOf_L0_go s0 s2 :=
 ref8_VarsOf_L0_go_eq s0 hl s0 0 fuel s2 rfl (Nat.lt_of_le_of_lt hl (by decide))
def ref9_Model_look_L0_go : List Int → Int → Option Int
 | [], s1 => some s1
 | e :: es, s1 =>
  ref9_Model_look_L0_go es (IntKind.wrap .u64 ((IntKind.wrap .u64 ((IntKind.wrap .u64 (s1 * 5)) + (IntKind.wrap .u64 e))) + 3))
theorem ref9_Model_look_L0_go_eq (s0 : (List Int)) (s3 : Int) (s4 : (List Int)) (hl : List.length s0 ≤ maxLen) : ∀ (es : List Int) (i : Nat) (k : Nat) (s1 : Int), s0.drop i = es → es.length < k → lp ref9_Model_look_L0 k (s0, s1, (i : Int), s3, s4) = ref9_Model_look_L0_go es s1 := by
 intro es
 induction es with
 | nil =>
  intro i k s1 h hk
  obtain ⟨k, rfl⟩ : ∃ k', k = k' + 1 := ⟨k - 1, by omega⟩
  rw [lp_succ]
  generalize lp ref9_Model_look_L0 k = rec
  unfold ref9_Model_look_L0 ref9_Model_look_L0_go
  simp only [lt_false (drop_nil_le h), cond_false]
 | cons e es ih =>
  intro i k s1 h hk
  obtain ⟨k, rfl⟩ : ∃ k', k = k' + 1 := ⟨k - 1, by omega⟩
  rw [lp_succ]
  have hi := drop_cons_lt h
  have hk2 : es.length < k := Nat.lt_of_succ_lt_succ hk
  have key := fun s1 => ih (i + 1) k s1 (drop_cons_next h) hk2
  generalize lp ref9_Model_look_L0 k = rec at key ⊢
  unfold ref9_Model_look_L0 ref9_Model_look_L0_go
  simp only [lt_true hi, cond_true, gx_nat, drop_cons_get h, Option.bind_some, wrap_i1 hi hl, key]
theorem ref9_Model_look_L0_go_at0 (s0 : (List Int)) (s3 : Int) (s4 : (List Int)) (s1 : Int) (hl : List.length s0 ≤ maxLen) : lp ref9_Model_look_L0 fuel (s0, s1, 0, s3, s4) = ref9_Model_look_L0_go s0 s1 :=
 ref9_Model_look_L0_go_eq s0 s3 s4 hl s0 0 fuel s1 rfl (Nat.lt_of_le_of_lt hl (by decide))
def ref9_Model_Here_L2_go (s0 : (List QSym)) (s1 : (List Int)) (s3 : Int) (s4 : (List Int)) : List (List Int) → Option (Unit ⊕ Bool)
 | [] => some (Sum.inl ())
 | e :: es =>
  (ref9_Model_Tuple s3 s4 s0 e s1).bind fun r16 =>
  cond r16
  (some (Sum.inr true))
  (ref9_Model_Here_L2_go s0 s1 s3 s4 es)
theorem ref9_Model_Here_L2_go_eq (s0 : (List QSym)) (s1 : (List Int)) (s3 : Int) (s4 : (List Int)) (s5 : (List QLit)) (s6 : (List (List Int))) (s7 : (List QLit)) (hl : List.length s6 ≤ maxLen) : ∀ (es : List (List Int)) (i : Nat) (k : Nat), s6.drop i = es → es.length < k → lp ref9_Model_Here_L2 k (s0, s1, (i : Int), s3, s4, s5, s6, s7) = ref9_Model_Here_L2_go s0 s1 s3 s4 es := by
 intro es
 induction es with
 | nil =>
  intro i k h hk
  obtain ⟨k, rfl⟩ : ∃ k', k = k' + 1 := ⟨k - 1, by omega⟩
  rw [lp_succ]
  generalize lp ref9_Model_Here_L2 k = rec
  unfold ref9_Model_Here_L2 ref9_Model_Here_L2_go
  simp only [lt_false (drop_nil_le h), cond_false]
 | cons e es ih =>
  intro i k h hk
  obtain ⟨k, rfl⟩ : ∃ k', k = k' + 1 := ⟨k - 1, by omega⟩
  rw [lp_succ]
  have hi := drop_cons_lt h
  have hk2 : es.length < k := Nat.lt_of_succ_lt_succ hk
  have key := fun (_ : Unit) => ih (i + 1) k (drop_cons_next h) hk2
  generalize lp ref9_Model_Here_L2 k = rec at key ⊢
  unfold ref9_Model_Here_L2 ref9_Model_Here_L2_go
  simp only [lt_true hi, cond_true, gx_nat, drop_cons_get h, Option.bind_some, wrap_i1 hi hl, key ()]
theorem ref9_Model_Here_L2_go_at0 (s0 : (List QSym)) (s1 : (List Int)) (s3 : Int) (s4 : (List Int)) (s5 : (List QLit)) (s6 : (List (List Int))) (s7 : (List QLit)) (hl : List.length s6 ≤ maxLen) : lp ref9_Model_Here_L2 fuel (s0, s1, 0, s3, s4, s5, s6, s7) = ref9_Model_Here_L2_go s0 s1 s3 s4 s6 :=
 ref9_Model_Here_L2_go_eq s0 s1 s3 s4 s5 s6 s7 hl s6 0 fuel rfl (Nat.lt_of_le_of_lt hl (by decide))
def ref9_Model_Here_L1_go (s0 : (List QSym)) (s1 : (List Int)) (s3 : Int) (s4 : (List Int)) : List QLit → Option (Unit ⊕ Bool)
 | [] => some (Sum.inl ())
 | e :: es =>
  (ref9_Model_Lit s3 s4 s0 e.1 e.2 s1).bind fun r10 =>
  cond r10
  (some (Sum.inr true))
  (ref9_Model_Here_L1_go s0 s1 s3 s4 es)
theorem ref9_Model_Here_L1_go_eq (s0 : (List QSym)) (s1 : (List Int)) (s3 : Int) (s4 : (List Int)) (s5 : (List QLit)) (s6 : (List (List Int))) (s7 : (List QLit)) (hl : List.length s5 ≤ maxLen) : ∀ (es : List QLit) (i : Nat) (k : Nat), s5.drop i = es → es.length < k → lp ref9_Model_Here_L1 k (s0, s1, (i : Int), s3, s4, s5, s6, s7) = ref9_Model_Here_L1_go s0 s1 s3 s4 es := by
 intro es
 induction es with
 | nil =>
  intro i k h hk
  obtain ⟨k, rfl⟩ : ∃ k', k = k' + 1 := ⟨k - 1, by omega⟩
  rw [lp_succ]
  generalize lp ref9_Model_Here_L1 k = rec
  unfold ref9_Model_Here_L1 ref9_Model_Here_L1_go
  simp only [lt_false (drop_nil_le h), cond_false]
 | cons e es ih =>
  intro i k h hk
  obtain ⟨k, rfl⟩ : ∃ k', k = k' + 1 := ⟨k - 1, by omega⟩
  rw [lp_succ]
  have hi := drop_cons_lt h
  have hk2 : es.length < k := Nat.lt_of_succ_lt_succ hk
  have key := fun (_ : Unit) => ih (i + 1) k (drop_cons_next h) hk2
  generalize lp ref9_Model_Here_L1 k = rec at key ⊢
  unfold ref9_Model_Here_L1 ref9_Model_Here_L1_go
  simp only [lt_true hi, cond_true, gx_nat, drop_cons_get h, Option.bind_some, wrap_i1 hi hl, key ()]
theorem ref9_Model_Here_L1_go_at0 (s0 : (List QSym)) (s1 : (List Int)) (s3 : Int) (s4 : (List Int)) (s5 : (List QLit)) (s6 : (List (List Int))) (s7 : (List QLit)) (hl : List.length s5 ≤ maxLen) : lp ref9_Model_Here_L1 fuel (s0, s1, 0, s3, s4, s5, s6, s7) = ref9_Model_Here_L1_go s0 s1 s3 s4 s5 :=
 ref9_Model_Here_L1_go_eq s0 s1 s3 s4 s5 s6 s7 hl s5 0 fuel rfl (Nat.lt_of_le_of_lt hl (by decide))
def ref9_Model_Here_L0_go (s0 : (List QSym)) (s1 : (List Int)) (s3 : Int) (s4 : (List Int)) : List QLit → Option (Unit ⊕ Bool)
 | [] => some (Sum.inl ())
 | e :: es =>
  (ref9_Model_Lit s3 s4 s0 e.1 e.2 s1).bind fun r4 =>
  cond (!r4)
  (some (Sum.inr true))
  (ref9_Model_Here_L0_go s0 s1 s3 s4 es)
theorem ref9_Model_Here_L0_go_eq (s0 : (List QSym)) (s1 : (List Int)) (s3 : Int) (s4 : (List Int)) (s5 : (List QLit)) (s6 : (List (List Int))) (s7 : (List QLit)) (hl : List.length s7 ≤ maxLen) : ∀ (es : List QLit) (i : Nat) (k : Nat), s7.drop i = es → es.length < k → lp ref9_Model_Here_L0 k (s0, s1, (i : Int), s3, s4, s5, s6, s7) = ref9_Model_Here_L0_go s0 s1 s3 s4 es := by
 intro es
 induction es with
 | nil =>
  intro i k h hk
  obtain ⟨k, rfl⟩ : ∃ k', k = k' + 1 := ⟨k - 1, by omega⟩
  rw [lp_succ]
  generalize lp ref9_Model_Here_L0 k = rec
  unfold ref9_Model_Here_L0 ref9_Model_Here_L0_go
  simp only [lt_false (drop_nil_le h), cond_false]
 | cons e es ih =>
  intro i k h hk
  obtain ⟨k, rfl⟩ : ∃ k', k = k' + 1 := ⟨k - 1, by omega⟩
  rw [lp_succ]
  have hi := drop_cons_lt h
  have hk2 : es.length < k := Nat.lt_of_succ_lt_succ hk
  have key := fun (_ : Unit) => ih (i + 1) k (drop_cons_next h) hk2
  generalize lp ref9_Model_Here_L0 k = rec at key ⊢
  unfold ref9_Model_Here_L0 ref9_Model_Here_L0_go
  simp only [lt_true hi, cond_true, gx_nat, drop_cons_get h, Option.bind_some, wrap_i1 hi hl, key ()]
theorem ref9_Model_Here_L0_go_at0 (s0 : (List QSym)) (s1 : (List Int)) (s3 : Int) (s4 : (List Int)) (s5 : (List QLit)) (s6 : (List (List Int))) (s7 : (List QLit)) (hl : List.length s7 ≤ maxLen) : lp ref9_Model_Here_L0 fuel (s0, s1, 0, s3, s4, s5, s6, s7) = ref9_Model_Here_L0_go s0 s1 s3 s4 s7 :=
 ref9_Model_Here_L0_go_eq s0 s1 s3 s4 s5 s6 s7 hl s7 0 fuel rfl (Nat.lt_of_le_of_lt hl (by decide))
def ref9_Model_Next_L0_go (s3 : Int) : List Int → (List Int) → Option ((List Int) ⊕ QLit)
 | [], s2 => some (Sum.inl s2)
 | e :: es, s2 =>
  (inR e (List.length s2)).bind fun k24 =>
  (s2[k24]?).bind fun x25 =>
  (inR e (List.length s2)).bind fun k26 =>
  (s2[k26]?).bind fun x27 =>
  (inR e (List.length (List.set s2 k26 (IntKind.wrap .i64 (x25 + 1))))).bind fun k29 =>
  ((List.set s2 k26 (IntKind.wrap .i64 (x25 + 1)))[k29]?).bind fun x30 =>
  cond (decide (x30 < s3))
  (some (Sum.inr (true, (List.set s2 k26 (IntKind.wrap .i64 (x25 + 1))))))
  ((inR e (List.length (List.set s2 k26 (IntKind.wrap .i64 (x25 + 1))))).bind fun k32 =>
   ((List.set s2 k26 (IntKind.wrap .i64 (x25 + 1)))[k32]?).bind fun x33 =>
   ref9_Model_Next_L0_go s3 es (List.set (List.set s2 k26 (IntKind.wrap .i64 (x25 + 1))) k32 0))
theorem ref9_Model_Next_L0_go_eq (s0 : (List Int)) (s3 : Int) (s4 : (List Int)) (hl : List.length s0 ≤ maxLen) : ∀ (es : List Int) (i : Nat) (k : Nat) (s2 : (List Int)), s0.drop i = es → es.length < k → lp ref9_Model_Next_L0 k (s0, (i : Int), s2, s3, s4) = ref9_Model_Next_L0_go s3 es s2 := by
 intro es
 induction es with
 | nil =>
  intro i k s2 h hk
  obtain ⟨k, rfl⟩ : ∃ k', k = k' + 1 := ⟨k - 1, by omega⟩
  rw [lp_succ]
  generalize lp ref9_Model_Next_L0 k = rec
  unfold ref9_Model_Next_L0 ref9_Model_Next_L0_go
  simp only [lt_false (drop_nil_le h), cond_false]
 | cons e es ih =>
  intro i k s2 h hk
  obtain ⟨k, rfl⟩ : ∃ k', k = k' + 1 := ⟨k - 1, by omega⟩
  rw [lp_succ]
  have hi := drop_cons_lt h
  have hk2 : es.length < k := Nat.lt_of_succ_lt_succ hk
  have key := fun s2 => ih (i + 1) k s2 (drop_cons_next h) hk2
  generalize lp ref9_Model_Next_L0 k = rec at key ⊢
  unfold ref9_Model_Next_L0 ref9_Model_Next_L0_go
  simp only [lt_true hi, cond_true, gx_nat, drop_cons_get h, Option.bind_some, wrap_i1 hi hl, key]
theorem ref9_Model_Next_L0_go_at0 (s0 : (List Int)) (s3 : Int) (s4 : (List Int)) (s2 : (List Int)) (hl : List.length s0 ≤ maxLen) : lp ref9_Model_Next_L0 fuel (s0, 0, s2, s3, s4) = ref9_Model_Next_L0_go s3 s0 s2 :=
 ref9_Model_Next_L0_go_eq s0 s3 s4 hl s0 0 fuel s2 rfl (Nat.lt_of_le_of_lt hl (by decide))
def law24_GoalMeans_L3_go (s0 : (List QSym)) (s10 : Int) (s11 : (List Int)) (s12 : (List Int)) : List QLit → Bool → Option QLit
 | [], s5 => some (s5, s12)
 | e :: es, s5 =>
  cond s5
  ((ref9_Model_Lit s10 s11 s0 e.1 e.2 s12).bind fun r32 =>
   law24_GoalMeans_L3_go s0 s10 s11 s12 es r32)
  (law24_GoalMeans_L3_go s0 s10 s11 s12 es false)
theorem law24_GoalMeans_L3_go_eq (s0 : (List QSym)) (s1 : (List QLit)) (s2 : (List Int)) (s3 : (List Int)) (s4 : Bool) (s7 : (List QLit)) (s8 : (List (List Int))) (s9 : (List QLit)) (s10 : Int) (s11 : (List Int)) (s12 : (List Int)) (hl : List.length s1 ≤ maxLen) : ∀ (es : List QLit) (i : Nat) (k : Nat) (s5 : Bool), s1.drop i = es → es.length < k → lp law24_GoalMeans_L3 k (s0, s1, s2, s3, s4, s5, (i : Int), s7, s8, s9, s10, s11, s12) = law24_GoalMeans_L3_go s0 s10 s11 s12 es s5 := by
 intro es
 induction es with
 | nil =>
  intro i k s5 h hk
  obtain ⟨k, rfl⟩ : ∃ k', k = k' + 1 := ⟨k - 1, by omega⟩
  rw [lp_succ]
  generalize lp law24_GoalMeans_L3 k = rec
  unfold law24_GoalMeans_L3 law24_GoalMeans_L3_go
  simp only [lt_false (drop_nil_le h), cond_false]
 | cons e es ih =>
  intro i k s5 h hk
  obtain ⟨k, rfl⟩ : ∃ k', k = k' + 1 := ⟨k - 1, by omega⟩
  rw [lp_succ]
  have hi := drop_cons_lt h
  have hk2 : es.length < k := Nat.lt_of_succ_lt_succ hk
  have key := fun s5 => ih (i + 1) k s5 (drop_cons_next h) hk2
  generalize lp law24_GoalMeans_L3 k = rec at key ⊢
  unfold law24_GoalMeans_L3 law24_GoalMeans_L3_go
  simp only [lt_true hi, cond_true, gx_nat, drop_cons_get h, Option.bind_some, wrap_i1 hi hl, key]
theorem law24_GoalMeans_L3_go_at0 (s0 : (List QSym)) (s1 : (List QLit)) (s2 : (List Int)) (s3 : (List Int)) (s4 : Bool) (s7 : (List QLit)) (s8 : (List (List Int))) (s9 : (List QLit)) (s10 : Int) (s11 : (List Int)) (s12 : (List Int)) (s5 : Bool) (hl : List.length s1 ≤ maxLen) : lp law24_GoalMeans_L3 fuel (s0, s1, s2, s3, s4, s5, 0, s7, s8, s9, s10, s11, s12) = law24_GoalMeans_L3_go s0 s10 s11 s12 s1 s5 :=
 law24_GoalMeans_L3_go_eq s0 s1 s2 s3 s4 s7 s8 s9 s10 s11 s12 hl s1 0 fuel s5 rfl (Nat.lt_of_le_of_lt hl (by decide))
def law24_GoalMeans_L0_go (s1 : (List Int)) (s4 : Int) : List Int → Bool → Option Bool
 | [], s5 => some s5
 | e :: es, s5 =>
  cond s5
  (law24_GoalMeans_L0_go s1 s4 es true)
  ((gx s1 s4).bind fun e12 =>
   law24_GoalMeans_L0_go s1 s4 es (e == e12))
theorem law24_GoalMeans_L0_go_eq (s0 : (List QSym)) (s1 : (List Int)) (s2 : (List QLit)) (s3 : (List Int)) (s4 : Int) (s7 : (List QLit)) (s8 : (List (List Int))) (s9 : (List QLit)) (s10 : Int) (s11 : (List Int)) (hl : List.length s3 ≤ maxLen) : ∀ (es : List Int) (i : Nat) (k : Nat) (s5 : Bool), s3.drop i = es → es.length < k → lp law24_GoalMeans_L0 k (s0, s1, s2, s3, s4, s5, (i : Int), s7, s8, s9, s10, s11) = law24_GoalMeans_L0_go s1 s4 es s5 := by
 intro es
 induction es with
 | nil =>
  intro i k s5 h hk
  obtain ⟨k, rfl⟩ : ∃ k', k = k' + 1 := ⟨k - 1, by omega⟩
  rw [lp_succ]
  generalize lp law24_GoalMeans_L0 k = rec
  unfold law24_GoalMeans_L0 law24_GoalMeans_L0_go
  simp only [lt_false (drop_nil_le h), cond_false]
 | cons e es ih =>
  intro i k s5 h hk
  obtain ⟨k, rfl⟩ : ∃ k', k = k' + 1 := ⟨k - 1, by omega⟩
  rw [lp_succ]
  have hi := drop_cons_lt h
  have hk2 : es.length < k := Nat.lt_of_succ_lt_succ hk
  have key := fun s5 => ih (i + 1) k s5 (drop_cons_next h) hk2
  generalize lp law24_GoalMeans_L0 k = rec at key ⊢
  unfold law24_GoalMeans_L0 law24_GoalMeans_L0_go
  simp only [lt_true hi, cond_true, gx_nat, drop_cons_get h, Option.bind_some, wrap_i1 hi hl, key]
theorem law24_GoalMeans_L0_go_at0 (s0 : (List QSym)) (s1 : (List Int)) (s2 : (List QLit)) (s3 : (List Int)) (s4 : Int) (s7 : (List QLit)) (s8 : (List (List Int))) (s9 : (List QLit)) (s10 : Int) (s11 : (List Int)) (s5 : Bool) (hl : List.length s3 ≤ maxLen) : lp law24_GoalMeans_L0 fuel (s0, s1, s2, s3, s4, s5, 0, s7, s8, s9, s10, s11) = law24_GoalMeans_L0_go s1 s4 s3 s5 :=
 law24_GoalMeans_L0_go_eq s0 s1 s2 s3 s4 s7 s8 s9 s10 s11 hl s3 0 fuel s5 rfl (Nat.lt_of_le_of_lt hl (by decide))
def law24_GoalMeans_L2_go : List Int → (List Int) → Option (List Int)
 | [], s9 => some s9
 | e :: es, s9 =>
  cond (room (List.length s9 + List.length ([(IntKind.wrap .i64 ((-1) - e))] : List Int)) 8)
  (law24_GoalMeans_L2_go es (s9 ++ ([(IntKind.wrap .i64 ((-1) - e))] : List Int)))
  (none)
theorem law24_GoalMeans_L2_go_eq (s0 : (List QSym)) (s1 : (List Int)) (s2 : (List QLit)) (s4 : (List QLit)) (s5 : (List (List Int))) (s6 : (List QLit)) (s7 : Int) (s8 : (List Int)) (hl : List.length s1 ≤ maxLen) : ∀ (es : List Int) (i : Nat) (k : Nat) (s9 : (List Int)), s1.drop i = es → es.length < k → lp law24_GoalMeans_L2 k (s0, s1, s2, (i : Int), s4, s5, s6, s7, s8, s9) = law24_GoalMeans_L2_go es s9 := by
 intro es
 induction es with
 | nil =>
  intro i k s9 h hk
  obtain ⟨k, rfl⟩ : ∃ k', k = k' + 1 := ⟨k - 1, by omega⟩
  rw [lp_succ]
  generalize lp law24_GoalMeans_L2 k = rec
  unfold law24_GoalMeans_L2 law24_GoalMeans_L2_go
  simp only [lt_false (drop_nil_le h), cond_false]
 | cons e es ih =>
  intro i k s9 h hk
  obtain ⟨k, rfl⟩ : ∃ k', k = k' + 1 := ⟨k - 1, by omega⟩
  rw [lp_succ]
  have hi := drop_cons_lt h
  have hk2 : es.length < k := Nat.lt_of_succ_lt_succ hk
  have key := fun s9 => ih (i + 1) k s9 (drop_cons_next h) hk2
  generalize lp law24_GoalMeans_L2 k = rec at key ⊢
  unfold law24_GoalMeans_L2 law24_GoalMeans_L2_go
  simp only [lt_true hi, cond_true, gx_nat, drop_cons_get h, Option.bind_some, wrap_i1 hi hl, key]
theorem law24_GoalMeans_L2_go_at0 (s0 : (List QSym)) (s1 : (List Int)) (s2 : (List QLit)) (s4 : (List QLit)) (s5 : (List (List Int))) (s6 : (List QLit)) (s7 : Int) (s8 : (List Int)) (s9 : (List Int)) (hl : List.length s1 ≤ maxLen) : lp law24_GoalMeans_L2 fuel (s0, s1, s2, 0, s4, s5, s6, s7, s8, s9) = law24_GoalMeans_L2_go s1 s9 :=
 law24_GoalMeans_L2_go_eq s0 s1 s2 s4 s5 s6 s7 s8 hl s1 0 fuel s9 rfl (Nat.lt_of_le_of_lt hl (by decide))
def law24_GoalMeans_L1_go (s0 : (List QSym)) (s1 : (List Int)) (s2 : (List QLit)) (s3 : (List Int)) (s5 : (List QLit)) (s6 : (List (List Int))) (s7 : (List QLit)) (s8 : Int) (s9 : (List Int)) : List Int → Nat → (List Int) → Option (List Int)
 | [], i, s10 => some s10
 | e :: es, i, s10 =>
  ((lp law24_GoalMeans_L0 fuel) (s0, s1, s2, s3, (i : Int), false, 0, s5, s6, s7, s8, s9)).bind fun r15 =>
  cond (!r15)
  (cond (room (List.length s10 + List.length ([e] : List Int)) 8)
   (law24_GoalMeans_L1_go s0 s1 s2 s3 s5 s6 s7 s8 s9 es (i + 1) (s10 ++ ([e] : List Int)))
   (none))
  (law24_GoalMeans_L1_go s0 s1 s2 s3 s5 s6 s7 s8 s9 es (i + 1) s10)
theorem law24_GoalMeans_L1_go_eq (s0 : (List QSym)) (s1 : (List Int)) (s2 : (List QLit)) (s3 : (List Int)) (s5 : (List QLit)) (s6 : (List (List Int))) (s7 : (List QLit)) (s8 : Int) (s9 : (List Int)) (hl : List.length s1 ≤ maxLen) : ∀ (es : List Int) (i : Nat) (k : Nat) (s10 : (List Int)), s1.drop i = es → es.length < k → lp law24_GoalMeans_L1 k (s0, s1, s2, s3, (i : Int), s5, s6, s7, s8, s9, s10) = law24_GoalMeans_L1_go s0 s1 s2 s3 s5 s6 s7 s8 s9 es i s10 := by
 intro es
 induction es with
 | nil =>
  intro i k s10 h hk
  obtain ⟨k, rfl⟩ : ∃ k', k = k' + 1 := ⟨k - 1, by omega⟩
  rw [lp_succ]
  generalize lp law24_GoalMeans_L1 k = rec
  unfold law24_GoalMeans_L1 law24_GoalMeans_L1_go
  simp only [lt_false (drop_nil_le h), cond_false]
 | cons e es ih =>
  intro i k s10 h hk
  obtain ⟨k, rfl⟩ : ∃ k', k = k' + 1 := ⟨k - 1, by omega⟩
  rw [lp_succ]
  have hi := drop_cons_lt h
  have hk2 : es.length < k := Nat.lt_of_succ_lt_succ hk
  have key := fun s10 => ih (i + 1) k s10 (drop_cons_next h) hk2
  generalize lp law24_GoalMeans_L1 k = rec at key ⊢
  unfold law24_GoalMeans_L1 law24_GoalMeans_L1_go
  simp only [lt_true hi, cond_true, gx_nat, drop_cons_get h, Option.bind_some, wrap_i1 hi hl, key]
theorem law24_GoalMeans_L1_go_at0 (s0 : (List QSym)) (s1 : (List Int)) (s2 : (List QLit)) (s3 : (List Int)) (s5 : (List QLit)) (s6 : (List (List Int))) (s7 : (List QLit)) (s8 : Int) (s9 : (List Int)) (s10 : (List Int)) (hl : List.length s1 ≤ maxLen) : lp law24_GoalMeans_L1 fuel (s0, s1, s2, s3, 0, s5, s6, s7, s8, s9, s10) = law24_GoalMeans_L1_go s0 s1 s2 s3 s5 s6 s7 s8 s9 s1 0 s10 :=
 law24_GoalMeans_L1_go_eq s0 s1 s2 s3 s5 s6 s7 s8 s9 hl s1 0 fuel s10 rfl (Nat.lt_of_le_of_lt hl (by decide))
end Go.Abs.Q
namespace Go.Abs.Q
open Go Go.Abs
section
def NumsOk (nums : List Int) : Prop := nums ≠ [] ∧ nums.length ≤ 9223372036854775807
theorem wrap_u64_range (n : Int) : 0 ≤ IntKind.wrap .u64 n ∧ IntKind.wrap .u64 n < 18446744073709551616 := by
 simp [IntKind.wrap, IntKind.signed, IntKind.bits]
 omega
theorem look_go : (es : List Int) → (h : Int) → (0 ≤ h ∧ h < 18446744073709551616) → ∃ h', ref9_Model_look_L0_go es h = some h' ∧ 0 ≤ h' ∧ h' < 18446744073709551616
 | [], h, hh => ⟨h, rfl, hh⟩
 | e :: es, h, _ => look_go es _ (wrap_u64_range _)
theorem bit_and (a : Int) (b : Nat) (hb : b ≤ 255) : ∃ v : Nat, bitI .and .i64 a (b : Int) = some (v : Int) ∧ v ≤ b := by
 refine ⟨(BitVec.ofInt 64 a &&& BitVec.ofInt 64 (b : Int)).toNat, ?_, ?_⟩
 ·unfold bitI
  simp only [Option.some.injEq]
  have h1 : (BitVec.ofInt (IntKind.bits .i64) a &&& BitVec.ofInt (IntKind.bits .i64) (b : Int)).toNat ≤ 255 := by
   rw [BitVec.toNat_and]
   refine Nat.le_trans Nat.and_le_right ?_
   rw [BitVec.toNat_ofInt]
   simp [IntKind.bits]
   omega
  show IntKind.wrap .i64 _ = _
  rw [wrap64 (by omega) (by omega)]
  rfl
 ·rw [BitVec.toNat_and]
  refine Nat.le_trans Nat.and_le_right ?_
  rw [BitVec.toNat_ofInt]
  simp
  omega
theorem look_spec (m : Int) {nums : List Int} (hn : NumsOk nums) (c : Int) {xs : List Int} (hl : xs.length ≤ 1000000) : ∃ v : Nat, ref9_Model_look m nums c xs = some (v : Int) ∧ v ≤ 255 := by
 unfold ref9_Model_look
 have h0 : 0 < nums.length := List.length_pos_iff.2 hn.1
 have hl2 := hn.2
 rw [show (((List.length nums : Nat) : Int) == 0) = false from by simp; exact hn.1, cond_false, ref9_Model_look_L0_go_at0 _ _ _ _ (by unfold maxLen; omega)]
 obtain ⟨h, h1, h2, h3⟩ := look_go xs _ (wrap_u64_range (IntKind.wrap .i64 ((IntKind.wrap .i64 (c * 7)) + 1)))
 rw [h1, Option.bind_some]
 have hw : IntKind.wrap .u64 ((List.length nums : Nat) : Int) = ((nums.length : Nat) : Int) := wrap64u (by omega) (by omega)
 rw [hw, decide_eq_false (show ¬ (((nums.length : Nat) : Int) = 0) by omega), cond_false]
 have r1 : 0 ≤ Int.tmod h ((nums.length : Nat) : Int) := Int.tmod_nonneg _ h2
 have r2 : Int.tmod h ((nums.length : Nat) : Int) < ((nums.length : Nat) : Int) := Int.tmod_lt_of_pos _ (by omega)
 generalize Int.tmod h ((nums.length : Nat) : Int) = q at r1 r2
 rw [wrap64 (n := q) (by omega) (by omega)]
 obtain ⟨x, hx, -⟩ := gx_at (xs := nums) r1 r2
 rw [hx, Option.bind_some]
 obtain ⟨v, hv, hv2⟩ := bit_and x 255 (Nat.le_refl _)
 have hv : bitI .and .i64 x 255 = some (v : Int) := hv
 rw [hv]
 exact ⟨v, rfl, hv2⟩
def lookF (m : Int) (nums : List Int) (c : Int) (xs : List Int) : Int := (ref9_Model_look m nums c xs).getD 0
theorem look_eq (m : Int) {nums : List Int} (hn : NumsOk nums) (c : Int) {xs : List Int} (hl : xs.length ≤ 1000000) : ref9_Model_look m nums c xs = some (lookF m nums c xs) ∧ 0 ≤ lookF m nums c xs ∧ lookF m nums c xs ≤ 255 := by
 obtain ⟨v, h1, h2⟩ := look_spec m hn c hl
 unfold lookF
 rw [h1]
 exact ⟨rfl, by simp, by simp; omega⟩
section
variable (m : Int) (nums : List Int)
mutual
def valT (env : Nat → Int) : Tm → Int
 | .v n => env n
 | .f c ts => Int.tmod (lookF m nums (c : Int) (valR env ts)) m
def valR (env : Nat → Int) : List Tm → List Int
 | [] => []
 | t :: ts => valT env t :: valR env ts
end
theorem valR_len (env : Nat → Int) : (ts : List Tm) → (valR m nums env ts).length = ts.length
 | [] => rfl
 | t :: ts => by simp [valR, valR_len env ts]
mutual
theorem valT_sub (env : Nat → Int) (s : Sb) : (t : Tm) → valT m nums env (t.sub s) = valT m nums (fun n => valT m nums env (s n)) t
 | .v n => rfl
 | .f c ts => by
  show Int.tmod (lookF m nums (c : Int) (valR m nums env (subR s ts))) m = _
  rw [valR_sub env s ts]
  rfl
theorem valR_sub (env : Nat → Int) (s : Sb) : (ts : List Tm) → valR m nums env (subR s ts) = valR m nums (fun n => valT m nums env (s n)) ts
 | [] => rfl
 | t :: ts => by
  show valT m nums env (t.sub s) :: valR m nums env (subR s ts) = _
  rw [valT_sub env s t, valR_sub env s ts]
  rfl
end
mutual
theorem valT_ext {e e' : Nat → Int} : (t : Tm) → (∀ x, t.has x → e x = e' x) → valT m nums e t = valT m nums e' t
 | .v n, h => h n rfl
 | .f c ts, h => by
  show Int.tmod (lookF m nums (c : Int) (valR m nums e ts)) m = Int.tmod (lookF m nums (c : Int) (valR m nums e' ts)) m
  rw [valR_ext ts h]
theorem valR_ext {e e' : Nat → Int} : (ts : List Tm) → (∀ x, hasR x ts → e x = e' x) → valR m nums e ts = valR m nums e' ts
 | [], _ => rfl
 | t :: ts, h => by
  show valT m nums e t :: valR m nums e ts = valT m nums e' t :: valR m nums e' ts
  rw [valT_ext t fun x hx => h x (.inl hx), valR_ext ts fun x hx => h x (.inr hx)]
end
end
structure EnvOk (m : Int) (E : List Int) : Prop where
 len : E.length = 24
 rng : ∀ x ∈ E, 0 ≤ x ∧ x < m
def envF (E : List Int) (n : Nat) : Int := E.getD n 0
theorem EnvOk.get {m : Int} {E : List Int} (h : EnvOk m E) {n : Nat} (hn : n < 24) : E[n]? = some (envF E n) := by
 unfold envF
 rw [List.getD_eq_getElem?_getD, List.getElem?_eq_getElem (by rw [h.len]; exact hn)]
 rfl
theorem EnvOk.val {m : Int} {E : List Int} (h : EnvOk m E) {n : Nat} (hn : n < 24) : 0 ≤ envF E n ∧ envF E n < m := h.rng _ (List.mem_of_getElem? (h.get hn))
theorem valT_range {m : Int} (hm : 0 < m) {nums : List Int} (hn : NumsOk nums) {env : Nat → Int} {a0 : List QSym} (hs : SignOk a0) (t : Tm) (ho : t.ok a0 24) (h : ∀ x, x < 24 → 0 ≤ env x ∧ env x < m) : 0 ≤ valT m nums env t ∧ valT m nums env t < m := by
 cases t with
 | v n => exact h n ho
 | f c ts =>
  have h3 : ts.length ≤ 3 := arity_le hs ho.1
  have h1 := (look_eq m hn (c : Int) (xs := valR m nums env ts) (by rw [valR_len]; omega)).2
  exact ⟨Int.tmod_nonneg _ h1.1, Int.tmod_lt_of_pos _ hm⟩
theorem arity_at {a0 : List QSym} (hs : SignOk a0) {c q : Nat} (h : arity a0 (c : Int) = some q) : ∃ e, gx a0 (c : Int) = some e ∧ e.2.2.1 = (q : Int) := by
 unfold arity at h
 rw [decide_eq_false (show ¬ (c : Int) < 0 by omega), cond_false, Int.toNat_natCast] at h
 cases he : a0[c]? with
 | none => rw [he] at h; cases h
 | some e =>
  rw [he] at h
  simp only at h
  refine ⟨e, by rw [gx_nat, he], ?_⟩
  have := hs.at he
  cases hk : (e.2.1 == 0) with
  | true => rw [hk] at h; cases h
  | false => rw [hk] at h; injection h with h; omega
theorem value_args {m : Int} {nums : List Int} {a0 : List QSym} (rf : (Int × List Int × List QSym × List Int × Int × List Int) → Option (Int × Int)) (r E : List Int) (env : Nat → Int) (c q : Nat) (e : QSym) (he : gx a0 (c : Int) = some e) (hq : e.2.2.1 = (q : Int)) (hr : r.length ≤ 1000) :
  ∀ (us : List Tm) (i k p : Nat) (out rest : List Int), i + us.length = q → q ≤ 3 → us.length < k → out.length = i → r.drop p = codesR us ++ rest →
   (∀ u ∈ us, ∀ p rest, r.drop p = u.codes ++ rest → rf (m, nums, a0, r, (p : Int), E) = some (valT m nums env u, ((p + u.size : Nat) : Int))) →
   lp (ref9_Model_Value_L0 rf) k (a0, r, (p : Int), E, (c : Int), (i : Int), m, nums, out) = some (((p + sizeR us : Nat) : Int), out ++ valR m nums env us)
 | [], i, k, p, out, rest, hi, hq3, hk, ho, hd, hrf => by
  obtain ⟨k, rfl⟩ : ∃ k', k = k' + 1 := ⟨k - 1, by simp at hk; omega⟩
  rw [lp_succ]
  generalize lp (ref9_Model_Value_L0 rf) k = rec
  unfold ref9_Model_Value_L0
  simp only [he, Option.bind_some, hq]
  rw [decide_eq_false (show ¬ ((i : Int) < (q : Int)) by simp at hi; omega), cond_false]
  simp [valR, sizeR]
 | u :: us, i, k, p, out, rest, hi, hq3, hk, ho, hd, hrf => by
  obtain ⟨k, rfl⟩ : ∃ k', k = k' + 1 := ⟨k - 1, by simp at hk; omega⟩
  simp only [List.length_cons] at hi hk
  rw [lp_succ]
  have hd1 : r.drop p = u.codes ++ (codesR us ++ rest) := by rw [hd]; simp [codesR]
  have hd2 : r.drop (p + u.size) = codesR us ++ rest := by
   rw [← List.drop_drop, hd1, ← Tm.codes_len, List.drop_left]
  have key := fun out ho => value_args rf r E env c q e he hq hr us (i + 1) k (p + u.size) out rest (by omega) hq3 (by omega) ho hd2 (fun w hw => hrf w (List.mem_cons_of_mem _ hw))
  generalize lp (ref9_Model_Value_L0 rf) k = rec at key ⊢
  unfold ref9_Model_Value_L0
  have w : IntKind.wrap .i64 ((i : Int) + 1) = ((i + 1 : Nat) : Int) := by rw [wrap64] <;> omega
  simp only [he, Option.bind_some, hq, w]
  rw [decide_eq_true (show ((i : Int) < (q : Int)) by omega), cond_true, hrf u (List.mem_cons_self ..) p _ hd1, Option.bind_some, room_ok (by simp; omega), cond_true, key _ (by simp; omega)]
  simp [valR, sizeR, Nat.add_assoc]
theorem value_run {m : Int} (hm : 0 < m) {nums : List Int} (hn : NumsOk nums) {a0 : List QSym} (hs : SignOk a0) (r : List Int) (hr : r.length ≤ 1000) {E : List Int} (hE : EnvOk m E) : ∀ (k : Nat) (t : Tm) (p : Nat) (rest : List Int), t.size ≤ k → t.ok a0 24 → r.drop p = t.codes ++ rest →
  ref9_Model_Value_R k (m, nums, a0, r, (p : Int), E) = some (valT m nums (envF E) t, ((p + t.size : Nat) : Int)) := by
 intro k
 induction k with
 | zero => intro t p rest h; have := t.size_pos; omega
 | succ k ih =>
  intro t p rest hk ho hd
  show ref9_Model_Value_S (ref9_Model_Value_R k) m nums a0 r (p : Int) E = _
  have hp : p < r.length := by
   have := congrArg List.length hd
   rw [List.length_append, Tm.codes_len, List.length_drop] at this
   have := t.size_pos
   omega
  unfold ref9_Model_Value_S
  have w : IntKind.wrap .i64 ((p : Int) + 1) = ((p + 1 : Nat) : Int) := by rw [wrap64] <;> omega
  cases t with
  | v n =>
   have hn24 : n < 24 := ho
   have hd : r.drop p = (-1 - (n : Int)) :: rest := hd
   rw [gx_nat, drop_cons_get hd, Option.bind_some, decide_eq_true (show -1 - (n : Int) < 0 by omega), cond_true]
   have w2 : IntKind.wrap .i64 ((-1) - (-1 - (n : Int))) = (n : Int) := by rw [wrap64] <;> omega
   rw [w2, gx_nat, hE.get hn24, Option.bind_some, w]
   rfl
  | f c ts =>
   have hd : r.drop p = (c : Int) :: (codesR ts ++ rest) := hd
   have h3 : ts.length ≤ 3 := arity_le hs ho.1
   obtain ⟨e, he, hq⟩ := arity_at hs ho.1
   rw [gx_nat, drop_cons_get hd, Option.bind_some, decide_eq_false (show ¬ (c : Int) < 0 by omega), cond_false, w]
   simp only [Tm.size] at hk
   have := value_args (m := m) (nums := nums) (a0 := a0) (ref9_Model_Value_R k) r E (envF E) c ts.length e he hq hr ts 0 fuel (p + 1) [] rest (by omega) h3 (by unfold fuel; omega) rfl (drop_cons_next hd) (fun u hu p' rest' hd' => by
    refine ih u p' rest' ?_ (okR_iff.1 ho.2 u hu) hd'
    have : u.size ≤ sizeR ts := by
     obtain ⟨l1, l2, rfl⟩ := List.append_of_mem hu
     rw [sizeR_app]; simp only [sizeR]; omega
    omega)
   rw [show ((0 : Nat) : Int) = 0 from rfl] at this
   rw [this, Option.bind_some, List.nil_append]
   simp only
   rw [(look_eq m hn (c : Int) (xs := valR m nums (envF E) ts) (by rw [valR_len]; omega)).1, Option.bind_some, decide_eq_false (show ¬ (m = 0) by omega), cond_false]
   show some (_, _) = some (_, _)
   simp only [Tm.size, valT]
   rw [show p + 1 + sizeR ts = p + (sizeR ts + 1) from by omega]
theorem value_eq {m : Int} (hm : 0 < m) {nums : List Int} (hn : NumsOk nums) {a0 : List QSym} (hs : SignOk a0) {r : List Int} (hr : r.length ≤ 1000) {E : List Int} (hE : EnvOk m E) {t : Tm} {p : Nat} {rest : List Int} (ho : t.ok a0 24) (hd : r.drop p = t.codes ++ rest) :
  ref9_Model_Value m nums a0 r (p : Int) E = some (valT m nums (envF E) t, ((p + t.size : Nat) : Int)) := by
 refine value_run hm hn hs r hr hE fuel t p rest ?_ ho hd
 have := congrArg List.length hd
 rw [List.length_append, Tm.codes_len, List.length_drop] at this
 unfold fuel
 omega
theorem values_run {m : Int} (hm : 0 < m) {nums : List Int} (hn : NumsOk nums) {a0 : List QSym} (hs : SignOk a0) (r : List Int) (hr : r.length ≤ 1000) {E : List Int} (hE : EnvOk m E) : (us : List Tm) → (p k : Nat) → (out : List Int) → r.drop p = codesR us → okR a0 24 us → us.length < k → out.length + us.length ≤ 10000 →
  lp ref9_Model_Values_L0 k (a0, r, E, (p : Int), m, nums, out) = some (out ++ valR m nums (envF E) us)
 | [], p, k, out, hd, _, hk, _ => by
  obtain ⟨k, rfl⟩ : ∃ k', k = k' + 1 := ⟨k - 1, by simp at hk; omega⟩
  rw [lp_succ]
  generalize lp ref9_Model_Values_L0 k = rec
  unfold ref9_Model_Values_L0
  have : r.length ≤ p := by
   have := congrArg List.length hd
   simp [codesR] at this; omega
  rw [decide_eq_false (show ¬ ((p : Int) < ((List.length r : Nat) : Int)) by omega), cond_false]
  simp [valR]
 | u :: us, p, k, out, hd, ho, hk, hl => by
  obtain ⟨k, rfl⟩ : ∃ k', k = k' + 1 := ⟨k - 1, by simp at hk; omega⟩
  simp only [List.length_cons] at hk hl
  rw [lp_succ]
  have hd1 : r.drop p = u.codes ++ codesR us := hd
  have hd2 : r.drop (p + u.size) = codesR us := by
   rw [← List.drop_drop, hd1, ← Tm.codes_len, List.drop_left]
  have key := fun out ho' => values_run hm hn hs r hr hE us (p + u.size) k out hd2 ho.2 (by omega) ho'
  generalize lp ref9_Model_Values_L0 k = rec at key ⊢
  unfold ref9_Model_Values_L0
  have hp : p < r.length := by
   have := congrArg List.length hd1
   rw [List.length_append, Tm.codes_len, List.length_drop] at this
   have := u.size_pos
   omega
  rw [decide_eq_true (show ((p : Int) < ((List.length r : Nat) : Int)) by omega), cond_true, value_eq hm hn hs hr hE ho.1 hd1, Option.bind_some, room_ok (by simp; omega), cond_true, key _ (by simp; omega)]
  simp [valR]
theorem values_eq {m : Int} (hm : 0 < m) {nums : List Int} (hn : NumsOk nums) {a0 : List QSym} (hs : SignOk a0) {E : List Int} (hE : EnvOk m E) {us : List Tm} (ho : okR a0 24 us) (hl : (codesR us).length ≤ 1000) :
  ref9_Model_Values m nums a0 (codesR us) E = some (valR m nums (envF E) us) := by
 have h1 := cuts_len (cuts_codes us ho)
 rw [List.length_map] at h1
 unfold ref9_Model_Values
 have := values_run hm hn hs (codesR us) hl hE us 0 fuel [] rfl ho (by unfold fuel; omega) (by simp; omega)
 rw [show ((0 : Nat) : Int) = 0 from rfl] at this
 rw [this]
 rfl
def atomV (m : Int) (nums : List Int) (env : Nat → Int) (c : Nat) (ts : List Tm) : Bool :=
 cond (c == 0) ((valR m nums env ts)[0]? == (valR m nums env ts)[1]?) ((bitI .and .i64 (lookF m nums (c : Int) (valR m nums env ts)) 1).getD 0 == 1)
def tupleV (m : Int) (nums : List Int) (env : Nat → Int) (ts : List Tm) : Bool := (bitI .and .i64 (lookF m nums 101 (valR m nums env ts)) 2).getD 0 == 2
theorem atom_eq {m : Int} (hm : 0 < m) {nums : List Int} (hn : NumsOk nums) {a0 : List QSym} (hs : SignOk a0) {E : List Int} (hE : EnvOk m E) {c : Nat} {ts : List Tm} {e : QSym} (ho : okR a0 24 ts) (he : a0[c]? = some e) (hlen : ((ts.length : Nat) : Int) = e.2.2.1) (hl : (codesR ts).length ≤ 48) :
  ref9_Model_Atom m nums a0 ((c : Int) :: codesR ts) E = some (atomV m nums (envF E) c ts) := by
 have h1 := cuts_len (cuts_codes ts ho)
 rw [List.length_map] at h1
 unfold ref9_Model_Atom atomV
 rw [slc_tail, Option.bind_some, values_eq hm hn hs hE ho (by omega), Option.bind_some, gx_zero, List.getElem?_cons_zero, Option.bind_some]
 by_cases hc : c = 0
 ·subst hc
  have h2 : ts.length = 2 := by
   rw [hs.eq] at he
   injection he with he
   subst he
   have : ((ts.length : Nat) : Int) = 2 := hlen
   omega
  have hv : (valR m nums (envF E) ts).length = 2 := by rw [valR_len, h2]
  rw [show (((0 : Nat) : Int) == 0) = true from rfl, cond_true, show ((0 : Nat) == 0) = true from rfl, cond_true]
  have i0 : inR 0 (List.length (valR m nums (envF E) ts)) = some 0 := inR_nat (i := 0) (by omega)
  have i1 : inR 1 (List.length (valR m nums (envF E) ts)) = some 1 := inR_nat (i := 1) (by omega)
  rw [i0, i1]
  obtain ⟨v0, g0⟩ : ∃ v, (valR m nums (envF E) ts)[0]? = some v := ⟨_, List.getElem?_eq_getElem (by omega)⟩
  obtain ⟨v1, g1⟩ : ∃ v, (valR m nums (envF E) ts)[1]? = some v := ⟨_, List.getElem?_eq_getElem (by omega)⟩
  simp only [g0, g1, Option.bind_some]
  rfl
 ·rw [show ((c : Int) == 0) = false from by simp; omega, cond_false, show (c == 0) = false from by simp [hc], cond_false]
  simp only [Option.bind_some]
  rw [(look_eq m hn (c : Int) (xs := valR m nums (envF E) ts) (by rw [valR_len]; omega)).1, Option.bind_some]
  obtain ⟨v, hv, -⟩ := bit_and (lookF m nums (c : Int) (valR m nums (envF E) ts)) 1 (by omega)
  have hv : bitI .and .i64 (lookF m nums (c : Int) (valR m nums (envF E) ts)) 1 = some (v : Int) := hv
  rw [hv]
  rfl
theorem tuple_eq {m : Int} (hm : 0 < m) {nums : List Int} (hn : NumsOk nums) {a0 : List QSym} (hs : SignOk a0) {E : List Int} (hE : EnvOk m E) {ts : List Tm} (ho : okR a0 24 ts) (hl : (codesR ts).length ≤ 48) :
  ref9_Model_Tuple m nums a0 (codesR ts) E = some (tupleV m nums (envF E) ts) := by
 have h1 := cuts_len (cuts_codes ts ho)
 rw [List.length_map] at h1
 unfold ref9_Model_Tuple tupleV
 rw [values_eq hm hn hs hE ho (by omega), Option.bind_some, (look_eq m hn 101 (xs := valR m nums (envF E) ts) (by rw [valR_len]; omega)).1, Option.bind_some]
 obtain ⟨v, hv, -⟩ := bit_and (lookF m nums 101 (valR m nums (envF E) ts)) 2 (by omega)
 have hv : bitI .and .i64 (lookF m nums 101 (valR m nums (envF E) ts)) 2 = some (v : Int) := hv
 rw [hv]
 rfl
end
end Go.Abs.Q
namespace Go.Abs.Q
open Go Go.Abs
section
abbrev TLit := Bool × Nat × List Tm
def cl (l : TLit) : QLit := (l.1, (l.2.1 : Int) :: codesR l.2.2)
def WfL (a0 : List QSym) (l : TLit) : Prop := okR a0 24 l.2.2 ∧ (∃ e, a0[l.2.1]? = some e ∧ e.2.1 = 0 ∧ ((l.2.2.length : Nat) : Int) = e.2.2.1) ∧ (codesR l.2.2).length ≤ 48
def WfR (a0 : List QSym) (ts : List Tm) : Prop := okR a0 24 ts ∧ (codesR ts).length ≤ 48
theorem lits_tree {a0 : List QSym} : (ls : List QLit) → litsB a0 ls = true → ∃ lt : List TLit, ls = lt.map cl ∧ ∀ l ∈ lt, WfL a0 l
 | [], _ => ⟨[], rfl, fun _ h => (nomatch h)⟩
 | l :: ls, h => by
  unfold litsB at h
  rw [List.all_cons, Bool.and_eq_true] at h
  obtain ⟨lt, h1, h2⟩ := lits_tree ls h.2
  obtain ⟨c, ts, e, h3, h4, h5, h6, h7, h8, -⟩ := atom_tree h.1
  refine ⟨(l.1, c, ts) :: lt, by rw [List.map_cons, ← h1]; show l :: ls = (l.1, (c : Int) :: codesR ts) :: ls; rw [← h3], fun x hx => ?_⟩
  rcases List.mem_cons.1 hx with rfl | hx
  ·exact ⟨h4, ⟨e, h5, h6, h7⟩, h8⟩
  ·exact h2 x hx
def litV (m : Int) (nums : List Int) (env : Nat → Int) (l : TLit) : Bool := !(atomV m nums env l.2.1 l.2.2 == l.1)
def hereT (m : Int) (nums : List Int) (env : Nat → Int) (L : List TLit) (T : List (List Tm)) (C : List TLit) : Bool := !(C.all (litV m nums env)) || (L.any (litV m nums env) || T.any (tupleV m nums env))
section
variable {m : Int} (hm : 0 < m) {nums : List Int} (hn : NumsOk nums) {a0 : List QSym} (hs : SignOk a0) {E : List Int} (hE : EnvOk m E)
include hm hn hs hE
theorem lit_eq {l : TLit} (h : WfL a0 l) : ref9_Model_Lit m nums a0 (cl l).1 (cl l).2 E = some (litV m nums (envF E) l) := by
 obtain ⟨h1, ⟨e, h2, h3, h4⟩, h5⟩ := h
 unfold ref9_Model_Lit
 show (ref9_Model_Atom m nums a0 ((l.2.1 : Int) :: codesR l.2.2) E).bind _ = _
 rw [atom_eq hm hn hs hE h1 h2 h4 h5]
 rfl
theorem here_L0 : (es : List TLit) → (∀ l ∈ es, WfL a0 l) → ref9_Model_Here_L0_go a0 E m nums (es.map cl) = some (cond (es.all (litV m nums (envF E))) (.inl ()) (.inr true))
 | [], _ => rfl
 | e :: es, h => by
  rw [List.map_cons]
  unfold ref9_Model_Here_L0_go
  rw [lit_eq hm hn hs hE (h e (List.mem_cons_self ..)), Option.bind_some, here_L0 es fun l hl => h l (List.mem_cons_of_mem _ hl), List.all_cons]
  cases litV m nums (envF E) e <;> rfl
theorem here_L1 : (es : List TLit) → (∀ l ∈ es, WfL a0 l) → ref9_Model_Here_L1_go a0 E m nums (es.map cl) = some (cond (es.any (litV m nums (envF E))) (.inr true) (.inl ()))
 | [], _ => rfl
 | e :: es, h => by
  rw [List.map_cons]
  unfold ref9_Model_Here_L1_go
  rw [lit_eq hm hn hs hE (h e (List.mem_cons_self ..)), Option.bind_some, here_L1 es fun l hl => h l (List.mem_cons_of_mem _ hl), List.any_cons]
  cases litV m nums (envF E) e <;> rfl
theorem here_L2 : (es : List (List Tm)) → (∀ l ∈ es, WfR a0 l) → ref9_Model_Here_L2_go a0 E m nums (es.map codesR) = some (cond (es.any (tupleV m nums (envF E))) (.inr true) (.inl ()))
 | [], _ => rfl
 | e :: es, h => by
  rw [List.map_cons]
  unfold ref9_Model_Here_L2_go
  have he := h e (List.mem_cons_self ..)
  rw [tuple_eq hm hn hs hE he.1 he.2, Option.bind_some, here_L2 es fun l hl => h l (List.mem_cons_of_mem _ hl), List.any_cons]
  cases tupleV m nums (envF E) e <;> rfl
theorem here_eq {L : List TLit} {T : List (List Tm)} {C : List TLit} (hL : ∀ l ∈ L, WfL a0 l) (hT : ∀ r ∈ T, WfR a0 r) (hC : ∀ l ∈ C, WfL a0 l) (h1 : L.length ≤ 1000) (h2 : T.length ≤ 1000) (h3 : C.length ≤ 1000) :
  ref9_Model_Here m nums a0 (L.map cl) (T.map codesR) (C.map cl) E = some (hereT m nums (envF E) L T C) := by
 unfold ref9_Model_Here hereT
 rw [ref9_Model_Here_L0_go_at0 _ _ _ _ _ _ _ (by rw [List.length_map]; unfold maxLen; omega), here_L0 hm hn hs hE C hC, Option.bind_some]
 cases C.all (litV m nums (envF E)) with
 | false => rfl
 | true =>
  simp only [cond_true, caseS_inl]
  rw [ref9_Model_Here_L1_go_at0 _ _ _ _ _ _ _ (by rw [List.length_map]; unfold maxLen; omega), here_L1 hm hn hs hE L hL, Option.bind_some]
  cases L.any (litV m nums (envF E)) with
  | true => rfl
  | false =>
   simp only [cond_false, caseS_inl]
   rw [ref9_Model_Here_L2_go_at0 _ _ _ _ _ _ _ (by rw [List.length_map]; unfold maxLen; omega), here_L2 hm hn hs hE T hT, Option.bind_some]
   cases T.any (tupleV m nums (envF E)) <;> rfl
end
def cntV (m : Nat) (E : List Int) : List Nat → Nat
 | [] => 0
 | v :: vs => (envF E v).toNat + m * cntV m E vs
theorem cntV_ext {m : Nat} {E E' : List Int} : (vs : List Nat) → (∀ v ∈ vs, envF E v = envF E' v) → cntV m E vs = cntV m E' vs
 | [], _ => rfl
 | v :: vs, h => by
  unfold cntV
  rw [h v (List.mem_cons_self ..), cntV_ext vs fun w hw => h w (List.mem_cons_of_mem _ hw)]
theorem envF_set {E : List Int} {v w : Nat} {x : Int} (hv : v < E.length) : envF (E.set v x) w = if w = v then x else envF E w := by
 unfold envF
 rw [List.getD_eq_getElem?_getD, List.getD_eq_getElem?_getD]
 by_cases h : w = v
 ·subst h; rw [List.getElem?_set_self hv, if_pos rfl]; rfl
 ·rw [List.getElem?_set_ne (Ne.symm h), if_neg h]
theorem EnvOk.set {m : Int} {E : List Int} (h : EnvOk m E) {v : Nat} {x : Int} (hx : 0 ≤ x ∧ x < m) : EnvOk m (E.set v x) where
 len := by rw [List.length_set]; exact h.len
 rng := fun y hy => by
  rcases List.mem_or_eq_of_mem_set hy with hy | hy
  ·exact h.rng y hy
  ·rw [hy]; exact hx
theorem next_go {m : Nat} (hm : 0 < m) (hm3 : m ≤ 1000) : (vs : List Nat) → (E : List Int) → vs.Nodup → (∀ v ∈ vs, v < 24) → EnvOk (m : Int) E →
  (∃ E', ref9_Model_Next_L0_go (m : Int) (vs.map fun v : Nat => (v : Int)) E = some (.inr (true, E')) ∧ EnvOk (m : Int) E' ∧ cntV m E' vs = cntV m E vs + 1 ∧ ∀ w, w ∉ vs → envF E' w = envF E w) ∨
  (∃ E', ref9_Model_Next_L0_go (m : Int) (vs.map fun v : Nat => (v : Int)) E = some (.inl E') ∧ E'.length = 24 ∧ cntV m E vs + 1 = m ^ vs.length)
 | [], E, _, _, hE => .inr ⟨E, rfl, hE.len, rfl⟩
 | v :: vs, E, hnd, h24, hE => by
  have hnd := List.nodup_cons.1 hnd
  have hv := h24 v (List.mem_cons_self ..)
  have hx := hE.val hv
  have hlen := hE.len
  have hwx : IntKind.wrap .i64 (envF E v + 1) = envF E v + 1 := by rw [wrap64] <;> omega
  rw [List.map_cons]
  unfold ref9_Model_Next_L0_go
  have i1 : inR (v : Int) (List.length E) = some v := inR_nat (by omega)
  have i2 : inR (v : Int) (List.length (E.set v (envF E v + 1))) = some v := inR_nat (by rw [List.length_set]; omega)
  have g2 : (E.set v (envF E v + 1))[v]? = some (envF E v + 1) := List.getElem?_set_self (by omega)
  simp only [i1, hE.get hv, Option.bind_some, hwx, i2, g2, List.set_set]
  by_cases hlt : envF E v + 1 < (m : Int)
  ·rw [decide_eq_true hlt, cond_true]
   refine .inl ⟨_, rfl, hE.set ⟨by omega, hlt⟩, ?_, fun w hw => ?_⟩
   ·unfold cntV
    rw [envF_set (by omega), if_pos rfl, cntV_ext (E := E.set v (envF E v + 1)) (E' := E) vs fun w hw => by
     rw [envF_set (by omega), if_neg (show w ≠ v from fun e => hnd.1 (e ▸ hw))]]
    omega
   ·rw [envF_set (by omega), if_neg (show w ≠ v from fun e => hw (by rw [e]; exact List.mem_cons_self ..))]
  ·rw [decide_eq_false hlt, cond_false]
   have hE0 : EnvOk (m : Int) (E.set v 0) := hE.set ⟨by omega, by omega⟩
   have hnum : cntV m (E.set v 0) vs = cntV m E vs := cntV_ext vs fun w hw => by
    rw [envF_set (by omega), if_neg (show w ≠ v from fun e => hnd.1 (e ▸ hw))]
   have hxm : (envF E v).toNat + 1 = m := by omega
   rcases next_go hm hm3 vs (E.set v 0) hnd.2 (fun w hw => h24 w (List.mem_cons_of_mem _ hw)) hE0 with ⟨E', h1, h2, h3, h4⟩ | ⟨E', h1, h2, h3⟩
   ·rw [h1]
    refine .inl ⟨E', rfl, h2, ?_, fun w hw => ?_⟩
    ·unfold cntV
     rw [h3, hnum, h4 v hnd.1, envF_set (by omega), if_pos rfl, Nat.mul_add]
     simp only [Int.toNat_zero]
     omega
    ·rw [h4 w fun h => hw (List.mem_cons_of_mem _ h), envF_set (by omega), if_neg (show w ≠ v from fun e => hw (by rw [e]; exact List.mem_cons_self ..))]
   ·rw [h1]
    refine .inr ⟨E', rfl, h2, ?_⟩
    unfold cntV
    rw [hnum] at h3
    rw [List.length_cons, Nat.pow_succ, ← h3, Nat.add_mul, Nat.mul_comm m]
    omega
theorem next_spec {m : Nat} (hm : 0 < m) (hm3 : m ≤ 1000) (nums : List Int) {vs : List Nat} {E : List Int} (hnd : vs.Nodup) (h24 : ∀ v ∈ vs, v < 24) (hE : EnvOk (m : Int) E) :
  (∃ E', ref9_Model_Next (m : Int) nums (vs.map fun v : Nat => (v : Int)) E = some (true, E') ∧ EnvOk (m : Int) E' ∧ cntV m E' vs = cntV m E vs + 1 ∧ ∀ w, w ∉ vs → envF E' w = envF E w) ∨
  (∃ E', ref9_Model_Next (m : Int) nums (vs.map fun v : Nat => (v : Int)) E = some (false, E') ∧ cntV m E vs + 1 = m ^ vs.length) := by
 have hvl : vs.length ≤ 24 := by
  have := nodup_le vs (List.range 24) hnd fun v hv => List.mem_range.2 (h24 v hv)
  simpa using this
 have hne : List.isEmpty E = false := by
  cases E with
  | nil => have := hE.len; simp at this
  | cons _ _ => rfl
 unfold ref9_Model_Next
 rw [ref9_Model_Next_L0_go_at0 _ _ _ _ (by rw [List.length_map]; unfold maxLen; omega)]
 rcases next_go hm hm3 vs E hnd h24 hE with ⟨E', h1, h2, h3⟩ | ⟨E', h1, h2, h3⟩
 ·rw [h1]
  refine .inl ⟨E', ?_, h2, h3⟩
  simp only [Option.bind_some, caseS_inr, hne, Bool.not_false, Bool.and_self, cond_true, hE.len, h2.len]
  rfl
 ·rw [h1]
  refine .inr ⟨E', ?_, h3⟩
  simp only [Option.bind_some, caseS_inl, hne, Bool.not_false, Bool.and_self, cond_true, hE.len, h2]
  rfl
theorem cntV_lt {m : Nat} (hm : 0 < m) {E : List Int} (hE : EnvOk (m : Int) E) : (vs : List Nat) → (∀ v ∈ vs, v < 24) → cntV m E vs < m ^ vs.length
 | [], _ => by simp [cntV]
 | v :: vs, h => by
  have h1 := hE.val (h v (List.mem_cons_self ..))
  have h2 := cntV_lt hm hE vs fun w hw => h w (List.mem_cons_of_mem _ hw)
  unfold cntV
  rw [List.length_cons, Nat.pow_succ, Nat.mul_comm (m ^ vs.length)]
  have h3 : m * (cntV m E vs + 1) ≤ m * m ^ vs.length := Nat.mul_le_mul_left _ h2
  rw [Nat.mul_add] at h3
  omega
theorem cntV_inj {m : Nat} (hm : 0 < m) {E E' : List Int} (hE : EnvOk (m : Int) E) (hE' : EnvOk (m : Int) E') : (vs : List Nat) → (∀ v ∈ vs, v < 24) → cntV m E vs = cntV m E' vs → ∀ v ∈ vs, envF E v = envF E' v
 | [], _, _, v, hv => nomatch hv
 | v :: vs, h, he, w, hw => by
  have h1 := hE.val (h v (List.mem_cons_self ..))
  have h2 := hE'.val (h v (List.mem_cons_self ..))
  unfold cntV at he
  have e1 : ((envF E v).toNat + m * cntV m E vs) % m = (envF E v).toNat := by rw [Nat.add_mul_mod_self_left]; exact Nat.mod_eq_of_lt (by omega)
  have e2 : ((envF E' v).toNat + m * cntV m E' vs) % m = (envF E' v).toNat := by rw [Nat.add_mul_mod_self_left]; exact Nat.mod_eq_of_lt (by omega)
  have e3 : (envF E v).toNat = (envF E' v).toNat := by rw [← e1, ← e2, he]
  have e4 : cntV m E vs = cntV m E' vs := by
   have : m * cntV m E vs = m * cntV m E' vs := by omega
   exact Nat.eq_of_mul_eq_mul_left hm this
  rcases List.mem_cons.1 hw with rfl | hw
  ·omega
  ·exact cntV_inj hm hE hE' vs (fun w hw => h w (List.mem_cons_of_mem _ hw)) e4 w hw
theorem clause_rounds {m : Nat} (hm : 0 < m) (hm3 : m ≤ 1000) {nums : List Int} {a0 : List QSym} {L : List QLit} {T : List (List Int)} {C : List QLit} {vs : List Nat} (hnd : vs.Nodup) (h24 : ∀ v ∈ vs, v < 24)
  (here : List Int → Bool) (hh : ∀ E, EnvOk (m : Int) E → ref9_Model_Here (m : Int) nums a0 L T C E = some (here E)) (hext : ∀ E E', EnvOk (m : Int) E → EnvOk (m : Int) E' → (∀ v ∈ vs, envF E v = envF E' v) → here E = here E') :
  ∀ (d k : Nat) (E : List Int), EnvOk (m : Int) E → m ^ vs.length - cntV m E vs ≤ d → d < k →
   ∃ b, lp ref9_Model_Clause_L0 k (a0, vs.map (fun v : Nat => (v : Int)), (m : Int), nums, L, T, C, E) = some b ∧ (b = true ↔ ∀ E', EnvOk (m : Int) E' → cntV m E vs ≤ cntV m E' vs → here E' = true) := by
 intro d
 induction d with
 | zero =>
  intro k E hE hd
  have := cntV_lt hm hE vs h24
  omega
 | succ d ih =>
  intro k E hE hd hk
  obtain ⟨k, rfl⟩ : ∃ k', k = k' + 1 := ⟨k - 1, by omega⟩
  rw [lp_succ]
  have key := fun E hE h => ih k E hE h (by omega)
  generalize lp ref9_Model_Clause_L0 k = rec at key ⊢
  unfold ref9_Model_Clause_L0
  simp only
  rw [hh E hE, Option.bind_some]
  cases hb : here E with
  | false =>
   refine ⟨false, rfl, ?_⟩
   constructor
   ·intro h; cases h
   ·intro h; have := h E hE (Nat.le_refl _); rw [hb] at this; cases this
  | true =>
   simp only [Bool.not_true, cond_false]
   have self : ∀ E', EnvOk (m : Int) E' → cntV m E' vs = cntV m E vs → here E' = true := fun E' hE' he => by
    rw [hext E' E hE' hE (cntV_inj hm hE' hE vs h24 he), hb]
   rcases next_spec hm hm3 nums hnd h24 hE with ⟨E1, h1, h2, h3, h4⟩ | ⟨E1, h1, h2⟩
   ·rw [h1]
    simp only [Option.bind_some, Bool.not_true, cond_false]
    obtain ⟨b, g1, g2⟩ := key E1 h2 (by rw [h3]; omega)
    refine ⟨b, g1, g2.trans ⟨fun h E' hE' hle => ?_, fun h E' hE' hle => h E' hE' (by omega)⟩⟩
    rcases Nat.eq_or_lt_of_le hle with he | hlt
    ·exact self E' hE' he.symm
    ·exact h E' hE' (by omega)
   ·rw [h1]
    refine ⟨true, rfl, ⟨fun _ E' hE' hle => ?_, fun _ => rfl⟩⟩
    have := cntV_lt hm hE' vs h24
    exact self E' hE' (by omega)
end
end Go.Abs.Q
namespace Go.Abs.Q
open Go Go.Abs
section
theorem In_go (v : Nat) (hv : v < 24) : (es : List Int) → ref1_In_L0_go (v : Int) es = some (cond (decide (-1 - (v : Int) ∈ es)) (.inr true) (.inl ()))
 | [] => rfl
 | e :: es => by
  unfold ref1_In_L0_go
  have w : IntKind.wrap .i64 ((-1) - (v : Int)) = -1 - (v : Int) := by rw [wrap64] <;> omega
  rw [w, In_go v hv es]
  by_cases he : e = -1 - (v : Int)
  ·rw [show (e == -1 - (v : Int)) = true from by simp [he], decide_eq_true (show -1 - (v : Int) ∈ e :: es by rw [he]; exact List.mem_cons_self ..)]
   rfl
  ·rw [show (e == -1 - (v : Int)) = false from by simp [he], cond_false]
   by_cases hm : (-1 - (v : Int)) ∈ es
   ·rw [decide_eq_true hm, decide_eq_true (List.mem_cons_of_mem _ hm)]
   ·rw [decide_eq_false hm, decide_eq_false fun h => (List.mem_cons.1 h).elim (fun h => he h.symm) hm]
theorem ref1_In_eq {v : Nat} (hv : v < 24) {r : List Int} (hl : r.length ≤ 1000000) : ref1_In r (v : Int) = some (decide (-1 - (v : Int) ∈ r)) := by
 unfold ref1_In
 rw [ref1_In_L0_go_at0 _ _ (by unfold maxLen; omega), In_go v hv, Option.bind_some]
 cases decide (-1 - (v : Int) ∈ r) <;> rfl
def inR_ (r : List Int) (v : Nat) : Bool := decide (-1 - (v : Int) ∈ r)
theorem VarsOf_round {r : List Int} (hl : r.length ≤ 1000000) : ∀ (d v k : Nat) (out : List Int), 24 - v = d → v ≤ 24 → d < k → out.length ≤ v →
  lp ref1_VarsOf_L0 k (r, (v : Int), out) = some (out ++ (((List.range 24).drop v).filter (inR_ r)).map fun v : Nat => (v : Int)) := by
 intro d
 induction d with
 | zero =>
  intro v k out hd hv hk ho
  obtain ⟨k, rfl⟩ : ∃ k', k = k' + 1 := ⟨k - 1, by omega⟩
  rw [lp_succ]
  generalize lp ref1_VarsOf_L0 k = rec
  unfold ref1_VarsOf_L0
  have : v = 24 := by omega
  subst this
  rw [show (List.range 24).drop 24 = [] from rfl]
  simp
 | succ d ih =>
  intro v k out hd hv hk ho
  obtain ⟨k, rfl⟩ : ∃ k', k = k' + 1 := ⟨k - 1, by omega⟩
  rw [lp_succ]
  have key := fun out ho => ih (v + 1) k out (by omega) (by omega) (by omega) ho
  generalize lp ref1_VarsOf_L0 k = rec at key ⊢
  unfold ref1_VarsOf_L0
  have w : IntKind.wrap .i64 ((v : Int) + 1) = ((v + 1 : Nat) : Int) := by rw [wrap64] <;> omega
  have hdr : (List.range 24).drop v = v :: (List.range 24).drop (v + 1) := by
   rw [List.drop_eq_getElem_cons (by simp; omega)]
   simp
  simp only [decide_eq_true (show (v : Int) ≤ 23 by omega), cond_true, ref1_In_eq (show v < 24 by omega) hl, Option.bind_some, w]
  rw [hdr]
  by_cases hm : (-1 - (v : Int)) ∈ r
  ·rw [decide_eq_true hm, cond_true, room_ok (by simp; omega), cond_true, key _ (by simp; omega)]
   have : inR_ r v = true := decide_eq_true hm
   rw [List.filter_cons_of_pos this]
   simp
  ·rw [decide_eq_false hm, cond_false, key _ (by omega)]
   have : ¬ (inR_ r v = true) := by unfold inR_; rw [decide_eq_false hm]; simp
   rw [List.filter_cons_of_neg this]
theorem flat_go : (es : List (List Int)) → (out : List Int) → out.length + sumLen es ≤ 1000000 → ref8_VarsOf_L0_go es out = some (out ++ es.flatten)
 | [], out, _ => by simp [ref8_VarsOf_L0_go]
 | e :: es, out, h => by
  rw [sumLen_cons] at h
  unfold ref8_VarsOf_L0_go
  rw [room_ok (by omega), cond_true, flat_go es _ (by rw [List.length_append]; omega)]
  simp
def varsN (L : List QLit) (T : List (List Int)) (C : List QLit) : List Nat := (List.range 24).filter (inR_ (L.map (·.2) ++ T ++ C.map (·.2)).flatten)
theorem varsN_nodup (L : List QLit) (T : List (List Int)) (C : List QLit) : (varsN L T C).Nodup := List.nodup_range.sublist List.filter_sublist
theorem varsN_lt {L : List QLit} {T : List (List Int)} {C : List QLit} : ∀ v ∈ varsN L T C, v < 24 := fun v hv => List.mem_range.1 (List.mem_filter.1 hv).1
theorem varsN_mem {L : List QLit} {T : List (List Int)} {C : List QLit} {v : Nat} (hv : v < 24) : v ∈ varsN L T C ↔ VarR (rowsOf L T C) (v : Int) := by
 unfold varsN inR_
 rw [List.mem_filter]
 simp only [List.mem_range, hv, true_and, decide_eq_true_eq, List.mem_flatten]
 constructor
 ·rintro ⟨r, hr, hc⟩
  refine ⟨r, ?_, _, hc, by omega, by omega⟩
  unfold rowsOf
  simp only [List.mem_append] at hr ⊢
  rcases hr with (hr | hr) | hr
  ·exact .inl (.inl hr)
  ·exact .inr hr
  ·exact .inl (.inr hr)
 ·rintro ⟨r, hr, c, hc, h0, he⟩
  refine ⟨r, ?_, by rw [show -1 - (v : Int) = c from by omega]; exact hc⟩
  unfold rowsOf at hr
  simp only [List.mem_append] at hr ⊢
  rcases hr with (hr | hr) | hr
  ·exact .inl (.inl hr)
  ·exact .inr hr
  ·exact .inl (.inr hr)
theorem ref8_VarsOf_eq {L : List QLit} {T : List (List Int)} {C : List QLit} (h1 : L.length ≤ 1000) (h2 : T.length ≤ 1000) (h3 : C.length ≤ 1000) (hl : sumLen (L.map (·.2)) + sumLen T + sumLen (C.map (·.2)) ≤ 1000000) :
  ref8_VarsOf L T C = some ((varsN L T C).map fun v : Nat => (v : Int)) := by
 unfold ref8_VarsOf
 rw [ref8_rows_eq L T C h1 h2 h3, Option.bind_some, ref8_VarsOf_L0_go_at0 _ _ (by simp; unfold maxLen; omega), flat_go _ _ (by rw [sumLen_append, sumLen_append]; simp; omega), Option.bind_some]
 unfold ref1_VarsOf
 have hf : ((L.map (·.2) ++ T ++ C.map (·.2)).flatten).length ≤ 1000000 := by
  rw [← sum_flat, sumLen_append, sumLen_append]; omega
 have := VarsOf_round hf 24 0 fuel [] rfl (by omega) (by unfold fuel; omega) (by simp)
 rw [show ((0 : Nat) : Int) = 0 from rfl, List.drop_zero] at this
 simp only [List.nil_append] at this ⊢
 rw [this]
 rfl
def VarT (L : List TLit) (T : List (List Tm)) (C : List TLit) (x : Nat) : Prop := (∃ l ∈ L, hasR x l.2.2) ∨ (∃ r ∈ T, hasR x r) ∨ ∃ l ∈ C, hasR x l.2.2
theorem VarC_cl {l : TLit} {x : Nat} : VarC (cl l).2 (x : Int) ↔ hasR x l.2.2 := by
 constructor
 ·rintro ⟨c, hc, h0, he⟩
  rcases List.mem_cons.1 hc with rfl | hc
  ·omega
  ·obtain ⟨k, h1, h2⟩ := VarC_codes.1 ⟨c, hc, h0, he⟩
   have : x = k := by omega
   rw [this]; exact h2
 ·intro h
  obtain ⟨c, hc, h0, he⟩ := VarC_codes.2 ⟨x, rfl, h⟩
  exact ⟨c, List.mem_cons_of_mem _ hc, h0, he⟩
theorem VarR_tree {L : List TLit} {T : List (List Tm)} {C : List TLit} {x : Nat} : VarR (rowsOf (L.map cl) (T.map codesR) (C.map cl)) (x : Int) ↔ VarT L T C x := by
 unfold rowsOf VarT
 rw [VarR_append, VarR_append]
 constructor
 ·rintro ((⟨r, hr, h⟩ | ⟨r, hr, h⟩) | ⟨r, hr, h⟩)
  ·obtain ⟨q, hq, rfl⟩ := List.mem_map.1 hr
   obtain ⟨l, hl, rfl⟩ := List.mem_map.1 hq
   exact .inl ⟨l, hl, VarC_cl.1 h⟩
  ·obtain ⟨q, hq, rfl⟩ := List.mem_map.1 hr
   obtain ⟨l, hl, rfl⟩ := List.mem_map.1 hq
   exact .inr (.inr ⟨l, hl, VarC_cl.1 h⟩)
  ·obtain ⟨l, hl, rfl⟩ := List.mem_map.1 hr
   obtain ⟨k, h1, h2⟩ := VarC_codes.1 h
   have : x = k := by omega
   exact .inr (.inl ⟨l, hl, by rw [this]; exact h2⟩)
 ·rintro (⟨l, hl, h⟩ | ⟨r, hr, h⟩ | ⟨l, hl, h⟩)
  ·exact .inl (.inl ⟨_, List.mem_map_of_mem (List.mem_map_of_mem hl), VarC_cl.2 h⟩)
  ·exact .inr ⟨_, List.mem_map_of_mem hr, VarC_codes.2 ⟨x, rfl, h⟩⟩
  ·exact .inl (.inr ⟨_, List.mem_map_of_mem (List.mem_map_of_mem hl), VarC_cl.2 h⟩)
theorem litV_ext {m : Int} {nums : List Int} {e e' : Nat → Int} {l : TLit} (h : ∀ x, hasR x l.2.2 → e x = e' x) : litV m nums e l = litV m nums e' l := by
 unfold litV atomV
 rw [valR_ext m nums l.2.2 h]
theorem tupleV_ext {m : Int} {nums : List Int} {e e' : Nat → Int} {r : List Tm} (h : ∀ x, hasR x r → e x = e' x) : tupleV m nums e r = tupleV m nums e' r := by
 unfold tupleV
 rw [valR_ext m nums r h]
theorem all_congr {α : Type} {p q : α → Bool} {l : List α} (h : ∀ x ∈ l, p x = q x) : l.all p = l.all q := by
 induction l with
 | nil => rfl
 | cons a l ih => rw [List.all_cons, List.all_cons, h a (List.mem_cons_self ..), ih fun x hx => h x (List.mem_cons_of_mem _ hx)]
theorem any_congr {α : Type} {p q : α → Bool} {l : List α} (h : ∀ x ∈ l, p x = q x) : l.any p = l.any q := by
 induction l with
 | nil => rfl
 | cons a l ih => rw [List.any_cons, List.any_cons, h a (List.mem_cons_self ..), ih fun x hx => h x (List.mem_cons_of_mem _ hx)]
theorem hereT_ext {m : Int} {nums : List Int} {e e' : Nat → Int} {L : List TLit} {T : List (List Tm)} {C : List TLit} (h : ∀ x, VarT L T C x → e x = e' x) : hereT m nums e L T C = hereT m nums e' L T C := by
 unfold hereT
 rw [all_congr (l := C) fun l hl => litV_ext fun x hx => h x (.inr (.inr ⟨l, hl, hx⟩)), any_congr (l := L) fun l hl => litV_ext fun x hx => h x (.inl ⟨l, hl, hx⟩),
  any_congr (l := T) fun r hr => tupleV_ext fun x hx => h x (.inr (.inl ⟨r, hr, hx⟩))]
theorem Clause_spec {m : Nat} (hm : 0 < m) (hm3 : m ≤ 3) {nums : List Int} (hn : NumsOk nums) {a0 : List QSym} (hs : SignOk a0) {L : List TLit} {T : List (List Tm)} {C : List TLit} (hmay : mayB a0 (L.map cl) (T.map codesR) (C.map cl) = true) (hL : ∀ l ∈ L, WfL a0 l) (hT : ∀ r ∈ T, WfR a0 r) (hC : ∀ l ∈ C, WfL a0 l) :
  ∃ b, ref9_Model_Clause (m : Int) nums a0 (L.map cl) (T.map codesR) (C.map cl) = some b ∧ (b = true ↔ ∀ E, EnvOk (m : Int) E → hereT (m : Int) nums (envF E) L T C = true) := by
 obtain ⟨-, h1, h2, h3, -, -, -, h7⟩ := mayB_spec hmay
 simp only [List.length_map] at h1 h2 h3
 have hE0 : EnvOk (m : Int) (List.replicate 24 (0 : Int)) := ⟨by simp, fun x hx => by have := List.eq_of_mem_replicate hx; omega⟩
 have h0 : cntV m (List.replicate 24 (0 : Int)) (varsN (L.map cl) (T.map codesR) (C.map cl)) = 0 := by
  generalize varsN (L.map cl) (T.map codesR) (C.map cl) = vs
  induction vs with
  | nil => rfl
  | cons v vs ih =>
   unfold cntV
   rw [ih]
   have : envF (List.replicate 24 (0 : Int)) v = 0 := by
    unfold envF
    rw [List.getD_eq_getElem?_getD, List.getElem?_replicate]
    split <;> rfl
   rw [this]
   simp
 have hvar : ∀ x, VarT L T C x → x ∈ varsN (L.map cl) (T.map codesR) (C.map cl) := fun x hx => by
  have hx := VarR_tree.2 hx
  have := varR_lt hmay hx
  exact (varsN_mem (by omega)).2 hx
 have hvl : (varsN (L.map cl) (T.map codesR) (C.map cl)).length ≤ 24 := by
  have := nodup_le _ (List.range 24) (varsN_nodup (L.map cl) (T.map codesR) (C.map cl)) fun v hv => List.mem_range.2 (varsN_lt v hv)
  simpa using this
 obtain ⟨b, g1, g2⟩ := clause_rounds hm (by omega) (nums := nums) (a0 := a0) (L := L.map cl) (T := T.map codesR) (C := C.map cl) (varsN_nodup (L.map cl) (T.map codesR) (C.map cl)) varsN_lt
  (fun E => hereT (m : Int) nums (envF E) L T C) (fun E hE => here_eq (by omega) hn hs hE hL hT hC (by omega) (by omega) (by omega))
  (fun E E' _ _ h => hereT_ext fun x hx => h x (hvar x hx)) (m ^ (varsN (L.map cl) (T.map codesR) (C.map cl)).length) fuel (List.replicate 24 (0 : Int)) hE0 (by omega) (by
   have e1 : m ^ (varsN (L.map cl) (T.map codesR) (C.map cl)).length ≤ 3 ^ (varsN (L.map cl) (T.map codesR) (C.map cl)).length := Nat.pow_le_pow_left hm3 _
   have e2 : 3 ^ (varsN (L.map cl) (T.map codesR) (C.map cl)).length ≤ 3 ^ 24 := Nat.pow_le_pow_right (by omega) hvl
   have e3 : (3 : Nat) ^ 24 = 282429536481 := by decide
   unfold fuel
   omega)
 refine ⟨b, ?_, g2.trans ⟨fun h E hE => h E hE (by rw [h0]; omega), fun h E hE _ => h E hE⟩⟩
 unfold ref9_Model_Clause
 rw [ref8_VarsOf_eq (by rw [List.length_map]; omega) (by rw [List.length_map]; omega) (by rw [List.length_map]; omega) (by omega), Option.bind_some]
 have he : ref9_Env = some (List.replicate 24 (0 : Int)) := rfl
 rw [he, Option.bind_some, g1]
 rfl
end
end Go.Abs.Q
namespace Go.Abs.Q
open Go Go.Abs
section
abbrev RenS := List Int × Int
def rho (s : RenS) (v : Nat) : Nat := (s.1.getD v 0).toNat - 1
structure RenI (s : RenS) : Prop where
 len : s.1.length = 24
 rng : ∀ v, 0 ≤ s.1.getD v 0 ∧ s.1.getD v 0 ≤ s.2
 inj : ∀ v w, s.1.getD v 0 = s.1.getD w 0 → s.1.getD v 0 ≠ 0 → v = w
 cnt : ((s.1.countP (fun x => x != 0) : Nat) : Int) = s.2
def ExtS (s s' : RenS) : Prop := ∀ v, s.1.getD v 0 ≠ 0 → s'.1.getD v 0 = s.1.getD v 0
theorem ExtS.refl (s : RenS) : ExtS s s := fun _ _ => rfl
theorem ExtS.trans {s t u : RenS} (h : ExtS s t) (h' : ExtS t u) : ExtS s u := fun v hv => (h' v (by rw [h v hv]; exact hv)).trans (h v hv)
theorem RenI.next {s : RenS} (h : RenI s) : 0 ≤ s.2 ∧ s.2 ≤ 24 := by
 have h1 := h.cnt
 have h2 : s.1.countP (fun x => x != 0) ≤ s.1.length := List.countP_le_length
 rw [h.len] at h2
 omega
theorem RenI.rho_lt {s : RenS} (h : RenI s) {v : Nat} (hv : s.1.getD v 0 ≠ 0) : rho s v < 24 := by
 have h1 := h.rng v
 have h2 := h.next
 unfold rho
 omega
theorem RenI.rho_inj {s : RenS} (h : RenI s) {v w : Nat} (hv : s.1.getD v 0 ≠ 0) (hw : s.1.getD w 0 ≠ 0) (he : rho s v = rho s w) : v = w := by
 have h1 := h.rng v
 have h2 := h.rng w
 unfold rho at he
 exact h.inj v w (by omega) hv
theorem ren0 : RenI (List.replicate 24 (0 : Int), 0) where
 len := by simp
 rng := fun v => by
  rw [List.getD_eq_getElem?_getD, List.getElem?_replicate]
  split <;> simp
 inj := fun v w _ h => by
  exfalso
  apply h
  rw [List.getD_eq_getElem?_getD, List.getElem?_replicate]
  split <;> rfl
 cnt := by decide
theorem countP_set {xs : List Int} {v : Nat} {y : Int} (hv : xs[v]? = some 0) (hy : y ≠ 0) : (xs.set v y).countP (fun x => x != 0) = xs.countP (fun x => x != 0) + 1 := by
 obtain ⟨hx, he⟩ := List.getElem?_eq_some_iff.1 hv
 have h1 := List.take_append_drop v xs
 have h2 : xs.drop v = 0 :: xs.drop (v + 1) := by rw [List.drop_eq_getElem_cons hx, he]
 have h3 : xs.set v y = xs.take v ++ y :: xs.drop (v + 1) := by rw [List.set_eq_take_append_cons_drop, if_pos hx]
 conv => rhs; rw [← h1, h2]
 rw [h3]
 simp [List.countP_append, List.countP_cons, hy]
 omega
theorem getD_set {xs : List Int} {v w : Nat} {y : Int} (hv : v < xs.length) : (xs.set v y).getD w 0 = if w = v then y else xs.getD w 0 := by
 rw [List.getD_eq_getElem?_getD, List.getD_eq_getElem?_getD]
 by_cases h : w = v
 ·subst h; rw [List.getElem?_set_self hv, if_pos rfl]; rfl
 ·rw [List.getElem?_set_ne (Ne.symm h), if_neg h]
theorem ren1_spec {s : RenS} (h : RenI s) {c : Int} (hc : -24 ≤ c) : RenI (ren1 s c).2 ∧ ExtS s (ren1 s c).2 ∧ (c < 0 → (ren1 s c).2.1.getD (-1 - c).toNat 0 ≠ 0) ∧ ∀ f, ExtS (ren1 s c).2 f → [(ren1 s c).1] = expC (fun v => .v (rho f v)) c := by
 unfold ren1
 by_cases h0 : c ≥ 0
 ·rw [decide_eq_true h0, cond_true]
  refine ⟨h, ExtS.refl s, fun h1 => by omega, fun f _ => ?_⟩
  unfold expC
  rw [if_neg (by omega)]
 ·rw [decide_eq_false h0, cond_false]
  have hv : (-1 - c).toNat < s.1.length := by rw [h.len]; omega
  have hexp : ∀ f : RenS, expC (fun v => .v (rho f v)) c = [-1 - ((rho f (-1 - c).toNat : Nat) : Int)] := fun f => by
   unfold expC
   rw [if_pos (by omega)]
   rfl
  by_cases hz : s.1.getD (-1 - c).toNat 0 = 0
  ·rw [show (s.1.getD (-1 - c).toNat 0 == 0) = true from by rw [hz]; rfl, cond_true]
   have hn := h.next
   have hget : s.1[(-1 - c).toNat]? = some 0 := by
    rw [List.getD_eq_getElem?_getD, List.getElem?_eq_getElem hv] at hz
    rw [List.getElem?_eq_getElem hv]
    exact congrArg some hz
   refine ⟨⟨by simpa using h.len, fun v => ?_, fun v w he hnz => ?_, ?_⟩, fun v hvz => ?_, fun _ => ?_, fun f hf => ?_⟩
   ·show 0 ≤ (s.1.set _ _).getD v 0 ∧ (s.1.set _ _).getD v 0 ≤ s.2 + 1
    rw [getD_set hv]
    have := h.rng v
    split <;> omega
   ·have he : (s.1.set (-1 - c).toNat (s.2 + 1)).getD v 0 = (s.1.set (-1 - c).toNat (s.2 + 1)).getD w 0 := he
    have hnz : (s.1.set (-1 - c).toNat (s.2 + 1)).getD v 0 ≠ 0 := hnz
    rw [getD_set hv] at he hnz
    rw [getD_set hv] at he
    have h1 := h.rng v
    have h2 := h.rng w
    by_cases e1 : v = (-1 - c).toNat
    ·rw [if_pos e1] at he hnz
     by_cases e2 : w = (-1 - c).toNat
     ·rw [e1, e2]
     ·rw [if_neg e2] at he; omega
    ·rw [if_neg e1] at he hnz
     by_cases e2 : w = (-1 - c).toNat
     ·rw [if_pos e2] at he; omega
     ·rw [if_neg e2] at he
      exact h.inj v w he hnz
   ·show (((s.1.set (-1 - c).toNat (s.2 + 1)).countP (fun x => x != 0) : Nat) : Int) = s.2 + 1
    rw [countP_set hget (by omega), ← h.cnt]
    omega
   ·show (s.1.set _ _).getD v 0 = _
    rw [getD_set hv]
    split
    ·rename_i e; rw [e, hz] at hvz; exact absurd rfl hvz
    ·rfl
   ·show (s.1.set _ _).getD _ 0 ≠ 0
    rw [getD_set hv, if_pos rfl]
    omega
   ·rw [hexp]
    have hf2 := hf (-1 - c).toNat (by
     show (s.1.set _ _).getD _ 0 ≠ 0
     rw [getD_set hv, if_pos rfl]
     omega)
    have hf2 : f.1.getD (-1 - c).toNat 0 = (s.1.set (-1 - c).toNat (s.2 + 1)).getD (-1 - c).toNat 0 := hf2
    rw [getD_set hv, if_pos rfl] at hf2
    unfold rho
    rw [hf2]
    show [-(s.2 + 1)] = _
    congr 1
    omega
  ·rw [show (s.1.getD (-1 - c).toNat 0 == 0) = false from by simpa using hz, cond_false]
   refine ⟨h, ExtS.refl s, fun _ => hz, fun f hf => ?_⟩
   rw [hexp]
   have hf2 : f.1.getD (-1 - c).toNat 0 = s.1.getD (-1 - c).toNat 0 := hf _ hz
   have := h.rng (-1 - c).toNat
   unfold rho
   rw [hf2]
   show [-(s.1.getD (-1 - c).toNat 0)] = _
   congr 1
   omega
theorem renR_spec : (r : List Int) → {s : RenS} → RenI s → (∀ c ∈ r, -24 ≤ c) → RenI (renR s r).2 ∧ ExtS s (renR s r).2 ∧ (∀ x, VarC r x → (renR s r).2.1.getD x.toNat 0 ≠ 0) ∧ ∀ f, ExtS (renR s r).2 f → (renR s r).1 = subCs (fun v => .v (rho f v)) r
 | [], s, h, _ => ⟨h, ExtS.refl s, fun x ⟨c, hc, _⟩ => (nomatch hc), fun _ _ => rfl⟩
 | c :: r, s, h, hc => by
  obtain ⟨h1, h2, h3, h4⟩ := ren1_spec h (hc c (List.mem_cons_self ..))
  obtain ⟨g1, g2, g3, g4⟩ := renR_spec r h1 fun d hd => hc d (List.mem_cons_of_mem _ hd)
  refine ⟨g1, h2.trans g2, fun x ⟨d, hd, hd0, hx⟩ => ?_, fun f hf => ?_⟩
  ·rcases List.mem_cons.1 hd with rfl | hd
   ·subst hx
    show (renR (ren1 s d).2 r).2.1.getD (-1 - d).toNat 0 ≠ 0
    rw [g2 _ (h3 hd0)]
    exact h3 hd0
   ·exact g3 x ⟨d, hd, hd0, hx⟩
  ·have hf : ExtS (renR (ren1 s c).2 r).2 f := hf
   show (ren1 s c).1 :: (renR (ren1 s c).2 r).1 = _
   unfold subCs
   rw [List.flatMap_cons, ← h4 f (g2.trans hf), g4 f hf]
   rfl
theorem renLs_spec : (ls : List QLit) → {s : RenS} → RenI s → (∀ l ∈ ls, ∀ c ∈ l.2, -24 ≤ c) → RenI (renLs s ls).2 ∧ ExtS s (renLs s ls).2 ∧ (∀ x, VarR (ls.map (·.2)) x → (renLs s ls).2.1.getD x.toNat 0 ≠ 0) ∧ ∀ f, ExtS (renLs s ls).2 f → (renLs s ls).1 = subLs (fun v => .v (rho f v)) ls
 | [], s, h, _ => ⟨h, ExtS.refl s, fun x ⟨c, hc, _⟩ => (nomatch hc), fun _ _ => rfl⟩
 | l :: ls, s, h, hc => by
  obtain ⟨h1, h2, h3, h4⟩ := renR_spec l.2 h (hc l (List.mem_cons_self ..))
  obtain ⟨g1, g2, g3, g4⟩ := renLs_spec ls h1 fun d hd => hc d (List.mem_cons_of_mem _ hd)
  refine ⟨g1, h2.trans g2, fun x hx => ?_, fun f hf => ?_⟩
  ·rw [List.map_cons, VarR_cons] at hx
   rcases hx with hx | hx
   ·show (renLs (renR s l.2).2 ls).2.1.getD x.toNat 0 ≠ 0
    rw [g2 _ (h3 x hx)]
    exact h3 x hx
   ·exact g3 x hx
  ·have hf : ExtS (renLs (renR s l.2).2 ls).2 f := hf
   show (l.1, (renR s l.2).1) :: (renLs (renR s l.2).2 ls).1 = _
   rw [h4 f (g2.trans hf), g4 f hf]
   rfl
theorem renRs_spec : (ls : List (List Int)) → {s : RenS} → RenI s → (∀ l ∈ ls, ∀ c ∈ l, -24 ≤ c) → RenI (renRs s ls).2 ∧ ExtS s (renRs s ls).2 ∧ (∀ x, VarR ls x → (renRs s ls).2.1.getD x.toNat 0 ≠ 0) ∧ ∀ f, ExtS (renRs s ls).2 f → (renRs s ls).1 = ls.map (subCs (fun v => .v (rho f v)))
 | [], s, h, _ => ⟨h, ExtS.refl s, fun x ⟨c, hc, _⟩ => (nomatch hc), fun _ _ => rfl⟩
 | l :: ls, s, h, hc => by
  obtain ⟨h1, h2, h3, h4⟩ := renR_spec l h (hc l (List.mem_cons_self ..))
  obtain ⟨g1, g2, g3, g4⟩ := renRs_spec ls h1 fun d hd => hc d (List.mem_cons_of_mem _ hd)
  refine ⟨g1, h2.trans g2, fun x hx => ?_, fun f hf => ?_⟩
  ·rw [VarR_cons] at hx
   rcases hx with hx | hx
   ·show (renRs (renR s l).2 ls).2.1.getD x.toNat 0 ≠ 0
    rw [g2 _ (h3 x hx)]
    exact h3 x hx
   ·exact g3 x hx
  ·have hf : ExtS (renRs (renR s l).2 ls).2 f := hf
   show (renR s l).1 :: (renRs (renR s l).2 ls).1 = _
   rw [h4 f (g2.trans hf), g4 f hf]
   rfl
theorem normC_ren {L : List QLit} {T : List (List Int)} {C : List QLit} (hc : ∀ r ∈ rowsOf L T C, ∀ c ∈ r, -24 ≤ c) : ∃ ρ : Nat → Nat,
  normC L T C = (subLs (fun v => .v (ρ v)) (onceL L []), (onceL T []).map (subCs (fun v => .v (ρ v))), subLs (fun v => .v (ρ v)) (onceL C [])) ∧
  (∀ x, VarR (rowsOf L T C) x → ρ x.toNat < 24) ∧ ∀ x y, VarR (rowsOf L T C) x → VarR (rowsOf L T C) y → ρ x.toNat = ρ y.toNat → x.toNat = y.toNat := by
 have mL : ∀ l, l ∈ onceL L [] ↔ l ∈ L := fun l => by simpa using onceL_mem (x := l) L []
 have mT : ∀ l, l ∈ onceL T [] ↔ l ∈ T := fun l => by simpa using onceL_mem (x := l) T []
 have mC : ∀ l, l ∈ onceL C [] ↔ l ∈ C := fun l => by simpa using onceL_mem (x := l) C []
 obtain ⟨a1, a2, a3, a4⟩ := renLs_spec (onceL L []) ren0 fun l hl => hc _ (mem_rows_lit ((mL l).1 hl))
 obtain ⟨b1, b2, b3, b4⟩ := renRs_spec (onceL T []) a1 fun l hl => hc _ (mem_rows_row ((mT l).1 hl))
 obtain ⟨c1, c2, c3, c4⟩ := renLs_spec (onceL C []) b1 fun l hl => hc _ (mem_rows_cond ((mC l).1 hl))
 have nz : ∀ x, VarR (rowsOf L T C) x → (renLs (renRs (renLs (List.replicate 24 0, 0) (onceL L [])).2 (onceL T [])).2 (onceL C [])).2.1.getD x.toNat 0 ≠ 0 := by
  intro x hx
  unfold rowsOf at hx
  rw [VarR_append, VarR_append] at hx
  rcases hx with (⟨r, hr, hx⟩ | ⟨r, hr, hx⟩) | ⟨r, hr, hx⟩
  ·obtain ⟨l, hl, rfl⟩ := List.mem_map.1 hr
   have := a3 x ⟨_, List.mem_map_of_mem ((mL l).2 hl), hx⟩
   rw [c2 _ (by rw [b2 _ this]; exact this), b2 _ this]
   exact this
  ·obtain ⟨l, hl, rfl⟩ := List.mem_map.1 hr
   exact c3 x ⟨_, List.mem_map_of_mem ((mC l).2 hl), hx⟩
  ·have := b3 x ⟨_, (mT r).2 hr, hx⟩
   rw [c2 _ this]
   exact this
 refine ⟨rho (renLs (renRs (renLs (List.replicate 24 0, 0) (onceL L [])).2 (onceL T [])).2 (onceL C [])).2, ?_, fun x hx => c1.rho_lt (nz x hx), fun x y hx hy he => c1.rho_inj (nz x hx) (nz y hy) he⟩
 unfold normC renC
 rw [a4 _ (b2.trans c2), b4 _ c2, c4 _ (ExtS.refl _)]
def subTL (s : Sb) (l : TLit) : TLit := (l.1, l.2.1, subR s l.2.2)
theorem subLs_cl (s : Sb) (ls : List TLit) : subLs s (ls.map cl) = (ls.map (subTL s)).map cl := by
 unfold subLs
 rw [List.map_map, List.map_map]
 refine List.map_congr_left fun l _ => ?_
 show (l.1, subCs s ((l.2.1 : Int) :: codesR l.2.2)) = (l.1, (l.2.1 : Int) :: codesR (subR s l.2.2))
 rw [codesR_sub]
 unfold subCs
 rw [List.flatMap_cons]
 have : expC s (l.2.1 : Int) = [(l.2.1 : Int)] := by unfold expC; rw [if_neg (by omega)]
 rw [this]
 rfl
theorem subRs_codes (s : Sb) (rs : List (List Tm)) : (rs.map codesR).map (subCs s) = (rs.map (subR s)).map codesR := by
 rw [List.map_map, List.map_map]
 refine List.map_congr_left fun r _ => ?_
 show subCs s (codesR r) = codesR (subR s r)
 rw [codesR_sub]
 rfl
theorem litV_sub {m : Int} {nums : List Int} {env : Nat → Int} (s : Sb) (l : TLit) : litV m nums env (subTL s l) = litV m nums (fun n => valT m nums env (s n)) l := by
 unfold litV atomV subTL
 rw [valR_sub]
theorem tupleV_sub {m : Int} {nums : List Int} {env : Nat → Int} (s : Sb) (r : List Tm) : tupleV m nums env (subR s r) = tupleV m nums (fun n => valT m nums env (s n)) r := by
 unfold tupleV
 rw [valR_sub]
theorem hereT_sub {m : Int} {nums : List Int} {env : Nat → Int} (s : Sb) (L : List TLit) (T : List (List Tm)) (C : List TLit) : hereT m nums env (L.map (subTL s)) (T.map (subR s)) (C.map (subTL s)) = hereT m nums (fun n => valT m nums env (s n)) L T C := by
 unfold hereT
 rw [List.all_map, List.any_map, List.any_map, all_congr (l := C) (p := litV m nums env ∘ subTL s) (q := litV m nums fun n => valT m nums env (s n)) fun l _ => litV_sub s l,
  any_congr (l := L) (p := litV m nums env ∘ subTL s) (q := litV m nums fun n => valT m nums env (s n)) fun l _ => litV_sub s l, any_congr (l := T) (p := tupleV m nums env ∘ subR s) (q := tupleV m nums fun n => valT m nums env (s n)) fun r _ => tupleV_sub s r]
end
end Go.Abs.Q
namespace Go.Abs.Q
open Go Go.Abs
section
theorem rowW_codes {a0 : List QSym} (hb : signB a0 = true) {ts : List Tm} (h : WfR a0 ts) : rowW a0 (codesR ts) = some ts.length := by
 unfold rowW beginsB
 rw [hb, decide_eq_true h.2, cuts_codes ts h.1]
 simp
theorem rowsB_of {a0 : List QSym} {rs : List (List Int)} {n : Nat} (h : ∀ r ∈ rs, rowW a0 r = some n) : rowsB a0 rs = true := by
 cases rs with
 | nil => rfl
 | cons r rs =>
  unfold rowsB
  show (match rowW a0 r with | none => false | some n => rs.all fun q => rowW a0 q == some n) = true
  rw [h r (List.mem_cons_self ..)]
  exact List.all_eq_true.2 fun q hq => by rw [h q (List.mem_cons_of_mem _ hq)]; simp
theorem atom_of_wf {a0 : List QSym} (hb : signB a0 = true) {l : TLit} (h : WfL a0 l) : atomB a0 (cl l).2 = true := by
 obtain ⟨h1, ⟨e, h2, h3, h4⟩, h5⟩ := h
 exact atomT_mk h1 h2 h3 h4 h5 hb
theorem cl_inj {a0 : List QSym} {l k : TLit} (hl : WfL a0 l) (hk : WfL a0 k) (h : cl l = cl k) : l = k := by
 obtain ⟨n, c, ts⟩ := l
 obtain ⟨n', c', us⟩ := k
 have h : ((n, (c : Int) :: codesR ts) : QLit) = (n', (c' : Int) :: codesR us) := h
 injection h with h1 h2
 injection h2 with h2 h3
 have h3 := codesR_inj _ ts us (Nat.le_refl _) hl.1 hk.1 h3
 have : c = c' := by omega
 rw [h1, this, h3]
theorem pick_tree {α β : Type} (f : α → β) {as : List α} : (bs : List β) → (∀ b ∈ bs, b ∈ as.map f) → ∃ as' : List α, bs = as'.map f ∧ ∀ a ∈ as', a ∈ as
 | [], _ => ⟨[], rfl, fun _ h => (nomatch h)⟩
 | b :: bs, h => by
  obtain ⟨as', h1, h2⟩ := pick_tree f bs fun x hx => h x (List.mem_cons_of_mem _ hx)
  obtain ⟨a, ha, rfl⟩ := List.mem_map.1 (h b (List.mem_cons_self ..))
  refine ⟨a :: as', by rw [List.map_cons, ← h1], fun x hx => ?_⟩
  rcases List.mem_cons.1 hx with rfl | hx
  ·exact ha
  ·exact h2 x hx
theorem any_mem {α : Type} {p : α → Bool} {a b : List α} (h : ∀ x, x ∈ a ↔ x ∈ b) : a.any p = b.any p := by
 rw [Bool.eq_iff_iff, List.any_eq_true, List.any_eq_true]
 exact ⟨fun ⟨x, hx, hp⟩ => ⟨x, (h x).1 hx, hp⟩, fun ⟨x, hx, hp⟩ => ⟨x, (h x).2 hx, hp⟩⟩
theorem all_mem {α : Type} {p : α → Bool} {a b : List α} (h : ∀ x, x ∈ a ↔ x ∈ b) : a.all p = b.all p := by
 rw [Bool.eq_iff_iff, List.all_eq_true, List.all_eq_true]
 exact ⟨fun H x hx => H x ((h x).2 hx), fun H x hx => H x ((h x).1 hx)⟩
theorem once_sum {α : Type} [DecidableEq α] (f : α → Nat) : (es out : List α) → ((onceL es out).map f).sum ≤ (out.map f).sum + (es.map f).sum
 | [], out => by simp [onceL]
 | e :: es, out => by
  unfold onceL
  by_cases h : e ∈ out
  ·rw [decide_eq_true h, cond_true]
   have := once_sum f es out
   simp only [List.map_cons, List.sum_cons]
   omega
  ·rw [decide_eq_false h, cond_false]
   have := once_sum f es (out ++ [e])
   simp only [List.map_cons, List.sum_cons, List.map_append, List.sum_append, List.map_nil, List.sum_nil] at this ⊢
   omega
abbrev vS (ρ : Nat → Nat) : Sb := fun v => .v (ρ v)
theorem vS_len (ρ : Nat → Nat) (r : List Int) : (subCs (vS ρ) r).length = r.length := by
 unfold subCs
 induction r with
 | nil => rfl
 | cons c r ih =>
  rw [List.flatMap_cons, List.length_append, ih, List.length_cons]
  unfold expC
  split
  ·simp [Tm.codes]; omega
  ·simp; omega
theorem wfR_vS {a0 : List QSym} {ρ : Nat → Nat} {ts : List Tm} (h : WfR a0 ts) (hρ : ∀ x, hasR x ts → ρ x < 24) : WfR a0 (subR (vS ρ) ts) := by
 refine ⟨okR_sub ts h.1 fun x hx => hρ x hx, ?_⟩
 rw [codesR_sub]
 have := vS_len ρ (codesR ts)
 unfold subCs at this
 rw [this]
 exact h.2
theorem wfL_vS {a0 : List QSym} {ρ : Nat → Nat} {l : TLit} (h : WfL a0 l) (hρ : ∀ x, hasR x l.2.2 → ρ x < 24) : WfL a0 (subTL (vS ρ) l) := by
 obtain ⟨h1, ⟨e, h2, h3, h4⟩, h5⟩ := h
 have := wfR_vS (a0 := a0) ⟨h1, h5⟩ hρ
 exact ⟨this.1, ⟨e, h2, h3, by show (((subR (vS ρ) l.2.2).length : Nat) : Int) = _; rw [subR_length]; exact h4⟩, this.2⟩
theorem normal_spec {a0 : List QSym} {L : List TLit} {T : List (List Tm)} {C : List TLit} (hmay : mayB a0 (L.map cl) (T.map codesR) (C.map cl) = true) (hL : ∀ l ∈ L, WfL a0 l) (hT : ∀ r ∈ T, WfR a0 r) (hC : ∀ l ∈ C, WfL a0 l) :
  ∃ (Ln : List TLit) (Tn : List (List Tm)) (Cn : List TLit) (ρ : Nat → Nat), normC (L.map cl) (T.map codesR) (C.map cl) = (Ln.map cl, Tn.map codesR, Cn.map cl) ∧ (∀ l ∈ Ln, WfL a0 l) ∧ (∀ r ∈ Tn, WfR a0 r) ∧ (∀ l ∈ Cn, WfL a0 l) ∧
   mayB a0 (Ln.map cl) (Tn.map codesR) (Cn.map cl) = true ∧ (∀ x, VarT L T C x → ρ x < 24) ∧ (∀ x y, VarT L T C x → VarT L T C y → ρ x = ρ y → x = y) ∧ (∀ x, VarT Ln Tn Cn x ↔ ∃ y, VarT L T C y ∧ ρ y = x) ∧
   ∀ m nums env, hereT m nums env Ln Tn Cn = hereT m nums (fun v => env (ρ v)) L T C := by
 obtain ⟨hsb, g1, g2, g3, g4, g5, g6, g7⟩ := mayB_spec hmay
 obtain ⟨ρ, hn, hr1, hr2⟩ := normC_ren (L := L.map cl) (T := T.map codesR) (C := C.map cl) fun r hr c hc => (may_small hmay r hr).2 c hc
 have hρ : ∀ x, VarT L T C x → ρ x < 24 := fun x hx => by
  have := hr1 x (VarR_tree.2 hx)
  rwa [Int.toNat_natCast] at this
 have mL : ∀ l, l ∈ onceL (L.map cl) [] ↔ l ∈ L.map cl := fun l => by simpa using onceL_mem (x := l) (L.map cl) []
 have mT : ∀ l, l ∈ onceL (T.map codesR) [] ↔ l ∈ T.map codesR := fun l => by simpa using onceL_mem (x := l) (T.map codesR) []
 have mC : ∀ l, l ∈ onceL (C.map cl) [] ↔ l ∈ C.map cl := fun l => by simpa using onceL_mem (x := l) (C.map cl) []
 obtain ⟨L1, eL, sL⟩ := pick_tree cl (onceL (L.map cl) []) fun b hb => (mL b).1 hb
 obtain ⟨T1, eT, sT⟩ := pick_tree codesR (onceL (T.map codesR) []) fun b hb => (mT b).1 hb
 obtain ⟨C1, eC, sC⟩ := pick_tree cl (onceL (C.map cl) []) fun b hb => (mC b).1 hb
 have bL : ∀ l, l ∈ L1 ↔ l ∈ L := fun l => ⟨sL l, fun hl => by
  have h1 := (mL (cl l)).2 (List.mem_map_of_mem hl)
  rw [eL] at h1
  obtain ⟨k, hk, he⟩ := List.mem_map.1 h1
  rw [← cl_inj (hL k (sL k hk)) (hL l hl) he]
  exact hk⟩
 have bC : ∀ l, l ∈ C1 ↔ l ∈ C := fun l => ⟨sC l, fun hl => by
  have h1 := (mC (cl l)).2 (List.mem_map_of_mem hl)
  rw [eC] at h1
  obtain ⟨k, hk, he⟩ := List.mem_map.1 h1
  rw [← cl_inj (hC k (sC k hk)) (hC l hl) he]
  exact hk⟩
 have bT : ∀ l, l ∈ T1 ↔ l ∈ T := fun l => ⟨sT l, fun hl => by
  have h1 := (mT (codesR l)).2 (List.mem_map_of_mem hl)
  rw [eT] at h1
  obtain ⟨k, hk, he⟩ := List.mem_map.1 h1
  rw [← codesR_inj _ k l (Nat.le_refl _) (hT k (sT k hk)).1 (hT l hl).1 he]
  exact hk⟩
 have wL : ∀ l ∈ L1.map (subTL (vS ρ)), WfL a0 l := fun l hl => by
  obtain ⟨k, hk, rfl⟩ := List.mem_map.1 hl
  exact wfL_vS (hL k (sL k hk)) fun x hx => hρ x (.inl ⟨k, sL k hk, hx⟩)
 have wC : ∀ l ∈ C1.map (subTL (vS ρ)), WfL a0 l := fun l hl => by
  obtain ⟨k, hk, rfl⟩ := List.mem_map.1 hl
  exact wfL_vS (hC k (sC k hk)) fun x hx => hρ x (.inr (.inr ⟨k, sC k hk, hx⟩))
 have wT : ∀ l ∈ T1.map (subR (vS ρ)), WfR a0 l := fun l hl => by
  obtain ⟨k, hk, rfl⟩ := List.mem_map.1 hl
  exact wfR_vS (hT k (sT k hk)) fun x hx => hρ x (.inr (.inl ⟨k, sT k hk, hx⟩))
 have lL : L1.length ≤ 5 := by
  have h1 := congrArg List.length eL
  have h2 := onceL_len (L.map cl) []
  rw [List.length_map] at h1 h2 g1
  simp at h2; omega
 have lT : T1.length ≤ 3 := by
  have h1 := congrArg List.length eT
  have h2 := onceL_len (T.map codesR) []
  rw [List.length_map] at h1 h2 g2
  simp at h2; omega
 have lC : C1.length ≤ 3 := by
  have h1 := congrArg List.length eC
  have h2 := onceL_len (C.map cl) []
  rw [List.length_map] at h1 h2 g3
  simp at h2; omega
 refine ⟨L1.map (subTL (vS ρ)), T1.map (subR (vS ρ)), C1.map (subTL (vS ρ)), ρ, ?_, wL, wT, wC, ?_, hρ, fun x y hx hy he => ?_, fun x => ?_, fun m nums env => ?_⟩
 ·rw [hn, eL, eT, eC, subLs_cl, subRs_codes, subLs_cl]
 ·refine mayB_mk hsb (by simpa using lL) (by simpa using lT) (by simpa using lC) ?_ ?_ ?_ ?_
  ·refine List.all_eq_true.2 fun l hl => ?_
   obtain ⟨k, hk, rfl⟩ := List.mem_map.1 hl
   exact atom_of_wf hsb (wL k hk)
  ·obtain ⟨n, hw⟩ := rowsB_all g5
   refine rowsB_of (n := n) fun r hr => ?_
   obtain ⟨k, hk, rfl⟩ := List.mem_map.1 hr
   rw [rowW_codes hsb (wT k hk)]
   obtain ⟨j, hj, rfl⟩ := List.mem_map.1 hk
   rw [subR_length]
   have := hw (codesR j) (List.mem_map_of_mem (sT j hj))
   rwa [rowW_codes hsb (hT j (sT j hj))] at this
  ·refine List.all_eq_true.2 fun l hl => ?_
   obtain ⟨k, hk, rfl⟩ := List.mem_map.1 hl
   exact atom_of_wf hsb (wC k hk)
  ·have sumL : ∀ (X X1 : List TLit), onceL (X.map cl) [] = X1.map cl → sumLen (((X1.map (subTL (vS ρ))).map cl).map (·.2)) ≤ sumLen ((X.map cl).map (·.2)) := by
    intro X X1 he
    rw [← subLs_cl]
    have h1 : (subLs (vS ρ) (X1.map cl)).map (·.2.length) = (X1.map cl).map (·.2.length) := by
     unfold subLs
     rw [List.map_map]
     exact List.map_congr_left fun l _ => vS_len ρ l.2
    unfold sumLen
    rw [List.map_map, List.map_map]
    have h2 := once_sum (fun l : QLit => l.2.length) (X.map cl) []
    rw [he] at h2
    have h3 : List.map (List.length ∘ fun x => x.2) (subLs (vS ρ) (X1.map cl)) = (X1.map cl).map (·.2.length) := h1
    rw [h3]
    have h4 : (([] : List QLit).map (fun l : QLit => l.2.length)).sum = 0 := rfl
    have h5 : List.map (List.length ∘ fun x => x.2) (X.map cl) = (X.map cl).map (fun l : QLit => l.2.length) := rfl
    rw [h4, Nat.zero_add] at h2
    exact h2
   have sumT : sumLen ((T1.map (subR (vS ρ))).map codesR) ≤ sumLen (T.map codesR) := by
    rw [← subRs_codes]
    have h2 := once_sum List.length (T.map codesR) []
    rw [eT] at h2
    unfold sumLen
    rw [List.map_map]
    have h3 : List.map (List.length ∘ subCs (vS ρ)) (T1.map codesR) = (T1.map codesR).map List.length := List.map_congr_left fun r _ => vS_len ρ r
    rw [h3]
    simpa using h2
   have h1 := sumL L L1 eL
   have h2 := sumL C C1 eC
   omega
 ·have := hr2 x y (VarR_tree.2 hx) (VarR_tree.2 hy) (by rw [Int.toNat_natCast, Int.toNat_natCast]; exact he)
  rwa [Int.toNat_natCast, Int.toNat_natCast] at this
 ·constructor
  ·rintro (⟨l, hl, hx⟩ | ⟨r, hr, hx⟩ | ⟨l, hl, hx⟩)
   ·obtain ⟨k, hk, rfl⟩ := List.mem_map.1 hl
    obtain ⟨y, hy, he⟩ := (hasR_sub k.2.2).1 hx
    exact ⟨y, .inl ⟨k, sL k hk, hy⟩, he⟩
   ·obtain ⟨k, hk, rfl⟩ := List.mem_map.1 hr
    obtain ⟨y, hy, he⟩ := (hasR_sub k).1 hx
    exact ⟨y, .inr (.inl ⟨k, sT k hk, hy⟩), he⟩
   ·obtain ⟨k, hk, rfl⟩ := List.mem_map.1 hl
    obtain ⟨y, hy, he⟩ := (hasR_sub k.2.2).1 hx
    exact ⟨y, .inr (.inr ⟨k, sC k hk, hy⟩), he⟩
  ·rintro ⟨y, ⟨l, hl, hy⟩ | ⟨r, hr, hy⟩ | ⟨l, hl, hy⟩, he⟩
   ·exact .inl ⟨_, List.mem_map_of_mem ((bL l).2 hl), (hasR_sub l.2.2).2 ⟨y, hy, he⟩⟩
   ·exact .inr (.inl ⟨_, List.mem_map_of_mem ((bT r).2 hr), (hasR_sub r).2 ⟨y, hy, he⟩⟩)
   ·exact .inr (.inr ⟨_, List.mem_map_of_mem ((bC l).2 hl), (hasR_sub l.2.2).2 ⟨y, hy, he⟩⟩)
 ·rw [hereT_sub]
  unfold hereT
  rw [all_mem bC, any_mem bL, any_mem bT]
  rfl
theorem env_inst {m : Nat} (hm : 0 < m) {nums : List Int} (hn : NumsOk nums) {a0 : List QSym} (hs : SignOk a0) {env : Nat → Int} (he : ∀ x, x < 24 → 0 ≤ env x ∧ env x < (m : Int)) {σ : Sb} (hσ : ∀ x, x < 24 → (σ x).ok a0 24) :
  ∃ E, EnvOk (m : Int) E ∧ ∀ x, x < 24 → envF E x = valT (m : Int) nums env (σ x) := by
 refine ⟨(List.range 24).map fun x => valT (m : Int) nums env (σ x), ⟨by simp, fun y hy => ?_⟩, fun x hx => ?_⟩
 ·obtain ⟨x, hx, rfl⟩ := List.mem_map.1 hy
  exact valT_range (by omega) hn hs _ (hσ x (List.mem_range.1 hx)) he
 ·unfold envF
  rw [List.getD_eq_getElem?_getD, List.getElem?_map, List.getElem?_range hx]
  rfl
theorem new_spec (a : Int) (nums : List Int) : ∃ m : Nat, 0 < m ∧ m ≤ 3 ∧ ref9_New a nums = some ((m : Int), nums) := by
 unfold ref9_New
 have h0 := (wrap_u64_range a).1
 have r1 : 0 ≤ Int.tmod (IntKind.wrap .u64 a) 3 := Int.tmod_nonneg _ h0
 have r2 : Int.tmod (IntKind.wrap .u64 a) 3 < 3 := Int.tmod_lt_of_pos _ (by omega)
 generalize Int.tmod (IntKind.wrap .u64 a) 3 = q at r1 r2
 refine ⟨(1 + q).toNat, by omega, by omega, ?_⟩
 have w : IntKind.wrap .i64 (1 + IntKind.wrap .i64 q) = ((((1 + q).toNat : Nat)) : Int) := by
  rw [wrap64 (n := q) (by omega) (by omega), wrap64 (by omega) (by omega), Int.toNat_of_nonneg (by omega)]
 rw [w]
end
end Go.Abs.Q
namespace Go.Abs.Q
open Go Go.Abs
section
theorem wfR_may {a0 : List QSym} {T : List (List Tm)} (h : rowsB a0 (T.map codesR) = true) (ho : ∀ r ∈ T, okR a0 24 r) : ∀ r ∈ T, WfR a0 r := fun r hr => by
 obtain ⟨n, hn⟩ := rowsB_all h
 obtain ⟨ps, -, -, hl, -⟩ := rowW_spec (hn (codesR r) (List.mem_map_of_mem hr))
 exact ⟨ho r hr, hl⟩
mutual
theorem Tm.sub_id : (t : Tm) → t.sub (fun n => Tm.v n) = t
 | .v n => rfl
 | .f c as => by rw [Tm.sub, subR_id as]
theorem subR_id : (ts : List Tm) → subR (fun n => Tm.v n) ts = ts
 | [] => rfl
 | t :: ts => by rw [subR, Tm.sub_id t, subR_id ts]
end
theorem litV_opp {m : Int} {nums : List Int} {env : Nat → Int} (l : TLit) : litV m nums env (!l.1, l.2) = !litV m nums env l := by
 unfold litV
 cases l.1 <;> cases atomV m nums env l.2.1 l.2.2 <;> rfl
section
variable {m : Nat} (hm : 0 < m) (hm3 : m ≤ 3) {nums : List Int} (hn : NumsOk nums) {a0 : List QSym} (hs : SignOk a0)
include hm hm3 hn hs
end
end
end Go.Abs.Q
namespace Go.Abs.Q
open Go Go.Abs
section
section
variable {m : Nat} (hm : 0 < m) (hm3 : m ≤ 3) {nums : List Int} (hn : NumsOk nums) {a0 : List QSym} (hs : SignOk a0)
include hm hm3 hn hs
end
end
end Go.Abs.Q
namespace Go.Abs.Q
open Go Go.Abs
section
theorem index_go (x : Int) : (es : List Int) → (i : Nat) → (x ∈ es → ∃ j : Nat, slices_Index_L0_go x es i = some (.inr (j : Int))) ∧ (x ∉ es → slices_Index_L0_go x es i = some (.inl ()))
 | [], i => ⟨fun h => (nomatch h), fun _ => rfl⟩
 | e :: es, i => by
  obtain ⟨h1, h2⟩ := index_go x es (i + 1)
  unfold slices_Index_L0_go
  by_cases he : x = e
  ·rw [show (x == e) = true from by simp [he], cond_true]
   exact ⟨fun _ => ⟨i, rfl⟩, fun h => absurd (by rw [he]; exact List.mem_cons_self ..) h⟩
  ·rw [show (x == e) = false from by simp [he], cond_false]
   refine ⟨fun h => h1 ?_, fun h => h2 fun h' => h (List.mem_cons_of_mem _ h')⟩
   rcases List.mem_cons.1 h with h | h
   ·exact absurd h he
   ·exact h
theorem contains_eq {xs : List Int} (x : Int) (hl : xs.length ≤ maxLen) : slices_Contains xs x = some (decide (x ∈ xs)) := by
 unfold slices_Contains slices_Index
 rw [slices_Index_L0_go_at0 _ _ hl]
 obtain ⟨h1, h2⟩ := index_go x xs 0
 by_cases h : x ∈ xs
 ·obtain ⟨j, hj⟩ := h1 h
  rw [hj, decide_eq_true h]
  show some (decide ((j : Int) ≥ 0)) = _
  rw [decide_eq_true (by omega)]
 ·rw [h2 h, decide_eq_false h]
  rfl
theorem slc_take {α : Type} (xs : List α) {i : Nat} (h : i ≤ xs.length) : slc2 xs none (some (i : Int)) = some (xs.take i) := by
 show slc xs 0 (i : Int) = some _
 unfold slc
 rw [decide_eq_true (show (0 : Int) ≤ 0 by omega), decide_eq_true (show (0 : Int) ≤ (i : Int) by omega), decide_eq_true (show (i : Int) ≤ ((xs.length : Nat) : Int) by omega)]
 simp
theorem varsMay_go {a1 : List Int} (hl : a1.length ≤ maxLen) : (es : List Int) → (i : Nat) → a1.drop i = es → ask_varsMay_L0_go a1 es i = some (.inr false) ∨ (ask_varsMay_L0_go a1 es i = some (.inl ()) ∧ (∀ e ∈ es, 0 ≤ e ∧ e ≤ 23) ∧ ((a1.take i).Nodup → a1.Nodup))
 | [], i, h => .inr ⟨rfl, fun _ h => (nomatch h), fun hn => by rwa [List.take_of_length_le (drop_nil_le h)] at hn⟩
 | e :: es, i, h => by
  have hi := drop_cons_lt h
  have ih := varsMay_go hl es (i + 1) (drop_cons_next h)
  unfold ask_varsMay_L0_go
  by_cases h0 : e < 0
  ·rw [decide_eq_true h0]; exact .inl rfl
  ·rw [decide_eq_false h0, cond_false]
   by_cases h1 : e > 23
   ·rw [decide_eq_true h1]; exact .inl rfl
   ·rw [decide_eq_false h1, cond_false, slc_take a1 (by omega), Option.bind_some, contains_eq e (by rw [List.length_take]; omega), Option.bind_some]
    by_cases hm : e ∈ a1.take i
    ·rw [decide_eq_true hm]; exact .inl rfl
    ·rw [decide_eq_false hm, cond_false]
     rcases ih with ih | ⟨g1, g2, g3⟩
     ·exact .inl ih
     ·refine .inr ⟨g1, fun x hx => ?_, fun hn => g3 ?_⟩
      ·rcases List.mem_cons.1 hx with rfl | hx
       ·omega
       ·exact g2 x hx
      ·rw [List.take_add_one, drop_cons_get h]
       show (a1.take i ++ [e]).Nodup
       rw [List.nodup_append]
       exact ⟨hn, List.nodup_cons.2 ⟨by simp, List.nodup_nil⟩, fun a ha b hb => by rw [List.mem_singleton.1 hb]; exact fun e' => hm (e' ▸ ha)⟩
theorem varsMay_spec {a1 : List Int} (hl : a1.length ≤ maxLen) : ∃ b, ask_varsMay a1 = some b ∧ (b = true → a1.Nodup ∧ ∀ e ∈ a1, 0 ≤ e ∧ e ≤ 23) := by
 unfold ask_varsMay
 rw [ask_varsMay_L0_go_at0 _ _ hl]
 rcases varsMay_go hl a1 0 rfl with h | ⟨h1, h2, h3⟩
 ·rw [h]; exact ⟨false, rfl, fun h => by cases h⟩
 ·rw [h1]; exact ⟨true, rfl, fun _ => ⟨h3 (by simp), h2⟩⟩
def oppL (l : QLit) : QLit := (!l.1, l.2)
theorem goal_L0 : (es out : List QLit) → (∀ l ∈ es, l.2.length ≤ 1048576) → out.length + es.length ≤ 1000000 → ask_Goal_L0_go es out = some (out ++ es.map oppL)
 | [], out, _, _ => by simp [ask_Goal_L0_go]
 | e :: es, out, h, hl => by
  have he := h e (List.mem_cons_self ..)
  simp only [List.length_cons] at hl
  unfold ask_Goal_L0_go lit_Opposite
  rw [slices_CloneN_eq (by omega), Option.bind_some, Option.bind_some, room_ok (by simp; omega), cond_true, goal_L0 es _ (fun l hl => h l (List.mem_cons_of_mem _ hl)) (by simp; omega)]
  simp [oppL]
theorem goal_L1 : (es : List Int) → (i : Nat) → (ds : List Int) → (∀ e ∈ es, 0 ≤ e ∧ e ≤ 23) → ds.length = i → ask_Goal_L1_go es i (ds ++ List.replicate es.length 0) = some (ds ++ es.map fun e => -1 - e)
 | [], i, ds, _, _ => by simp [ask_Goal_L1_go]
 | e :: es, i, ds, h, hd => by
  have he := h e (List.mem_cons_self ..)
  unfold ask_Goal_L1_go
  have e1 : inR (i : Int) (ds ++ List.replicate (e :: es).length 0).length = some i := inR_nat (by simp; omega)
  have e2 : (ds ++ List.replicate (e :: es).length (0 : Int))[i]? = some 0 := by
   rw [List.getElem?_append_right (by omega), hd]
   simp
  rw [term_Number_eq (by omega) (by omega), Option.bind_some, e1, Option.bind_some, e2, Option.bind_some]
  have e3 : (ds ++ List.replicate (e :: es).length (0 : Int)).set i (-1 - e) = (ds ++ [-1 - e]) ++ List.replicate es.length 0 := by
   simp [List.set_append, hd, List.replicate_succ]
  rw [e3, goal_L1 es (i + 1) _ (fun x hx => h x (List.mem_cons_of_mem _ hx)) (by simp; omega)]
  simp
abbrev GoalT := List QLit × List (List Int) × Int × List QLit
theorem goal_spec {a0 : List QSym} {a1 : List Int} {a2 : List QLit} (hl : a1.length ≤ 1048576) (hb : ∀ l ∈ a2, l.2.length ≤ 1048576) : ∃ r : GoalT, ask_Goal a0 a1 a2 = some r ∧
  (r.2.2.1 = 0 → a1.Nodup ∧ (∀ e ∈ a1, 0 ≤ e ∧ e ≤ 23) ∧ mayB a0 (a2.map oppL) [a1.map fun e => -1 - e] [] = true ∧ (r.1, r.2.1, r.2.2.2) = normC (a2.map oppL) [a1.map fun e => -1 - e] []) := by
 have bad : ∀ {o : Option GoalT} {P : GoalT → Prop}, o = some ([], [], 2400, []) → ∃ r : GoalT, o = some r ∧ (r.2.2.1 = 0 → P r) := fun h => ⟨_, h, fun h => by cases h⟩
 unfold ask_Goal
 rw [sign_May_eq, Option.bind_some]
 cases hs : signB a0 with
 | false => exact bad rfl
 | true =>
  rw [Bool.not_true, cond_false]
  cases h0 : ((List.length a2 : Nat) : Int) == 0 with
  | true => exact bad rfl
  | false =>
   rw [cond_false]
   by_cases h5 : ((List.length a2 : Nat) : Int) > 5
   ·rw [decide_eq_true h5]; exact bad rfl
   ·rw [decide_eq_false h5, cond_false]
    obtain ⟨b, hv, hvb⟩ := varsMay_spec (a1 := a1) (by unfold maxLen; omega)
    rw [hv, Option.bind_some]
    cases b with
    | false => exact bad rfl
    | true =>
     obtain ⟨hn, hr⟩ := hvb rfl
     have e1 : eqI ((List.length a1 : Nat) : Int) ((List.length a1 : Nat) : Int) = true := by unfold eqI; simp
     have e2 : nneg ((List.length a1 : Nat) : Int) = true := by unfold nneg; exact decide_eq_true (by omega)
     have g1 := goal_L1 a1 0 [] hr rfl
     rw [List.nil_append, List.nil_append] at g1
     rw [Bool.not_true, cond_false, ask_Goal_L0_go_at0 _ _ _ _ (by unfold maxLen; omega), goal_L0 a2 [] hb (by simp; omega), Option.bind_some, List.nil_append, e1, cond_true, e2, cond_true, Int.toNat_natCast, room_ok (by omega), cond_true,
      ask_Goal_L1_go_at0 _ _ _ _ (by unfold maxLen; omega), g1, Option.bind_some, clause_Normal_eq, Option.bind_some]
     cases hm : mayB a0 (a2.map oppL) [a1.map fun e => -1 - e] [] with
     | false => exact bad rfl
     | true => exact ⟨_, rfl, fun _ => ⟨hn, hr, rfl, rfl⟩⟩
end
end Go.Abs.Q
namespace Go.Abs.Q
open Go Go.Abs
section
def oppT (l : TLit) : TLit := (!l.1, l.2)
theorem cl_opp (l : TLit) : oppL (cl l) = cl (oppT l) := rfl
theorem oppL_opp (l : QLit) : oppL (oppL l) = l := by
 obtain ⟨n, r⟩ := l
 unfold oppL
 simp
theorem wfL_opp {a0 : List QSym} {l : TLit} (h : WfL a0 l) : WfL a0 (oppT l) := h
section
variable {m : Nat} (hm : 0 < m) (hm3 : m ≤ 3) {nums : List Int} (hn : NumsOk nums) {a0 : List QSym} (hs : SignOk a0)
include hm hm3 hn hs
theorem means_L3 {E : List Int} (hE : EnvOk (m : Int) E) : (es : List TLit) → (∀ l ∈ es, WfL a0 l) → (s : Bool) → law24_GoalMeans_L3_go a0 (m : Int) nums E (es.map cl) s = some (s && es.all (litV (m : Int) nums (envF E)), E)
 | [], _, s => by simp [law24_GoalMeans_L3_go]
 | e :: es, h, s => by
  rw [List.map_cons]
  unfold law24_GoalMeans_L3_go
  have ih := fun s => means_L3 hE es (fun l hl => h l (List.mem_cons_of_mem _ hl)) s
  cases s with
  | false => rw [cond_false, ih]; rfl
  | true =>
   rw [cond_true, lit_eq (by omega) hn hs hE (h e (List.mem_cons_self ..)), Option.bind_some, ih, List.all_cons, Bool.true_and]
theorem means_rounds {B : List TLit} (hB : ∀ l ∈ B, WfL a0 l) (hBl : B.length ≤ 1000) {V : List Tm} (hV : WfR a0 V) {vs : List Nat} (hnd : vs.Nodup) (h24 : ∀ v ∈ vs, v < 24) (s5 : List QLit) (s6 : List (List Int)) (s7 : List QLit)
  (hext : ∀ E E', EnvOk (m : Int) E → EnvOk (m : Int) E' → (∀ v ∈ vs, envF E v = envF E' v) → (!(B.all (litV (m : Int) nums (envF E))) || tupleV (m : Int) nums (envF E) V) = (!(B.all (litV (m : Int) nums (envF E'))) || tupleV (m : Int) nums (envF E') V)) :
  ∀ (d k : Nat) (w : Bool) (E : List Int), EnvOk (m : Int) E → m ^ vs.length - cntV m E vs ≤ d → d < k →
   ∃ b, lp law24_GoalMeans_L4 k (a0, B.map cl, vs.map (fun v : Nat => (v : Int)), codesR V, w, s5, s6, s7, (m : Int), nums, E) = some b ∧ (b = true ↔ w = true ∧ ∀ E', EnvOk (m : Int) E' → cntV m E vs ≤ cntV m E' vs → (!(B.all (litV (m : Int) nums (envF E'))) || tupleV (m : Int) nums (envF E') V) = true) := by
 intro d
 induction d with
 | zero =>
  intro k w E hE hd
  have := cntV_lt hm hE vs h24
  omega
 | succ d ih =>
  intro k w E hE hd hk
  obtain ⟨k, rfl⟩ : ∃ k', k = k' + 1 := ⟨k - 1, by omega⟩
  rw [lp_succ]
  have key := fun w E hE h => ih k w E hE h (by omega)
  generalize lp law24_GoalMeans_L4 k = rec at key ⊢
  unfold law24_GoalMeans_L4
  simp only
  rw [law24_GoalMeans_L3_go_at0 _ _ _ _ _ _ _ _ _ _ _ _ (by rw [List.length_map]; unfold maxLen; omega), means_L3 hm hm3 hn hs hE B hB, Option.bind_some]
  simp only [Bool.true_and]
  -- what the rest comes to, with what is known so far
  have rest : ∀ w' : Bool, (w' = true ↔ w = true ∧ (!(B.all (litV (m : Int) nums (envF E))) || tupleV (m : Int) nums (envF E) V) = true) →
    ∃ b, ((ref9_Model_Next (m : Int) nums (vs.map fun v : Nat => (v : Int)) E).bind fun r => cond (!r.1) (some w') (rec (a0, B.map cl, vs.map (fun v : Nat => (v : Int)), codesR V, w', s5, s6, s7, (m : Int), nums, r.2))) = some b ∧
     (b = true ↔ w = true ∧ ∀ E', EnvOk (m : Int) E' → cntV m E vs ≤ cntV m E' vs → (!(B.all (litV (m : Int) nums (envF E'))) || tupleV (m : Int) nums (envF E') V) = true) := by
   intro w' hw
   have self : ∀ E', EnvOk (m : Int) E' → cntV m E' vs = cntV m E vs → (!(B.all (litV (m : Int) nums (envF E'))) || tupleV (m : Int) nums (envF E') V) = (!(B.all (litV (m : Int) nums (envF E))) || tupleV (m : Int) nums (envF E) V) := fun E' hE' he =>
    hext E' E hE' hE (cntV_inj hm hE' hE vs h24 he)
   rcases next_spec hm (by omega) nums hnd h24 hE with ⟨E1, h1, h2, h3, h4⟩ | ⟨E1, h1, h2⟩
   ·rw [h1, Option.bind_some, Bool.not_true, cond_false]
    obtain ⟨b, g1, g2⟩ := key w' E1 h2 (by rw [h3]; omega)
    refine ⟨b, g1, g2.trans ⟨fun ⟨h, H⟩ => ⟨(hw.1 h).1, fun E' hE' hle => ?_⟩, fun ⟨h, H⟩ => ⟨hw.2 ⟨h, H E hE (Nat.le_refl _)⟩, fun E' hE' hle => H E' hE' (by omega)⟩⟩⟩
    rcases Nat.eq_or_lt_of_le hle with he | hlt
    ·rw [self E' hE' he.symm]; exact (hw.1 h).2
    ·exact H E' hE' (by omega)
   ·rw [h1, Option.bind_some, Bool.not_false, cond_true]
    refine ⟨w', rfl, ⟨fun h => ⟨(hw.1 h).1, fun E' hE' hle => ?_⟩, fun ⟨h, H⟩ => hw.2 ⟨h, H E hE (Nat.le_refl _)⟩⟩⟩
    have := cntV_lt hm hE' vs h24
    rw [self E' hE' (by omega)]
    exact (hw.1 h).2
  cases w with
  | false => exact rest false (by simp)
  | true =>
   rw [cond_true]
   cases hb : B.all (litV (m : Int) nums (envF E)) with
   | false =>
    rw [Bool.not_false, cond_true]
    refine rest true ?_
    rw [hb]
    simp
   | true =>
    rw [Bool.not_true, cond_false, tuple_eq (by omega) hn hs hE hV.1 hV.2, Option.bind_some]
    refine rest (tupleV (m : Int) nums (envF E) V) ?_
    rw [hb]
    simp
end
theorem means_L0 (a1 : List Int) {i : Nat} {x : Int} (hx : a1[i]? = some x) : (es : List Int) → (s : Bool) → law24_GoalMeans_L0_go a1 (i : Int) es s = some (s || decide (x ∈ es))
 | [], s => by simp [law24_GoalMeans_L0_go]
 | e :: es, s => by
  unfold law24_GoalMeans_L0_go
  cases s with
  | true => rw [cond_true, means_L0 a1 hx es true]; rfl
  | false =>
   rw [cond_false, gx_nat, hx, Option.bind_some, means_L0 a1 hx es _]
   congr 1
   rw [Bool.false_or, Bool.eq_iff_iff, Bool.or_eq_true, decide_eq_true_iff, decide_eq_true_iff, List.mem_cons, beq_iff_eq]
   exact ⟨fun h => h.elim (fun h => .inl h.symm) .inr, fun h => h.elim (fun h => .inl h.symm) .inr⟩
theorem means_L1 {s0 : List QSym} {a1 : List Int} {s2 : List QLit} {ws : List Int} {s5 : List QLit} {s6 : List (List Int)} {s7 : List QLit} {s8 : Int} {s9 : List Int} (hw : ws.length ≤ 1000) : (es : List Int) → (i : Nat) → (out : List Int) → a1.drop i = es → out.length + es.length ≤ 1000000 →
  law24_GoalMeans_L1_go s0 a1 s2 ws s5 s6 s7 s8 s9 es i out = some (out ++ es.filter fun e => !decide (e ∈ ws))
 | [], i, out, _, _ => by simp [law24_GoalMeans_L1_go]
 | e :: es, i, out, h, hl => by
  simp only [List.length_cons] at hl
  have ih := fun out hl => means_L1 (s0 := s0) (s2 := s2) (s5 := s5) (s6 := s6) (s7 := s7) (s8 := s8) (s9 := s9) hw es (i + 1) out (drop_cons_next h) hl
  unfold law24_GoalMeans_L1_go
  rw [law24_GoalMeans_L0_go_at0 _ _ _ _ _ _ _ _ _ _ _ (by unfold maxLen; omega), means_L0 a1 (drop_cons_get h), Option.bind_some, Bool.false_or]
  cases hd : decide (e ∈ ws) with
  | true =>
   rw [Bool.not_true, cond_false, ih out (by omega), List.filter_cons, hd]
   rfl
  | false =>
   rw [Bool.not_false, cond_true, room_ok (by simp; omega), cond_true, ih _ (by simp; omega), List.filter_cons, hd]
   simp
theorem means_L2 : (es out : List Int) → (∀ e ∈ es, 0 ≤ e ∧ e ≤ 23) → out.length + es.length ≤ 1000000 → law24_GoalMeans_L2_go es out = some (out ++ es.map fun e => -1 - e)
 | [], out, _, _ => by simp [law24_GoalMeans_L2_go]
 | e :: es, out, h, hl => by
  have he := h e (List.mem_cons_self ..)
  simp only [List.length_cons] at hl
  unfold law24_GoalMeans_L2_go
  have w : IntKind.wrap .i64 ((-1) - e) = -1 - e := by rw [wrap64] <;> omega
  rw [w, room_ok (by simp; omega), cond_true, means_L2 es _ (fun x hx => h x (List.mem_cons_of_mem _ hx)) (by simp; omega)]
  simp
end
end Go.Abs.Q
namespace Go.Abs.Q
open Go Go.Abs
section
theorem nodup_map_on {α β : Type} {f : α → β} : {l : List α} → (∀ x ∈ l, ∀ y ∈ l, f x = f y → x = y) → l.Nodup → (l.map f).Nodup
 | [], _, _ => List.nodup_nil
 | x :: l, hi, h => by
  have h := List.nodup_cons.1 h
  rw [List.map_cons, List.nodup_cons]
  refine ⟨fun hx => ?_, nodup_map_on (fun x hx y hy => hi x (List.mem_cons_of_mem _ hx) y (List.mem_cons_of_mem _ hy)) h.2⟩
  obtain ⟨y, hy, he⟩ := List.mem_map.1 hx
  have := hi y (List.mem_cons_of_mem _ hy) x (List.mem_cons_self ..) he
  exact h.1 (this ▸ hy)
theorem hereT_goal {m : Int} {nums : List Int} {env : Nat → Int} (Lo : List TLit) (V : List Tm) : hereT m nums env Lo [V] [] = (!((Lo.map oppT).all (litV m nums env)) || tupleV m nums env V) := by
 unfold hereT
 have h : Lo.any (litV m nums env) = !((Lo.map oppT).all (litV m nums env)) := by
  induction Lo with
  | nil => rfl
  | cons l Lo ih =>
   rw [List.any_cons, List.map_cons, List.all_cons, ih, show litV m nums env (oppT l) = !litV m nums env l from litV_opp l]
   cases litV m nums env l <;> simp
 rw [h]
 simp
theorem codesR_vars : (a : List Int) → (∀ e ∈ a, 0 ≤ e ∧ e ≤ 23) → (a.map fun e => -1 - e) = codesR ((a.map Int.toNat).map Tm.v)
 | [], _ => rfl
 | e :: a, h => by
  have he := h e (List.mem_cons_self ..)
  rw [List.map_cons, codesR_vars a fun x hx => h x (List.mem_cons_of_mem _ hx), List.map_cons, List.map_cons]
  show _ = (-1 - ((e.toNat : Nat) : Int)) :: codesR _
  rw [Int.toNat_of_nonneg he.1]
theorem hasR_vars {x : Nat} {vs : List Nat} : hasR x (vs.map Tm.v) ↔ x ∈ vs := by
 rw [hasR_iff]
 constructor
 ·rintro ⟨t, ht, hx⟩
  obtain ⟨v, hv, rfl⟩ := List.mem_map.1 ht
  have : x = v := by simpa [Tm.has, eq_comm] using hx
  rw [this]; exact hv
 ·intro h
  exact ⟨_, List.mem_map_of_mem h, by simp [Tm.has]⟩
theorem cntV_zero (m : Nat) (vs : List Nat) : cntV m (List.replicate 24 (0 : Int)) vs = 0 := by
 induction vs with
 | nil => rfl
 | cons v vs ih =>
  unfold cntV
  rw [ih]
  have : envF (List.replicate 24 (0 : Int)) v = 0 := by
   unfold envF
   rw [List.getD_eq_getElem?_getD, List.getElem?_replicate]
   split <;> rfl
  rw [this]
  simp
theorem names_same {m : Nat} (hm : 0 < m) {nums : List Int} (hn : NumsOk nums) {a0 : List QSym} (hs : SignOk a0) {L : List TLit} {T : List (List Tm)} {C : List TLit} {ρ : Nat → Nat} {us : List Nat} (hu : ∀ x, x ∈ us ↔ VarT L T C x) (h24 : ∀ x ∈ us, x < 24) (h1 : ∀ x, VarT L T C x → ρ x < 24) (h2 : ∀ x y, VarT L T C x → VarT L T C y → ρ x = ρ y → x = y) :
  (∀ E, EnvOk (m : Int) E → hereT (m : Int) nums (fun v => envF E (ρ v)) L T C = true) ↔ ∀ E, EnvOk (m : Int) E → hereT (m : Int) nums (envF E) L T C = true := by
 constructor
 ·intro H E hE
  have hfind : ∀ y, (us.find? fun x => ρ x == y).getD 0 < 24 := fun y => by
   cases hf : us.find? fun x => ρ x == y with
   | none => simp
   | some z => exact h24 z (List.mem_of_find?_eq_some hf)
  obtain ⟨E', hE', he'⟩ := env_inst hm hn hs (env := envF E) (fun x hx => hE.val hx) (σ := fun y => .v ((us.find? fun x => ρ x == y).getD 0)) (fun y _ => hfind y)
  rw [← H E' hE']
  refine hereT_ext fun x hx => ?_
  rw [he' _ (h1 x hx)]
  show envF E x = envF E ((us.find? fun z => ρ z == ρ x).getD 0)
  cases hf : us.find? fun z => ρ z == ρ x with
  | none =>
   have := List.find?_eq_none.1 hf x ((hu x).2 hx)
   simp at this
  | some z =>
   have e1 : ρ z = ρ x := by have := List.find?_some hf; simpa using this
   have := h2 z x ((hu z).1 (List.mem_of_find?_eq_some hf)) hx e1
   rw [this]; rfl
 ·intro H E hE
  obtain ⟨E', hE', he'⟩ := env_inst hm hn hs (env := envF E) (fun x hx => hE.val hx) (σ := fun x => .v (if ρ x < 24 then ρ x else 0)) (fun x _ => by
   show (if ρ x < 24 then ρ x else 0) < 24
   split <;> omega)
  rw [← H E' hE']
  refine hereT_ext fun x hx => ?_
  rw [he' x (h24 x ((hu x).2 hx))]
  show envF E (ρ x) = envF E (if ρ x < 24 then ρ x else 0)
  rw [if_pos (h1 x hx)]
theorem goalMeans_true (a0 : List QSym) (a1 : List Int) (a2 : List QLit) (k : Int) (nums : List Int) (hl1 : a1.length ≤ 1048576) (hb2 : ∀ l ∈ a2, l.2.length ≤ 1048576) (hl : nums.length ≤ 9223372036854775807) : law24_GoalMeans a0 a1 a2 k nums = some true := by
 unfold law24_GoalMeans
 have hnum : ∀ k : Int, law0_Num k = some k := fun k => rfl
 rw [law24_awake_eq, Option.bind_some]
 simp only [Bool.not_true, cond_false]
 obtain ⟨r, hr1, hr2⟩ := goal_spec (a0 := a0) hl1 hb2
 rw [hr1, Option.bind_some, hnum, Option.bind_some]
 by_cases z : r.2.2.1 = 0
 case neg => rw [show (r.2.2.1 != 0) = true from by simp [z], cond_true]
 rw [show (r.2.2.1 != 0) = false from by simp [z], cond_false]
 obtain ⟨hn1, hrng, hmay, hN⟩ := hr2 z
 by_cases he : nums = []
 ·subst he; rfl
 have hn : NumsOk nums := ⟨he, hl⟩
 rw [show (((List.length nums : Nat) : Int) == 0) = false from by simp; exact he, cond_false]
 obtain ⟨m, hm, hm3, hnew⟩ := new_spec k nums
 have hs := signB_ok (mayB_spec hmay).1
 obtain ⟨-, -, -, -, g4, g5, -, -⟩ := mayB_spec hmay
 obtain ⟨Lo, eLo, wLo⟩ := lits_tree _ g4
 have ea2 : a2 = (Lo.map oppT).map cl := by
  have h1 : a2 = (a2.map oppL).map oppL := by
   rw [List.map_map]
   have : ∀ l : QLit, (oppL ∘ oppL) l = l := oppL_opp
   rw [List.map_congr_left fun l _ => this l, List.map_id']
  rw [h1, eLo, List.map_map, List.map_map]
  exact List.map_congr_left fun l _ => cl_opp l
 have eV := codesR_vars a1 hrng
 have okV : okR a0 24 ((a1.map Int.toNat).map Tm.v) := okR_iff.2 fun t ht => by
  obtain ⟨v, hv, rfl⟩ := List.mem_map.1 ht
  obtain ⟨e, he, rfl⟩ := List.mem_map.1 hv
  have := hrng e he
  show e.toNat < 24
  omega
 rw [eLo, eV] at hmay hN
 have eT : [codesR ((a1.map Int.toNat).map Tm.v)] = [(a1.map Int.toNat).map Tm.v].map codesR := rfl
 have eC : ([] : List QLit) = ([] : List TLit).map cl := rfl
 rw [eT, eC] at hmay hN
 have wV : ∀ r ∈ [(a1.map Int.toNat).map Tm.v], WfR a0 r := wfR_may (mayB_spec hmay).2.2.2.2.2.1 fun r hr => by rw [List.mem_singleton.1 hr]; exact okV
 have lens := normC_lens (Lo.map cl) ([(a1.map Int.toNat).map Tm.v].map codesR) (([] : List TLit).map cl)
 obtain ⟨Ln, Tn, Cn, ρ, e1, w1, w2, w3, w4, w5, w6, w7, w8⟩ := normal_spec hmay wLo wV (fun _ h => (nomatch h))
 rw [e1] at hN lens
 injection hN with hN1 hN2
 injection hN2 with hN2 hN3
 rw [hN1, hN2, hN3]
 have lT : (Tn.map codesR).length = 1 := lens.2.1
 have lC : (Cn.map cl).length = 0 := lens.2.2
 rw [clause_May_eq, Option.bind_some, w4, Bool.not_true, cond_false, lT, lC]
 rw [show ((((1 : Nat) : Int)) != 1) = false from rfl, cond_false, show ((((0 : Nat) : Int)) != 0) = false from rfl, cond_false]
 cases hm2 : mayB a0 a2 [] [] with
 | false =>
  have : clause_Vars a0 a2 [] [] = some (800, []) := by
   unfold clause_Vars
   rw [clause_May_eq, hm2]
   rfl
  rw [this]; rfl
 | true =>
  obtain ⟨ws, hv, hrise, hws⟩ := clause_Vars_spec hs hm2
  rw [hv, Option.bind_some, hnum, Option.bind_some, show ((0 : Int) != 0) = false from rfl, cond_false]
  have hfew : ref9_Few ws = some (decide (((List.length ws : Nat) : Int) ≤ 6)) := rfl
  simp only
  rw [hfew, Option.bind_some]
  by_cases h6 : ((List.length ws : Nat) : Int) ≤ 6
  case neg => rw [decide_eq_false h6]; rfl
  rw [decide_eq_true h6, Bool.not_true, cond_false]
  by_cases h4 : ((List.length a1 : Nat) : Int) > 4
  ·rw [decide_eq_true h4]; rfl
  rw [decide_eq_false h4, cond_false, hnew, Option.bind_some, room_ok (by simp; omega), cond_true]
  simp only [List.nil_append]
  rw [law24_GoalMeans_L1_go_at0 _ _ _ _ _ _ _ _ _ _ (by unfold maxLen; omega), means_L1 (by omega) a1 0 ws rfl (by omega), Option.bind_some]
  by_cases h7 : (((ws ++ a1.filter fun e => !decide (e ∈ ws)).length : Nat) : Int) > 7
  ·rw [decide_eq_true h7]; rfl
  rw [decide_eq_false h7, cond_false, show ref9_Env = some (List.replicate 24 (0 : Int)) from rfl, Option.bind_some,
   law24_GoalMeans_L2_go_at0 _ _ _ _ _ _ _ _ _ (by unfold maxLen; omega), means_L2 a1 [] hrng (by simp; omega), Option.bind_some, List.nil_append, eV]
  -- the variables
  have hwr : ∀ x ∈ ws, 0 ≤ x ∧ x ≤ 23 := fun x hx => by
   obtain ⟨q, hq, c, hc, h0, he⟩ := (hws x).1 hx
   have := (may_small hm2 q hq).2 c hc
   omega
  have hur : ∀ x ∈ ws ++ a1.filter fun e => !decide (e ∈ ws), 0 ≤ x ∧ x ≤ 23 := fun x hx => by
   rcases List.mem_append.1 hx with hx | hx
   ·exact hwr x hx
   ·exact hrng x ((List.mem_filter.1 hx).1)
  have hund : (ws ++ a1.filter fun e => !decide (e ∈ ws)).Nodup := by
   rw [List.nodup_append]
   refine ⟨hrise.imp fun h => by omega, List.Pairwise.filter _ hn1, fun a ha b hb he => ?_⟩
   subst he
   have := (List.mem_filter.1 hb).2
   simp [ha] at this
  have hmemU : ∀ x : Nat, (x : Int) ∈ (ws ++ a1.filter fun e => !decide (e ∈ ws)) ↔ VarT Lo [(a1.map Int.toNat).map Tm.v] [] x := fun x => by
   have hwsx : (x : Int) ∈ ws ↔ ∃ l ∈ Lo, hasR x l.2.2 := by
    rw [hws, ea2]
    have := VarR_tree (L := Lo.map oppT) (T := []) (C := []) (x := x)
    refine this.trans ⟨?_, ?_⟩
    ·rintro (⟨l, hl, hx⟩ | ⟨_, h, _⟩ | ⟨_, h, _⟩)
     ·obtain ⟨q, hq, rfl⟩ := List.mem_map.1 hl
      exact ⟨q, hq, hx⟩
     ·cases h
     ·cases h
    ·rintro ⟨l, hl, hx⟩
     exact .inl ⟨_, List.mem_map_of_mem hl, hx⟩
   have hax : x ∈ a1.map Int.toNat ↔ (x : Int) ∈ a1 := by
    constructor
    ·intro h
     obtain ⟨e, he, h2⟩ := List.mem_map.1 h
     have := hrng e he
     rw [← h2, Int.toNat_of_nonneg this.1]; exact he
    ·intro h
     exact List.mem_map.2 ⟨_, h, by simp⟩
   constructor
   ·intro h
    rcases List.mem_append.1 h with h | h
    ·exact .inl (hwsx.1 h)
    ·exact .inr (.inl ⟨_, List.mem_singleton.2 rfl, hasR_vars.2 (hax.2 ((List.mem_filter.1 h).1))⟩)
   ·rintro (h | ⟨q, hq, hx⟩ | ⟨_, h, _⟩)
    ·exact List.mem_append_left _ (hwsx.2 h)
    ·rw [List.mem_singleton.1 hq] at hx
     have hx := hax.1 (hasR_vars.1 hx)
     by_cases hw : (x : Int) ∈ ws
     ·exact List.mem_append_left _ hw
     ·exact List.mem_append_right _ (List.mem_filter.2 ⟨hx, by simp [hw]⟩)
    ·cases h
  generalize (ws ++ a1.filter fun e => !decide (e ∈ ws)) = us at h7 hur hund hmemU ⊢
  obtain ⟨vs, rfl⟩ : ∃ vs : List Nat, us = vs.map fun v : Nat => (v : Int) := ⟨us.map Int.toNat, by
   rw [List.map_map]
   have : ∀ x ∈ us, x = ((fun v : Nat => (v : Int)) ∘ Int.toNat) x := fun x hx => (Int.toNat_of_nonneg (hur x hx).1).symm
   conv => lhs; rw [← List.map_id' us]
   exact List.map_congr_left this⟩
  have hvm : ∀ x, x ∈ vs ↔ VarT Lo [(a1.map Int.toNat).map Tm.v] [] x := fun x => by
   rw [← hmemU]
   constructor
   ·intro h; exact List.mem_map_of_mem h
   ·intro h
    obtain ⟨y, hy, he⟩ := List.mem_map.1 h
    have : x = y := by omega
    rw [this]; exact hy
  have hv24 : ∀ v ∈ vs, v < 24 := fun v hv => by
   have := hur v (List.mem_map_of_mem hv)
   omega
  have hvnd : vs.Nodup := by
   have := hund
   unfold List.Nodup at this ⊢
   rw [List.pairwise_map] at this
   exact this.imp fun h he => h (by rw [he])
  have hvl : vs.length ≤ 7 := by rw [List.length_map] at h7; omega
  have hE0 : EnvOk (m : Int) (List.replicate 24 (0 : Int)) := ⟨by simp, fun x hx => by have := List.eq_of_mem_replicate hx; omega⟩
  have hB : ∀ l ∈ Lo.map oppT, WfL a0 l := fun l hl => by
   obtain ⟨q, hq, rfl⟩ := List.mem_map.1 hl
   exact wfL_opp (wLo q hq)
  have hLl : Lo.length ≤ 1000 := by
   have := (mayB_spec hmay).2.1
   rw [List.length_map] at this; omega
  obtain ⟨b, c1, c2⟩ := means_rounds hm hm3 hn hs hB (by rw [List.length_map]; exact hLl) (wV _ (List.mem_singleton.2 rfl)) hvnd hv24 (Ln.map cl) (Tn.map codesR) (Cn.map cl) (fun E E' _ _ h => by
   rw [← hereT_goal, ← hereT_goal]
   exact hereT_ext fun x hx => h x ((hvm x).2 hx)) (m ^ vs.length) fuel true (List.replicate 24 (0 : Int)) hE0 (by omega) (by
   have q1 : m ^ vs.length ≤ 3 ^ vs.length := Nat.pow_le_pow_left hm3 _
   have q2 : 3 ^ vs.length ≤ 3 ^ 7 := Nat.pow_le_pow_right (by omega) hvl
   have q3 : (3 : Nat) ^ 7 = 2187 := by decide
   unfold fuel
   omega)
  rw [ea2, c1, Option.bind_some]
  obtain ⟨ws2, v1, v2, v3⟩ := clause_Vars_spec hs w4
  rw [v1, Option.bind_some, hnum, Option.bind_some, show ((0 : Int) == 0) = true from rfl, cond_true]
  have hlen : ws2.length = vs.length := by
   have hmem2 : ∀ x : Nat, (x : Int) ∈ ws2 ↔ ∃ y ∈ vs, ρ y = x := fun x => by
    rw [v3, VarR_tree, w7]
    exact ⟨fun ⟨y, hy, he⟩ => ⟨y, (hvm y).2 hy, he⟩, fun ⟨y, hy, he⟩ => ⟨y, (hvm y).1 hy, he⟩⟩
   apply Nat.le_antisymm
   ·have := nodup_le ws2 (vs.map fun v => ((ρ v : Nat) : Int)) (v2.imp fun h => by omega) fun x hx => by
     have h0 : 0 ≤ x := by
      obtain ⟨q, hq, c, hc, h0, he⟩ := (v3 x).1 hx
      omega
     obtain ⟨y, hy, he⟩ := (hmem2 x.toNat).1 (by rw [Int.toNat_of_nonneg h0]; exact hx)
     exact List.mem_map.2 ⟨y, hy, by rw [he, Int.toNat_of_nonneg h0]⟩
    rwa [List.length_map] at this
   ·have := nodup_le (vs.map fun v => ((ρ v : Nat) : Int)) ws2 (nodup_map_on (fun x hx y hy he => w6 x y ((hvm x).1 hx) ((hvm y).1 hy) (by omega)) hvnd) fun x hx => by
     obtain ⟨y, hy, rfl⟩ := List.mem_map.1 hx
     exact (hmem2 (ρ y)).2 ⟨y, hy, rfl⟩
    rwa [List.length_map] at this
  simp only [List.length_map]
  rw [hlen, show (((vs.length : Nat) : Int) == ((vs.length : Nat) : Int)) = true from by simp, cond_true]
  obtain ⟨b2, d1, d2⟩ := Clause_spec hm hm3 hn hs w4 w1 w2 w3
  rw [d1, Option.bind_some]
  have hsame : b2 = true ↔ b = true := by
   rw [d2, c2]
   refine Iff.trans ?_ (Iff.trans (names_same hm hn hs hvm hv24 w5 w6) ?_)
   ·exact ⟨fun H E hE => by rw [← w8]; exact H E hE, fun H E hE => by rw [w8]; exact H E hE⟩
   ·refine ⟨fun H => ⟨rfl, fun E hE _ => ?_⟩, fun ⟨_, H⟩ E hE => ?_⟩
    ·rw [← hereT_goal]; exact H E hE
    ·rw [hereT_goal]; exact H E hE (by rw [cntV_zero]; omega)
  have : b2 = b := Bool.eq_iff_iff.2 hsame
  rw [this]
  simp
theorem goalMeans_plain (x : List QSym × List Int × List QLit × Int × List Int) (h : wtL [.sl tSym, .sl (.one (.int .i64)), .sl tLit, .int .i64, .sl (.one (.int .i64))] x ≤ 1048576) : law24_GoalMeans x.1 x.2.1 x.2.2.1 x.2.2.2.1 x.2.2.2.2 = some true := by
 have h : Go.Abs.wt (.sl tSym) x.1 + (Go.Abs.wt (.sl (.one (.int .i64))) x.2.1 + (Go.Abs.wt (.sl tLit) x.2.2.1 + (Go.Abs.wt (.int .i64) x.2.2.2.1 + Go.Abs.wt (.sl (.one (.int .i64))) x.2.2.2.2))) ≤ 1048576 := h
 rw [wt_ints, wt_ints] at h
 exact goalMeans_true _ _ _ _ _ (by omega) (wt_lits (b := 1048576) (by omega)).2 (by omega)
end
end Go.Abs.Q
