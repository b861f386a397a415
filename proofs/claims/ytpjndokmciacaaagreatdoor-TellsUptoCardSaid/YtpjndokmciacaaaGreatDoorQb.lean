import Derived.Test.YtpjndokmciacaaaGreatDoorQa
/-
  What the functions make of plain values, and what the law says of that.
-/
/-
  The document's answer: signs, terms, clauses that may be.
-/
namespace Go.Abs.Q
open Go Go.Abs
section

theorem ref1_small_eq (n : Int) : ref1_small n = some (smallB n) := sign_small_eq n
theorem rcalled_go (es : List UInt8) : ref1_SymMay_L0_go es = some (cond (es.all nameB) (.inl ()) (.inr false)) := by
  have : ∀ es, ref1_SymMay_L0_go es = sign_called_L0_go es := by
    intro es
    induction es with
    | nil => rfl
    | cons e es ih =>
      unfold ref1_SymMay_L0_go sign_called_L0_go
      rw [ref1_small_eq, sign_small_eq, ih]
  rw [this, called_go]
theorem ref1_SymMay_eq (e : QSym) : ref1_SymMay e.1 e.2.1 e.2.2.1 e.2.2.2 = some (symB e) := by
  obtain ⟨s, a, b, c⟩ := e
  unfold ref1_SymMay symB calledB
  dsimp only
  cases s with
  | nil => rfl
  | cons x r =>
    rw [decide_eq_false (show ¬ (((List.length (x :: r) : Nat) : Int) < 1) by rw [List.length_cons]; omega), cond_false]
    by_cases h : (x :: r).length ≤ 8
    · rw [decide_eq_false (show ¬ (((List.length (x :: r) : Nat) : Int) > 8) by omega), cond_false, gx_zero, List.getElem?_cons_zero, Option.bind_some, ref1_small_eq, Option.bind_some, ref1_SymMay_L0_go_at0 _ _ _ _ (by unfold maxLen; omega), rcalled_go, decide_eq_true h]
      dsimp only
      cases smallB ((UInt8.toNat x : Nat) : Int) with
      | false => rfl
      | true =>
        cases (x :: r).all nameB with
        | false => rfl
        | true =>
          simp only [Bool.not_true, cond_false, cond_true, Option.bind_some, caseS_inl, Bool.true_and, Bool.and_true, ge_iff_le]
          cases decide (0 ≤ a) <;> simp only [cond_true, cond_false, Bool.true_and, Bool.false_and]
          cases decide (a ≤ 2) <;> simp only [cond_true, cond_false, Bool.true_and, Bool.false_and]
          cases decide (0 ≤ b) <;> simp only [cond_true, cond_false, Bool.true_and, Bool.false_and]
          cases decide (b ≤ 3) <;> simp only [cond_true, cond_false, Bool.true_and, Bool.false_and]
          cases decide (1 ≤ c) <;> simp only [cond_true, cond_false, Bool.true_and, Bool.false_and]
    · rw [decide_eq_true (show (((List.length (x :: r) : Nat) : Int) > 8) by omega), decide_eq_false h]
      rfl
theorem ref1_Code_eq (a0 : List QSym) (nm : Str) (h : a0.length ≤ maxLen) : ref1_Code a0 nm = some (idxI (a0.findIdx? (fun e => e.1 == nm))) := by
  have : ∀ es i, ref1_Code_L0_go nm es i = sign_find_L0_go nm es i := by
    intro es
    induction es with
    | nil => intro i; rfl
    | cons e es ih => intro i; unfold ref1_Code_L0_go sign_find_L0_go; rw [ih]
  unfold ref1_Code
  rw [ref1_Code_L0_go_at0 _ _ h, this, find_go]
  cases a0.findIdx? (fun e => e.1 == nm) with
  | none => rfl
  | some j => simp [caseS, idxI]
theorem rmay_go (a0 : List QSym) (h : a0.length ≤ maxLen) (es : List QSym) (i : Nat) : ref1_SignMay_L0_go a0 es i = some (cond (mayGo a0 es i) (.inl ()) (.inr false)) := by
  induction es generalizing i with
  | nil => rfl
  | cons e es ih =>
    unfold ref1_SignMay_L0_go mayGo
    rw [ref1_SymMay_eq, Option.bind_some, ref1_Code_eq _ _ h, Option.bind_some, ih, bne]
    cases symB e with
    | false => rfl
    | true =>
      cases (idxI (a0.findIdx? (fun d => d.1 == e.1)) == (i : Int)) with
      | false => rfl
      | true => simp
theorem ref1_SignMay_eq (a0 : List QSym) : ref1_SignMay a0 = some (signB a0) := by
  unfold ref1_SignMay signB
  cases a0 with
  | nil => rfl
  | cons e es =>
    rw [decide_eq_false (show ¬ (((List.length (e :: es) : Nat) : Int) < 1) by rw [List.length_cons]; omega), cond_false]
    by_cases h : (e :: es).length ≤ 20
    · have h1 : ¬ (((List.length (e :: es) : Nat) : Int) > 20) := by omega
      have hm : (e :: es).length ≤ maxLen := by unfold maxLen; omega
      rw [decide_eq_false h1, cond_false, gx_zero, List.getElem?_cons_zero, Option.bind_some, decide_eq_true h]
      show cond (!(eqQ e)) _ _ = some (true && eqQ e && mayGo (e :: es) es 1)
      cases eqQ e with
      | false => rfl
      | true =>
        have := ref1_SignMay_L0_go_eq (e :: es) hm es 1 fuel rfl (by simp [fuel]; simp at h; omega)
        simp only [Bool.not_true, cond_false]
        rw [show ((1 : Int)) = ((1 : Nat) : Int) from rfl, this, rmay_go _ hm]
        cases mayGo (e :: es) es 1 <;> rfl
    · have h1 : ((List.length (e :: es) : Nat) : Int) > 20 := by omega
      rw [decide_eq_true h1, decide_eq_false h]
      rfl

theorem end_round {a0 : List QSym} (h : SignOk a0) (a1 : List Int) (hl : a1.length ≤ 1099511627776) : ∀ (m i n : Nat) (k : Nat), a1.length - i = m → i ≤ a1.length → n ≤ 1 + 3 * i → m + 1 < k →
    lp ref1_End_L0 k (a0, a1, (n : Int), (i : Int)) = some (match sk a0 n (a1.drop i) with
      | some j => .inl ((i + j : Nat) : Int)
      | none => .inr (-1)) := by
  intro m
  induction m with
  | zero =>
    intro i n k hm hi hni hk
    obtain ⟨k, rfl⟩ : ∃ k', k = k' + 1 := ⟨k - 1, by omega⟩
    rw [lp_succ]
    generalize lp ref1_End_L0 k = rec
    unfold ref1_End_L0
    rw [List.drop_eq_nil_iff.2 (show a1.length ≤ i by omega)]
    cases n with
    | zero => simp [sk]
    | succ n =>
      simp only [decide_eq_true (show ((n + 1 : Nat) : Int) > 0 by omega), cond_true, decide_eq_true (show ((i : Int) ≥ ((List.length a1 : Nat) : Int)) by omega)]
      rfl
  | succ m ih =>
    intro i n k hm hi hni hk
    obtain ⟨k, rfl⟩ : ∃ k', k = k' + 1 := ⟨k - 1, by omega⟩
    have hi : i < a1.length := by omega
    rw [lp_succ]
    have key := fun n' h1 => ih (i + 1) n' k (by omega) (by omega) h1 (by omega)
    generalize lp ref1_End_L0 k = rec at key ⊢
    unfold ref1_End_L0
    cases n with
    | zero => simp [sk]
    | succ n =>
      have e1 : IntKind.wrap .i64 (((n + 1 : Nat) : Int) - 1) = (n : Int) := by rw [wrap64] <;> omega
      have e3 : IntKind.wrap .i64 ((i : Int) + 1) = ((i + 1 : Nat) : Int) := by rw [wrap64] <;> omega
      simp only [decide_eq_true (show ((n + 1 : Nat) : Int) > 0 by omega), cond_true, decide_eq_false (show ¬ ((i : Int) ≥ ((List.length a1 : Nat) : Int)) by omega), cond_false, gx_nat, List.getElem?_eq_getElem hi, Option.bind_some, List.drop_eq_getElem_cons hi, sk, e1, e3]
      generalize a1[i] = x
      unfold arity
      by_cases h0 : x < 0
      · rw [decide_eq_true h0, cond_true]
        by_cases h1 : -24 ≤ x
        · rw [decide_eq_false (show ¬ (x < -24) by omega), cond_false, decide_eq_false (show ¬ (x ≥ ((List.length a0 : Nat) : Int)) by omega), cond_false, decide_eq_false (show ¬ (x ≥ 0) by omega), cond_false, decide_eq_true h1, cond_true, key n (by omega)]
          dsimp only
          rw [Nat.add_zero]
          cases sk a0 n (a1.drop (i + 1)) with
          | none => rfl
          | some j => simp only [Option.map_some]; rw [show i + 1 + j = i + (j + 1) from by omega]
        · rw [decide_eq_true (show x < -24 by omega), decide_eq_false h1]; rfl
      · rw [decide_eq_false h0, decide_eq_false (show ¬ (x < -24) by omega), cond_false, cond_false]
        by_cases h1 : x ≥ ((List.length a0 : Nat) : Int)
        · rw [decide_eq_true h1, cond_true, List.getElem?_eq_none (by omega)]
        · obtain ⟨e, he1, he2, he3⟩ := gx_at (xs := a0) (i := x) (by omega) (by omega)
          have hat := h.at he3
          rw [decide_eq_false h1, cond_false, decide_eq_true (show x ≥ 0 by omega), cond_true, he1, Option.bind_some, he3]
          dsimp only
          cases hk0 : (e.2.1 == 0) with
          | true => rfl
          | false =>
            have e2 : IntKind.wrap .i64 ((n : Int) + e.2.2.1) = ((n + e.2.2.1.toNat : Nat) : Int) := by rw [wrap64] <;> omega
            simp only [cond_false, Option.bind_some, e2]
            rw [key _ (by omega)]
            cases sk a0 (n + e.2.2.1.toNat) (a1.drop (i + 1)) with
            | none => rfl
            | some j => simp only [Option.map_some]; rw [show i + 1 + j = i + (j + 1) from by omega]
def orNo (o : Option Nat) : Int := match o with
  | some k => (k : Int)
  | none => -1
theorem ref1_End_eq {a0 : List QSym} (h : SignOk a0) (a1 : List Int) (hl : a1.length ≤ 1099511627776) (i : Nat) (hi : i ≤ a1.length) : ref1_End a0 a1 (i : Int) = some (orNo ((sk a0 1 (a1.drop i)).map (i + ·))) := by
  unfold ref1_End
  rw [show (1 : Int) = ((1 : Nat) : Int) from rfl, end_round h a1 hl (a1.length - i) i 1 fuel rfl hi (by omega) (by unfold fuel; omega)]
  cases sk a0 1 (a1.drop i) with
  | none => rfl
  | some j => rfl

theorem terms_round {a0 : List QSym} (h : SignOk a0) (a1 : List Int) (hl : a1.length ≤ 1099511627776) : ∀ (m i n k : Nat), a1.length - i = m → i ≤ a1.length → n ≤ i → m < k →
    lp ref1_Terms_L0 k (a0, a1, (n : Int), (i : Int)) = some (match cuts a0 (a1.drop i) with
      | some ps => .inl ((n + ps.length : Nat) : Int)
      | none => .inr (-1)) := by
  intro m
  induction m using Nat.strongRecOn with
  | _ m ih =>
    intro i n k hm hi hn hk
    obtain ⟨k, rfl⟩ : ∃ k', k = k' + 1 := ⟨k - 1, by omega⟩
    rw [lp_succ]
    have key := fun j n' (h1 : i < j) h2 h3 => ih (a1.length - j) (by omega) j n' k rfl h2 h3 (by omega)
    generalize lp ref1_Terms_L0 k = rec at key ⊢
    unfold ref1_Terms_L0
    by_cases he : i = a1.length
    · subst he
      simp [cuts_nil]
    · have hlt : i < a1.length := by omega
      have hne : a1.drop i ≠ [] := by simp; omega
      simp only [lt_true hlt, cond_true, ref1_End_eq h a1 hl i hi, Option.bind_some, cuts_step hne]
      cases hs : sk a0 1 (a1.drop i) with
      | none => rfl
      | some j =>
        have hj := sk_le hs
        rw [List.length_drop] at hj
        have e1 : IntKind.wrap .i64 ((n : Int) + 1) = ((n + 1 : Nat) : Int) := by rw [wrap64] <;> omega
        rw [show orNo (Option.map (fun x => i + x) (some j)) = ((i + j : Nat) : Int) from rfl, decide_eq_false (show ¬ (((i + j : Nat) : Int) < 0) by omega), cond_false, e1]
        rw [key (i + j) (n + 1) (by omega) (by omega) (by omega)]
        dsimp only
        rw [List.drop_drop]
        cases cuts a0 (a1.drop (i + j)) with
        | none => rfl
        | some ps => simp only [Option.map_some, List.length_cons]; rw [show n + 1 + ps.length = n + (ps.length + 1) from by omega]
theorem ref1_Terms_eq {a0 : List QSym} (hs : signB a0 = true) (a1 : List Int) : ref1_Terms a0 a1 = some (orNo (rowW a0 a1)) := by
  have h := signB_ok hs
  unfold ref1_Terms rowW beginsB
  rw [hs, Bool.true_and]
  by_cases hl : a1.length ≤ 48
  · have := terms_round h a1 (by omega) a1.length 0 0 fuel rfl (Nat.zero_le _) (Nat.le_refl _) (by unfold fuel; omega)
    rw [show ((0 : Nat) : Int) = 0 from rfl, List.drop_zero] at this
    rw [decide_eq_false (show ¬ (((List.length a1 : Nat) : Int) > 48) by omega), decide_eq_true hl, cond_false, cond_true, this]
    cases cuts a0 a1 with
    | none => rfl
    | some ps => simp [caseS, orNo]
  · rw [decide_eq_true (show (((List.length a1 : Nat) : Int) > 48) by omega), decide_eq_false hl]; rfl

theorem ref1_IsAtom_eq {a0 : List QSym} (hs : signB a0 = true) (xs : List Int) : ref1_IsAtom a0 xs = some (atomB a0 xs) := by
  have h := signB_ok hs
  unfold ref1_IsAtom atomB
  cases xs with
  | nil => rfl
  | cons x r =>
    simp only [decide_eq_true (show (((x :: r).length : Nat) : Int) > 0 by simp <;> omega), cond_true, gx_zero, List.getElem?_cons_zero, Option.bind_some]
    by_cases h0 : x < 0
    · rw [decide_eq_false (show ¬ (x ≥ 0) by omega)]; rfl
    · rw [decide_eq_true (show x ≥ 0 by omega), cond_true, Bool.true_and]
      by_cases h1 : x ≥ ((List.length a0 : Nat) : Int)
      · rw [decide_eq_false (show ¬ (x < ((List.length a0 : Nat) : Int)) by omega), List.getElem?_eq_none (by omega)]; rfl
      · obtain ⟨e, he1, he2, he3⟩ := gx_at (xs := a0) (i := x) (by omega) (by omega)
        have hat := h.at he3
        simp only [decide_eq_true (show x < ((List.length a0 : Nat) : Int) by omega), cond_true, he1, he3, Option.bind_some]
        cases hk : (e.2.1 == 0) with
        | false => rfl
        | true =>
          simp only [cond_true, slc_tail, Option.bind_some, ref1_Terms_eq hs, Bool.true_and]
          unfold rowW
          cases beginsB a0 r with
          | none =>
            have : ((-1 : Int) == e.2.2.1) = false := by simp; omega
            simp [orNo, this]
          | some ps => rfl
theorem atomB_sign {a0 : List QSym} {xs : List Int} (h : atomB a0 xs = true) : signB a0 = true := by
  obtain ⟨_, _, _, _, _, _, _, _, _, hs, _⟩ := atomB_spec h
  exact hs
theorem ref8_LitMay_eq (a0 : List QSym) (b : Bool) (xs : List Int) : ref8_LitMay a0 b xs = some (atomB a0 xs) := by
  unfold ref8_LitMay
  rw [ref1_SignMay_eq, Option.bind_some]
  cases hs : signB a0 with
  | true => rw [cond_true, ref1_IsAtom_eq hs]; rfl
  | false =>
    cases ha : atomB a0 xs with
    | false => rfl
    | true => rw [atomB_sign ha] at hs; cases hs

theorem rrows2 (s : List QLit) : (es : List QLit) → (acc : List (List Int)) → acc.length + es.length ≤ 1000000 → ref8_rows_L2_go es acc = some (acc ++ es.map (·.2)) ∧ ref8_rows_L0_go es acc = some (acc ++ es.map (·.2))
  | [], acc, _ => ⟨by simp [ref8_rows_L2_go], by simp [ref8_rows_L0_go]⟩
  | e :: es, acc, h => by
    rw [List.length_cons] at h
    obtain ⟨k1, k2⟩ := rrows2 s es (acc ++ [e.2]) (by simp; omega)
    unfold ref8_rows_L2_go ref8_rows_L0_go
    rw [room_ok (show (acc.length + [e.2].length) * 24 ≤ 140737488351232 by simp; omega), cond_true, cond_true, k1, k2]
    simp
theorem rrows1 : (es : List (List Int)) → (acc : List (List Int)) → acc.length + es.length ≤ 1000000 → ref8_rows_L1_go es acc = some (acc ++ es)
  | [], acc, _ => by simp [ref8_rows_L1_go]
  | e :: es, acc, h => by
    rw [List.length_cons] at h
    have k1 := rrows1 es (acc ++ [e]) (by simp; omega)
    unfold ref8_rows_L1_go
    rw [room_ok (show (acc.length + [e].length) * 24 ≤ 140737488351232 by simp; omega), cond_true, k1]
    simp
theorem ref8_rows_eq (a1 : List QLit) (a2 : List (List Int)) (a3 : List QLit) (h1 : a1.length ≤ 1000) (h2 : a2.length ≤ 1000) (h3 : a3.length ≤ 1000) : ref8_rows a1 a2 a3 = some (a1.map (·.2) ++ a2 ++ a3.map (·.2)) := by
  unfold ref8_rows
  rw [ref8_rows_L0_go_at0 _ _ _ _ (by unfold maxLen; omega), (rrows2 [] a1 [] (by simp; omega)).2, Option.bind_some, ref8_rows_L1_go_at0 _ _ _ _ (by unfold maxLen; omega), rrows1 a2 _ (by simp; omega), Option.bind_some,
    ref8_rows_L2_go_at0 _ _ _ _ (by unfold maxLen; omega), (rrows2 [] a3 _ (by simp; omega)).1]
  simp
theorem rsum_go : (es : List (List Int)) → (t : Nat) → t + sumLen es ≤ 1000000000000 → ref8_May_L3_go es (t : Int) = some ((t + sumLen es : Nat) : Int)
  | [], t, _ => by simp [ref8_May_L3_go, sumLen]
  | e :: es, t, h => by
    have hs : sumLen (e :: es) = e.length + sumLen es := by simp [sumLen]
    rw [hs] at h
    unfold ref8_May_L3_go
    have e1 : IntKind.wrap .i64 ((t : Int) + ((List.length e : Nat) : Int)) = ((t + e.length : Nat) : Int) := by rw [wrap64] <;> omega
    rw [e1, rsum_go es (t + e.length) (by omega), hs]
    congr 2
    omega
theorem rlits_go (a0 : List QSym) : (es : List QLit) → ref8_May_L0_go a0 es = some (cond (litsB a0 es) (.inl ()) (.inr false)) ∧ ref8_May_L1_go a0 es = some (cond (litsB a0 es) (.inl ()) (.inr false))
  | [] => ⟨rfl, rfl⟩
  | e :: es => by
    obtain ⟨k1, k2⟩ := rlits_go a0 es
    unfold ref8_May_L0_go ref8_May_L1_go
    rw [ref8_LitMay_eq, k1, k2]
    unfold litsB
    rw [List.all_cons]
    cases atomB a0 e.2 <;> exact ⟨rfl, rfl⟩
theorem rrows_go {a0 : List QSym} (hs : signB a0 = true) (s3 : List (List Int)) (r : List Int) (h0 : s3[0]? = some r) : (es : List (List Int)) → ref8_May_L2_go a0 s3 es = some (cond (es.all fun q => (rowW a0 q).isSome && (rowW a0 q == rowW a0 r)) (.inl ()) (.inr false))
  | [] => rfl
  | e :: es => by
    unfold ref8_May_L2_go
    rw [ref1_Terms_eq hs, Option.bind_some, gx_zero, h0, Option.bind_some, ref1_Terms_eq hs, Option.bind_some, rrows_go hs s3 r h0 es, List.all_cons]
    cases h1 : rowW a0 e with
    | none => rfl
    | some n =>
      rw [show orNo (some n) = (n : Int) from rfl, decide_eq_false (show ¬ ((n : Int) < 0) by omega), cond_false]
      cases h2 : rowW a0 r with
      | none =>
        rw [show (((n : Int)) != orNo none) = true from by simp [orNo] <;> omega]
        rfl
      | some k =>
        by_cases hn : n = k
        · subst hn; simp [orNo]
        · have e1 : (((n : Int)) != orNo (some k)) = true := by simp [orNo]; omega
          have e2 : (some n == some k) = false := by simpa using hn
          rw [e1, e2]; simp
theorem rowsB_all' {a0 : List QSym} (r : List Int) (rs : List (List Int)) : ((r :: rs).all fun q => (rowW a0 q).isSome && (rowW a0 q == rowW a0 r)) = rowsB a0 (r :: rs) := by
  unfold rowsB
  dsimp only
  cases hr : rowW a0 r with
  | none => simp [hr]
  | some n =>
    rw [List.all_cons, hr]
    simp only [Option.isSome_some, beq_self_eq_true, Bool.true_and]
    congr 1
    funext q
    cases rowW a0 q <;> simp

theorem ref8_May_eq (a0 : List QSym) (a1 : List QLit) (a2 : List (List Int)) (a3 : List QLit) : ref8_May a0 a1 a2 a3 = some (mayB a0 a1 a2 a3) := by
  unfold ref8_May mayB
  rw [ref1_SignMay_eq, Option.bind_some]
  cases hs : signB a0 with
  | false => rfl
  | true =>
    by_cases h1 : a1.length ≤ 5
    · by_cases h3 : a3.length ≤ 3
      · by_cases h2 : a2.length ≤ 3
        · simp only [Bool.not_true, cond_false, decide_eq_false (show ¬ (((List.length a1 : Nat) : Int) > 5) by omega), decide_eq_false (show ¬ (((List.length a2 : Nat) : Int) > 3) by omega), decide_eq_false (show ¬ (((List.length a3 : Nat) : Int) > 3) by omega),
            decide_eq_true h1, decide_eq_true h2, decide_eq_true h3, Bool.true_and]
          rw [ref8_May_L0_go_at0 _ _ _ _ (by unfold maxLen; omega), (rlits_go a0 a1).1]
          cases hb1 : litsB a0 a1 with
          | false => rfl
          | true =>
            simp only [cond_true, Option.bind_some, caseS_inl, Bool.true_and]
            rw [ref8_May_L1_go_at0 _ _ _ _ (by unfold maxLen; omega), (rlits_go a0 a3).2]
            cases hb3 : litsB a0 a3 with
            | false => simp [caseS]
            | true =>
              simp only [cond_true, Option.bind_some, caseS_inl, Bool.and_true]
              rw [ref8_May_L2_go_at0 _ _ _ _ (by unfold maxLen; omega)]
              have hrows : ref8_May_L2_go a0 a2 a2 = some (cond (rowsB a0 a2) (.inl ()) (.inr false)) := by
                cases a2 with
                | nil => rfl
                | cons r rs => rw [rrows_go hs (r :: rs) r rfl (r :: rs), rowsB_all']
              rw [hrows]
              cases hb2 : rowsB a0 a2 with
              | false => rfl
              | true =>
                have s1 := lits_sum a1 hb1
                have s2 := rows_sum a2 hb2
                have s3 := lits_sum a3 hb3
                have hsum : sumLen (a1.map (·.2) ++ a2 ++ a3.map (·.2)) = sumLen (a1.map (·.2)) + sumLen a2 + sumLen (a3.map (·.2)) := by simp [sumLen]; omega
                simp only [cond_true, Option.bind_some, caseS_inl, ref8_rows_eq a1 a2 a3 (by omega) (by omega) (by omega), Bool.true_and]
                rw [ref8_May_L3_go_at0 _ _ (by simp only [List.length_append, List.length_map]; unfold maxLen; omega), show (0 : Int) = ((0 : Nat) : Int) from rfl, rsum_go _ 0 (by rw [hsum]; omega), Option.bind_some, Nat.zero_add, hsum]
                simp only [Option.some.injEq, decide_eq_decide]
                omega
        · simp only [Bool.not_true, cond_false, decide_eq_false (show ¬ (((List.length a1 : Nat) : Int) > 5) by omega), decide_eq_false (show ¬ (((List.length a3 : Nat) : Int) > 3) by omega), decide_eq_true (show (((List.length a2 : Nat) : Int) > 3) by omega), decide_eq_false h2, cond_true, Bool.and_false, Bool.false_and]
      · simp only [Bool.not_true, cond_false, decide_eq_false (show ¬ (((List.length a1 : Nat) : Int) > 5) by omega), decide_eq_true (show (((List.length a3 : Nat) : Int) > 3) by omega), decide_eq_false h3, cond_true, Bool.and_false, Bool.false_and]
    · simp only [Bool.not_true, cond_false, decide_eq_true (show (((List.length a1 : Nat) : Int) > 5) by omega), decide_eq_false h1, cond_true, Bool.and_false, Bool.false_and]

end
end Go.Abs.Q
/-
  The document's answer: texts; what is said of an answer.
-/
namespace Go.Abs.Q
open Go Go.Abs
section

theorem behind_round {a0 : List QSym} (h : SignOk a0) (a1 : List Int) (hl : a1.length ≤ 1099511627776) : ∀ (m i n j k : Nat), a1.length - i = m → i ≤ a1.length → n ≤ 1 + 3 * i → sk a0 n (a1.drop i) = some j → m + 1 < k →
    lp ref1_behind_L0 k (a0, a1, (n : Int), (i : Int)) = some ((i + j : Nat) : Int) := by
  intro m
  induction m with
  | zero =>
    intro i n j k hm hi hni hs hk
    obtain ⟨k, rfl⟩ : ∃ k', k = k' + 1 := ⟨k - 1, by omega⟩
    rw [lp_succ]
    generalize lp ref1_behind_L0 k = rec
    unfold ref1_behind_L0
    rw [List.drop_eq_nil_iff.2 (show a1.length ≤ i by omega)] at hs
    cases n with
    | zero =>
      simp [sk] at hs
      subst hs
      simp
    | succ n => simp [sk] at hs
  | succ m ih =>
    intro i n j k hm hi hni hs hk
    obtain ⟨k, rfl⟩ : ∃ k', k = k' + 1 := ⟨k - 1, by omega⟩
    have hi : i < a1.length := by omega
    rw [lp_succ]
    have key := fun n' j' h1 h2 => ih (i + 1) n' j' k (by omega) (by omega) h1 h2 (by omega)
    generalize lp ref1_behind_L0 k = rec at key ⊢
    unfold ref1_behind_L0
    cases n with
    | zero =>
      simp [sk] at hs
      subst hs
      simp
    | succ n =>
      have e1 : IntKind.wrap .i64 (((n + 1 : Nat) : Int) - 1) = (n : Int) := by rw [wrap64] <;> omega
      have e3 : IntKind.wrap .i64 ((i : Int) + 1) = ((i + 1 : Nat) : Int) := by rw [wrap64] <;> omega
      rw [List.drop_eq_getElem_cons hi] at hs
      simp only [sk] at hs
      simp only [decide_eq_true (show ((n + 1 : Nat) : Int) > 0 by omega), cond_true, gx_nat, List.getElem?_eq_getElem hi, Option.bind_some, e1, e3]
      generalize a1[i] = x at hs
      cases ha : arity a0 x with
      | none => rw [ha] at hs; cases hs
      | some q =>
        rw [ha] at hs
        simp only [Option.map_eq_some_iff] at hs
        obtain ⟨j', hj', rfl⟩ := hs
        by_cases h0 : x < 0
        · obtain ⟨_, rfl⟩ := arity_neg ha h0
          rw [decide_eq_false (show ¬ (x ≥ 0) by omega), cond_false, key n j' (by omega) hj']
          rw [show i + 1 + j' = i + (j' + 1) from by omega]
        · obtain ⟨e, he1, he2, he3, rfl⟩ := arity_pos ha h0
          have hat := h.at he2
          have e2 : IntKind.wrap .i64 ((n : Int) + e.2.2.1) = ((n + e.2.2.1.toNat : Nat) : Int) := by rw [wrap64] <;> omega
          rw [decide_eq_true (show x ≥ 0 by omega), cond_true, he1, Option.bind_some, e2, key _ j' (by omega) hj']
          rw [show i + 1 + j' = i + (j' + 1) from by omega]
theorem ref1_behind_eq {a0 : List QSym} (h : SignOk a0) (a1 : List Int) (hl : a1.length ≤ 1099511627776) (i j : Nat) (hi : i ≤ a1.length) (hs : sk a0 1 (a1.drop i) = some j) : ref1_behind a0 a1 (i : Int) = some ((i + j : Nat) : Int) := by
  unfold ref1_behind
  rw [show (1 : Int) = ((1 : Nat) : Int) from rfl, behind_round h a1 hl (a1.length - i) i 1 j fuel rfl hi (by omega) hs (by unfold fuel; omega)]
  rfl
theorem parts_round {a0 : List QSym} (h : SignOk a0) (a1 : List Int) (hl : a1.length ≤ 1099511627776) : ∀ (m i : Nat) (acc ps : List (List Int)) (k : Nat), a1.length - i = m → i ≤ a1.length → acc.length ≤ i → cuts a0 (a1.drop i) = some ps → m < k →
    lp ref1_Parts_L0 k (a0, a1, (i : Int), acc) = some (acc ++ ps) := by
  intro m
  induction m using Nat.strongRecOn with
  | _ m ih =>
    intro i acc ps k hm hi hacc hc hk
    obtain ⟨k, rfl⟩ : ∃ k', k = k' + 1 := ⟨k - 1, by omega⟩
    rw [lp_succ]
    have key := fun j acc' ps' (h1 : i < j) h2 h3 h4 => ih (a1.length - j) (by omega) j acc' ps' k rfl h2 h3 h4 (by omega)
    generalize lp ref1_Parts_L0 k = rec at key ⊢
    unfold ref1_Parts_L0
    by_cases he : i = a1.length
    · subst he
      rw [List.drop_length, cuts_nil] at hc
      injection hc with hc; subst hc
      simp
    · have hlt : i < a1.length := by omega
      have hne : a1.drop i ≠ [] := by simp; omega
      rw [cuts_step hne] at hc
      cases hs : sk a0 1 (a1.drop i) with
      | none => rw [hs] at hc; cases hc
      | some j =>
        rw [hs] at hc
        simp only [Option.map_eq_some_iff] at hc
        obtain ⟨qs, hq, rfl⟩ := hc
        have hj := sk_le hs
        rw [List.length_drop] at hj
        have e1 : slc2 a1 (some (i : Int)) (some ((i + j : Nat) : Int)) = some ((a1.drop i).take j) := by
          rw [slc_at a1 (by omega) (by omega), show i + j - i = j from by omega]
        simp only [decide_eq_true (show (i : Int) < ((List.length a1 : Nat) : Int) by omega), cond_true, ref1_behind_eq h a1 hl i j hi hs, Option.bind_some, e1, List.length_singleton, room_ok (show (acc.length + 1) * 24 ≤ 140737488351232 by omega)]
        rw [List.drop_drop] at hq
        rw [key (i + j) _ qs (by omega) (by omega) (by simp; omega) hq]
        simp
theorem ref1_Parts_eq {a0 : List QSym} (h : SignOk a0) {a1 : List Int} (hl : a1.length ≤ 1099511627776) {ps : List (List Int)} (hc : cuts a0 a1 = some ps) : ref1_Parts a0 a1 = some ps := by
  unfold ref1_Parts
  have := parts_round h a1 hl a1.length 0 [] ps fuel rfl (Nat.zero_le _) (Nat.zero_le _) hc (by unfold fuel; omega)
  rw [show ((0 : Nat) : Int) = 0 from rfl] at this
  rw [this]
  rfl

theorem dec_all : ((List.range 100).all fun n => decide (ref17_Decimal (n : Int) = some (dig2 n))) = true := by kernel_rfl
theorem ref17_Decimal_eq {n : Int} (h0 : 0 ≤ n) (h1 : n < 100) : ref17_Decimal n = some (dig2 n.toNat) := by
  have := List.all_eq_true.1 dec_all n.toNat (List.mem_range.2 (by omega))
  rw [decide_eq_true_eq] at this
  rw [← this, show ((n.toNat : Nat) : Int) = n from by omega]

/-- What stands behind a symbol. -/
def argsT (a0 : List QSym) (xs : List Int) : Str := cond xs.isEmpty [] (([40] ++ showTs a0 xs) ++ [41])
theorem pieceT_args {a0 : List QSym} {x : Int} {r : List Int} (hx : ¬ x < 0) : pieceT a0 (showTs a0) (x :: r) = nameOf a0 x ++ argsT a0 r := by
  rw [pieceT_cons, decide_eq_false hx, cond_false]
  unfold argsT
  cases r.isEmpty <;> simp

theorem showTs_len {a0 : List QSym} (h : SignOk a0) {xs : List Int} {ps : List (List Int)} (hl : xs.length ≤ 1000000000) (hc : cuts a0 xs = some ps) : (showTs a0 xs).length ≤ 12 * xs.length := (formula_ShowTerms_eq h hl hc).2
theorem join_snoc (ts : List Str) (t sep : Str) : Lib.join (ts ++ [t]) sep = cond ts.isEmpty t ((Lib.join ts sep ++ sep) ++ t) := by
  cases ts with
  | nil => simp [Lib.join_one]
  | cons a ts =>
    rw [List.cons_append, Lib.join_cons, joinTail_snoc, Lib.join_cons]
    simp

theorem rterms_go {a0 : List QSym} (h : SignOk a0) (rf : ((List QSym × List Int) → Option Str) × ((List QSym × List Int) → Option Str) × ((List QSym × List Int) → Option Str)) {n : Nat} (hn : n ≤ 1000) (ht : ∀ q, q.length ≤ n → sk a0 1 q = some q.length → rf.2.1 (a0, q) = some (pieceT a0 (showTs a0) q)) : (es pre : List (List Int)) → (∀ q ∈ es, sk a0 1 q = some q.length ∧ q.length ≤ n) →
    (Lib.join (pre.map (pieceT a0 (showTs a0))) [44, 32]).length + 13000 * es.length ≤ 1000000000 → es.length ≤ 1000 →
    ref21_Terms_L0_go rf a0 es pre.length (Lib.join (pre.map (pieceT a0 (showTs a0))) [44, 32]) = some (Lib.join ((pre ++ es).map (pieceT a0 (showTs a0))) [44, 32])
  | [], pre, _, _, _ => by simp [ref21_Terms_L0_go]
  | e :: es, pre, hq, hl, hes => by
    obtain ⟨hs, hen⟩ := hq e (by simp)
    have hr := ht e hen hs
    have hlen := showTs_len h (by omega) (showTs_one hs).2
    rw [(showTs_one hs).1] at hlen
    rw [List.length_cons] at hl hes
    have e2 : ([44, 32] : Str).length = 2 := rfl
    have hj : Lib.join ((pre ++ [e]).map (pieceT a0 (showTs a0))) [44, 32] = cond (pre.map (pieceT a0 (showTs a0))).isEmpty (pieceT a0 (showTs a0) e) ((Lib.join (pre.map (pieceT a0 (showTs a0))) [44, 32] ++ [44, 32]) ++ pieceT a0 (showTs a0) e) := by
      rw [List.map_append, List.map_singleton, join_snoc]
    have key := rterms_go h rf hn ht es (pre ++ [e]) (fun q hm => hq q (by simp [hm])) (by
      rw [hj]
      cases (pre.map (pieceT a0 (showTs a0))).isEmpty <;> simp <;> omega) (by omega)
    rw [hj, List.length_append, List.length_singleton] at key
    rw [show pre ++ e :: es = (pre ++ [e]) ++ es from by simp]
    unfold ref21_Terms_L0_go
    cases pre with
    | nil =>
      simp only [List.length_nil, List.map_nil, List.isEmpty_nil, cond_true, Lib.join_nil, Nat.zero_add] at key hl ⊢
      rw [show decide (((0 : Nat) : Int) > 0) = false from rfl, cond_false, hr, Option.bind_some, decide_eq_true (show List.length (pieceT a0 (showTs a0) e) < 4611686018427387904 by omega), cond_true, List.nil_append]
      exact key
    | cons p pre =>
      rw [List.map_cons, List.isEmpty_cons, cond_false, ← List.map_cons] at key
      rw [decide_eq_true (show (((p :: pre).length : Nat) : Int) > 0 by simp <;> omega), cond_true, decide_eq_true (show List.length (Lib.join ((p :: pre).map (pieceT a0 (showTs a0))) [44, 32]) + List.length ([44, 32] : Str) < 4611686018427387904 by rw [e2]; omega), cond_true, hr, Option.bind_some,
        decide_eq_true (show List.length (Lib.join ((p :: pre).map (pieceT a0 (showTs a0))) [44, 32] ++ [44, 32]) + List.length (pieceT a0 (showTs a0) e) < 4611686018427387904 by rw [List.length_append, e2]; omega), cond_true]
      exact key

theorem tree_ok {a0 : List QSym} (h : SignOk a0) : ∀ n, n ≤ 1000 →
    (∀ k, 3 * n ≤ k → ∀ q, q.length ≤ n → sk a0 1 q = some q.length → (ref21_Terms_R k).2.1 (a0, q) = some (pieceT a0 (showTs a0) q)) ∧
    (∀ k, 3 * n + 1 ≤ k → ∀ xs ps, xs.length ≤ n → cuts a0 xs = some ps → (ref21_Terms_R k).2.2 (a0, xs) = some (showTs a0 xs)) ∧
    (∀ k, 3 * n + 2 ≤ k → ∀ xs ps, xs.length ≤ n → cuts a0 xs = some ps → (ref21_Terms_R k).1 (a0, xs) = some (argsT a0 xs)) := by
  have hT : ∀ n, n ≤ 1000 → (∀ k, 3 * n ≤ k → ∀ q, q.length ≤ n → sk a0 1 q = some q.length → (ref21_Terms_R k).2.1 (a0, q) = some (pieceT a0 (showTs a0) q)) →
      ∀ k, 3 * n + 1 ≤ k → ∀ xs ps, xs.length ≤ n → cuts a0 xs = some ps → (ref21_Terms_R k).2.2 (a0, xs) = some (showTs a0 xs) := by
    intro n hn hR k hk xs ps hl hc
    obtain ⟨k, rfl⟩ : ∃ k', k = k' + 1 := ⟨k - 1, by omega⟩
    have hf := cuts_flat xs.length xs ps (Nat.le_refl _) hc
    have hlen := cuts_len hc
    show ref21_Terms_S (ref21_Terms_R k) a0 xs = _
    unfold ref21_Terms_S
    rw [ref1_Parts_eq h (by omega) hc, Option.bind_some, ref21_Terms_L0_go_at0 _ _ _ _ (by unfold maxLen; omega)]
    have := rterms_go h (ref21_Terms_R k) hn (hR k (by omega)) ps [] (fun q hq => ⟨(hf.2 q hq).2, by
      have := mem_len hq
      rw [hf.1] at this
      omega⟩) (by show 0 + _ ≤ _; omega) (by omega)
    rw [show ref21_Terms_L0_go (ref21_Terms_R k) a0 ps 0 ([] : Str) = _ from this, showTs_eq hc]
    rfl
  have hA : ∀ n, n ≤ 1000 → (∀ k, 3 * n + 1 ≤ k → ∀ xs ps, xs.length ≤ n → cuts a0 xs = some ps → (ref21_Terms_R k).2.2 (a0, xs) = some (showTs a0 xs)) →
      ∀ k, 3 * n + 2 ≤ k → ∀ xs ps, xs.length ≤ n → cuts a0 xs = some ps → (ref21_Terms_R k).1 (a0, xs) = some (argsT a0 xs) := by
    intro n hn hTn k hk xs ps hl hc
    obtain ⟨k, rfl⟩ : ∃ k', k = k' + 1 := ⟨k - 1, by omega⟩
    show ref21_Args_S (ref21_Terms_R k) a0 xs = _
    unfold ref21_Args_S argsT
    cases xs with
    | nil => rfl
    | cons x r =>
      have hlen := showTs_len h (by omega) hc
      rw [show (((List.length (x :: r) : Nat) : Int) == 0) = false from by simp <;> omega, cond_false, hTn k (by omega) _ ps hl hc, Option.bind_some, List.isEmpty_cons, cond_false,
        decide_eq_true (show List.length ([40] : Str) + List.length (showTs a0 (x :: r)) < 4611686018427387904 by simp only [List.length_cons, List.length_nil] at *; omega), cond_true,
        decide_eq_true (show List.length ([40] ++ showTs a0 (x :: r)) + List.length ([41] : Str) < 4611686018427387904 by rw [List.length_append]; simp only [List.length_cons, List.length_nil] at *; omega), cond_true]
  intro n
  induction n with
  | zero =>
    intro hn
    have hR : ∀ k, 3 * 0 ≤ k → ∀ q : List Int, q.length ≤ 0 → sk a0 1 q = some q.length → (ref21_Terms_R k).2.1 (a0, q) = some (pieceT a0 (showTs a0) q) := fun k _ q hq hs => by
      obtain rfl : q = [] := List.length_eq_zero_iff.1 (by omega)
      simp [sk] at hs
    exact ⟨hR, hT 0 hn hR, hA 0 hn (hT 0 hn hR)⟩
  | succ n ih =>
    intro hn
    have hR : ∀ k, 3 * (n + 1) ≤ k → ∀ q : List Int, q.length ≤ n + 1 → sk a0 1 q = some q.length → (ref21_Terms_R k).2.1 (a0, q) = some (pieceT a0 (showTs a0) q) := fun k hk q hq hs => by
      obtain ⟨k, rfl⟩ : ∃ k', k = k' + 1 := ⟨k - 1, by omega⟩
      obtain ⟨x, r, m, rfl, ha, hr⟩ := piece_cases hs
      rw [List.length_cons] at hq
      show ref21_Term_S (ref21_Terms_R k) a0 (x :: r) = _
      unfold ref21_Term_S
      simp only [gx_zero, List.getElem?_cons_zero, Option.bind_some, slc_tail]
      by_cases hx : x < 0
      · have hx2 := (arity_neg ha hx).1
        have e1 : IntKind.wrap .i64 (-1 - x) = -1 - x := wrap64 (by omega) (by omega)
        have hd := dig2_len (-1 - x).toNat
        rw [decide_eq_true hx, cond_true, e1, ref17_Decimal_eq (by omega) (by omega), Option.bind_some, pieceT_cons, decide_eq_true hx, cond_true,
          decide_eq_true (show List.length ([88] : Str) + List.length (dig2 (-1 - x).toNat) < 4611686018427387904 by simp only [List.length_cons, List.length_nil]; omega), cond_true]
      · obtain ⟨e, he1, he2, he3, rfl⟩ := arity_pos ha hx
        have hat := h.at he2
        have hnm : nameOf a0 x = e.1 := by unfold nameOf; rw [he2]
        obtain ⟨ps, hps, _⟩ := cuts_sk _ r hr
        have hlen := showTs_len h (by omega) hps
        have hal : (argsT a0 r).length ≤ 12 * r.length + 2 := by
          unfold argsT
          cases r.isEmpty
          · simp; omega
          · simp
        rw [decide_eq_false hx, cond_false, he1, Option.bind_some, (ih (by omega)).2.2 k (by omega) r ps (by omega) hps, Option.bind_some, pieceT_args hx, hnm,
          decide_eq_true (show List.length e.1 + List.length (argsT a0 r) < 4611686018427387904 by omega), cond_true]
    exact ⟨hR, hT _ hn hR, hA _ hn (hT _ hn hR)⟩

theorem ref21_Terms_eq {a0 : List QSym} (h : SignOk a0) {xs : List Int} {ps : List (List Int)} (hl : xs.length ≤ 1000) (hc : cuts a0 xs = some ps) : ref21_Terms a0 xs = some (showTs a0 xs) :=
  (tree_ok h xs.length hl).2.1 fuel (by unfold fuel; omega) xs ps (Nat.le_refl _) hc
theorem ref21_Args_eq {a0 : List QSym} (h : SignOk a0) {xs : List Int} {ps : List (List Int)} (hl : xs.length ≤ 1000) (hc : cuts a0 xs = some ps) : ref21_Args a0 xs = some (argsT a0 xs) :=
  (tree_ok h xs.length hl).2.2 fuel (by unfold fuel; omega) xs ps (Nat.le_refl _) hc
theorem ref21_Term_eq {a0 : List QSym} (h : SignOk a0) {q : List Int} (hl : q.length ≤ 1000) (hs : sk a0 1 q = some q.length) : ref21_Term a0 q = some (showTs a0 q) := by
  rw [(showTs_one hs).1]
  exact (tree_ok h q.length hl).1 fuel (by unfold fuel; omega) q (Nat.le_refl _) hs

theorem ref21_Atom_eq {a0 : List QSym} {xs : List Int} (h : atomB a0 xs = true) : ref21_Atom a0 xs = some (showA a0 xs) := by
  obtain ⟨x, r, e, ps, rfl, h0, he, hg, hk, hs, hl, hc, hn⟩ := atomB_spec h
  have hS := signB_ok hs
  have hat := hS.at he
  have hnm : nameOf a0 x = e.1 := by unfold nameOf; rw [he]
  have t2 := showTs_len hS (by omega) hc
  unfold ref21_Atom
  rw [showA_cons]
  simp only [gx_zero, List.getElem?_cons_zero, Option.bind_some, slc_tail]
  by_cases hx : x = 0
  · subst hx
    have : e = equalsQ := by
      have := hS.eq
      rw [show ((0 : Int).toNat) = 0 from rfl] at he
      rw [he] at this
      injection this
    subst this
    have hn : ps.length = 2 := by have : ((ps.length : Nat) : Int) = 2 := hn; omega
    match ps, hn with
    | [p, q], _ =>
      have hf := cuts_flat r.length r [p, q] (Nat.le_refl _) hc
      have hlen : p.length + q.length = r.length := by rw [← hf.1]; simp
      have hp := hf.2 p (by simp)
      have hq := hf.2 q (by simp)
      have u2 := showTs_len hS (xs := p) (by omega) (showTs_one hp.2).2
      have v2 := showTs_len hS (xs := q) (by omega) (showTs_one hq.2).2
      have e1 : inR 0 (List.length [p, q]) = some 0 := rfl
      have e2 : inR 1 (List.length [p, q]) = some 1 := rfl
      have e3 : ([32, 61, 32] : Str).length = 3 := rfl
      rw [show ((0 : Int) == 0) = true from rfl, cond_true, cond_true, ref1_Parts_eq hS (by omega) hc, hc, Option.bind_some, e1, Option.bind_some, List.getElem?_cons_zero, Option.bind_some, ref21_Term_eq hS (by omega) hp.2, Option.bind_some,
        decide_eq_true (show List.length (showTs a0 p) + List.length ([32, 61, 32] : Str) < 4611686018427387904 by rw [e3]; omega), cond_true, e2, Option.bind_some, List.getElem?_cons_succ, List.getElem?_cons_zero, Option.bind_some, ref21_Term_eq hS (by omega) hq.2, Option.bind_some,
        decide_eq_true (show List.length (showTs a0 p ++ [32, 61, 32]) + List.length (showTs a0 q) < 4611686018427387904 by rw [List.length_append, e3]; omega), cond_true]
      rfl
  · have hal : (argsT a0 r).length ≤ 12 * r.length + 2 := by
      unfold argsT
      cases r.isEmpty
      · simp; omega
      · simp
    rw [show (x == 0) = false from by simpa using hx, cond_false, cond_false, hg, Option.bind_some, ref21_Args_eq hS (by omega) hc, Option.bind_some, decide_eq_true (show List.length e.1 + List.length (argsT a0 r) < 4611686018427387904 by omega), cond_true, hnm]
    unfold argsT
    cases r.isEmpty <;> simp

end
end Go.Abs.Q
/-
  What is told of an answer: the program's text and the document's.
-/
namespace Go.Abs.Q
open Go Go.Abs
section

theorem cat_ok {s t : Str} (h : s.length + t.length ≤ 1000000000000) : decide ((List.length s + List.length t : Nat) < 4611686018427387904) = true := decide_eq_true (by omega)

theorem tell_row {a0 : List QSym} {n : Nat} {e : List Int} (hw : rowW a0 e = some n) (es : List (List Int)) (i : Nat) (acc : Str) (hl : acc.length ≤ 1000000000) :
    ref21_Tell_L0_go a0 (e :: es) i acc = ref21_Tell_L0_go a0 es (i + 1) (cond (decide ((i : Int) > 0)) ((acc ++ [32, 111, 114, 32]) ++ rowT a0 e) (acc ++ rowT a0 e)) := by
  obtain ⟨ps, hc, _, hb, hs⟩ := rowW_spec hw
  have hS := signB_ok hs
  have hlen := showTs_len hS (by omega) hc
  conv => lhs; unfold ref21_Tell_L0_go
  rw [ref21_Terms_eq hS (by omega) hc]
  cases hd : decide ((i : Int) > 0) with
  | true =>
    simp only [cond_true, Option.bind_some]
    rw [cat_ok (by simp only [List.length_cons, List.length_nil]; omega), cond_true, cat_ok (by simp only [List.length_append, List.length_cons, List.length_nil]; omega), cond_true, cat_ok (by simp only [List.length_append, List.length_cons, List.length_nil]; omega), cond_true, cat_ok (by simp only [List.length_append, List.length_cons, List.length_nil]; omega), cond_true]
    simp [rowT]
  | false =>
    simp only [cond_false, Option.bind_some]
    rw [cat_ok (by simp only [List.length_cons, List.length_nil]; omega), cond_true, cat_ok (by simp only [List.length_append, List.length_cons, List.length_nil]; omega), cond_true, cat_ok (by simp only [List.length_append, List.length_cons, List.length_nil]; omega), cond_true]
    simp [rowT]
theorem tell_lit {a0 : List QSym} {l : QLit} (h : atomB a0 l.2 = true) (ls : List QLit) (i : Nat) (acc : Str) (hl : acc.length ≤ 1000000000) :
    ref21_Tell_L1_go a0 (l :: ls) i acc = ref21_Tell_L1_go a0 ls (i + 1) ((acc ++ cond ((i : Int) == 0) [32, 105, 102, 32] [32, 38, 32]) ++ litT a0 l) := by
  have hA := (formula_ShowAtom_eq h).2
  have hb := atomB_len h
  conv => lhs; unfold ref21_Tell_L1_go
  rw [ref21_Atom_eq h]
  cases hd : ((i : Int) == 0) <;> cases hl1 : l.1 <;> simp only [cond_true, cond_false, Option.bind_some, litT, hl1]
  · rw [cat_ok (by simp only [List.length_cons, List.length_nil]; omega), cond_true, cat_ok (by simp only [List.length_append, List.length_cons, List.length_nil]; omega), cond_true]
  · rw [cat_ok (by simp only [List.length_cons, List.length_nil]; omega), cond_true, cat_ok (by simp only [List.length_append, List.length_cons, List.length_nil]; omega), cond_true, cat_ok (by simp only [List.length_append, List.length_cons, List.length_nil]; omega), cond_true]
    simp
  · rw [cat_ok (by simp only [List.length_cons, List.length_nil]; omega), cond_true, cat_ok (by simp only [List.length_append, List.length_cons, List.length_nil]; omega), cond_true]
  · rw [cat_ok (by simp only [List.length_cons, List.length_nil]; omega), cond_true, cat_ok (by simp only [List.length_append, List.length_cons, List.length_nil]; omega), cond_true, cat_ok (by simp only [List.length_append, List.length_cons, List.length_nil]; omega), cond_true]
    simp

theorem rowT_len {a0 : List QSym} {e : List Int} {n : Nat} (hw : rowW a0 e = some n) : (rowT a0 e).length ≤ 600 := by
  obtain ⟨ps, hc, _, hb, hs⟩ := rowW_spec hw
  have := showTs_len (signB_ok hs) (by omega) hc
  simp only [rowT, List.length_append, List.length_cons, List.length_nil]
  omega
theorem tell_rows {a0 : List QSym} {n : Nat} : (es pre : List (List Int)) → (∀ r ∈ es, rowW a0 r = some n) → (Lib.join (pre.map (rowT a0)) [32, 111, 114, 32]).length + 2000 * es.length ≤ 1000000 →
    ref21_Tell_L0_go a0 es pre.length (Lib.join (pre.map (rowT a0)) [32, 111, 114, 32]) = some (Lib.join ((pre ++ es).map (rowT a0)) [32, 111, 114, 32])
  | [], pre, _, _ => by simp [ref21_Tell_L0_go]
  | e :: es, pre, h, hl => by
    have hw := h e (by simp)
    have hr := rowT_len hw
    rw [List.length_cons] at hl
    rw [tell_row hw es _ _ (by omega)]
    have hj : Lib.join ((pre ++ [e]).map (rowT a0)) [32, 111, 114, 32] = cond (decide ((pre.length : Int) > 0)) ((Lib.join (pre.map (rowT a0)) [32, 111, 114, 32] ++ [32, 111, 114, 32]) ++ rowT a0 e) (Lib.join (pre.map (rowT a0)) [32, 111, 114, 32] ++ rowT a0 e) := by
      cases pre with
      | nil => simp [Lib.join_one, Lib.join_nil]
      | cons p pre =>
        rw [decide_eq_true (show (((p :: pre).length : Nat) : Int) > 0 by simp <;> omega), cond_true]
        simp only [List.cons_append, List.map_cons, List.map_append, List.map_nil]
        rw [Lib.join_cons, Lib.join_cons, joinTail_snoc]
        simp
    have key := tell_rows es (pre ++ [e]) (fun r hr => h r (by simp [hr])) (by
      rw [hj]
      cases decide ((pre.length : Int) > 0) <;> simp <;> omega)
    rw [hj, List.length_append, List.length_singleton] at key
    rw [show pre ++ e :: es = (pre ++ [e]) ++ es from by simp]
    exact key
theorem tell_lits {a0 : List QSym} (J : Str) : (ls pre : List QLit) → litsB a0 ls = true → J.length + (Lib.join (pre.map (litT a0)) [32, 38, 32]).length + 2000 * ls.length + 4 ≤ 1000000 →
    ref21_Tell_L1_go a0 ls pre.length (J ++ cond pre.isEmpty [] ([32, 105, 102, 32] ++ Lib.join (pre.map (litT a0)) [32, 38, 32])) = some (J ++ cond (pre ++ ls).isEmpty [] ([32, 105, 102, 32] ++ Lib.join ((pre ++ ls).map (litT a0)) [32, 38, 32]))
  | [], pre, _, _ => by simp [ref21_Tell_L1_go]
  | l :: ls, pre, h, hl => by
    unfold litsB at h
    rw [List.all_cons, Bool.and_eq_true] at h
    have hb := atomB_len h.1
    have hlt := litT_len h.1
    rw [List.length_cons] at hl
    have hj : J ++ cond (pre ++ [l]).isEmpty [] ([32, 105, 102, 32] ++ Lib.join ((pre ++ [l]).map (litT a0)) [32, 38, 32]) = ((J ++ cond pre.isEmpty [] ([32, 105, 102, 32] ++ Lib.join (pre.map (litT a0)) [32, 38, 32])) ++ cond ((pre.length : Int) == 0) [32, 105, 102, 32] [32, 38, 32]) ++ litT a0 l := by
      cases pre with
      | nil => simp [Lib.join_one]
      | cons p pre =>
        rw [show ((((p :: pre).length : Nat) : Int) == 0) = false from by simp <;> omega]
        simp only [List.cons_append, List.map_cons, List.map_append, List.map_nil, List.isEmpty_cons, cond_false]
        rw [Lib.join_cons, Lib.join_cons, joinTail_snoc]
        simp
    have hjl : (Lib.join ((pre ++ [l]).map (litT a0)) [32, 38, 32]).length ≤ (Lib.join (pre.map (litT a0)) [32, 38, 32]).length + (litT a0 l).length + 3 := by
      rw [List.map_append, List.map_singleton, join_snoc]
      cases (pre.map (litT a0)).isEmpty <;> simp <;> omega
    rw [tell_lit h.1 ls _ _ (by cases pre.isEmpty <;> simp <;> omega), ← hj]
    have key := tell_lits J ls (pre ++ [l]) h.2 (by omega)
    rw [List.length_append, List.length_singleton] at key
    rw [show pre ++ l :: ls = (pre ++ [l]) ++ ls from by simp]
    exact key

theorem ref21_Tell_eq (a0 : List QSym) (a1 : List QLit) (a2 : List (List Int)) (a3 : List QLit) : ref21_Tell a0 a1 a2 a3 = some (cond (tellB a0 a1 a2 a3) (ansT a0 a2 a3, 0) ([], 2400)) := by
  unfold ref21_Tell tellB
  rw [ref8_May_eq, Option.bind_some]
  cases hm : mayB a0 a1 a2 a3 with
  | false => rfl
  | true =>
    obtain ⟨hs, h1, h2, h3, h4, h5, h6, h7⟩ := mayB_spec hm
    cases a1 with
    | cons l a1 => simp only [Bool.not_true, cond_false, decide_eq_true (show (((List.length (l :: a1) : Nat) : Int) > 0) by simp <;> omega), cond_true, List.isEmpty_cons, Bool.and_false, Bool.false_and]
    | nil =>
      cases a2 with
      | nil => rfl
      | cons r a2 =>
        obtain ⟨n, hn⟩ := rowsB_all h5
        obtain ⟨_, t2⟩ := rows_text (r :: a2) [] hn (by simp at h2 ⊢; omega)
        have j1 := join_le ((r :: a2).map (rowT a0)) [32, 111, 114, 32]
        rw [List.length_map, show ([32, 111, 114, 32] : Str).length = 4 from rfl] at j1
        simp only [Bool.not_true, cond_false, List.length_nil, show decide ((((0 : Nat)) : Int) > 0) = false from rfl, show (((List.length (r :: a2) : Nat) : Int) == 0) = false from by simp <;> omega]
        rw [ref21_Tell_L0_go_at0 _ _ _ _ _ (by unfold maxLen; omega)]
        have k1 := tell_rows (r :: a2) [] hn (by show 0 + _ ≤ _; omega)
        rw [show ref21_Tell_L0_go a0 (r :: a2) 0 ([] : Str) = _ from k1, Option.bind_some, ref21_Tell_L1_go_at0 _ _ _ _ _ (by unfold maxLen; omega)]
        have k2 := tell_lits (a0 := a0) (Lib.join ((r :: a2).map (rowT a0)) [32, 111, 114, 32]) a3 [] h6 (by show _ + 0 + _ + _ ≤ _; omega)
        simp only [List.isEmpty_nil, cond_true, List.append_nil, List.nil_append, List.length_nil] at k2 ⊢
        rw [k2]
        rfl

/-! Symbols of its own -/
def ownS (a0 : List QSym) (x : Int) : Bool := decide (0 ≤ x) && (match a0[x.toNat]? with
  | some e => e.2.1 == 2
  | none => false)
def ownB (a0 : List QSym) (xs : List Int) : Bool := xs.any (ownS a0)
def InB (a0 : List QSym) (xs : List Int) : Prop := ∀ x ∈ xs, x < (a0.length : Int)
theorem own_at {a0 : List QSym} {x : Int} (h : x < (a0.length : Int)) (h0 : 0 ≤ x) : ∃ e, gx a0 x = some e ∧ ownS a0 x = (e.2.1 == 2) := by
  obtain ⟨e, he1, he2, he3⟩ := gx_at (xs := a0) h0 h
  exact ⟨e, he1, by unfold ownS; rw [decide_eq_true h0, he3]; rfl⟩
theorem own_neg {a0 : List QSym} {x : Int} (h0 : ¬ 0 ≤ x) : ownS a0 x = false := by unfold ownS; rw [decide_eq_false h0]; rfl
theorem rown_go {a0 : List QSym} : (es : List Int) → InB a0 es → ref21_own_L0_go a0 es = some (cond (ownB a0 es) (.inr true) (.inl ()))
  | [], _ => rfl
  | e :: es, h => by
    have hr := rown_go es fun x hx => h x (by simp [hx])
    unfold ref21_own_L0_go ownB
    rw [List.any_cons, hr]
    by_cases h0 : 0 ≤ e
    · obtain ⟨s, hs1, hs2⟩ := own_at (h e (by simp)) h0
      rw [decide_eq_true (show e ≥ 0 from h0), cond_true, hs1, Option.bind_some, hs2]
      cases (s.2.1 == 2) <;> rfl
    · rw [decide_eq_false (show ¬ e ≥ 0 from h0), cond_false, own_neg h0]; rfl
theorem ref21_own_eq {a0 : List QSym} {xs : List Int} (h : InB a0 xs) (hl : xs.length ≤ maxLen) : ref21_own a0 xs = some (ownB a0 xs) := by
  unfold ref21_own
  rw [ref21_own_L0_go_at0 _ _ hl, rown_go xs h]
  cases ownB a0 xs <;> rfl
theorem own_go {a0 : List QSym} : (es : List Int) → (i : Nat) → InB a0 es → (ownB a0 es = true → ∃ j : Nat, slices_IndexFunc_3_L0_go a0 es i = some (.inr (j : Int))) ∧ (ownB a0 es = false → slices_IndexFunc_3_L0_go a0 es i = some (.inl ()))
  | [], _, _ => ⟨fun h => (by cases h), fun _ => rfl⟩
  | e :: es, i, h => by
    have hr := own_go es (i + 1) fun x hx => h x (by simp [hx])
    have hc : ask_own_c1 e a0 = some (ownS a0 e) := by
      unfold ask_own_c1
      by_cases h0 : 0 ≤ e
      · obtain ⟨s, hs1, hs2⟩ := own_at (h e (by simp)) h0
        rw [decide_eq_true (show e ≥ 0 from h0), cond_true, hs1, Option.bind_some, hs2]
      · rw [decide_eq_false (show ¬ e ≥ 0 from h0), cond_false, own_neg h0]
    unfold slices_IndexFunc_3_L0_go ownB
    rw [List.any_cons, hc, Option.bind_some]
    cases ownS a0 e with
    | true => exact ⟨fun _ => ⟨i, rfl⟩, fun h => by cases h⟩
    | false => exact hr
theorem ask_own_eq {a0 : List QSym} {xs : List Int} (h : InB a0 xs) (hl : xs.length ≤ maxLen) : ask_own a0 xs = some (ownB a0 xs) := by
  unfold ask_own slices_ContainsFunc_3 slices_IndexFunc_3
  rw [slices_IndexFunc_3_L0_go_at0 _ _ hl]
  obtain ⟨h1, h2⟩ := own_go xs 0 h
  cases hb : ownB a0 xs with
  | true =>
    obtain ⟨j, hj⟩ := h1 hb
    rw [hj]
    show some (decide ((j : Int) ≥ 0)) = some true
    rw [decide_eq_true (by omega)]
  | false => rw [h2 hb]; rfl

theorem sk_in {a0 : List QSym} : {xs : List Int} → {n : Nat} → sk a0 n xs = some xs.length → InB a0 xs
  | [], n, _ => fun x hx => by cases hx
  | y :: xs, 0, h => by simp [sk] at h
  | y :: xs, n + 1, h => by
    unfold sk at h
    cases ha : arity a0 y with
    | none => rw [ha] at h; cases h
    | some q =>
      rw [ha] at h
      simp only [Option.map_eq_some_iff, List.length_cons] at h
      obtain ⟨j, hj, he⟩ := h
      have hin := sk_in (xs := xs) (n := n + q) (by rw [hj]; congr 1; omega)
      intro x hx
      rcases List.mem_cons.1 hx with rfl | hx
      · by_cases h0 : x < 0
        · omega
        · obtain ⟨e, _, he2, _⟩ := arity_pos ha h0
          have := (List.getElem?_eq_some_iff.1 he2).1
          omega
      · exact hin x hx
theorem cuts_in {a0 : List QSym} {xs : List Int} {ps : List (List Int)} (h : cuts a0 xs = some ps) : InB a0 xs := by
  obtain ⟨h1, h2⟩ := cuts_flat xs.length xs ps (Nat.le_refl _) h
  intro x hx
  rw [← h1] at hx
  obtain ⟨p, hp, hxp⟩ := List.mem_flatten.1 hx
  exact sk_in (h2 p hp).2 x hxp
theorem row_in {a0 : List QSym} {r : List Int} {n : Nat} (h : rowW a0 r = some n) : InB a0 r := by
  obtain ⟨ps, hc, _⟩ := rowW_spec h
  exact cuts_in hc
theorem atom_in {a0 : List QSym} {xs : List Int} (h : atomB a0 xs = true) : InB a0 xs := by
  obtain ⟨x, r, e, ps, rfl, h0, he, hg, hk, hs, hl, hc, hn⟩ := atomB_spec h
  intro y hy
  rcases List.mem_cons.1 hy with rfl | hy
  · have := (List.getElem?_eq_some_iff.1 he).1
    omega
  · exact cuts_in hc y hy

def fineB (a0 : List QSym) (a2 : List (List Int)) (a3 : List QLit) : Bool := !(a2.any (ownB a0) || a3.any fun l => ownB a0 l.2)
theorem rfine2 {a0 : List QSym} : (es : List (List Int)) → (∀ r ∈ es, InB a0 r ∧ r.length ≤ maxLen) → ref21_Fine_L0_go a0 es = some (cond (es.any (ownB a0)) (.inr (false, 0)) (.inl ()))
  | [], _ => rfl
  | e :: es, h => by
    have he := h e (by simp)
    unfold ref21_Fine_L0_go
    rw [ref21_own_eq he.1 he.2, Option.bind_some, rfine2 es (fun r hr => h r (by simp [hr])), List.any_cons]
    cases ownB a0 e <;> rfl
theorem rfine3 {a0 : List QSym} : (es : List QLit) → (∀ r ∈ es, InB a0 r.2 ∧ r.2.length ≤ maxLen) → ref21_Fine_L1_go a0 es = some (cond (es.any fun l => ownB a0 l.2) (.inr (false, 0)) (.inl ()))
  | [], _ => rfl
  | e :: es, h => by
    have he := h e (by simp)
    unfold ref21_Fine_L1_go
    rw [ref21_own_eq he.1 he.2, Option.bind_some, rfine3 es (fun r hr => h r (by simp [hr])), List.any_cons]
    cases ownB a0 e.2 <;> rfl
theorem fine2 {a0 : List QSym} : (es : List (List Int)) → (i : Nat) → (∀ r ∈ es, InB a0 r ∧ r.length ≤ maxLen) → (es.any (ownB a0) = true → ∃ j : Nat, slices_IndexFunc_2_L0_go a0 es i = some (.inr (j : Int))) ∧ (es.any (ownB a0) = false → slices_IndexFunc_2_L0_go a0 es i = some (.inl ()))
  | [], _, _ => ⟨fun h => (by cases h), fun _ => rfl⟩
  | e :: es, i, h => by
    have hr := fine2 es (i + 1) fun x hx => h x (by simp [hx])
    have he := h e (by simp)
    unfold slices_IndexFunc_2_L0_go ask_Fine_c1
    rw [List.any_cons, ask_own_eq he.1 he.2, Option.bind_some, Option.bind_some]
    cases ownB a0 e with
    | true => exact ⟨fun _ => ⟨i, rfl⟩, fun h => by cases h⟩
    | false => exact hr
theorem fine3 {a0 : List QSym} : (es : List QLit) → (i : Nat) → (∀ r ∈ es, InB a0 r.2 ∧ r.2.length ≤ maxLen) → ((es.any fun l => ownB a0 l.2) = true → ∃ j : Nat, slices_IndexFunc_4_L0_go a0 es i = some (.inr (j : Int))) ∧ ((es.any fun l => ownB a0 l.2) = false → slices_IndexFunc_4_L0_go a0 es i = some (.inl ()))
  | [], _, _ => ⟨fun h => (by cases h), fun _ => rfl⟩
  | e :: es, i, h => by
    have hr := fine3 es (i + 1) fun x hx => h x (by simp [hx])
    have he := h e (by simp)
    unfold slices_IndexFunc_4_L0_go ask_Fine_c2 ask_Fine_c1
    rw [List.any_cons, ask_own_eq he.1 he.2, Option.bind_some, Option.bind_some, Option.bind_some]
    cases ownB a0 e.2 with
    | true => exact ⟨fun _ => ⟨i, rfl⟩, fun h => by cases h⟩
    | false => exact hr
theorem may_in {a0 : List QSym} {a1 : List QLit} {a2 : List (List Int)} {a3 : List QLit} (hm : mayB a0 a1 a2 a3 = true) : (∀ r ∈ a2, InB a0 r ∧ r.length ≤ maxLen) ∧ (∀ l ∈ a3, InB a0 l.2 ∧ l.2.length ≤ maxLen) := by
  obtain ⟨hs, h1, h2, h3, h4, h5, h6, h7⟩ := mayB_spec hm
  obtain ⟨n, hn⟩ := rowsB_all h5
  refine ⟨fun r hr => ⟨row_in (hn r hr), ?_⟩, fun l hl => ?_⟩
  · have := rowW_len (hn r hr)
    unfold maxLen; omega
  · have ha : atomB a0 l.2 = true := by
      unfold litsB at h6
      exact List.all_eq_true.1 h6 l hl
    have := atomB_len ha
    exact ⟨atom_in ha, by unfold maxLen; omega⟩
theorem ask_Fine_eq (a0 : List QSym) (a1 : List QLit) (a2 : List (List Int)) (a3 : List QLit) : ask_Fine a0 a1 a2 a3 = some (cond (mayB a0 a1 a2 a3) (fineB a0 a2 a3, 0) (false, 2400)) := by
  unfold ask_Fine
  rw [clause_May_eq, Option.bind_some]
  cases hm : mayB a0 a1 a2 a3 with
  | false => rfl
  | true =>
    obtain ⟨hi2, hi3⟩ := may_in hm
    obtain ⟨hs, h1, h2, h3, h4, h5, h6, h7⟩ := mayB_spec hm
    obtain ⟨p1, p2⟩ := fine2 a2 0 hi2
    obtain ⟨q1, q2⟩ := fine3 a3 0 hi3
    have c2 : slices_ContainsFunc_2 a2 a0 = some (a2.any (ownB a0)) := by
      unfold slices_ContainsFunc_2 slices_IndexFunc_2
      rw [slices_IndexFunc_2_L0_go_at0 _ _ (by unfold maxLen; omega)]
      cases hb : a2.any (ownB a0) with
      | true =>
        obtain ⟨j, hj⟩ := p1 hb
        rw [hj]
        show some (decide ((j : Int) ≥ 0)) = some true
        rw [decide_eq_true (by omega)]
      | false => rw [p2 hb]; rfl
    have c3 : slices_ContainsFunc_4 a3 a0 = some (a3.any fun l => ownB a0 l.2) := by
      unfold slices_ContainsFunc_4 slices_IndexFunc_4
      rw [slices_IndexFunc_4_L0_go_at0 _ _ (by unfold maxLen; omega)]
      cases hb : a3.any fun l => ownB a0 l.2 with
      | true =>
        obtain ⟨j, hj⟩ := q1 hb
        rw [hj]
        show some (decide ((j : Int) ≥ 0)) = some true
        rw [decide_eq_true (by omega)]
      | false => rw [q2 hb]; rfl
    simp only [Bool.not_true, cond_false, cond_true, c2, c3, Option.bind_some]
    unfold fineB
    cases a2.any (ownB a0) <;> simp
theorem ref21_Fine_eq (a0 : List QSym) (a1 : List QLit) (a2 : List (List Int)) (a3 : List QLit) : ref21_Fine a0 a1 a2 a3 = some (cond (mayB a0 a1 a2 a3) (fineB a0 a2 a3, 0) (false, 2400)) := by
  unfold ref21_Fine
  rw [ref8_May_eq, Option.bind_some]
  cases hm : mayB a0 a1 a2 a3 with
  | false => rfl
  | true =>
    obtain ⟨hi2, hi3⟩ := may_in hm
    obtain ⟨hs, h1, h2, h3, h4, h5, h6, h7⟩ := mayB_spec hm
    simp only [Bool.not_true, cond_false, cond_true]
    rw [ref21_Fine_L0_go_at0 _ _ _ _ (by unfold maxLen; omega), rfine2 a2 hi2, Option.bind_some]
    unfold fineB
    cases a2.any (ownB a0) with
    | true => rfl
    | false =>
      simp only [cond_false, caseS_inl]
      rw [ref21_Fine_L1_go_at0 _ _ _ _ (by unfold maxLen; omega), rfine3 a3 hi3, Option.bind_some]
      cases a3.any fun l => ownB a0 l.2 <;> rfl

/-! Copies, and that they are the same -/
theorem law0_CopyInts_eq {xs : List Int} (h : xs.length ≤ 1000000000) : law0_CopyInts xs = some xs := by
  unfold law0_CopyInts
  rw [room_ok (by simp only [List.length_nil]; omega)]; rfl
theorem copyLits_go : (es acc : List QLit) → (∀ l ∈ es, l.2.length ≤ 1000000000) → acc.length + es.length ≤ 1000000000 → law0_CopyLits_L0_go es acc = some (acc ++ es)
  | [], acc, _, _ => by simp [law0_CopyLits_L0_go]
  | e :: es, acc, h, hl => by
    rw [List.length_cons] at hl
    unfold law0_CopyLits_L0_go
    rw [law0_CopyInts_eq (h e (by simp)), Option.bind_some, room_ok (by simp only [List.length_cons, List.length_nil]; omega), cond_true, copyLits_go es _ (fun l hl => h l (by simp [hl])) (by simp; omega)]
    simp
theorem law0_CopyLits_eq {ls : List QLit} (h : ∀ l ∈ ls, l.2.length ≤ 1000000000) (hl : ls.length ≤ 1000000000) : law0_CopyLits ls = some ls := by
  unfold law0_CopyLits
  rw [law0_CopyLits_L0_go_at0 _ _ (by unfold maxLen; omega), copyLits_go ls [] h (by simp; omega)]
  rfl
theorem copyRows_go : (es acc : List (List Int)) → (∀ l ∈ es, l.length ≤ 1000000000) → acc.length + es.length ≤ 1000000000 → law0_CopyRows_L0_go es acc = some (acc ++ es)
  | [], acc, _, _ => by simp [law0_CopyRows_L0_go]
  | e :: es, acc, h, hl => by
    rw [List.length_cons] at hl
    unfold law0_CopyRows_L0_go
    rw [law0_CopyInts_eq (h e (by simp)), Option.bind_some, room_ok (by simp only [List.length_cons, List.length_nil]; omega), cond_true, copyRows_go es _ (fun l hl => h l (by simp [hl])) (by simp; omega)]
    simp
theorem law0_CopyRows_eq {ls : List (List Int)} (h : ∀ l ∈ ls, l.length ≤ 1000000000) (hl : ls.length ≤ 1000000000) : law0_CopyRows ls = some ls := by
  unfold law0_CopyRows
  rw [law0_CopyRows_L0_go_at0 _ _ (by unfold maxLen; omega), copyRows_go ls [] h (by simp; omega)]
  rfl

end
end Go.Abs.Q
/-
  Two clauses are the same; the law of texts.
-/
namespace Go.Abs.Q
open Go Go.Abs
section

theorem drop_cons_of {α : Type} {xs : List α} {i : Nat} {x : α} (h : xs[i]? = some x) : xs.drop i = x :: xs.drop (i + 1) := by
  obtain ⟨hi, rfl⟩ := List.getElem?_eq_some_iff.1 h
  exact List.drop_eq_getElem_cons hi
theorem sameInts_go (ys : List Int) : (es : List Int) → (i : Nat) → es.length = (ys.drop i).length → law0_SameInts_L0_go ys es i = some (cond (decide (es = ys.drop i)) (.inl ()) (.inr false))
  | [], i, h => by
    have : ys.drop i = [] := List.length_eq_zero_iff.1 h.symm
    rw [this]; rfl
  | e :: es, i, h => by
    unfold law0_SameInts_L0_go
    rw [List.length_cons, List.length_drop] at h
    have hi : i < ys.length := by omega
    rw [gx_nat, List.getElem?_eq_getElem hi, Option.bind_some, List.drop_eq_getElem_cons hi, sameInts_go ys es (i + 1) (by rw [List.length_drop]; omega)]
    generalize ys[i] = y
    by_cases he : e = y
    · subst he
      rw [show (e != e) = false from by simp, cond_false]
      simp
    · rw [show (e != y) = true from by simpa using he, cond_true]
      rw [decide_eq_false (by intro h; injection h with h1 h2; exact he h1)]
      rfl
theorem law0_SameInts_eq {xs ys : List Int} (h : xs.length ≤ maxLen) : law0_SameInts xs ys = some (decide (xs = ys)) := by
  unfold law0_SameInts
  by_cases hl : xs.length = ys.length
  · rw [show (((List.length xs : Nat) : Int) != ((List.length ys : Nat) : Int)) = false from by simp [hl], cond_false, law0_SameInts_L0_go_at0 _ _ h, sameInts_go ys xs 0 hl, List.drop_zero]
    cases decide (xs = ys) <;> rfl
  · rw [show (((List.length xs : Nat) : Int) != ((List.length ys : Nat) : Int)) = true from by simp; omega, cond_true, decide_eq_false (by intro h; subst h; exact hl rfl)]
theorem sameLits_go (ys : List QLit) : (es : List QLit) → (i : Nat) → es.length = (ys.drop i).length → (∀ e ∈ es, e.2.length ≤ maxLen) → law0_SameLits_L0_go ys es i = some (cond (decide (es = ys.drop i)) (.inl ()) (.inr false))
  | [], i, h, _ => by
    have : ys.drop i = [] := List.length_eq_zero_iff.1 h.symm
    rw [this]; rfl
  | e :: es, i, h, hm => by
    unfold law0_SameLits_L0_go
    rw [List.length_cons, List.length_drop] at h
    have hi : i < ys.length := by omega
    rw [gx_nat, List.getElem?_eq_getElem hi, Option.bind_some, List.drop_eq_getElem_cons hi, sameLits_go ys es (i + 1) (by rw [List.length_drop]; omega) (fun x hx => hm x (by simp [hx]))]
    generalize ys[i] = y
    obtain ⟨a, b⟩ := e
    obtain ⟨c, d⟩ := y
    have hb : b.length ≤ maxLen := hm (a, b) (by simp)
    simp only [Option.bind_some, law0_SameInts_eq hb]
    by_cases h1 : a = c
    · subst h1
      by_cases h2 : b = d
      · subst h2
        simp
      · have : ¬ ((a, b) :: es = (a, d) :: ys.drop (i + 1)) := fun h => by injection h with h _; injection h with _ h; exact h2 h
        simp [h2, this]
    · have : ¬ ((a, b) :: es = (c, d) :: ys.drop (i + 1)) := fun h => by injection h with h _; injection h with h _; exact h1 h
      have h3 : (a == c) = false := by simpa using h1
      rw [h3, decide_eq_false this]; rfl
theorem law0_SameLits_eq {xs ys : List QLit} (h : xs.length ≤ maxLen) (hm : ∀ e ∈ xs, e.2.length ≤ maxLen) : law0_SameLits xs ys = some (decide (xs = ys)) := by
  unfold law0_SameLits
  by_cases hl : xs.length = ys.length
  · rw [show (((List.length xs : Nat) : Int) != ((List.length ys : Nat) : Int)) = false from by simp [hl], cond_false, law0_SameLits_L0_go_at0 _ _ h, sameLits_go ys xs 0 hl hm, List.drop_zero]
    cases decide (xs = ys) <;> rfl
  · rw [show (((List.length xs : Nat) : Int) != ((List.length ys : Nat) : Int)) = true from by simp; omega, cond_true, decide_eq_false (by intro h; subst h; exact hl rfl)]
theorem sameRows_go (ys : List (List Int)) : (es : List (List Int)) → (i : Nat) → es.length = (ys.drop i).length → (∀ e ∈ es, e.length ≤ maxLen) → law0_SameRows_L0_go ys es i = some (cond (decide (es = ys.drop i)) (.inl ()) (.inr false))
  | [], i, h, _ => by
    have : ys.drop i = [] := List.length_eq_zero_iff.1 h.symm
    rw [this]; rfl
  | e :: es, i, h, hm => by
    unfold law0_SameRows_L0_go
    rw [List.length_cons, List.length_drop] at h
    have hi : i < ys.length := by omega
    rw [gx_nat, List.getElem?_eq_getElem hi, Option.bind_some, List.drop_eq_getElem_cons hi, law0_SameInts_eq (hm e (by simp)), Option.bind_some, sameRows_go ys es (i + 1) (by rw [List.length_drop]; omega) (fun x hx => hm x (by simp [hx]))]
    generalize ys[i] = y
    by_cases h1 : e = y
    · subst h1
      simp
    · have : ¬ (e :: es = y :: ys.drop (i + 1)) := fun h => by injection h with h _; exact h1 h
      rw [decide_eq_false h1, decide_eq_false this]; rfl
theorem law0_SameRows_eq {xs ys : List (List Int)} (h : xs.length ≤ maxLen) (hm : ∀ e ∈ xs, e.length ≤ maxLen) : law0_SameRows xs ys = some (decide (xs = ys)) := by
  unfold law0_SameRows
  by_cases hl : xs.length = ys.length
  · rw [show (((List.length xs : Nat) : Int) != ((List.length ys : Nat) : Int)) = false from by simp [hl], cond_false, law0_SameRows_L0_go_at0 _ _ h, sameRows_go ys xs 0 hl hm, List.drop_zero]
    cases decide (xs = ys) <;> rfl
  · rw [show (((List.length xs : Nat) : Int) != ((List.length ys : Nat) : Int)) = true from by simp; omega, cond_true, decide_eq_false (by intro h; subst h; exact hl rfl)]
theorem law0_SameClause_refl {a0 : List QLit} {a1 : List (List Int)} {a2 : List QLit} (h0 : a0.length ≤ maxLen) (h0m : ∀ e ∈ a0, e.2.length ≤ maxLen) (h1 : a1.length ≤ maxLen) (h1m : ∀ e ∈ a1, e.length ≤ maxLen) (h2 : a2.length ≤ maxLen) (h2m : ∀ e ∈ a2, e.2.length ≤ maxLen) :
    law0_SameClause a0 a1 a2 a0 a1 a2 = some true := by
  unfold law0_SameClause
  rw [law0_SameLits_eq h0 h0m, law0_SameRows_eq h1 h1m, law0_SameLits_eq h2 h2m]
  simp

/-! What a weight bounds -/
theorem wt_mem {α : Type} {f : α → Nat} {xs : List α} {x : α} (h : x ∈ xs) : f x ≤ (xs.map f).sum := by
  induction xs with
  | nil => cases h
  | cons y ys ih =>
    simp only [List.map_cons, List.sum_cons]
    rcases List.mem_cons.1 h with rfl | h
    · omega
    · have := ih h; omega
theorem wt_len {α : Type} {f : α → Nat} (hf : ∀ x, 1 ≤ f x) (xs : List α) : xs.length ≤ (xs.map f).sum := by
  induction xs with
  | nil => simp
  | cons y ys ih =>
    simp only [List.map_cons, List.sum_cons, List.length_cons]
    have := hf y
    omega
theorem wt_ints (xs : List Int) : wt (.sl (.one (.int .i64))) xs = xs.length + 1 := by
  show (List.map (fun _ => 1) xs).sum + 1 = _
  congr 1
  induction xs with
  | nil => rfl
  | cons y ys ih => simp only [List.map_cons, List.sum_cons, List.length_cons, ih]; omega
theorem wtT_lit (l : QLit) : wtT tLit l = l.2.length + 2 := by
  show 1 + wt (.sl (.one (.int .i64))) l.2 = _
  rw [wt_ints]; omega
theorem wt_lits {ls : List QLit} {b : Nat} (h : wt (.sl tLit) ls ≤ b) : ls.length ≤ b ∧ ∀ l ∈ ls, l.2.length ≤ b := by
  have e : (wtT tLit : QLit → Nat) = fun l => l.2.length + 2 := funext wtT_lit
  have h : (List.map (wtT tLit : QLit → Nat) ls).sum + 1 ≤ b := h
  rw [e] at h
  replace h : (List.map (fun l : QLit => l.2.length + 2) ls).sum + 1 ≤ b := h
  have h1 := wt_len (f := fun l : QLit => l.2.length + 2) (fun l => by omega) ls
  refine ⟨by omega, fun l hl => ?_⟩
  have := wt_mem (f := fun l : QLit => l.2.length + 2) hl
  omega
theorem wt_rows {rs : List (List Int)} {b : Nat} (h : wt (.sl (.one (.sl (.one (.int .i64))))) rs ≤ b) : rs.length ≤ b ∧ ∀ l ∈ rs, l.length ≤ b := by
  have e : (wtT (.one (.sl (.one (.int .i64)))) : List Int → Nat) = fun l => l.length + 1 := funext wt_ints
  have h : (List.map (wtT (.one (.sl (.one (.int .i64)))) : List Int → Nat) rs).sum + 1 ≤ b := h
  rw [e] at h
  replace h : (List.map (fun l : List Int => l.length + 1) rs).sum + 1 ≤ b := h
  have h1 := wt_len (f := fun l : List Int => l.length + 1) (fun l => by omega) rs
  refine ⟨by omega, fun l hl => ?_⟩
  have := wt_mem (f := fun l : List Int => l.length + 1) hl
  omega

theorem law24_Tells_true (a0 : List QSym) (a1 : List QLit) (a2 : List (List Int)) (a3 : List QLit) (h1 : wt (.sl tLit) a1 ≤ 1048576) (h2 : wt (.sl (.one (.sl (.one (.int .i64))))) a2 ≤ 1048576) (h3 : wt (.sl tLit) a3 ≤ 1048576) : law24_Tells a0 a1 a2 a3 = some true := by
  obtain ⟨l1, m1⟩ := wt_lits h1
  obtain ⟨l2, m2⟩ := wt_rows h2
  obtain ⟨l3, m3⟩ := wt_lits h3
  have hM : (1048576 : Nat) ≤ maxLen := by unfold maxLen; omega
  unfold law24_Tells law0_CopyClause
  rw [law0_CopyLits_eq (fun l hl => Nat.le_trans (m1 l hl) (by omega)) (by omega), law0_CopyRows_eq (fun l hl => Nat.le_trans (m2 l hl) (by omega)) (by omega), law0_CopyLits_eq (fun l hl => Nat.le_trans (m3 l hl) (by omega)) (by omega),
    ask_Fine_eq, ref21_Fine_eq, ask_Show_eq, ref21_Tell_eq]
  have hsame := law0_SameClause_refl (a0 := a1) (a1 := a2) (a2 := a3) (Nat.le_trans l1 hM) (fun e he => Nat.le_trans (m1 e he) hM) (Nat.le_trans l2 hM) (fun e he => Nat.le_trans (m2 e he) hM) (Nat.le_trans l3 hM) (fun e he => Nat.le_trans (m3 e he) hM)
  simp only [Option.bind_some, beq_self_eq_true, cond_true, law0_Num, hsame, law24_awake_eq]

theorem tells_plain (x : List QSym × List QLit × List (List Int) × List QLit) (h : wtL [.sl tSym, .sl tLit, .sl (.one (.sl (.one (.int .i64)))), .sl tLit] x ≤ 1048576) : law24_Tells x.1 x.2.1 x.2.2.1 x.2.2.2 = some true := by
  have h : wt (.sl tSym) x.1 + (wt (.sl tLit) x.2.1 + (wt (.sl (.one (.sl (.one (.int .i64))))) x.2.2.1 + wt (.sl tLit) x.2.2.2)) ≤ 1048576 := h
  exact law24_Tells_true _ _ _ _ (by omega) (by omega) (by omega)

end
end Go.Abs.Q
