import Derived.Test.YtanopgblnhaigaaDoorQa
/-
  What the functions make of plain values, and what the law says of that.
-/
/-
  The first law of answers' texts.
-/
namespace Go.Abs.Q
open Go Go.Abs
section

theorem pre_take : (p t : Str) → List.isPrefixOf p t = (t.take p.length == p)
  | [], t => by simp
  | a :: p, [] => by simp [List.isPrefixOf]
  | a :: p, b :: t => by
    rw [pre2, pre_take p t, List.length_cons, List.take_succ_cons]
    cases h : (a == b) with
    | true => rw [beq_iff_eq] at h; subst h; simp
    | false =>
      have : (b == a) = false := by rw [beq_eq_false_iff_ne] at h ⊢; exact fun e => h e.symm
      simp [this]

theorem slc_at {α : Type} (s : List α) {i j : Nat} (hij : i ≤ j) (h : j ≤ s.length) : slc2 s (some (i : Int)) (some (j : Int)) = some ((s.drop i).take (j - i)) := by
  show slc s _ _ = _
  unfold slc
  rw [decide_eq_true (show (0 : Int) ≤ (i : Int) by omega), decide_eq_true (show (i : Int) ≤ (j : Int) by omega), decide_eq_true (show (j : Int) ≤ ((s.length : Nat) : Int) by omega)]
  simp only [cond_true, Int.toNat_natCast, Option.some.injEq]
  rw [List.drop_take]

theorem hit_at {p s : Str} (h : 4 ≤ s.length) : hit p s = cond (s.take p.length == p) 1 0 := by
  unfold hit
  rw [decide_eq_true h, Bool.and_true, pre_take]
theorem occ_drop {p s : Str} {i : Nat} (h : i < s.length) : occ p (s.drop i) = hit p (s.drop i) + occ p (s.drop (i + 1)) := by
  rw [List.drop_eq_getElem_cons h, occ]

theorem count_round (s : Str) (hs : s.length ≤ 1000000) (a1 : List QLit) (a2 : List (List Int)) (a3 : List QLit) : ∀ (m i o f n k : Nat), s.length - i = m → i ≤ s.length → o ≤ i → f ≤ i → n ≤ i → m < k →
    lp law24_TellFirst_L1 k (s, (o : Int), (f : Int), (n : Int), (i : Int), a1, a2, a3) = some (((o + occ pO (s.drop i) : Nat) : Int), ((f + occ pI (s.drop i) : Nat) : Int), ((n + occ pA (s.drop i) : Nat) : Int)) := by
  intro m
  induction m with
  | zero =>
    intro i o f n k hm hi ho hf hn hk
    obtain ⟨k, rfl⟩ : ∃ k', k = k' + 1 := ⟨k - 1, by omega⟩
    rw [lp_succ]
    generalize lp law24_TellFirst_L1 k = rec
    unfold law24_TellFirst_L1
    have e4 : IntKind.wrap .i64 ((i : Int) + 4) = ((i + 4 : Nat) : Int) := by rw [wrap64] <;> omega
    have hd : s.drop i = [] := by simp; omega
    simp only [e4, decide_eq_false (show ¬ (((i + 4 : Nat) : Int) ≤ ((List.length s : Nat) : Int)) by omega), cond_false, hd, occ, Nat.add_zero]
  | succ m ih =>
    intro i o f n k hm hi ho hf hn hk
    obtain ⟨k, rfl⟩ : ∃ k', k = k' + 1 := ⟨k - 1, by omega⟩
    rw [lp_succ]
    have key := fun o' f' n' h1 h2 h3 => ih (i + 1) o' f' n' k (by omega) (by omega) h1 h2 h3 (by omega)
    generalize lp law24_TellFirst_L1 k = rec at key ⊢
    unfold law24_TellFirst_L1
    have e4 : IntKind.wrap .i64 ((i : Int) + 4) = ((i + 4 : Nat) : Int) := by rw [wrap64] <;> omega
    have e3 : IntKind.wrap .i64 ((i : Int) + 3) = ((i + 3 : Nat) : Int) := by rw [wrap64] <;> omega
    have e1 : IntKind.wrap .i64 ((i : Int) + 1) = ((i + 1 : Nat) : Int) := by rw [wrap64] <;> omega
    have eo : IntKind.wrap .i64 ((o : Int) + 1) = ((o + 1 : Nat) : Int) := by rw [wrap64] <;> omega
    have ef : IntKind.wrap .i64 ((f : Int) + 1) = ((f + 1 : Nat) : Int) := by rw [wrap64] <;> omega
    have en : IntKind.wrap .i64 ((n : Int) + 1) = ((n + 1 : Nat) : Int) := by rw [wrap64] <;> omega
    by_cases h4 : i + 4 ≤ s.length
    · have t4 : slc2 s (some (i : Int)) (some ((i + 4 : Nat) : Int)) = some ((s.drop i).take 4) := by
        rw [slc_at s (by omega) h4, show i + 4 - i = 4 from by omega]
      have t3 : slc2 s (some (i : Int)) (some ((i + 3 : Nat) : Int)) = some ((s.drop i).take 3) := by
        rw [slc_at s (by omega) (by omega), show i + 3 - i = 3 from by omega]
      have hl : 4 ≤ (s.drop i).length := by simp; omega
      have bO : occ pO (s.drop i) = cond ((s.drop i).take 4 == pO) 1 0 + occ pO (s.drop (i + 1)) := by rw [occ_drop (by omega), hit_at hl]; rfl
      have bI : occ pI (s.drop i) = cond ((s.drop i).take 4 == pI) 1 0 + occ pI (s.drop (i + 1)) := by rw [occ_drop (by omega), hit_at hl]; rfl
      have bA : occ pA (s.drop i) = cond ((s.drop i).take 3 == pA) 1 0 + occ pA (s.drop (i + 1)) := by rw [occ_drop (by omega), hit_at hl]; rfl
      simp only [e4, e3, e1, eo, ef, en, decide_eq_true (show (((i + 4 : Nat) : Int) ≤ ((List.length s : Nat) : Int)) by omega), cond_true, t4, t3, Option.bind_some]
      rw [bO, bI, bA]
      show cond ((s.drop i).take 4 == pO) (cond ((s.drop i).take 4 == pI) (cond ((s.drop i).take 3 == pA) _ _) (cond ((s.drop i).take 3 == pA) _ _)) (cond ((s.drop i).take 4 == pI) (cond ((s.drop i).take 3 == pA) _ _) (cond ((s.drop i).take 3 == pA) _ _)) = _
      cases (s.drop i).take 4 == pO <;> cases (s.drop i).take 4 == pI <;> cases (s.drop i).take 3 == pA <;> simp only [cond_true, cond_false] <;> rw [key _ _ _ (by omega) (by omega) (by omega)] <;> simp only [Option.some.injEq, Prod.mk.injEq] <;> refine ⟨?_, ?_, ?_⟩ <;> omega
    · have hsh : (s.drop i).length < 4 := by simp; omega
      simp only [e4, decide_eq_false (show ¬ (((i + 4 : Nat) : Int) ≤ ((List.length s : Nat) : Int)) by omega), cond_false, occ_short _ hsh, Nat.add_zero]

theorem words_go : (es : List QSym) → law24_TellFirst_L0_go es = some (cond (es.any fun e => e.1 == [111, 114] || e.1 == [105, 102]) (.inr true) (.inl ()))
  | [] => rfl
  | e :: es => by
    unfold law24_TellFirst_L0_go
    rw [words_go es, List.any_cons]
    cases (e.1 == ([111, 114] : Str)) with
    | true => rfl
    | false => cases (e.1 == ([105, 102] : Str)) <;> rfl

theorem nameB_ne {c : UInt8} (h : nameB c = true) : c ≠ 32 ∧ c ≠ 38 := by
  refine ⟨fun e => ?_, fun e => ?_⟩ <;> subst e <;> revert h <;> decide
theorem words_ok {a0 : List QSym} (h : SignOk a0) (hw : (a0.any fun e => e.1 == [111, 114] || e.1 == [105, 102]) = false) : Words a0 := by
  intro i e he
  have hn := List.any_eq_false.1 hw e (List.mem_of_getElem? he)
  rw [Bool.or_eq_true, not_or] at hn
  have h1 : e.1 ≠ [111, 114] := by simpa using hn.1
  have h2 : e.1 ≠ [105, 102] := by simpa using hn.2
  have hat := h.at he
  refine ⟨fun e0 => by rw [e0] at hat; simp at hat, ?_, h1, h2⟩
  cases i with
  | zero =>
    rw [h.eq] at he
    injection he with he; subst he
    intro c hc
    simp only [equalsQ, List.mem_singleton] at hc
    subst hc; decide
  | succ i =>
    have hs := (symB_spec (h.sym i e he).1).1
    unfold calledB at hs
    cases hnm : e.1 with
    | nil => intro c hc; cases hc
    | cons d r =>
      rw [hnm] at hs
      simp only [Bool.and_eq_true] at hs
      intro c hc
      exact nameB_ne (List.all_eq_true.1 hs.2 c hc)

theorem ansT_parts {a0 : List QSym} {r : List Int} {a2 : List (List Int)} {a3 : List QLit} : ansT a0 (r :: a2) a3 = rowT a0 r ++ (Lib.joinTail [32, 111, 114, 32] (a2.map (rowT a0)) ++ cond a3.isEmpty [] ([32, 105, 102, 32] ++ Lib.join (a3.map (litT a0)) [32, 38, 32])) := by
  unfold ansT
  rw [List.map_cons, Lib.join_cons, List.append_assoc]
theorem ansT_occ {p : Str} (hp : Pat p) {a0 : List QSym} (hw : Words a0) {n : Nat} {r : List Int} {a2 : List (List Int)} {a3 : List QLit} (hr : ∀ q ∈ r :: a2, rowW a0 q = some n) (hl : litsB a0 a3 = true) :
    occ p (ansT a0 (r :: a2) a3) = isO p * a2.length + isI p * (cond a3.isEmpty 0 1) + isA p * (a3.length - 1) := by
  rw [ansT_parts]
  obtain ⟨ps, hc, _⟩ := rowW_spec (hr r (by simp))
  rw [row_quiet hp hw hc, rows_occ hp hw a2 (fun q hq => hr q (by simp [hq]))]
  cases a3 with
  | nil => simp [occ]
  | cons l a3 =>
    unfold litsB at hl
    rw [List.all_cons, Bool.and_eq_true] at hl
    obtain ⟨k1, k2⟩ := lits_occ hp hw a3 hl.2
    have hq := lit_quiet hp hw hl.1
    simp only [List.isEmpty_cons, cond_false]
    rw [List.map_cons, Lib.join_cons]
    show _ + occ p (32 :: 105 :: 102 :: 32 :: (litT a0 l ++ Lib.joinTail [32, 38, 32] (a3.map (litT a0)))) = _
    rw [occ, occ, occ, occ, hit_other hp (c := 105) (by decide), hit_other hp (c := 102) (by decide), hq.hit _ k2, hq.occ _ k2, k1]
    have e2 : hit p (32 :: 105 :: 102 :: 32 :: (litT a0 l ++ Lib.joinTail [32, 38, 32] (a3.map (litT a0)))) = isI p := by
      unfold hit isI
      rcases hp with rfl | rfl | rfl
      · simp [pO, pI, List.isPrefixOf]
      · simp [pI, List.isPrefixOf]
      · simp [pA, pI, List.isPrefixOf]
    rw [e2]
    simp only [List.length_cons, Nat.add_sub_cancel]
    omega

theorem rows_last (a0 : List QSym) (rs : List (List Int)) (r : List Int) : ∃ X, rowT a0 r ++ Lib.joinTail [32, 111, 114, 32] (rs.map (rowT a0)) = X ++ [41] := by
  rcases List.eq_nil_or_concat rs with rfl | ⟨L, b, rfl⟩
  · exact ⟨[40] ++ showTs a0 r, by simp [Lib.joinTail, rowT]⟩
  · refine ⟨rowT a0 r ++ (Lib.joinTail [32, 111, 114, 32] (L.map (rowT a0)) ++ [32, 111, 114, 32] ++ ([40] ++ showTs a0 b)), ?_⟩
    rw [List.concat_eq_append, List.map_append, List.map_singleton, joinTail_snoc]
    simp [rowT]

theorem law24_TellFirst_true (a0 : List QSym) (a1 : List QLit) (a2 : List (List Int)) (a3 : List QLit) : law24_TellFirst a0 a1 a2 a3 = some true := by
  unfold law24_TellFirst
  rw [law24_awake_eq, Option.bind_some, ask_Show_eq, Option.bind_some]
  cases ht : tellB a0 a1 a2 a3 with
  | false =>
    simp only [cond_false, show law0_Num 2400 = some 2400 from rfl, Option.bind_some, clause_May_eq, Bool.not_true, show ((2400 : Int) != 0) = true from rfl, show ((([] : Str)) == ([] : Str)) = true from rfl, cond_true]
    unfold tellB at ht
    cases hm : mayB a0 a1 a2 a3 with
    | false => rfl
    | true =>
      rw [hm] at ht
      cases a1 with
      | cons l a1 => simp only [Bool.not_true, cond_false, decide_eq_true (show (((List.length (l :: a1) : Nat) : Int) > 0) by simp <;> omega), cond_true]
      | nil =>
        cases a2 with
        | nil => rfl
        | cons r a2 => cases ht
  | true =>
    simp only [cond_true, show law0_Num 0 = some 0 from rfl, Option.bind_some, Bool.not_true, cond_false, show ((0 : Int) != 0) = false from rfl]
    unfold tellB at ht
    simp only [Bool.and_eq_true, Bool.not_eq_true'] at ht
    obtain ⟨⟨hm, h1⟩, h2⟩ := ht
    obtain ⟨hs, hl1, hl2, hl3, hb1, hb2, hb3, hsum⟩ := mayB_spec hm
    have hS := signB_ok hs
    rw [law24_TellFirst_L0_go_at0 _ _ _ _ _ hS.max, words_go, Option.bind_some]
    cases hw : (a0.any fun e => e.1 == [111, 114] || e.1 == [105, 102]) with
    | true => rfl
    | false =>
      have hW := words_ok hS hw
      cases a2 with
      | nil => cases h2
      | cons r a2 =>
        obtain ⟨n, hn⟩ := rowsB_all hb2
        have hlen : (ansT a0 (r :: a2) a3).length ≤ 1000000 := by
          obtain ⟨_, t2⟩ := rows_text (r :: a2) [] hn (by simp at hl2 ⊢; omega)
          obtain ⟨_, u2⟩ := lits_text a3 [] hb3 (by simp; omega)
          have j1 := join_le ((r :: a2).map (rowT a0)) [32, 111, 114, 32]
          have j2 := join_le (a3.map (litT a0)) [32, 38, 32]
          rw [List.length_map] at j1 j2
          have e3 : ([32, 111, 114, 32] : Str).length = 4 := rfl
          have e5 : ([32, 38, 32] : Str).length = 3 := rfl
          rw [e3] at j1
          rw [e5] at j2
          unfold ansT
          cases a3.isEmpty <;> simp only [cond_true, cond_false, List.length_append, List.length_cons, List.length_nil] <;> omega
        have hcount := count_round (ansT a0 (r :: a2) a3) hlen a1 (r :: a2) a3 _ 0 0 0 0 fuel rfl (Nat.zero_le _) (Nat.le_refl _) (Nat.le_refl _) (Nat.le_refl _) (by unfold fuel; omega)
        rw [List.drop_zero, ansT_occ (.inl rfl) hW hn hb3, ansT_occ (.inr (.inl rfl)) hW hn hb3, ansT_occ (.inr (.inr rfl)) hW hn hb3] at hcount
        have hO : isO pO = 1 ∧ isI pO = 0 ∧ isA pO = 0 := by decide
        have hI : isO pI = 0 ∧ isI pI = 1 ∧ isA pI = 0 := by decide
        have hA : isO pA = 0 ∧ isI pA = 0 ∧ isA pA = 1 := by decide
        simp only [hO.1, hO.2.1, hO.2.2, hI.1, hI.2.1, hI.2.2, hA.1, hA.2.1, hA.2.2, Nat.one_mul, Nat.zero_mul, Nat.add_zero, Nat.zero_add] at hcount
        simp only [cond_false, caseS_inl]
        rw [show (0 : Int) = ((0 : Nat) : Int) from rfl, hcount, Option.bind_some]
        have h2len : 2 ≤ (ansT a0 (r :: a2) a3).length := by
          rw [ansT_parts]
          simp [rowT]
          omega
        have hfirst : gx (ansT a0 (r :: a2) a3) ((0 : Nat) : Int) = some 40 := by
          rw [gx_nat, ansT_parts]; rfl
        have hwr : IntKind.wrap .i64 (((List.length (r :: a2) : Nat) : Int) - 1) = ((a2.length : Nat) : Int) := by
          rw [List.length_cons] at hl2 ⊢
          rw [wrap64] <;> omega
        rw [decide_eq_false (show ¬ (((List.length (ansT a0 (r :: a2) a3) : Nat) : Int) < 2) by omega), cond_false, hfirst, Option.bind_some, hwr]
        rw [show (((UInt8.toNat 40 : Nat) : Int) != 40) = false from rfl, cond_false]
        simp only [bne_self_eq_false, cond_false]
        cases a3 with
        | nil =>
          have hlast : gx (ansT a0 (r :: a2) []) (IntKind.wrap .i64 (((List.length (ansT a0 (r :: a2) []) : Nat) : Int) - 1)) = some 41 := by
            obtain ⟨X, hX⟩ := rows_last a0 a2 r
            have : ansT a0 (r :: a2) [] = X ++ [41] := by
              rw [ansT_parts]
              simp only [List.isEmpty_nil, cond_true, List.append_nil]
              exact hX
            rw [this]
            have hl : IntKind.wrap .i64 (((List.length (X ++ [41]) : Nat) : Int) - 1) = ((X.length : Nat) : Int) := by
              rw [this] at hlen
              rw [List.length_append, List.length_singleton] at hlen ⊢
              rw [wrap64] <;> omega
            rw [hl, gx_nat, List.getElem?_append_right (Nat.le_refl _), Nat.sub_self]
            rfl
          simp only [List.isEmpty_nil, cond_true, List.length_nil, Nat.zero_sub, beq_self_eq_true, hlast, Option.bind_some]
          rfl
        | cons l a3 =>
          have hw3 : IntKind.wrap .i64 (((a3.length + 1 : Nat) : Int) - 1) = ((a3.length : Nat) : Int) := by
            rw [List.length_cons] at hl3
            rw [wrap64] <;> omega
          simp only [show (((a3.length + 1 : Nat) : Int) == ((0 : Nat) : Int)) = false from by simp <;> omega, cond_false, List.isEmpty_cons, hw3, List.length_cons, Nat.add_sub_cancel, beq_self_eq_true]
          rfl

end
end Go.Abs.Q
/-
  A condition's text is its formula's.
-/
namespace Go.Abs.Q
open Go Go.Abs
section

def bindName (s : Str) : Bool := s == [97, 108, 108] || s == [101, 120]
def sigB (a0 : List QSym) : Bool := signB a0 && !(a0.any fun e => bindName e.1)
theorem sig_go : (es : List QSym) → (i : Nat) → ((es.any fun e => bindName e.1) = true → ∃ j : Nat, slices_IndexFunc_5_L0_go es i = some (.inr (j : Int))) ∧ ((es.any fun e => bindName e.1) = false → slices_IndexFunc_5_L0_go es i = some (.inl ()))
  | [], _ => ⟨fun h => (by cases h), fun _ => rfl⟩
  | e :: es, i => by
    have hr := sig_go es (i + 1)
    have hc : formula_SigMay_c1 e.1 e.2.1 e.2.2.1 e.2.2.2 = some (bindName e.1) := by
      unfold formula_SigMay_c1 bindName
      cases (e.1 == ([97, 108, 108] : Str)) <;> rfl
    unfold slices_IndexFunc_5_L0_go
    rw [List.any_cons, hc, Option.bind_some]
    cases bindName e.1 with
    | true => exact ⟨fun _ => ⟨i, rfl⟩, fun h => (by cases h)⟩
    | false => exact hr
theorem formula_SigMay_eq (a0 : List QSym) : formula_SigMay a0 = some (sigB a0) := by
  unfold formula_SigMay sigB
  rw [sign_May_eq, Option.bind_some]
  cases hs : signB a0 with
  | false => rfl
  | true =>
    have hS := signB_ok hs
    obtain ⟨h1, h2⟩ := sig_go a0 0
    have hc : slices_ContainsFunc_5 a0 = some (a0.any fun e => bindName e.1) := by
      unfold slices_ContainsFunc_5 slices_IndexFunc_5
      rw [slices_IndexFunc_5_L0_go_at0 _ hS.max]
      cases hb : a0.any fun e => bindName e.1 with
      | true =>
        obtain ⟨j, hj⟩ := h1 hb
        rw [hj]
        show some (decide ((j : Int) ≥ 0)) = some true
        rw [decide_eq_true (by omega)]
      | false => rw [h2 hb]; rfl
    rw [cond_true, hc]; rfl

theorem may_atom (a0 : List QSym) (xs : List Int) : formula_May a0 [(0, 0, xs)] = some (sigB a0 && atomB a0 xs) := by
  unfold formula_May
  rw [formula_SigMay_eq, Option.bind_some]
  cases sigB a0 with
  | false => rfl
  | true =>
    rw [formula_May_L0_go_at0 _ _ _ (by simp [maxLen])]
    unfold formula_May_L0_go
    have h1 : formula_parts 0 = some 0 := rfl
    have h2 : formula_nodeMay a0 0 0 xs = some (atomB a0 xs) := by
      unfold formula_nodeMay
      rw [term_IsAtom_eq]; rfl
    simp only [h1, Option.bind_some, h2]
    cases atomB a0 xs with
    | false => rfl
    | true => rfl
theorem may_not (a0 : List QSym) (xs : List Int) : formula_May a0 [(1, 0, []), (0, 0, xs)] = some (sigB a0 && atomB a0 xs) := by
  unfold formula_May
  rw [formula_SigMay_eq, Option.bind_some]
  cases sigB a0 with
  | false => rfl
  | true =>
    rw [formula_May_L0_go_at0 _ _ _ (by simp [maxLen])]
    unfold formula_May_L0_go
    have h0 : formula_parts 1 = some 1 := rfl
    have h3 : formula_nodeMay a0 1 0 [] = some true := rfl
    have h1 : formula_parts 0 = some 0 := rfl
    have h2 : formula_nodeMay a0 0 0 xs = some (atomB a0 xs) := by
      unfold formula_nodeMay
      rw [term_IsAtom_eq]; rfl
    simp only [h0, h3, Option.bind_some]
    have e1 : IntKind.wrap .i64 (1 + IntKind.wrap .i64 (1 - 1)) = 1 := rfl
    rw [e1]
    unfold formula_May_L0_go
    simp only [h1, Option.bind_some, h2]
    cases atomB a0 xs with
    | false => rfl
    | true => rfl

theorem show_R_atom {a0 : List QSym} {xs : List Int} (h : atomB a0 xs = true) (k : Nat) : formula_show_R (k + 1) (a0, [(0, 0, xs)]) = some (showA a0 xs, []) := by
  show formula_show_S (formula_show_R k) a0 [(0, 0, xs)] = _
  unfold formula_show_S
  rw [gx_zero, List.getElem?_cons_zero, Option.bind_some, slc_tail, Option.bind_some, (formula_ShowAtom_eq h).1]
  rfl
theorem show_R_not {a0 : List QSym} {xs : List Int} (h : atomB a0 xs = true) (k : Nat) : formula_show_R (k + 2) (a0, [(1, 0, []), (0, 0, xs)]) = some ([126] ++ showA a0 xs, []) := by
  have hl := (formula_ShowAtom_eq h).2
  have hb := atomB_len h
  show formula_show_S (formula_show_R (k + 1)) a0 [(1, 0, []), (0, 0, xs)] = _
  unfold formula_show_S
  rw [gx_zero, List.getElem?_cons_zero, Option.bind_some, slc_tail, Option.bind_some, show_R_atom h k]
  have : decide ((List.length ([126] : Str) + List.length (showA a0 xs) : Nat) < 4611686018427387904) = true := decide_eq_true (by simp only [List.length_cons, List.length_nil]; omega)
  show cond (decide ((List.length ([126] : Str) + List.length (showA a0 xs) : Nat) < 4611686018427387904)) _ _ = _
  rw [this]; rfl
theorem Show_atom (a0 : List QSym) (xs : List Int) : formula_Show a0 [(0, 0, xs)] = some (cond (sigB a0 && atomB a0 xs) (showA a0 xs, 0) ([], 2200)) := by
  unfold formula_Show
  rw [may_atom, Option.bind_some]
  cases h : sigB a0 && atomB a0 xs with
  | false => rfl
  | true =>
    rw [Bool.and_eq_true] at h
    unfold formula_show
    rw [show fuel = 18446744073709551615 + 1 from rfl, show_R_atom h.2]; rfl
theorem Show_not (a0 : List QSym) (xs : List Int) : formula_Show a0 [(1, 0, []), (0, 0, xs)] = some (cond (sigB a0 && atomB a0 xs) ([126] ++ showA a0 xs, 0) ([], 2200)) := by
  unfold formula_Show
  rw [may_not, Option.bind_some]
  cases h : sigB a0 && atomB a0 xs with
  | false => rfl
  | true =>
    rw [Bool.and_eq_true] at h
    unfold formula_show
    rw [show fuel = 18446744073709551614 + 2 from rfl, show_R_not h.2]; rfl

theorem ask_one {a0 : List QSym} {b : Bool} {xs : List Int} (h : atomB a0 xs = true) : ask_Show a0 [] [[]] [(b, xs)] = some ([40, 41, 32, 105, 102, 32] ++ litT a0 (b, xs), 0) := by
  have hs : signB a0 = true := by
    obtain ⟨_, _, _, _, _, _, _, _, _, hs, _⟩ := atomB_spec h
    exact hs
  have hl := atomB_len h
  have hw : rowW a0 [] = some 0 := by unfold rowW beginsB; rw [hs]; rfl
  have hm : mayB a0 [] [[]] [(b, xs)] = true := mayB_mk hs (by simp) (by simp) (by simp) rfl (by unfold rowsB; dsimp only; rw [hw]; rfl) (by unfold litsB; simp [h]) (by show 0 + (0 + 0) + (xs.length + 0) ≤ 240; omega)
  rw [ask_Show_eq]
  have ht : tellB a0 [] [[]] [(b, xs)] = true := by unfold tellB; rw [hm]; rfl
  rw [ht, cond_true]
  have hans : ansT a0 [[]] [(b, xs)] = [40, 41, 32, 105, 102, 32] ++ litT a0 (b, xs) := by
    rw [ansT_parts]
    simp only [List.map_nil, List.isEmpty_cons, cond_false, List.map_cons, Lib.join_one]
    have e1 : rowT a0 [] = [40, 41] := rfl
    have e2 : Lib.joinTail [32, 111, 114, 32] [] = [] := rfl
    rw [e1, e2]; rfl
  rw [hans]

theorem law24_TellAtoms_true (a0 : List QSym) (a1 : Bool) (a2 : List Int) : law24_TellAtoms a0 a1 a2 = some true := by
  unfold law24_TellAtoms
  rw [law24_awake_eq, Option.bind_some]
  have r1 : room (List.length ([(1, 0, ([] : List Int))] : List (Int × Int × List Int))) 40 = true := rfl
  have r2 : room (List.length ([(1, 0, ([] : List Int))] : List (Int × Int × List Int)) + List.length ([(0, 0, a2)] : List (Int × Int × List Int))) 40 = true := rfl
  have r3 : room (List.length ([(0, 0, a2)] : List (Int × Int × List Int))) 40 = true := rfl
  cases a1 with
  | true =>
    simp only [Bool.not_true, cond_false, cond_true, r1, r2]
    rw [show ([(1, 0, ([] : List Int))] : List (Int × Int × List Int)) ++ [(0, 0, a2)] = [(1, 0, []), (0, 0, a2)] from rfl, Show_not, Option.bind_some]
    cases h : sigB a0 && atomB a0 a2 with
    | false => rfl
    | true =>
      rw [Bool.and_eq_true] at h
      have hl := (formula_ShowAtom_eq h.2).2
      have hb := atomB_len h.2
      rw [cond_true, show law0_Num ([126] ++ showA a0 a2, (0 : Int)).2 = some 0 from rfl, Option.bind_some, show ((0 : Int) != 0) = false from rfl, cond_false, ask_one h.2, Option.bind_some]
      rw [show law0_Num ([40, 41, 32, 105, 102, 32] ++ litT a0 (true, a2), (0 : Int)).2 = some 0 from rfl, Option.bind_some, show ((0 : Int) == 0) = true from rfl, cond_true]
      have : decide ((List.length ([40, 41, 32, 105, 102, 32] : Str) + List.length ([126] ++ showA a0 a2, (0 : Int)).1 : Nat) < 4611686018427387904) = true := decide_eq_true (by
        show 6 + ([126] ++ showA a0 a2).length < _
        simp only [List.length_append, List.length_cons, List.length_nil]; omega)
      rw [this, cond_true]
      simp [litT]
  | false =>
    simp only [Bool.not_true, cond_false, cond_true, r3]
    rw [Show_atom, Option.bind_some]
    cases h : sigB a0 && atomB a0 a2 with
    | false => rfl
    | true =>
      rw [Bool.and_eq_true] at h
      have hl := (formula_ShowAtom_eq h.2).2
      have hb := atomB_len h.2
      rw [cond_true, show law0_Num (showA a0 a2, (0 : Int)).2 = some 0 from rfl, Option.bind_some, show ((0 : Int) != 0) = false from rfl, cond_false, ask_one h.2, Option.bind_some]
      rw [show law0_Num ([40, 41, 32, 105, 102, 32] ++ litT a0 (false, a2), (0 : Int)).2 = some 0 from rfl, Option.bind_some, show ((0 : Int) == 0) = true from rfl, cond_true]
      have : decide ((List.length ([40, 41, 32, 105, 102, 32] : Str) + List.length (showA a0 a2, (0 : Int)).1 : Nat) < 4611686018427387904) = true := decide_eq_true (by
        show 6 + (showA a0 a2).length < _
        omega)
      rw [this, cond_true]
      simp [litT]

end
end Go.Abs.Q
