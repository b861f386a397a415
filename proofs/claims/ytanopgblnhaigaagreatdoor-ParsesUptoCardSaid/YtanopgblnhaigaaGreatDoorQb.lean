import Derived.Test.YtanopgblnhaigaaGreatDoorQa
/-
  What the functions make of plain values, and what the law says of that.
-/
namespace Go.Abs.Q
open Go Go.Abs
section
theorem slc_1 (t : Str) {i : Nat} {c : UInt8} {r : Str} (h : t.drop i = c :: r) (ht : t.length ≤ 1000000) : slc2 t (some (i : Int)) (some (IntKind.wrap .i64 ((i : Int) + 1))) = some [c] := by
  have hlt := drop_cons_lt h
  have w1 : IntKind.wrap .i64 ((i : Int) + 1) = ((i + 1 : Nat) : Int) := by rw [wrap64] <;> omega
  rw [w1, slc_at t (by omega) (by omega), h, show i + 1 - i = 1 from by omega]
  rfl
theorem ref_word {t : Str} (ht : t.length ≤ 100000) {i : Nat} {c : UInt8} {r : Str} (hd : t.drop i = c :: r) : ∃ x, ref21_word t (i : Int) = some x ∧ (match wordP (c :: r) with
    | some p => x = (p.1.1, p.1.2, true) ∧ p.2 = t.drop (i + p.1.2.length) ∧ 0 < p.1.2.length ∧ i + p.1.2.length ≤ t.length
    | none => x.2.2 = false) := by
  have hlt := drop_cons_lt hd
  have hlen : t.length = i + (r.length + 1) := by have := congrArg List.length hd; simp at this; omega
  have hr : r = t.drop (i + 1) := (drop_cons_next hd).symm
  have w1 : IntKind.wrap .i64 ((i : Int) + 1) = ((i + 1 : Nat) : Int) := by rw [wrap64] <;> omega
  unfold ref21_word wordP
  dsimp only
  rw [gx_nat, drop_cons_get hd, Option.bind_some, ref21_small_eq, Option.bind_some]
  cases h1 : letB c with
  | true =>
    rw [cond_true, cond_true, ref21_word_L0_go_eq t _ _ _ (by unfold maxLen; omega) _ i fuel rfl (by simp only [List.length_drop]; unfold fuel; omega), rword_go, Option.bind_some, slc_run t i (runP true) (by omega), Option.bind_some, hd]
    have hp : 0 < ((c :: r).takeWhile (runP true)).length := run_pos (by unfold runP; rw [h1]; simp)
    have hq := take_len (runP true) (c :: r)
    have hdr : (c :: r).drop ((c :: r).takeWhile (runP true)).length = t.drop (i + ((c :: r).takeWhile (runP true)).length) := by rw [← hd, List.drop_drop]
    rw [List.length_cons] at hq
    have w : IntKind.wrap .i64 (((i + ((c :: r).takeWhile (runP true)).length : Nat) : Int) - (i : Int)) = (((c :: r).takeWhile (runP true)).length : Int) := by rw [wrap64] <;> omega
    rw [w]
    refine ⟨_, rfl, ?_⟩
    by_cases h8 : ((c :: r).takeWhile (runP true)).length ≤ 8
    · rw [decide_eq_true h8, cond_true]
      simp only
      rw [decide_eq_true (show ((((c :: r).takeWhile (runP true)).length : Nat) : Int) ≤ 8 by omega)]
      exact ⟨rfl, hdr, hp, by omega⟩
    · rw [decide_eq_false h8, cond_false]
      simp only
      rw [decide_eq_false (show ¬ (((((c :: r).takeWhile (runP true)).length : Nat) : Int) ≤ 8) by omega)]
  | false =>
    rw [cond_false, cond_false, show (((UInt8.toNat c : Nat) : Int) == 88) = (c == 88) from toNat_beq c 88]
    cases h2 : (c == 88) with
    | true =>
      rw [cond_true, cond_true, w1, ref21_digits_eq (by omega), Option.bind_some, slc_run t (i + 1) (runP false) (by omega), Option.bind_some, ← hr]
      have hall := digits_all r
      have hq := take_len (runP false) r
      have ht2 := take_eq (runP false) r
      have hdr : r.drop (r.takeWhile (runP false)).length = t.drop (i + (c :: r.takeWhile (runP false)).length) := by
        rw [hr, List.drop_drop, ← hr, List.length_cons, show i + 1 + (r.takeWhile (runP false)).length = i + ((r.takeWhile (runP false)).length + 1) from by omega]
      obtain ⟨x, k1, k2, k3⟩ := ref21_Number_eq hall (by omega)
      have hn := numB_24 hall
      have hs : slc2 t (some (i : Int)) (some ((i + 1 + (r.takeWhile (runP false)).length : Nat) : Int)) = some (c :: r.takeWhile (runP false)) := by
        rw [slc_at t (by omega) (by omega), hd, show i + 1 + (r.takeWhile (runP false)).length - i = (r.takeWhile (runP false)).length + 1 from by omega, List.take_succ_cons, ht2]
      rw [k1, Option.bind_some, hs, Option.bind_some, k2, ← hn]
      cases h4 : numB (r.takeWhile (runP false)) 4 with
      | false => exact ⟨_, rfl, rfl⟩
      | true =>
        rw [cond_true, Bool.true_and, k3 h4]
        by_cases hv : numV (r.takeWhile (runP false)) ≤ 23
        · rw [decide_eq_true hv, decide_eq_true (show ((numV (r.takeWhile (runP false)) : Nat) : Int) ≤ 23 by omega)]
          refine ⟨_, rfl, rfl, hdr, by simp, ?_⟩
          simp only [List.length_cons]
          omega
        · rw [decide_eq_false hv, decide_eq_false (show ¬ (((numV (r.takeWhile (runP false)) : Nat) : Int) ≤ 23) by omega)]
          exact ⟨_, rfl, rfl⟩
    | false =>
      rw [cond_false, cond_false, ref21_digit_eq, Option.bind_some]
      cases h3 : digB c with
      | true =>
        have hp : 0 < ((c :: r).takeWhile (runP false)).length := run_pos (by unfold runP; rw [h3]; simp)
        have hq := take_len (runP false) (c :: r)
        rw [List.length_cons] at hq
        have hall := digits_all (c :: r)
        have hdr : (c :: r).drop ((c :: r).takeWhile (runP false)).length = t.drop (i + ((c :: r).takeWhile (runP false)).length) := by rw [← hd, List.drop_drop]
        have hsr := slc_run t i (runP false) (by omega)
        rw [hd] at hsr
        rw [cond_true, cond_true, ref21_digits_eq (by omega), hd, Option.bind_some, hsr, Option.bind_some]
        obtain ⟨x, k1, k2, k3⟩ := ref21_Number_eq hall (by omega)
        rw [k1, Option.bind_some, Option.bind_some, k2]
        cases numB ((c :: r).takeWhile (runP false)) 4 with
        | false => exact ⟨_, rfl, rfl⟩
        | true => exact ⟨_, rfl, rfl, hdr, hp, show i + ((c :: r).takeWhile (runP false)).length ≤ t.length by omega⟩
      | false =>
        rw [cond_false, cond_false, show (((UInt8.toNat c : Nat) : Int) == 45) = (c == 45) from toNat_beq c 45]
        cases h45 : (c == 45) with
        | true =>
          have hc : c = 45 := by simpa using h45
          have hm : markB c = false := by subst hc; decide
          rw [cond_true, w1]
          cases r with
          | nil =>
            rw [decide_eq_false (show ¬ (((i + 1 : Nat) : Int) < ((List.length t : Nat) : Int)) by simp at hlen; omega), cond_false, show ((c :: ([] : Str)).take 2 == [45, 62]) = false from by subst hc; rfl, cond_false, hm]
            exact ⟨_, rfl, rfl⟩
          | cons y r =>
            rw [decide_eq_true (show ((i + 1 : Nat) : Int) < ((List.length t : Nat) : Int) by rw [List.length_cons] at hlen; omega), cond_true, gx_nat, drop_cons_get hr.symm, Option.bind_some, show (((UInt8.toNat y : Nat) : Int) == 62) = (y == 62) from toNat_beq y 62]
            by_cases hy : y = 62
            · subst hy
              subst hc
              rw [show ((45 :: 62 :: r : Str).take 2 == [45, 62]) = true from rfl, cond_true]
              refine ⟨_, rfl, rfl, ?_, by simp, ?_⟩
              · show (62 :: r).drop 1 = t.drop (i + 2)
                rw [hr, List.drop_drop]
              · show i + 2 ≤ t.length
                rw [List.length_cons] at hlen; omega
            · have e : ((c :: y :: r).take 2 == [45, 62]) = false := by
                rw [beq_eq_false_iff_ne]
                intro e
                exact hy (List.cons.inj (List.cons.inj e).2).1
              rw [e, cond_false, hm, show (y == 62) = false from by simpa using hy]
              exact ⟨_, rfl, rfl⟩
        | false =>
          have hc45 : c ≠ 45 := by simpa using h45
          have e : ((c :: r).take 2 == [45, 62]) = false := by
            rw [beq_eq_false_iff_ne]
            intro e
            cases r with
            | nil => cases e
            | cons y r => exact hc45 (List.cons.inj e).1
          rw [cond_false, e, cond_false, slc_1 t hd (by omega)]
          simp only [Option.bind_some]
          rw [show (((UInt8.toNat c : Nat) : Int) == 40) = (c == 40) from toNat_beq c 40, show (((UInt8.toNat c : Nat) : Int) == 41) = (c == 41) from toNat_beq c 41, show (((UInt8.toNat c : Nat) : Int) == 44) = (c == 44) from toNat_beq c 44,
            show (((UInt8.toNat c : Nat) : Int) == 61) = (c == 61) from toNat_beq c 61, show (((UInt8.toNat c : Nat) : Int) == 126) = (c == 126) from toNat_beq c 126, show (((UInt8.toNat c : Nat) : Int) == 38) = (c == 38) from toNat_beq c 38,
            show (((UInt8.toNat c : Nat) : Int) == 124) = (c == 124) from toNat_beq c 124, show (((UInt8.toNat c : Nat) : Int) == 58) = (c == 58) from toNat_beq c 58]
          have hmark : markB c = ((c == 40) || ((c == 41) || ((c == 44) || ((c == 61) || ((c == 126) || ((c == 38) || ((c == 124) || (c == 58)))))))) := by
            unfold markB
            by_cases hm : c ∈ ([40, 41, 44, 61, 126, 38, 124, 58] : Str)
            · rw [decide_eq_true hm]
              simp only [List.mem_cons, List.not_mem_nil, or_false] at hm
              rcases hm with h | h | h | h | h | h | h | h <;> subst h <;> rfl
            · rw [decide_eq_false hm]
              simp only [List.mem_cons, List.not_mem_nil, or_false, not_or] at hm
              obtain ⟨a1, a2, a3, a4, a5, a6, a7, a8⟩ := hm
              rw [show (c == 40) = false from by simpa using a1, show (c == 41) = false from by simpa using a2, show (c == 44) = false from by simpa using a3, show (c == 61) = false from by simpa using a4, show (c == 126) = false from by simpa using a5, show (c == 38) = false from by simpa using a6, show (c == 124) = false from by simpa using a7, show (c == 58) = false from by simpa using a8]
              rfl
          have hok : ((3 : Int), ([c] : Str), true) = (((3 : Int), ([c] : Str)).1, ((3 : Int), ([c] : Str)).2, true) ∧ r = t.drop (i + ([c] : Str).length) ∧ 0 < ([c] : Str).length ∧ i + ([c] : Str).length ≤ t.length := ⟨rfl, by rw [hr]; rfl, by simp, by simp; omega⟩
          rw [hmark]
          cases (c == 40) with
          | true => exact ⟨_, rfl, hok⟩
          | false =>
            cases (c == 41) with
            | true => exact ⟨_, rfl, hok⟩
            | false =>
              cases (c == 44) with
              | true => exact ⟨_, rfl, hok⟩
              | false =>
                cases (c == 61) with
                | true => exact ⟨_, rfl, hok⟩
                | false =>
                  cases (c == 126) with
                  | true => exact ⟨_, rfl, hok⟩
                  | false =>
                    cases (c == 38) with
                    | true => exact ⟨_, rfl, hok⟩
                    | false =>
                      cases (c == 124) with
                      | true => exact ⟨_, rfl, hok⟩
                      | false =>
                        cases (c == 58) with
                        | true => exact ⟨_, rfl, hok⟩
                        | false => exact ⟨_, rfl, rfl⟩
theorem rlex_round {t : Str} (ht : t.length ≤ 100000) : ∀ (m i k : Nat) (out : List QWord), t.length - i = m → i ≤ t.length → out.length ≤ i → m < k →
    lp ref21_Lex_L0 k (t, (i : Int), out) = some (match lexP (t.drop i) with
      | some ws => .inl (out ++ ws)
      | none => .inr 2100) := by
  intro m
  induction m using Nat.strongRecOn with
  | _ m ih =>
    intro i k out hm hi ho hk
    obtain ⟨k, rfl⟩ : ∃ k', k = k' + 1 := ⟨k - 1, by omega⟩
    rw [lp_succ]
    have key := fun j out' (h1 : i < j) h2 h3 => ih (t.length - j) (by omega) j k out' rfl h2 h3 (by omega)
    generalize lp ref21_Lex_L0 k = rec at key ⊢
    unfold ref21_Lex_L0
    cases hd : t.drop i with
    | nil =>
      have := drop_nil_le hd
      rw [decide_eq_false (show ¬ ((i : Int) < ((List.length t : Nat) : Int)) by omega), lexP_nil]
      simp
    | cons c r =>
      have hlt := drop_cons_lt hd
      have hr : r = t.drop (i + 1) := (drop_cons_next hd).symm
      have w1 : IntKind.wrap .i64 ((i : Int) + 1) = ((i + 1 : Nat) : Int) := by rw [wrap64] <;> omega
      simp only [decide_eq_true (show (i : Int) < ((List.length t : Nat) : Int) by omega), cond_true, gx_nat, drop_cons_get hd, Option.bind_some, show (((UInt8.toNat c : Nat) : Int) == 32) = (c == 32) from toNat_beq c 32]
      by_cases h32 : c = 32
      · subst h32
        rw [show ((32 : UInt8) == 32) = true from rfl, cond_true, w1, key (i + 1) out (by omega) (by omega) (by omega), lexP_blank, hr]
      · rw [show (c == 32) = false from by simpa using h32, cond_false]
        obtain ⟨x, k1, k2⟩ := ref_word ht hd
        rw [k1, Option.bind_some]
        have hst : lexP (c :: r) = match wordP (c :: r) with
            | none => none
            | some (w, rest) => (lexP rest).map (w :: ·) := by
          rw [lexP_step]
          have : (c :: r).dropWhile (· == 32) = c :: r := by
            rw [List.dropWhile_cons, show (c == 32) = false from by simpa using h32]
            rfl
          rw [this]
          rfl
        rw [hst]
        cases hw : wordP (c :: r) with
        | none =>
          rw [hw] at k2
          have k2 : x.2.2 = false := k2
          rw [k2]
          rfl
        | some p =>
          obtain ⟨w, rest⟩ := p
          rw [hw] at k2
          obtain ⟨e1, e2, e3, e4⟩ := k2
          simp only at e1 e2 e3 e4
          rw [e1]
          simp only [Bool.not_true, cond_false]
          have w2 : IntKind.wrap .i64 ((i : Int) + ((List.length w.2 : Nat) : Int)) = ((i + w.2.length : Nat) : Int) := by rw [wrap64] <;> omega
          rw [room_ok (by simp; omega), cond_true, w2, key (i + w.2.length) _ (by omega) e4 (by simp; omega), ← e2]
          cases lexP rest with
          | none => rfl
          | some ws => simp
theorem ref21_Lex_eq (t : Str) : ref21_Lex t = some (lexR t) := by
  unfold ref21_Lex lexR
  by_cases hl : t.length > 2048
  · rw [decide_eq_true (show ((List.length t : Nat) : Int) > 2048 by omega), decide_eq_true hl]; rfl
  · rw [decide_eq_false (show ¬ (((List.length t : Nat) : Int) > 2048) by omega), decide_eq_false hl, cond_false, cond_false]
    have := rlex_round (t := t) (by omega) (t.length - 0) 0 fuel [] rfl (by omega) (by simp) (by unfold fuel; omega)
    rw [show (0 : Int) = ((0 : Nat) : Int) from rfl, this, List.drop_zero]
    cases lexP t with
    | none => rfl
    | some ws => rfl
end
end Go.Abs.Q
namespace Go.Abs.Q
open Go Go.Abs
section
def WOk2 (ws : QWs) : Prop := ∀ w ∈ ws, w.1 = 1 → numB w.2.tail 2 = true
theorem wordP_ok2 {s rest : Str} {w : QWord} (h : wordP s = some (w, rest)) : w.1 = 1 → numB w.2.tail 2 = true := by
  intro hk
  unfold wordP at h
  cases s with
  | nil => cases h
  | cons c r =>
    simp only at h
    cases h1 : letB c with
    | true =>
      rw [h1, cond_true] at h
      cases h2 : decide (((c :: r).takeWhile (runP true)).length ≤ 8) with
      | false => rw [h2] at h; cases h
      | true =>
        rw [h2, cond_true] at h
        injection h with h; injection h with h _
        subst h
        cases hk
    | false =>
      rw [h1, cond_false] at h
      cases h2 : (c == 88) with
      | true =>
        rw [h2, cond_true] at h
        cases h3 : (numB (r.takeWhile (runP false)) 2 && decide (numV (r.takeWhile (runP false)) ≤ 23)) with
        | false => rw [h3] at h; cases h
        | true =>
          rw [h3, cond_true] at h
          injection h with h; injection h with h _
          subst h
          rw [Bool.and_eq_true] at h3
          exact h3.1
      | false =>
        rw [h2, cond_false] at h
        cases h3 : digB c with
        | true =>
          rw [h3, cond_true] at h
          cases h4 : numB ((c :: r).takeWhile (runP false)) 4 with
          | false => rw [h4] at h; cases h
          | true =>
            rw [h4, cond_true] at h
            injection h with h; injection h with h _
            subst h
            cases hk
        | false =>
          rw [h3, cond_false] at h
          cases h4 : ((c :: r).take 2 == [45, 62]) with
          | true =>
            rw [h4, cond_true] at h
            injection h with h; injection h with h _
            subst h
            cases hk
          | false =>
            rw [h4, cond_false] at h
            cases h5 : markB c with
            | false => rw [h5] at h; cases h
            | true =>
              rw [h5, cond_true] at h
              injection h with h; injection h with h _
              subst h
              cases hk
theorem lexN_ok2 : (n : Nat) → (s : Str) → {ws : QWs} → lexN n s = some ws → WOk2 ws
  | 0, s, ws, h => by
    injection h with h; subst h
    exact fun w hw => by cases hw
  | n + 1, s, ws, h => by
    unfold lexN at h
    cases he : s.dropWhile (· == 32) with
    | nil =>
      rw [he] at h
      injection h with h; subst h
      exact fun w hw => by cases hw
    | cons c r =>
      rw [he] at h
      simp only at h
      cases hw : wordP (c :: r) with
      | none => rw [hw] at h; cases h
      | some p =>
        obtain ⟨w, rest⟩ := p
        rw [hw] at h
        simp only [Option.map_eq_some_iff] at h
        obtain ⟨vs, hv, rfl⟩ := h
        intro x hx
        rcases List.mem_cons.1 hx with rfl | hx
        · exact wordP_ok2 hw
        · exact lexN_ok2 n rest hv x hx
theorem lexR_ok2 (t : Str) : WOk2 (lexR t).2 := by
  unfold lexR
  by_cases h : t.length > 2048
  · rw [decide_eq_true h]
    exact fun w hw => by cases hw
  · rw [decide_eq_false h, cond_false]
    cases hl : lexP t with
    | none => exact fun w hw => by cases hw
    | some ws => exact lexN_ok2 _ _ hl
abbrev RfT := List Int × List QSym × QWs × Int × Bool × Bool
theorem rmark (m : Str) (a0 : List QSym) {ws : QWs} (hl : ws.length ≤ 900000) {i : Nat} (hi : i ≤ ws.length) (b l : Bool) : ref21_reader_mark_1 m a0 ws (i : Int) b l = some (match isP m (ws.drop i) with
    | some _ => (true, a0, ws, ((i + 1 : Nat) : Int), b, l)
    | none => (false, a0, ws, (i : Int), b, l)) := by
  unfold ref21_reader_mark_1 isP
  cases hd : ws.drop i with
  | nil =>
    have := drop_nil_le hd
    rw [decide_eq_false (show ¬ ((i : Int) < ((List.length ws : Nat) : Int)) by omega)]
    rfl
  | cons w r =>
    have hlt := drop_cons_lt hd
    have w1 : IntKind.wrap .i64 ((i : Int) + 1) = ((i + 1 : Nat) : Int) := by rw [wrap64] <;> omega
    rw [decide_eq_true (show (i : Int) < ((List.length ws : Nat) : Int) by omega), cond_true, gx_nat, drop_cons_get hd, Option.bind_some, Option.bind_some, w1]
    dsimp only
    cases (w.1 == 3) <;> cases (w.2 == m) <;> rfl
theorem isP_drop {m : Str} {ws ws' : QWs} {i : Nat} (h : isP m (ws.drop i) = some ws') : i < ws.length ∧ ws' = ws.drop (i + 1) := by
  obtain ⟨w, hw⟩ := isP_suf h
  exact ⟨drop_cons_lt hw, (drop_cons_next hw).symm⟩
theorem rwant (m : Str) (a0 : List QSym) {ws : QWs} (hl : ws.length ≤ 900000) {i : Nat} (hi : i ≤ ws.length) (b l : Bool) : ref21_reader_want_1 m a0 ws (i : Int) b l = some (match isP m (ws.drop i) with
    | some _ => (a0, ws, ((i + 1 : Nat) : Int), b, l)
    | none => (a0, ws, (i : Int), true, l)) := by
  unfold ref21_reader_want_1
  rw [rmark m a0 hl hi, Option.bind_some]
  cases isP m (ws.drop i) <;> rfl
theorem rvar (a0 : List QSym) {ws : QWs} (hl : ws.length ≤ 900000) (hw : WOk ws) (hw2 : WOk2 ws) {i : Nat} (hi : i ≤ ws.length) (b l : Bool) : ref21_reader_variable_1 a0 ws (i : Int) b l = some (match varP (ws.drop i) with
    | some p => ((p.1 : Int), a0, ws, ((i + 1 : Nat) : Int), b, l)
    | none => (-1, a0, ws, (i : Int), b, l)) := by
  unfold ref21_reader_variable_1 varP
  cases hd : ws.drop i with
  | nil =>
    have := drop_nil_le hd
    rw [decide_eq_true (show (i : Int) ≥ ((List.length ws : Nat) : Int) by omega)]
    rfl
  | cons w r =>
    have hlt := drop_cons_lt hd
    have hmem : w ∈ ws := List.mem_of_getElem? (drop_cons_get hd)
    have w1 : IntKind.wrap .i64 ((i : Int) + 1) = ((i + 1 : Nat) : Int) := by rw [wrap64] <;> omega
    rw [decide_eq_false (show ¬ ((i : Int) ≥ ((List.length ws : Nat) : Int)) by omega), cond_false, gx_nat, drop_cons_get hd, Option.bind_some, Option.bind_some, w1]
    dsimp only
    rw [bne]
    cases h1 : (w.1 == 1) with
    | false => rfl
    | true =>
      have hk : w.1 = 1 := by simpa using h1
      obtain ⟨d, hd1, h2, h3, -⟩ := hw w hmem hk
      have hn := hw2 w hmem hk
      rw [hd1] at hn ⊢
      obtain ⟨x, k1, k2, k3⟩ := ref21_Number_eq h2 (by omega)
      have hn4 : numB d 4 = true := by
        have hn : numB d 2 = true := hn
        unfold numB at hn ⊢
        cases d with
        | nil => cases hn
        | cons c r =>
          simp only [Bool.and_eq_true, decide_eq_true_eq] at hn ⊢
          exact ⟨by omega, hn.2⟩
      rw [Bool.not_true, cond_false, slc_tail, Option.bind_some, k1, Option.bind_some, k3 hn4]
      rfl
theorem rname {a0 : List QSym} (hS : SignOk a0) {ws : QWs} (hl : ws.length ≤ 900000) {i : Nat} (hi : i ≤ ws.length) (b l : Bool) : ref21_reader_name_1 a0 ws (i : Int) b l = some (match ws.drop i with
    | [] => (-1, a0, ws, (i : Int), b, l)
    | w :: _ => cond (w.1 == 0) (codeP a0 w.2, a0, ws, ((i + 1 : Nat) : Int), b, l) (-1, a0, ws, (i : Int), b, l)) := by
  unfold ref21_reader_name_1
  cases hd : ws.drop i with
  | nil =>
    have := drop_nil_le hd
    rw [decide_eq_true (show (i : Int) ≥ ((List.length ws : Nat) : Int) by omega)]
    rfl
  | cons w r =>
    have hlt := drop_cons_lt hd
    have w1 : IntKind.wrap .i64 ((i : Int) + 1) = ((i + 1 : Nat) : Int) := by rw [wrap64] <;> omega
    have w2 : IntKind.wrap .i64 (((i + 1 : Nat) : Int) - 1) = (i : Int) := by rw [wrap64] <;> omega
    rw [decide_eq_false (show ¬ ((i : Int) ≥ ((List.length ws : Nat) : Int)) by omega), cond_false, gx_nat, drop_cons_get hd, Option.bind_some, w1, w2, gx_nat, drop_cons_get hd, Option.bind_some, ref1_Code_eq _ _ hS.max, Option.bind_some]
    dsimp only
    rw [bne]
    cases (w.1 == 0) <;> rfl
end
end Go.Abs.Q
namespace Go.Abs.Q
open Go Go.Abs
section
def RR (a0 : List QSym) (ws : QWs) (l : Bool) (p : Nat) (o : Option (List Int × QWs)) (r : RfT) : Prop := match o with
  | some q => r = (q.1, a0, ws, ((ws.length - q.2.length : Nat) : Int), false, l)
  | none => ∃ (cs : List Int) (j : Nat), r = (cs, a0, ws, (j : Int), true, l) ∧ cs.length + p ≤ j ∧ j ≤ ws.length
theorem suf_drop {a b : QWs} (h : Suf a b) : b.drop (b.length - a.length) = a := by
  obtain ⟨p, rfl⟩ := h
  rw [List.length_append, Nat.add_sub_cancel]
  exact List.drop_left ..
theorem suf_of_drop {ws : QWs} (i : Nat) : Suf (ws.drop i) ws := ⟨ws.take i, (List.take_append_drop i ws).symm⟩
abbrev RfF := ((List QSym × QWs × Int × Bool × Bool) → Option RfT) × ((Int × List QSym × QWs × Int × Bool × Bool) → Option RfT)
theorem rterm_bad {a0 : List QSym} (hS : SignOk a0) {ws : QWs} (hl : ws.length ≤ 900000) (hw : WOk ws) (hw2 : WOk2 ws) (l : Bool) (rf : RfF) {p : Nat} (hp : p ≤ ws.length) :
    ∃ (cs : List Int) (j : Nat), ref21_reader_term_1_S rf a0 ws (p : Int) true l = some (cs, a0, ws, (j : Int), true, l) ∧ cs.length + p ≤ j ∧ j ≤ ws.length := by
  unfold ref21_reader_term_1_S
  rw [rvar a0 hl hw hw2 hp, Option.bind_some]
  cases h1 : varP (ws.drop p) with
  | some q =>
    obtain ⟨v, ws1⟩ := q
    obtain ⟨w, hw1, -⟩ := varP_suf h1
    have hlt := drop_cons_lt hw1
    simp only
    rw [decide_eq_true (show ((v : Nat) : Int) ≥ 0 by omega), cond_true]
    exact ⟨_, p + 1, rfl, by simp; omega, by omega⟩
  | none =>
    simp only
    have hn := rname hS hl hp true l
    rw [decide_eq_false (show ¬ ((-1 : Int) ≥ 0) by omega), cond_false]
    cases hd : ws.drop p with
    | nil =>
      rw [hd] at hn
      rw [hn]
      exact ⟨[], p, rfl, by simp, hp⟩
    | cons w r =>
      have hlt := drop_cons_lt hd
      rw [hd] at hn
      simp only at hn
      cases h0 : (w.1 == 0) with
      | true =>
        rw [h0, cond_true] at hn
        rw [hn]
        exact ⟨[], p + 1, rfl, by simp, by omega⟩
      | false =>
        rw [h0, cond_false] at hn
        rw [hn]
        exact ⟨[], p, rfl, by simp, hp⟩
theorem rargs_bad {rf : RfF} {kk : Int} {a0 : List QSym} {ws : QWs} {l : Bool} {out : List Int} (i j : Int) (k : Nat) : lp (ref21_reader_args_1_L0 rf) (k + 1) (kk, i, a0, ws, j, true, l, out) = some (a0, ws, j, true, l, out) := by
  rw [lp_succ]
  generalize lp (ref21_reader_args_1_L0 rf) k = rec
  unfold ref21_reader_args_1_L0
  dsimp only
  cases decide (i < kk) <;> rfl
section
variable {a0 : List QSym} {ws : QWs} {l : Bool} {rf : RfF} {tp : QWs → Option (List Int × QWs)}
theorem rargs_run (hl : ws.length ≤ 900000)
    (hs : ∀ ws t ws', tp ws = some (t, ws') → Suf ws' ws) (htl : ∀ ws t ws', tp ws = some (t, ws') → t.length + ws'.length ≤ ws.length)
    (Hb : ∀ p : Nat, p ≤ ws.length → ∃ (cs : List Int) (j : Nat), rf.1 (a0, ws, (p : Int), true, l) = some (cs, a0, ws, (j : Int), true, l) ∧ cs.length + p ≤ j ∧ j ≤ ws.length) {kk : Nat} (hkk : kk ≤ 1000) (p0 : Nat)
    (H : ∀ p : Nat, p ≤ ws.length → p0 < p → ∃ r, rf.1 (a0, ws, (p : Int), false, l) = some r ∧ RR a0 ws l p (tp (ws.drop p)) r) :
    (m i p : Nat) → (out : List Int) → (k : Nat) → 0 < i → i + m = kk → m + 1 < k → p ≤ ws.length → p0 ≤ p → out.length ≤ 1000000 + p →
    ∃ r, lp (ref21_reader_args_1_L0 rf) k ((kk : Int), (i : Int), a0, ws, (p : Int), false, l, out) = some r ∧ (match argsP tp m false (ws.drop p) with
      | some q => r = (a0, ws, ((ws.length - q.2.length : Nat) : Int), false, l, out ++ q.1)
      | none => ∃ (cs : List Int) (j : Nat), r = (a0, ws, (j : Int), true, l, out ++ cs) ∧ cs.length + p ≤ j ∧ j ≤ ws.length)
  | 0, i, p, out, k, h0, hi, hk, hp, hp0, ho => by
    obtain ⟨k, rfl⟩ : ∃ k', k = k' + 1 := ⟨k - 1, by omega⟩
    refine ⟨(a0, ws, (p : Int), false, l, out), ?_, ?_⟩
    · rw [lp_succ]
      generalize lp (ref21_reader_args_1_L0 rf) k = rec
      unfold ref21_reader_args_1_L0
      rw [decide_eq_false (show ¬ ((i : Int) < (kk : Int)) by omega)]
      rfl
    · simp only [argsP]
      rw [List.append_nil, List.length_drop, show ws.length - (ws.length - p) = p from by omega]
  | m + 1, i, p, out, k, h0, hi, hk, hp, hp0, ho => by
    obtain ⟨k, rfl⟩ : ∃ k', k = k' + 2 := ⟨k - 2, by omega⟩
    have ih := fun p out h1 h2 h3 => rargs_run hl hs htl Hb hkk p0 H m (i + 1) p out (k + 1) (by omega) (by omega) (by omega) h1 h2 h3
    have hbad := fun (i j : Int) out => rargs_bad (rf := rf) (kk := (kk : Int)) (a0 := a0) (ws := ws) (l := l) (out := out) i j k
    rw [lp_succ]
    generalize lp (ref21_reader_args_1_L0 rf) (k + 1) = rec at ih hbad ⊢
    unfold ref21_reader_args_1_L0
    have w1 : IntKind.wrap .i64 ((i : Int) + 1) = ((i + 1 : Nat) : Int) := by rw [wrap64] <;> omega
    simp only [decide_eq_true (show (i : Int) < (kk : Int) by omega), decide_eq_true (show (i : Int) > 0 by omega), cond_true, Bool.not_false, w1, rwant [44] a0 hl hp, Option.bind_some]
    unfold argsP
    simp only [cond_false]
    cases h1 : isP [44] (ws.drop p) with
    | none =>
      obtain ⟨cs, j, g1, g2, g3⟩ := Hb p hp
      simp only
      rw [g1, Option.bind_some, room_ok (by simp only; omega), cond_true, hbad]
      exact ⟨_, rfl, cs, j, rfl, g2, g3⟩
    | some ws1 =>
      obtain ⟨hlt, hws1⟩ := isP_drop h1
      subst hws1
      obtain ⟨r, g1, g2⟩ := H (p + 1) (by omega) (by omega)
      simp only
      rw [g1, Option.bind_some]
      cases h2 : tp (ws.drop (p + 1)) with
      | none =>
        rw [h2] at g2
        obtain ⟨cs, j, rfl, g3, g4⟩ := g2
        simp only
        rw [room_ok (by omega), cond_true, hbad]
        exact ⟨_, rfl, cs, j, rfl, by omega, g4⟩
      | some q =>
        obtain ⟨t, ws2⟩ := q
        have s1 := hs _ _ _ h2
        have s2 := htl _ _ _ h2
        have s3 := s1.len
        rw [List.length_drop] at s2 s3
        have hd2 : ws.drop (ws.length - ws2.length) = ws2 := suf_drop (s1.trans (suf_of_drop _))
        rw [h2] at g2
        have g2 : r = (t, a0, ws, ((ws.length - ws2.length : Nat) : Int), false, l) := g2
        subst g2
        simp only
        rw [room_ok (by omega), cond_true]
        obtain ⟨r, k1, k2⟩ := ih (ws.length - ws2.length) (out ++ t) (by omega) (by omega) (by simp; omega)
        refine ⟨r, k1, ?_⟩
        rw [hd2] at k2
        cases h3 : argsP tp m false ws2 with
        | none =>
          rw [h3] at k2
          obtain ⟨cs, j, e1, e2, e3⟩ := k2
          exact ⟨t ++ cs, j, by rw [e1, List.append_assoc], by simp; omega, e3⟩
        | some q =>
          rw [h3] at k2
          simp only [Option.map_some]
          rw [k2, List.append_assoc]
end
end
end Go.Abs.Q
namespace Go.Abs.Q
open Go Go.Abs
section
def argsW (tp : QWs → Option (List Int × QWs)) (ari : Nat) (ws : QWs) : Option (List Int × QWs) := cond (ari == 0) (some ([], ws)) (match argsP tp ari true ws with
  | none => none
  | some (as, ws1) => (isP [41] ws1).map fun ws2 => (as, ws2))
theorem behindP_W (a0 : List QSym) (tp : QWs → Option (List Int × QWs)) (c : Int) (ws : QWs) : behindP a0 tp c ws = (argsW tp (ariI a0 c) ws).map fun q => (c :: q.1, q.2) := by
  unfold behindP argsW
  cases h : ariI a0 c with
  | zero => rfl
  | succ m =>
    rw [show (m + 1 == 0) = false from rfl, cond_false]
    cases argsP tp (m + 1) true ws with
    | none => rfl
    | some p =>
      simp only [cond_false]
      cases isP [41] p.2 <;> rfl
section
variable {a0 : List QSym} {ws : QWs} {l : Bool} {rf : RfF} {tp : QWs → Option (List Int × QWs)}
theorem rargs_S (hl : ws.length ≤ 900000)
    (hs : ∀ ws t ws', tp ws = some (t, ws') → Suf ws' ws) (htl : ∀ ws t ws', tp ws = some (t, ws') → t.length + ws'.length ≤ ws.length)
    (Hb : ∀ p : Nat, p ≤ ws.length → ∃ (cs : List Int) (j : Nat), rf.1 (a0, ws, (p : Int), true, l) = some (cs, a0, ws, (j : Int), true, l) ∧ cs.length + p ≤ j ∧ j ≤ ws.length) {ari : Nat} (hari : ari ≤ 1000) {p : Nat} (hp : p ≤ ws.length)
    (H : ∀ q : Nat, q ≤ ws.length → p < q → ∃ r, rf.1 (a0, ws, (q : Int), false, l) = some r ∧ RR a0 ws l q (tp (ws.drop q)) r) :
    ∃ r, ref21_reader_args_1_S rf (ari : Int) a0 ws (p : Int) false l = some r ∧ RR a0 ws l p (argsW tp ari (ws.drop p)) r := by
  unfold ref21_reader_args_1_S argsW
  cases ari with
  | zero =>
    refine ⟨_, rfl, ?_⟩
    show (([] : List Int), a0, ws, (p : Int), false, l) = _
    rw [List.length_drop, show ws.length - (ws.length - p) = p from by omega]
  | succ m =>
    rw [show (((m + 1 : Nat) : Int) == 0) = false from by rw [beq_eq_false_iff_ne]; omega, cond_false, show (m + 1 == 0) = false from rfl, cond_false, rwant [40] a0 hl hp, Option.bind_some]
    -- what comes of a bad end
    have bad : ∀ (cs : List Int) (j : Nat), cs.length + p ≤ j → j ≤ ws.length → ∃ r, ((ref21_reader_want_1 ([41] : Str) a0 ws (j : Int) true l).bind fun r14 => some (cs, r14.1, r14.2.1, r14.2.2.1, r14.2.2.2.1, r14.2.2.2.2)) = some r ∧ RR a0 ws l p none r := by
      intro cs j h1 h2
      rw [rwant [41] a0 hl h2, Option.bind_some]
      cases h3 : isP [41] (ws.drop j) with
      | none => exact ⟨_, rfl, cs, j, rfl, h1, h2⟩
      | some w => exact ⟨_, rfl, cs, j + 1, rfl, by omega, by have := (isP_drop h3).1; omega⟩
    unfold argsP
    simp only [cond_true]
    cases h1 : isP [40] (ws.drop p) with
    | none =>
      simp only
      rw [show lp (ref21_reader_args_1_L0 rf) fuel (((m + 1 : Nat) : Int), 0, a0, ws, (p : Int), true, l, []) = some (a0, ws, (p : Int), true, l, []) from rargs_bad 0 (p : Int) 18446744073709551615, Option.bind_some]
      exact bad [] p (by simp) hp
    | some ws1 =>
      obtain ⟨hlt, hws1⟩ := isP_drop h1
      subst hws1
      simp only
      obtain ⟨r, g1, g2⟩ := H (p + 1) (by omega) (by omega)
      have first : lp (ref21_reader_args_1_L0 rf) fuel (((m + 1 : Nat) : Int), 0, a0, ws, ((p + 1 : Nat) : Int), false, l, []) = (cond (room (r.1.length) 8) (lp (ref21_reader_args_1_L0 rf) 18446744073709551615 (((m + 1 : Nat) : Int), ((1 : Nat) : Int), r.2.1, r.2.2.1, r.2.2.2.1, r.2.2.2.2.1, r.2.2.2.2.2, r.1)) none) := by
        rw [lp_fuel]
        generalize lp (ref21_reader_args_1_L0 rf) 18446744073709551615 = rec
        unfold ref21_reader_args_1_L0
        simp only [decide_eq_true (show (0 : Int) < ((m + 1 : Nat) : Int) by omega), cond_true, Bool.not_false, show decide ((0 : Int) > 0) = false from rfl, cond_false, g1, Option.bind_some, List.length_nil, Nat.zero_add, List.nil_append]
        rfl
      rw [first]
      cases h2 : tp (ws.drop (p + 1)) with
      | none =>
        rw [h2] at g2
        obtain ⟨cs, j, rfl, g3, g4⟩ := g2
        simp only
        rw [room_ok (by omega), cond_true, show (18446744073709551615 : Nat) = 18446744073709551614 + 1 from rfl, rargs_bad, Option.bind_some]
        exact bad cs j (by omega) g4
      | some q =>
        obtain ⟨t, ws2⟩ := q
        have s1 := hs _ _ _ h2
        have s2 := htl _ _ _ h2
        have s3 := s1.len
        rw [List.length_drop] at s2 s3
        have hd2 : ws.drop (ws.length - ws2.length) = ws2 := suf_drop (s1.trans (suf_of_drop _))
        rw [h2] at g2
        have g2 : r = (t, a0, ws, ((ws.length - ws2.length : Nat) : Int), false, l) := g2
        subst g2
        simp only
        rw [room_ok (by omega), cond_true]
        obtain ⟨r, k1, k2⟩ := rargs_run hl hs htl Hb (kk := m + 1) (by omega) p H m 1 (ws.length - ws2.length) t 18446744073709551615 (by omega) (by omega) (by omega) (by omega) (by omega) (by omega)
        rw [k1, Option.bind_some]
        rw [hd2] at k2
        cases h3 : argsP tp m false ws2 with
        | none =>
          rw [h3] at k2
          obtain ⟨cs, j, e1, e2, e3⟩ := k2
          subst e1
          exact bad (t ++ cs) j (by simp; omega) e3
        | some q =>
          obtain ⟨as, ws3⟩ := q
          have t1 := args_suf hs m false ws2 h3
          have t2 := args_len htl m false ws2 h3
          have t3 := t1.len
          simp only at t1 t2 t3
          rw [h3] at k2
          have k2 : r = (a0, ws, ((ws.length - ws3.length : Nat) : Int), false, l, t ++ as) := k2
          subst k2
          have hd3 : ws.drop (ws.length - ws3.length) = ws3 := suf_drop (t1.trans (s1.trans (suf_of_drop _)))
          simp only [Option.map_some]
          rw [rwant [41] a0 hl (by omega), Option.bind_some, hd3]
          cases h4 : isP [41] ws3 with
          | none => exact ⟨_, rfl, t ++ as, ws.length - ws3.length, rfl, by simp; omega, by omega⟩
          | some ws4 =>
            obtain ⟨w, rfl⟩ := isP_suf h4
            refine ⟨_, rfl, ?_⟩
            show (t ++ as, a0, ws, ((ws.length - (w :: ws4).length + 1 : Nat) : Int), false, l) = (t ++ as, a0, ws, ((ws.length - ws4.length : Nat) : Int), false, l)
            rw [List.length_cons] at t3 ⊢
            rw [show ws.length - (ws4.length + 1) + 1 = ws.length - ws4.length from by omega]
end
theorem rterm_run {a0 : List QSym} (hb : signB a0 = true) {ws : QWs} (hl : ws.length ≤ 900000) (hw : WOk ws) (hw2 : WOk2 ws) (l : Bool) : ∀ (n k p : Nat), 2 * n + 1 ≤ k → ws.length - p < n → p ≤ ws.length → ∃ r, (ref21_reader_args_1_R k).1 (a0, ws, (p : Int), false, l) = some r ∧ RR a0 ws l p (termP a0 (ws.drop p)) r := by
  have hS := signB_ok hb
  intro n
  induction n with
  | zero => intro k p _ h; omega
  | succ n ih =>
    intro k p hk hn hp
    obtain ⟨k, rfl⟩ : ∃ k', k = k' + 3 := ⟨k - 3, by omega⟩
    show ∃ r, ref21_reader_term_1_S (ref21_reader_args_1_R (k + 2)) a0 ws (p : Int) false l = some r ∧ _
    unfold ref21_reader_term_1_S
    rw [rvar a0 hl hw hw2 hp, Option.bind_some, termP_step]
    cases h1 : varP (ws.drop p) with
    | some q =>
      obtain ⟨v, ws1⟩ := q
      obtain ⟨w, hw1, hwk, hwv⟩ := varP_suf h1
      simp only at hw1 hwv
      have hlt := drop_cons_lt hw1
      have hws1 := drop_cons_next hw1
      have hv : v ≤ 23 := by
        obtain ⟨d, hd, -, -, h4⟩ := hw w (List.mem_of_getElem? (drop_cons_get hw1)) hwk
        rw [hwv, hd]
        exact h4
      have wv : IntKind.wrap .i64 (-1 - (v : Int)) = -1 - (v : Int) := by rw [wrap64] <;> omega
      simp only
      rw [decide_eq_true (show ((v : Nat) : Int) ≥ 0 by omega), cond_true, wv]
      refine ⟨_, rfl, ?_⟩
      show ([-1 - (v : Int)], a0, ws, ((p + 1 : Nat) : Int), false, l) = ([-1 - (v : Int)], a0, ws, ((ws.length - ws1.length : Nat) : Int), false, l)
      rw [← hws1, List.length_drop, show ws.length - (ws.length - (p + 1)) = p + 1 from by omega]
    | none =>
      simp only
      have hnm := rname hS hl hp false l
      rw [decide_eq_false (show ¬ ((-1 : Int) ≥ 0) by omega), cond_false]
      cases hd : ws.drop p with
      | nil =>
        rw [hd] at hnm
        rw [hnm]
        exact ⟨_, rfl, [], p, rfl, by simp, hp⟩
      | cons w r =>
        have hlt := drop_cons_lt hd
        have hr := drop_cons_next hd
        rw [hd] at hnm
        simp only at hnm
        unfold symP
        dsimp only
        cases h0 : (w.1 == 0) with
        | false =>
          rw [h0, cond_false] at hnm
          rw [hnm]
          exact ⟨_, rfl, [], p, rfl, by simp, hp⟩
        | true =>
          rw [h0, cond_true] at hnm
          rw [hnm, Option.bind_some, Bool.true_and]
          simp only [cond_false]
          by_cases hc : codeP a0 w.2 < 0
          · rw [decide_eq_true hc, cond_true, decide_eq_false (show ¬ (0 ≤ codeP a0 w.2) by omega)]
            exact ⟨_, rfl, [], p + 1, rfl, by simp, by omega⟩
          · rw [decide_eq_false hc, cond_false, decide_eq_true (show 0 ≤ codeP a0 w.2 by omega), cond_true]
            obtain ⟨e, he1, he2, -⟩ := codeP_mem (a0 := a0) (s := w.2) (by omega)
            have hk2 : kindI a0 (codeP a0 w.2) = e.2.1 := by unfold kindI; rw [he1]
            have hat := hS.at he1
            have hai : e.2.2.1 = ((ariI a0 (codeP a0 w.2) : Nat) : Int) := by
              unfold ariI
              rw [he1]
              exact (Int.toNat_of_nonneg hat.2.2.2.2.1).symm
            have hari : ariI a0 (codeP a0 w.2) ≤ 1000 := by omega
            simp only
            rw [he2, Option.bind_some, hk2]
            cases (e.2.1 == 0) with
            | true => exact ⟨_, rfl, [], p + 1, rfl, by simp, by omega⟩
            | false =>
              rw [cond_false, cond_false, Option.bind_some, hai, behindP_W]
              have hrf : ∀ x, (ref21_reader_args_1_R (k + 2)).2 x = ref21_reader_args_1_S (ref21_reader_args_1_R (k + 1)) x.1 x.2.1 x.2.2.1 x.2.2.2.1 x.2.2.2.2.1 x.2.2.2.2.2 := fun x => rfl
              obtain ⟨r2, g1, g2⟩ := rargs_S (rf := ref21_reader_args_1_R (k + 1)) (l := l) (tp := termP a0) hl (fun ws t ws' h => (termP_suf h).1) (fun ws t ws' h => termP_len h)
                (fun q hq => rterm_bad hS hl hw hw2 l (ref21_reader_args_1_R k) hq) hari (p := p + 1) (by omega)
                (fun q hq h => ih (k + 1) q (by omega) (by omega) hq)
              rw [hrf]
              simp only
              rw [g1, Option.bind_some, ← hr]
              cases h5 : argsW (termP a0) (ariI a0 (codeP a0 w.2)) (ws.drop (p + 1)) with
              | none =>
                rw [h5] at g2
                obtain ⟨cs, j, rfl, g3, g4⟩ := g2
                simp only
                rw [room_ok (by simp; omega), cond_true]
                exact ⟨_, rfl, codeP a0 w.2 :: cs, j, rfl, by simp; omega, g4⟩
              | some q =>
                have hbl : q.1.length ≤ 900000 := by
                  have : behindP a0 (termP a0) (codeP a0 w.2) (ws.drop (p + 1)) = some (codeP a0 w.2 :: q.1, q.2) := by rw [behindP_W, h5]; rfl
                  have := behind_len (fun ws t ws' h => termP_len h) this
                  rw [List.length_drop] at this
                  simp at this
                  omega
                rw [h5] at g2
                have g2 : r2 = (q.1, a0, ws, ((ws.length - q.2.length : Nat) : Int), false, l) := g2
                subst g2
                simp only [Option.map_some]
                rw [room_ok (by simp; omega), cond_true]
                exact ⟨_, rfl, rfl⟩
end
end Go.Abs.Q
namespace Go.Abs.Q
open Go Go.Abs
section
theorem reader_rterm {a0 : List QSym} (hb : signB a0 = true) {ws : QWs} (hl : ws.length ≤ 900000) (hw : WOk ws) (hw2 : WOk2 ws) (l : Bool) {p : Nat} (hp : p ≤ ws.length) : ∃ r, ref21_reader_term_1 a0 ws (p : Int) false l = some r ∧ RR a0 ws l p (termP a0 (ws.drop p)) r :=
  rterm_run hb hl hw hw2 l (ws.length - p + 1) fuel p (by unfold fuel; omega) (by omega) hp
theorem reader_rargs {a0 : List QSym} (hb : signB a0 = true) {ws : QWs} (hl : ws.length ≤ 900000) (hw : WOk ws) (hw2 : WOk2 ws) (l : Bool) {ari : Nat} (hari : ari ≤ 1000) {p : Nat} (hp : p ≤ ws.length) : ∃ r, ref21_reader_args_1 (ari : Int) a0 ws (p : Int) false l = some r ∧ RR a0 ws l p (argsW (termP a0) ari (ws.drop p)) r := by
  show ∃ r, ref21_reader_args_1_S (ref21_reader_args_1_R 18446744073709551615) (ari : Int) a0 ws (p : Int) false l = some r ∧ _
  exact rargs_S hl (fun ws t ws' h => (termP_suf h).1) (fun ws t ws' h => termP_len h) (fun q hq => rterm_bad (signB_ok hb) hl hw hw2 l (ref21_reader_args_1_R 18446744073709551614) hq) hari hp
    (fun q hq h => rterm_run hb hl hw hw2 l (ws.length - q + 1) _ q (by omega) (by omega) hq)
theorem req_run {a0 : List QSym} (hb : signB a0 = true) {ws : QWs} (hl : ws.length ≤ 900000) (hw : WOk ws) (hw2 : WOk2 ws) (l : Bool) {p : Nat} (hp : p ≤ ws.length) : ∃ r, ((ref21_reader_term_1 a0 ws (p : Int) false l).bind fun r25 =>
          cond (room (List.length ([0] : List Int) + List.length r25.1) 8)
          ((ref21_reader_want_1 ([61] : Str) r25.2.1 r25.2.2.1 r25.2.2.2.1 r25.2.2.2.2.1 r25.2.2.2.2.2).bind fun r26 =>
            cond r26.2.2.2.1
            (some (([] : (List Int)), r26.1, r26.2.1, r26.2.2.1, r26.2.2.2.1, r26.2.2.2.2))
            ((ref21_reader_term_1 r26.1 r26.2.1 r26.2.2.1 r26.2.2.2.1 r26.2.2.2.2).bind fun r27 =>
              cond (room (List.length (([0] : List Int) ++ r25.1) + List.length r27.1) 8)
              (some (((([0] : List Int) ++ r25.1) ++ r27.1), r27.2.1, r27.2.2.1, r27.2.2.2.1, r27.2.2.2.2.1, r27.2.2.2.2.2))
              (none)))
          (none)) = some r ∧ RR a0 ws l p (eqP a0 (ws.drop p)) r := by
  obtain ⟨r, g1, g2⟩ := reader_rterm hb hl hw hw2 l hp
  rw [g1, Option.bind_some]
  unfold eqP
  cases h1 : termP a0 (ws.drop p) with
  | none =>
    rw [h1] at g2
    obtain ⟨cs, j, rfl, g3, g4⟩ := g2
    simp only
    rw [room_ok (by simp; omega), cond_true, rwant [61] a0 hl g4, Option.bind_some]
    cases h2 : isP [61] (ws.drop j) with
    | none => exact ⟨_, rfl, [], j, rfl, by simp; omega, g4⟩
    | some w => exact ⟨_, rfl, [], j + 1, rfl, by simp; omega, (isP_drop h2).1⟩
  | some q =>
    obtain ⟨t, ws1⟩ := q
    have s1 := (termP_suf h1).1
    have s2 := termP_len h1
    have s3 := s1.len
    rw [List.length_drop] at s2 s3
    have hd1 : ws.drop (ws.length - ws1.length) = ws1 := suf_drop (s1.trans (suf_of_drop _))
    rw [h1] at g2
    have g2 : r = (t, a0, ws, ((ws.length - ws1.length : Nat) : Int), false, l) := g2
    subst g2
    simp only
    rw [room_ok (by simp; omega), cond_true, rwant [61] a0 hl (by omega), Option.bind_some, hd1]
    cases h2 : isP [61] ws1 with
    | none => exact ⟨_, rfl, [], ws.length - ws1.length, rfl, by simp; omega, by omega⟩
    | some ws2 =>
      obtain ⟨w, rfl⟩ := isP_suf h2
      rw [List.length_cons] at s2 s3 hd1 ⊢
      have hj : ws.length - (ws2.length + 1) + 1 = ws.length - ws2.length := by omega
      have hd2 : ws.drop (ws.length - ws2.length) = ws2 := by
        rw [← hj]
        exact drop_cons_next hd1
      simp only [cond_false]
      rw [hj]
      obtain ⟨r, k1, k2⟩ := reader_rterm hb hl hw hw2 l (p := ws.length - ws2.length) (by omega)
      rw [k1, Option.bind_some]
      rw [hd2] at k2
      cases h3 : termP a0 ws2 with
      | none =>
        rw [h3] at k2
        obtain ⟨cs, j, rfl, k3, k4⟩ := k2
        simp only
        rw [room_ok (by simp; omega), cond_true]
        exact ⟨_, rfl, ([0] ++ t) ++ cs, j, rfl, by simp; omega, k4⟩
      | some q =>
        obtain ⟨u, ws3⟩ := q
        have u2 := termP_len h3
        rw [h3] at k2
        have k2 : r = (u, a0, ws, ((ws.length - ws3.length : Nat) : Int), false, l) := k2
        subst k2
        simp only
        rw [room_ok (by simp; omega), cond_true]
        exact ⟨_, rfl, rfl⟩
theorem reader_ratom {a0 : List QSym} (hb : signB a0 = true) {ws : QWs} (hl : ws.length ≤ 900000) (hw : WOk ws) (hw2 : WOk2 ws) (l : Bool) {p : Nat} (hp : p ≤ ws.length) : ∃ r, ref21_reader_atom_1 a0 ws (p : Int) false l = some r ∧ RR a0 ws l p (atomP a0 (ws.drop p)) r := by
  have hS := signB_ok hb
  obtain ⟨r0, q1, q2⟩ := req_run hb hl hw hw2 l hp
  unfold ref21_reader_atom_1 atomP
  cases hd : ws.drop p with
  | nil =>
    have := drop_nil_le hd
    rw [decide_eq_false (show ¬ ((p : Int) < ((List.length ws : Nat) : Int)) by omega), cond_false]
    rw [hd] at q2
    exact ⟨r0, q1, q2⟩
  | cons w r =>
    have hlt := drop_cons_lt hd
    have hr := drop_cons_next hd
    have w1 : IntKind.wrap .i64 ((p : Int) + 1) = ((p + 1 : Nat) : Int) := by rw [wrap64] <;> omega
    rw [decide_eq_true (show (p : Int) < ((List.length ws : Nat) : Int) by omega), cond_true, gx_nat, drop_cons_get hd, Option.bind_some]
    unfold symP
    dsimp only
    cases h0 : (w.1 == 0) with
    | false =>
      rw [hd] at q2
      exact ⟨r0, q1, q2⟩
    | true =>
      rw [cond_true, Option.bind_some, ref1_Code_eq _ _ hS.max, Option.bind_some, Bool.true_and, w1]
      show ∃ r_1, (cond (decide (codeP a0 w.2 ≥ 0)) _ _) = some r_1 ∧ _
      by_cases hc : codeP a0 w.2 ≥ 0
      · rw [decide_eq_true hc, cond_true, cond_true]
        obtain ⟨e, he1, he2, -⟩ := codeP_mem (a0 := a0) (s := w.2) hc
        have hk2 : kindI a0 (codeP a0 w.2) = e.2.1 := by unfold kindI; rw [he1]
        have hat := hS.at he1
        have hai : e.2.2.1 = ((ariI a0 (codeP a0 w.2) : Nat) : Int) := by
          unfold ariI
          rw [he1]
          exact (Int.toNat_of_nonneg hat.2.2.2.2.1).symm
        have he2' : gx a0 (idxI (List.findIdx? (fun e => e.1 == w.2) a0)) = some e := he2
        simp only
        rw [he2', Option.bind_some, hk2]
        cases (e.2.1 == 0) with
        | false =>
          rw [hd] at q2
          exact ⟨r0, q1, q2⟩
        | true =>
          rw [cond_true, cond_true, Option.bind_some, hai]
          obtain ⟨r2, g1, g2⟩ := reader_rargs hb hl hw hw2 l (ari := ariI a0 (codeP a0 w.2)) (by omega) (p := p + 1) (by omega)
          rw [g1, Option.bind_some, behindP_W, ← hr]
          cases h5 : argsW (termP a0) (ariI a0 (codeP a0 w.2)) (ws.drop (p + 1)) with
          | none =>
            rw [h5] at g2
            obtain ⟨cs, j, rfl, g3, g4⟩ := g2
            simp only
            rw [room_ok (by simp; omega), cond_true]
            exact ⟨_, rfl, _ :: cs, j, rfl, by simp; omega, g4⟩
          | some q =>
            have hbl : q.1.length ≤ 900000 := by
              have : behindP a0 (termP a0) (codeP a0 w.2) (ws.drop (p + 1)) = some (codeP a0 w.2 :: q.1, q.2) := by rw [behindP_W, h5]; rfl
              have := behind_len (fun ws t ws' h => termP_len h) this
              rw [List.length_drop] at this
              simp at this
              omega
            rw [h5] at g2
            have g2 : r2 = (q.1, a0, ws, ((ws.length - q.2.length : Nat) : Int), false, l) := g2
            subst g2
            simp only [Option.map_some]
            rw [room_ok (by simp; omega), cond_true]
            exact ⟨_, rfl, rfl⟩
      · rw [decide_eq_false hc, cond_false, cond_false]
        rw [hd] at q2
        exact ⟨r0, q1, q2⟩
end
end Go.Abs.Q
namespace Go.Abs.Q
open Go Go.Abs
section
abbrev RfM := List QNode × List QSym × QWs × Int × Bool × Bool
def FR (a0 : List QSym) (ws : QWs) (l : Bool) (p : Nat) (o : Option (Fm × Bool × QWs)) (r : RfM) : Prop := match o with
  | some q => r = (q.1.flat, a0, ws, ((ws.length - q.2.2.length : Nat) : Int), false, l || q.2.1)
  | none => ∃ (ns : List QNode) (j : Nat) (l' : Bool), r = (ns, a0, ws, (j : Int), true, l') ∧ ns.length + p ≤ j + 1 ∧ j ≤ ws.length
theorem rform_bad (k : Nat) (a0 : List QSym) (ws : QWs) (j : Int) (l : Bool) : ref21_reader_formula_1_R (k + 1) (a0, ws, j, true, l) = some ([], a0, ws, j, true, l) := rfl
abbrev RfG := (List QSym × QWs × Int × Bool × Bool) → Option RfM
def rest21 (rf : RfG) (a : List QNode) (a0 : List QSym) (ws : QWs) (j : Int) (b l : Bool) : Option RfM :=
              (ref21_reader_mark_1 ([38] : Str) a0 ws j b l).bind fun r63 =>
              cond r63.1
              (cond (room (List.length ([(2, 0, ([] : (List Int)))] : List (Int × Int × (List Int))) + List.length a) 40)
                ((rf (r63.2.1, r63.2.2.1, r63.2.2.2.1, r63.2.2.2.2.1, r63.2.2.2.2.2)).bind fun r64 =>
                  cond (room (List.length (([(2, 0, ([] : (List Int)))] : List (Int × Int × (List Int))) ++ a) + List.length r64.1) 40)
                  ((ref21_reader_want_1 ([41] : Str) r64.2.1 r64.2.2.1 r64.2.2.2.1 r64.2.2.2.2.1 r64.2.2.2.2.2).bind fun r65 =>
                    some (((([(2, 0, ([] : (List Int)))] : List (Int × Int × (List Int))) ++ a) ++ r64.1), r65.1, r65.2.1, r65.2.2.1, r65.2.2.2.1, r65.2.2.2.2))
                  (none))
                (none))
              ((ref21_reader_mark_1 ([124] : Str) r63.2.1 r63.2.2.1 r63.2.2.2.1 r63.2.2.2.2.1 r63.2.2.2.2.2).bind fun r66 =>
                cond r66.1
                (cond (room (List.length ([(3, 0, ([] : (List Int)))] : List (Int × Int × (List Int))) + List.length a) 40)
                  ((rf (r66.2.1, r66.2.2.1, r66.2.2.2.1, r66.2.2.2.2.1, r66.2.2.2.2.2)).bind fun r67 =>
                    cond (room (List.length (([(3, 0, ([] : (List Int)))] : List (Int × Int × (List Int))) ++ a) + List.length r67.1) 40)
                    ((ref21_reader_want_1 ([41] : Str) r67.2.1 r67.2.2.1 r67.2.2.2.1 r67.2.2.2.2.1 r67.2.2.2.2.2).bind fun r68 =>
                      some (((([(3, 0, ([] : (List Int)))] : List (Int × Int × (List Int))) ++ a) ++ r67.1), r68.1, r68.2.1, r68.2.2.1, r68.2.2.2.1, r68.2.2.2.2))
                    (none))
                  (none))
                ((ref21_reader_want_1 ([45, 62] : Str) r66.2.1 r66.2.2.1 r66.2.2.2.1 r66.2.2.2.2.1 r66.2.2.2.2.2).bind fun r69 =>
                  cond (room (List.length ([(4, 0, ([] : (List Int)))] : List (Int × Int × (List Int))) + List.length a) 40)
                  ((rf (r69.1, r69.2.1, r69.2.2.1, r69.2.2.2.1, r69.2.2.2.2)).bind fun r70 =>
                    cond (room (List.length (([(4, 0, ([] : (List Int)))] : List (Int × Int × (List Int))) ++ a) + List.length r70.1) 40)
                    ((ref21_reader_want_1 ([41] : Str) r70.2.1 r70.2.2.1 r70.2.2.2.1 r70.2.2.2.2.1 r70.2.2.2.2.2).bind fun r71 =>
                      some (((([(4, 0, ([] : (List Int)))] : List (Int × Int × (List Int))) ++ a) ++ r70.1), r71.1, r71.2.1, r71.2.2.1, r71.2.2.2.1, r71.2.2.2.2))
                    (none))
                  (none)))
section
variable {a0 : List QSym} {ws : QWs} {rf : RfG}
theorem shut21 (hl : ws.length ≤ 900000) (q : Int) (a b : List QNode) {j : Nat} (hj : j ≤ ws.length) (bad l : Bool) (h1 : a.length + b.length ≤ 10000000) : ∃ r : RfM, (cond (room (List.length (([(q, 0, ([] : (List Int)))] : List (Int × Int × (List Int))) ++ a) + List.length b) 40)
                  ((ref21_reader_want_1 ([41] : Str) a0 ws (j : Int) bad l).bind fun r65 =>
                    some (((([(q, 0, ([] : (List Int)))] : List (Int × Int × (List Int))) ++ a) ++ b), r65.1, r65.2.1, r65.2.2.1, r65.2.2.2.1, r65.2.2.2.2))
                  (none)) = some r ∧ (match isP [41] (ws.drop j) with
      | some _ => r = (([(q, 0, [])] ++ a) ++ b, a0, ws, ((j + 1 : Nat) : Int), bad, l) ∧ j < ws.length
      | none => r = (([(q, 0, [])] ++ a) ++ b, a0, ws, (j : Int), true, l)) := by
  rw [room_ok (by simp; omega), cond_true, rwant [41] a0 hl hj, Option.bind_some]
  cases h : isP [41] (ws.drop j) with
  | none => exact ⟨_, rfl, rfl⟩
  | some w => exact ⟨_, rfl, rfl, (isP_drop h).1⟩
theorem rest_bad (hl : ws.length ≤ 900000) (hrf : ∀ j l, rf (a0, ws, j, true, l) = some ([], a0, ws, j, true, l)) (a : List QNode) {j : Nat} (hj : j ≤ ws.length) (l : Bool) (ha : a.length ≤ 1000000) :
    ∃ (ns : List QNode) (j' : Nat), rest21 rf a a0 ws (j : Int) true l = some (ns, a0, ws, (j' : Int), true, l) ∧ ns.length = a.length + 1 ∧ j ≤ j' ∧ j' ≤ ws.length := by
  have fin : ∀ (q : Int) (i : Nat), j ≤ i → i ≤ ws.length → ∃ (ns : List QNode) (j' : Nat), (cond (room (List.length ([(q, 0, ([] : (List Int)))] : List (Int × Int × (List Int))) + List.length a) 40)
                ((rf (a0, ws, (i : Int), true, l)).bind fun r64 =>
                  cond (room (List.length (([(q, 0, ([] : (List Int)))] : List (Int × Int × (List Int))) ++ a) + List.length r64.1) 40)
                  ((ref21_reader_want_1 ([41] : Str) r64.2.1 r64.2.2.1 r64.2.2.2.1 r64.2.2.2.2.1 r64.2.2.2.2.2).bind fun r65 =>
                    some (((([(q, 0, ([] : (List Int)))] : List (Int × Int × (List Int))) ++ a) ++ r64.1), r65.1, r65.2.1, r65.2.2.1, r65.2.2.2.1, r65.2.2.2.2))
                  (none))
                (none)) = some (ns, a0, ws, (j' : Int), true, l) ∧ ns.length = a.length + 1 ∧ j ≤ j' ∧ j' ≤ ws.length := by
    intro q i h1 h2
    rw [room_ok (by simp; omega), cond_true, hrf, Option.bind_some]
    obtain ⟨r, k1, k2⟩ := shut21 (a0 := a0) hl q a [] h2 true l (by simp; omega)
    simp only
    rw [k1]
    cases h3 : isP [41] (ws.drop i) with
    | none =>
      rw [h3] at k2
      exact ⟨_, i, by rw [k2], by simp, h1, h2⟩
    | some w =>
      rw [h3] at k2
      exact ⟨_, i + 1, by rw [k2.1], by simp, by omega, by have := k2.2; omega⟩
  unfold rest21
  rw [rmark [38] a0 hl hj, Option.bind_some]
  cases h1 : isP [38] (ws.drop j) with
  | some w => exact fin 2 (j + 1) (by omega) (by have := (isP_drop h1).1; omega)
  | none =>
    simp only [cond_false]
    rw [rmark [124] a0 hl hj, Option.bind_some]
    cases h2 : isP [124] (ws.drop j) with
    | some w => exact fin 3 (j + 1) (by omega) (by have := (isP_drop h2).1; omega)
    | none =>
      simp only [cond_false]
      rw [rwant [45, 62] a0 hl hj, Option.bind_some]
      cases h3 : isP [45, 62] (ws.drop j) with
      | some w => exact fin 4 (j + 1) (by omega) (by have := (isP_drop h3).1; omega)
      | none => exact fin 4 j (by omega) hj
theorem rest_run (hl : ws.length ≤ 900000) (hrf : ∀ j l, rf (a0, ws, j, true, l) = some ([], a0, ws, j, true, l)) {n : Nat} {a : List QNode} {j : Nat} (hj : j ≤ ws.length) (l : Bool) (ha : a.length ≤ 1000000)
    (H : ∀ q, q ≤ ws.length → j < q → ∃ r, rf (a0, ws, ((q : Nat) : Int), false, l) = some r ∧ FR a0 ws l q (formN a0 n (ws.drop q)) r) :
    ∃ r : RfM, rest21 rf a a0 ws (j : Int) false l = some r ∧ (match jointP (ws.drop j) with
      | none => ∃ (ns : List QNode) (j' : Nat) (l' : Bool), r = (ns, a0, ws, (j' : Int), true, l') ∧ ns.length + j ≤ j' + a.length + 1 ∧ j' ≤ ws.length
      | some (k, ws3) => match formN a0 n ws3 with
        | none => ∃ (ns : List QNode) (j' : Nat) (l' : Bool), r = (ns, a0, ws, (j' : Int), true, l') ∧ ns.length + j ≤ j' + a.length + 1 ∧ j' ≤ ws.length
        | some (g, l2, ws4) => match isP [41] ws4 with
          | none => ∃ (ns : List QNode) (j' : Nat) (l' : Bool), r = (ns, a0, ws, (j' : Int), true, l') ∧ ns.length + j ≤ j' + a.length + 1 ∧ j' ≤ ws.length
          | some ws5 => r = (([(k, 0, [])] ++ a) ++ g.flat, a0, ws, ((ws.length - ws5.length : Nat) : Int), false, l || l2)) := by
  have fin : ∀ (q : Int), j < ws.length → ∃ r : RfM, (cond (room (List.length ([(q, 0, ([] : (List Int)))] : List (Int × Int × (List Int))) + List.length a) 40)
                ((rf (a0, ws, ((j + 1 : Nat) : Int), false, l)).bind fun r64 =>
                  cond (room (List.length (([(q, 0, ([] : (List Int)))] : List (Int × Int × (List Int))) ++ a) + List.length r64.1) 40)
                  ((ref21_reader_want_1 ([41] : Str) r64.2.1 r64.2.2.1 r64.2.2.2.1 r64.2.2.2.2.1 r64.2.2.2.2.2).bind fun r65 =>
                    some (((([(q, 0, ([] : (List Int)))] : List (Int × Int × (List Int))) ++ a) ++ r64.1), r65.1, r65.2.1, r65.2.2.1, r65.2.2.2.1, r65.2.2.2.2))
                  (none))
                (none)) = some r ∧ (match formN a0 n (ws.drop (j + 1)) with
        | none => ∃ (ns : List QNode) (j' : Nat) (l' : Bool), r = (ns, a0, ws, (j' : Int), true, l') ∧ ns.length + j ≤ j' + a.length + 1 ∧ j' ≤ ws.length
        | some (g, l2, ws4) => match isP [41] ws4 with
          | none => ∃ (ns : List QNode) (j' : Nat) (l' : Bool), r = (ns, a0, ws, (j' : Int), true, l') ∧ ns.length + j ≤ j' + a.length + 1 ∧ j' ≤ ws.length
          | some ws5 => r = (([(q, 0, [])] ++ a) ++ g.flat, a0, ws, ((ws.length - ws5.length : Nat) : Int), false, l || l2)) := by
    intro q hlt
    obtain ⟨r, g1, g2⟩ := H (j + 1) (by omega) (by omega)
    rw [room_ok (by simp; omega), cond_true, g1, Option.bind_some]
    cases h1 : formN a0 n (ws.drop (j + 1)) with
    | none =>
      rw [h1] at g2
      obtain ⟨ns, i, l', rfl, g3, g4⟩ := g2
      obtain ⟨r, k1, k2⟩ := shut21 (a0 := a0) hl q a ns g4 true l' (by omega)
      simp only
      rw [k1]
      cases h3 : isP [41] (ws.drop i) with
      | none =>
        rw [h3] at k2
        exact ⟨_, rfl, _, i, l', k2, by simp; omega, g4⟩
      | some w =>
        rw [h3] at k2
        exact ⟨_, rfl, _, i + 1, l', k2.1, by simp; omega, by have := k2.2; omega⟩
    | some p =>
      obtain ⟨g, l2, ws4⟩ := p
      have s := form_suf n _ h1
      simp only [List.length_drop] at s
      rw [h1] at g2
      have g2 : r = (g.flat, a0, ws, ((ws.length - ws4.length : Nat) : Int), false, l || l2) := g2
      subst g2
      have hd : ws.drop (ws.length - ws4.length) = ws4 := suf_drop (s.1.trans (suf_of_drop _))
      obtain ⟨r, k1, k2⟩ := shut21 (a0 := a0) hl q a g.flat (j := ws.length - ws4.length) (by omega) false (l || l2) (by omega)
      simp only
      rw [k1]
      rw [hd] at k2
      cases h3 : isP [41] ws4 with
      | none =>
        rw [h3] at k2
        exact ⟨_, rfl, _, ws.length - ws4.length, l || l2, k2, by simp; omega, by omega⟩
      | some ws5 =>
        obtain ⟨w, rfl⟩ := isP_suf h3
        rw [h3] at k2
        refine ⟨_, rfl, ?_⟩
        simp only
        rw [k2.1]
        rw [List.length_cons] at s ⊢
        rw [show ws.length - (ws5.length + 1) + 1 = ws.length - ws5.length from by omega]
  unfold rest21 jointP
  rw [rmark [38] a0 hl hj, Option.bind_some]
  cases h1 : isP [38] (ws.drop j) with
  | some w =>
    obtain ⟨hlt, hw⟩ := isP_drop h1
    subst hw
    exact fin 2 hlt
  | none =>
    simp only [cond_false]
    rw [rmark [124] a0 hl hj, Option.bind_some]
    cases h2 : isP [124] (ws.drop j) with
    | some w =>
      obtain ⟨hlt, hw⟩ := isP_drop h2
      subst hw
      exact fin 3 hlt
    | none =>
      simp only [cond_false]
      rw [rwant [45, 62] a0 hl hj, Option.bind_some]
      cases h3 : isP [45, 62] (ws.drop j) with
      | some w =>
        obtain ⟨hlt, hw⟩ := isP_drop h3
        subst hw
        exact fin 4 hlt
      | none =>
        simp only
        rw [room_ok (by simp; omega), cond_true, hrf, Option.bind_some]
        obtain ⟨r, k1, k2⟩ := shut21 (a0 := a0) hl 4 a [] hj true l (by simp; omega)
        simp only
        rw [k1]
        cases h4 : isP [41] (ws.drop j) with
        | none =>
          rw [h4] at k2
          exact ⟨_, rfl, _, j, l, k2, by simp; omega, hj⟩
        | some w =>
          rw [h4] at k2
          exact ⟨_, rfl, _, j + 1, l, k2.1, by simp; omega, by have := k2.2; omega⟩
end
end
end Go.Abs.Q
namespace Go.Abs.Q
open Go Go.Abs
section
def core21 (rf : RfG) (a0 : List QSym) (ws : QWs) (i : Int) (b l : Bool) : Option RfM :=
  (ref21_reader_mark_1 ([40] : Str) a0 ws i b l).bind fun r61 =>
    cond r61.1
    ((rf (r61.2.1, r61.2.2.1, r61.2.2.2.1, r61.2.2.2.2.1, r61.2.2.2.2.2)).bind fun r62 =>
      rest21 rf r62.1 r62.2.1 r62.2.2.1 r62.2.2.2.1 r62.2.2.2.2.1 r62.2.2.2.2.2)
    ((ref21_reader_atom_1 r61.2.1 r61.2.2.1 r61.2.2.2.1 r61.2.2.2.2.1 r61.2.2.2.2.2).bind fun r72 =>
      cond (decide (((List.length r72.1 : Nat) : Int) > 49))
      (some (([(0, 0, r72.1)] : List (Int × Int × (List Int))), r72.2.1, r72.2.2.1, r72.2.2.2.1, r72.2.2.2.2.1, true))
      (some (([(0, 0, r72.1)] : List (Int × Int × (List Int))), r72.2.1, r72.2.2.1, r72.2.2.2.1, r72.2.2.2.2.1, r72.2.2.2.2.2)))
def quant21 (k : Int) (rf : RfG) (a0 : List QSym) (ws : QWs) (i : Int) (b l : Bool) : Option RfM :=
  (ref21_reader_variable_1 a0 ws (IntKind.wrap .i64 (i + 1)) b l).bind fun r47 =>
            cond (decide (r47.1 < 0))
            ((rf (r47.2.1, r47.2.2.1, r47.2.2.2.1, true, r47.2.2.2.2.2)).bind fun r48 =>
              cond (room (List.length ([(k, r47.1, ([] : (List Int)))] : List (Int × Int × (List Int))) + List.length r48.1) 40)
              (some ((([(k, r47.1, ([] : (List Int)))] : List (Int × Int × (List Int))) ++ r48.1), r48.2.1, r48.2.2.1, r48.2.2.2.1, r48.2.2.2.2.1, r48.2.2.2.2.2))
              (none))
            ((rf (r47.2.1, r47.2.2.1, r47.2.2.2.1, r47.2.2.2.2.1, r47.2.2.2.2.2)).bind fun r49 =>
              cond (room (List.length ([(k, r47.1, ([] : (List Int)))] : List (Int × Int × (List Int))) + List.length r49.1) 40)
              (some ((([(k, r47.1, ([] : (List Int)))] : List (Int × Int × (List Int))) ++ r49.1), r49.2.1, r49.2.2.1, r49.2.2.2.1, r49.2.2.2.2.1, r49.2.2.2.2.2))
              (none))
def form21 (rf : RfG) (a0 : List QSym) (ws : QWs) (i : Int) (b l : Bool) : Option RfM :=
  cond b
  (some (([] : List QNode), a0, ws, i, b, l))
  ((ref21_reader_mark_1 ([126] : Str) a0 ws i b l).bind fun r43 =>
    cond r43.1
    ((rf (r43.2.1, r43.2.2.1, r43.2.2.2.1, r43.2.2.2.2.1, r43.2.2.2.2.2)).bind fun r44 =>
      cond (room (List.length ([(1, 0, ([] : (List Int)))] : List (Int × Int × (List Int))) + List.length r44.1) 40)
      (some ((([(1, 0, ([] : (List Int)))] : List (Int × Int × (List Int))) ++ r44.1), r44.2.1, r44.2.2.1, r44.2.2.2.1, r44.2.2.2.2.1, r44.2.2.2.2.2))
      (none))
    (cond (decide (r43.2.2.2.1 < ((List.length r43.2.2.1 : Nat) : Int)))
      ((gx r43.2.2.1 r43.2.2.2.1).bind fun e45 =>
        cond (cond (eqI e45.1 0) (cond (eqS e45.2 ([97, 108, 108] : Str)) true false) false)
        ((gx r43.2.2.1 r43.2.2.2.1).bind fun e46 =>
          cond (e46.2 == ([97, 108, 108] : Str))
          (quant21 5 rf r43.2.1 r43.2.2.1 r43.2.2.2.1 r43.2.2.2.2.1 r43.2.2.2.2.2)
          (quant21 6 rf r43.2.1 r43.2.2.1 r43.2.2.2.1 r43.2.2.2.2.1 r43.2.2.2.2.2))
        ((gx r43.2.2.1 r43.2.2.2.1).bind fun e53 =>
          cond (cond (eqI e53.1 0) (cond (eqS e53.2 ([101, 120] : Str)) true false) false)
          ((gx r43.2.2.1 r43.2.2.2.1).bind fun e54 =>
            cond (e54.2 == ([97, 108, 108] : Str))
            (quant21 5 rf r43.2.1 r43.2.2.1 r43.2.2.2.1 r43.2.2.2.2.1 r43.2.2.2.2.2)
            (quant21 6 rf r43.2.1 r43.2.2.1 r43.2.2.2.1 r43.2.2.2.2.1 r43.2.2.2.2.2))
          (core21 rf r43.2.1 r43.2.2.1 r43.2.2.2.1 r43.2.2.2.2.1 r43.2.2.2.2.2)))
      (core21 rf r43.2.1 r43.2.2.1 r43.2.2.2.1 r43.2.2.2.2.1 r43.2.2.2.2.2)))
section
variable {a0 : List QSym} {ws : QWs} {rf : RfG}
theorem core_run (hb : signB a0 = true) (hl : ws.length ≤ 900000) (hw : WOk ws) (hw2 : WOk2 ws) (hrf : ∀ j l, rf (a0, ws, j, true, l) = some ([], a0, ws, j, true, l)) {n p : Nat} (hp : p ≤ ws.length) (l : Bool)
    (H : ∀ q l, q ≤ ws.length → p < q → ∃ r, rf (a0, ws, ((q : Nat) : Int), false, l) = some r ∧ FR a0 ws l q (formN a0 n (ws.drop q)) r) :
    ∃ r : RfM, core21 rf a0 ws (p : Int) false l = some r ∧ FR a0 ws l p (match isP [40] (ws.drop p) with
        | some ws1 => match formN a0 n ws1 with
          | none => none
          | some (f, l1, ws2) => match jointP ws2 with
            | none => none
            | some (k, ws3) => match formN a0 n ws3 with
              | none => none
              | some (g, l2, ws4) => (isP [41] ws4).map fun ws5 => (Fm.bin k f g, l1 || l2, ws5)
        | none => (atomP a0 (ws.drop p)).map fun p => (.atom p.1, decide (p.1.length > 49), p.2)) r := by
  unfold core21
  rw [rmark [40] a0 hl hp, Option.bind_some]
  cases h1 : isP [40] (ws.drop p) with
  | none =>
    obtain ⟨r, g1, g2⟩ := reader_ratom hb hl hw hw2 l hp
    simp only [cond_false]
    rw [g1, Option.bind_some]
    cases h2 : atomP a0 (ws.drop p) with
    | none =>
      rw [h2] at g2
      obtain ⟨cs, j, rfl, g3, g4⟩ := g2
      simp only
      cases decide (((List.length cs : Nat) : Int) > 49) with
      | true => exact ⟨_, rfl, _, j, true, rfl, by simp; omega, g4⟩
      | false => exact ⟨_, rfl, _, j, l, rfl, by simp; omega, g4⟩
    | some q =>
      rw [h2] at g2
      have g2 : r = (q.1, a0, ws, ((ws.length - q.2.length : Nat) : Int), false, l) := g2
      subst g2
      simp only
      rw [show decide (((List.length q.1 : Nat) : Int) > 49) = decide (q.1.length > 49) from decide_eq_decide.2 ⟨fun h => by omega, fun h => by omega⟩]
      simp only [Option.map_some, FR]
      cases decide (q.1.length > 49) with
      | true => exact ⟨_, rfl, by simp [Fm.flat]⟩
      | false => exact ⟨_, rfl, by simp [Fm.flat]⟩
  | some ws1 =>
    obtain ⟨hlt, rfl⟩ := isP_drop h1
    obtain ⟨r, g1, g2⟩ := H (p + 1) l (by omega) (by omega)
    simp only [cond_true]
    rw [g1, Option.bind_some]
    cases h2 : formN a0 n (ws.drop (p + 1)) with
    | none =>
      rw [h2] at g2
      obtain ⟨ns, j, l', rfl, g3, g4⟩ := g2
      obtain ⟨ns', j', k1, k2, k3, k4⟩ := rest_bad hl hrf ns g4 l' (by omega)
      exact ⟨_, k1, ns', j', l', rfl, by omega, k4⟩
    | some q =>
      obtain ⟨f, l1, ws2⟩ := q
      have s := form_suf n _ h2
      simp only [List.length_drop] at s
      rw [h2] at g2
      have g2 : r = (f.flat, a0, ws, ((ws.length - ws2.length : Nat) : Int), false, l || l1) := g2
      subst g2
      have hd : ws.drop (ws.length - ws2.length) = ws2 := suf_drop (s.1.trans (suf_of_drop _))
      obtain ⟨r, k1, k2⟩ := rest_run (a0 := a0) (n := n) (a := f.flat) hl hrf (j := ws.length - ws2.length) (by omega) (l || l1) (by omega) (fun q h1 h2 => H q _ h1 (by omega))
      refine ⟨r, k1, ?_⟩
      rw [hd] at k2
      simp only
      cases h3 : jointP ws2 with
      | none =>
        rw [h3] at k2
        obtain ⟨ns, j, l', e1, e2, e3⟩ := k2
        exact ⟨ns, j, l', e1, by omega, e3⟩
      | some q =>
        obtain ⟨k, ws3⟩ := q
        rw [h3] at k2
        simp only at k2 ⊢
        cases h4 : formN a0 n ws3 with
        | none =>
          rw [h4] at k2
          obtain ⟨ns, j, l', e1, e2, e3⟩ := k2
          exact ⟨ns, j, l', e1, by omega, e3⟩
        | some q =>
          obtain ⟨g, l2, ws4⟩ := q
          rw [h4] at k2
          simp only at k2 ⊢
          cases h5 : isP [41] ws4 with
          | none =>
            rw [h5] at k2
            obtain ⟨ns, j, l', e1, e2, e3⟩ := k2
            exact ⟨ns, j, l', e1, by omega, e3⟩
          | some ws5 =>
            rw [h5] at k2
            simp only at k2
            rw [k2]
            simp [FR, Fm.flat, Bool.or_assoc]
theorem atomP_none {w : QWord} {r : QWs} (h0 : w.1 = 0) (hc : ¬ 0 ≤ codeP a0 w.2) : atomP a0 (w :: r) = none := by
  have hs : symP a0 (w :: r) = none := by
    unfold symP
    dsimp only
    rw [decide_eq_false hc, Bool.and_false, cond_false]
  have ht : termP a0 (w :: r) = none := by
    unfold termP
    rw [List.length_cons]
    unfold termN
    have hv : varP (w :: r) = none := by
      unfold varP
      dsimp only
      rw [h0]
      rfl
    rw [hv, hs]
  unfold atomP eqP
  rw [hs, ht]
theorem bind_name (hs : sigB a0 = true) {s : Str} (h : bindName s = true) : ¬ 0 ≤ codeP a0 s := by
  intro hc
  obtain ⟨e, he, -, rfl⟩ := codeP_mem (a0 := a0) (s := s) hc
  unfold sigB at hs
  rw [Bool.and_eq_true] at hs
  have h2 : (a0.any fun e => bindName e.1) = true := List.any_eq_true.2 ⟨e, List.mem_of_getElem? he, h⟩
  rw [h2] at hs
  exact absurd hs.2 (by decide)
theorem quant_run (hl : ws.length ≤ 900000) (hw : WOk ws) (hw2 : WOk2 ws) (hrf : ∀ j l, rf (a0, ws, j, true, l) = some ([], a0, ws, j, true, l)) {n p : Nat} (hp : p < ws.length) (l : Bool) (k : Int)
    (H : ∀ q l, q ≤ ws.length → p < q → ∃ r, rf (a0, ws, ((q : Nat) : Int), false, l) = some r ∧ FR a0 ws l q (formN a0 n (ws.drop q)) r) :
    ∃ r : RfM, quant21 k rf a0 ws (p : Int) false l = some r ∧ FR a0 ws l p (match varP (ws.drop (p + 1)) with
      | some (v, ws1) => (formN a0 n ws1).map fun p => (.qu k (v : Int) p.1, p.2)
      | none => none) r := by
  have w1 : IntKind.wrap .i64 ((p : Int) + 1) = ((p + 1 : Nat) : Int) := by rw [wrap64] <;> omega
  unfold quant21
  rw [w1, rvar a0 hl hw hw2 (by omega), Option.bind_some]
  cases h1 : varP (ws.drop (p + 1)) with
  | none =>
    simp only
    rw [decide_eq_true (show (-1 : Int) < 0 by decide), cond_true, hrf, Option.bind_some]
    simp only
    rw [room_ok (by simp), cond_true]
    exact ⟨_, rfl, _, p + 1, l, rfl, by simp; omega, by omega⟩
  | some q =>
    obtain ⟨v, ws1⟩ := q
    obtain ⟨w, hd, -⟩ := varP_suf h1
    have hlt := drop_cons_lt hd
    have hd2 : ws.drop (p + 2) = ws1 := drop_cons_next hd
    obtain ⟨r, g1, g2⟩ := H (p + 2) l (by omega) (by omega)
    simp only
    rw [decide_eq_false (show ¬ ((v : Int) < 0) by omega), cond_false, show p + 1 + 1 = p + 2 from rfl, g1, Option.bind_some]
    rw [hd2] at g2
    cases h2 : formN a0 n ws1 with
    | none =>
      rw [h2] at g2
      obtain ⟨ns, j, l', rfl, g3, g4⟩ := g2
      simp only
      rw [room_ok (by simp; omega), cond_true]
      exact ⟨_, rfl, _, j, l', rfl, by simp; omega, g4⟩
    | some q =>
      have s := form_suf n _ h2
      have hlen : ws1.length ≤ ws.length := by rw [← hd2, List.length_drop]; omega
      rw [h2] at g2
      have g2 : r = (q.1.flat, a0, ws, ((ws.length - q.2.2.length : Nat) : Int), false, l || q.2.1) := g2
      subst g2
      simp only
      rw [room_ok (by simp; omega), cond_true]
      exact ⟨_, rfl, by simp [FR, Fm.flat]⟩
end
end
end Go.Abs.Q
namespace Go.Abs.Q
open Go Go.Abs
section
theorem rform_run {a0 : List QSym} (hs : sigB a0 = true) {ws : QWs} (hl : ws.length ≤ 900000) (hw : WOk ws) (hw2 : WOk2 ws) : ∀ (n k p : Nat) (l : Bool), n + 1 ≤ k → ws.length - p < n → p ≤ ws.length → ∃ r, ref21_reader_formula_1_R k (a0, ws, (p : Int), false, l) = some r ∧ FR a0 ws l p (formN a0 n (ws.drop p)) r
  | 0, k, p, l, _, hlt, _ => absurd hlt (Nat.not_lt_zero _)
  | n + 1, 0, p, l, hk, _, _ => absurd hk (by omega)
  | n + 1, k + 1, p, l, hk, hn, hp => by
    have hb := sigB_sign hs
    have hrf : ∀ j l, ref21_reader_formula_1_R k (a0, ws, j, true, l) = some ([], a0, ws, j, true, l) := by
      cases k with
      | zero => omega
      | succ k => exact fun j l => rform_bad k a0 ws j l
    have H : ∀ q l, q ≤ ws.length → p < q → ∃ r, ref21_reader_formula_1_R k (a0, ws, ((q : Nat) : Int), false, l) = some r ∧ FR a0 ws l q (formN a0 n (ws.drop q)) r := fun q l h1 h2 =>
      rform_run hs hl hw hw2 n k q l (by omega) (by omega) h1
    show ∃ r, form21 (ref21_reader_formula_1_R k) a0 ws (p : Int) false l = some r ∧ _
    obtain ⟨rc, c1, c2⟩ := core_run hb hl hw hw2 hrf hp l H
    unfold form21 formN
    rw [cond_false, rmark [126] a0 hl hp, Option.bind_some]
    cases h1 : isP [126] (ws.drop p) with
    | some ws1 =>
      obtain ⟨hlt, rfl⟩ := isP_drop h1
      obtain ⟨r, g1, g2⟩ := H (p + 1) l (by omega) (by omega)
      simp only [cond_true]
      rw [g1, Option.bind_some]
      cases h2 : formN a0 n (ws.drop (p + 1)) with
      | none =>
        rw [h2] at g2
        obtain ⟨ns, j, l', rfl, g3, g4⟩ := g2
        simp only
        rw [room_ok (by simp; omega), cond_true]
        exact ⟨_, rfl, _, j, l', rfl, by simp; omega, g4⟩
      | some q =>
        have s := form_suf n _ h2
        rw [List.length_drop] at s
        rw [h2] at g2
        have g2 : r = (q.1.flat, a0, ws, ((ws.length - q.2.2.length : Nat) : Int), false, l || q.2.1) := g2
        subst g2
        simp only
        rw [room_ok (by simp; omega), cond_true]
        exact ⟨_, rfl, by simp [FR, Fm.flat]⟩
    | none =>
      simp only [cond_false]
      cases hd : ws.drop p with
      | nil =>
        have := drop_nil_le hd
        rw [decide_eq_false (show ¬ ((p : Int) < ((List.length ws : Nat) : Int)) by omega), cond_false]
        rw [hd] at c2
        exact ⟨rc, c1, c2⟩
      | cons w r =>
        have hlt := drop_cons_lt hd
        have hr := drop_cons_next hd
        rw [decide_eq_true (show (p : Int) < ((List.length ws : Nat) : Int) by omega), cond_true, gx_nat, drop_cons_get hd, Option.bind_some, Option.bind_some, Option.bind_some]
        -- what a quantifier's head brings
        have quant : ∀ kk : Int, w.1 = 0 → bindName w.2 = true → (∀ v, bindP (w :: v :: r.tail) = cond (v.1 == 1) (some (kk, numV v.2.tail, r.tail)) none) → ∃ r', quant21 kk (ref21_reader_formula_1_R k) a0 ws (p : Int) false l = some r' ∧ FR a0 ws l p (match bindP (w :: r) with
            | some (k, v, ws1) => (formN a0 n ws1).map fun p => (Fm.qu k (v : Int) p.1, p.2)
            | none => match isP [40] (w :: r) with
              | some ws1 => match formN a0 n ws1 with
                | none => none
                | some (f, l1, ws2) => match jointP ws2 with
                  | none => none
                  | some (k, ws3) => match formN a0 n ws3 with
                    | none => none
                    | some (g, l2, ws4) => (isP [41] ws4).map fun ws5 => (Fm.bin k f g, l1 || l2, ws5)
              | none => (atomP a0 (w :: r)).map fun p => (.atom p.1, decide (p.1.length > 49), p.2)) r' := by
          intro kk h0 hbn hbind
          obtain ⟨r', g1, g2⟩ := quant_run (a0 := a0) (n := n) hl hw hw2 hrf hlt l kk H
          refine ⟨r', g1, ?_⟩
          have hno : isP [40] (w :: r) = none := by
            unfold isP
            dsimp only
            rw [h0]
            rfl
          rw [hno, atomP_none h0 (bind_name hs hbn)]
          rw [hr] at g2
          cases r with
          | nil => exact g2
          | cons v r =>
            rw [show bindP (w :: v :: r) = cond (v.1 == 1) (some (kk, numV v.2.tail, r)) none from hbind v]
            unfold varP at g2
            dsimp only at g2
            cases hv : (v.1 == 1) with
            | true => rw [hv] at g2; exact g2
            | false => rw [hv] at g2; exact g2
        cases h0 : eqI w.1 0 with
        | true =>
          have hw0 : w.1 = 0 := by unfold eqI at h0; simpa using h0
          cases ha : eqS w.2 [97, 108, 108] with
          | true =>
            have hwa : w.2 = [97, 108, 108] := by unfold eqS at ha; simpa using ha
            simp only [cond_true]
            rw [show (w.2 == [97, 108, 108]) = true from by rw [hwa]; rfl, cond_true]
            exact quant 5 hw0 (by rw [hwa]; rfl) (fun v => by
              unfold bindP
              simp only [List.tail_cons]
              rw [hw0, hwa]
              cases (v.1 == 1) <;> rfl)
          | false =>
            cases he : eqS w.2 [101, 120] with
            | true =>
              have hwe : w.2 = [101, 120] := by unfold eqS at he; simpa using he
              simp only [cond_true, cond_false]
              rw [show (w.2 == [97, 108, 108]) = false from by rw [hwe]; rfl, cond_false]
              exact quant 6 hw0 (by rw [hwe]; rfl) (fun v => by
                unfold bindP
                simp only [List.tail_cons]
                rw [hw0, hwe]
                cases (v.1 == 1) <;> rfl)
            | false =>
              simp only [cond_true, cond_false]
              have hno : bindP (w :: r) = none := by
                unfold eqS at ha he
                unfold bindP
                cases r with
                | nil => rfl
                | cons v r =>
                  dsimp only
                  rw [ha, he]
                  cases (w.1 == 0 && v.1 == 1) <;> rfl
              rw [hno]
              rw [hd] at c2
              exact ⟨rc, c1, c2⟩
        | false =>
          simp only [cond_false]
          have hno : bindP (w :: r) = none := by
            unfold eqI at h0
            unfold bindP
            cases r with
            | nil => rfl
            | cons v r =>
              dsimp only
              rw [h0]
              rfl
          rw [hno]
          rw [hd] at c2
          exact ⟨rc, c1, c2⟩
theorem ref21_Words_eq (a0 : List QSym) {ws : QWs} (hw : WOk ws) (hw2 : WOk2 ws) (hl : ws.length ≤ 100000) : ref21_Words a0 ws = some (readR a0 ws) := by
  unfold ref21_Words readR
  rw [ref21_SignMay_eq, Option.bind_some]
  cases hs : sigB a0 with
  | false => rfl
  | true =>
    obtain ⟨r, g1, g2⟩ := rform_run hs (ws := ws) (by omega) hw hw2 (ws.length + 1) fuel 0 false (by unfold fuel; omega) (by omega) (by omega)
    have g1 : ref21_reader_formula_1 a0 ws 0 false false = some r := g1
    rw [Bool.not_true, cond_false, cond_false, g1, Option.bind_some]
    unfold formP
    rw [List.drop_zero] at g2
    cases hf : formN a0 (ws.length + 1) ws with
    | none =>
      rw [hf] at g2
      obtain ⟨ns, j, l', rfl, -, -⟩ := g2
      rfl
    | some q =>
      have s := (form_suf _ _ hf).2.1
      rw [hf] at g2
      have g2 : r = (q.1.flat, a0, ws, ((ws.length - q.2.2.length : Nat) : Int), false, false || q.2.1) := g2
      subst g2
      simp only [cond_false, Bool.false_or]
      have e1 : (((ws.length - q.2.2.length : Nat) : Int) != ((List.length ws : Nat) : Int)) = decide (q.2.2.length > 0) := by
        rw [bne]
        by_cases h : q.2.2.length > 0
        · rw [decide_eq_true h, beq_eq_false_iff_ne.2 (by omega)]; rfl
        · rw [decide_eq_false h, beq_iff_eq.2 (by omega)]; rfl
      have e2 : decide (((List.length q.1.flat : Nat) : Int) > 40) = decide (q.1.flat.length > 40) := decide_eq_decide.2 ⟨fun h => by omega, fun h => by omega⟩
      rw [e1, e2]
      cases decide (q.2.2.length > 0) with
      | true => rfl
      | false =>
        cases q.2.1 with
        | true => rfl
        | false => cases decide (q.1.flat.length > 40) <;> rfl
theorem ref21_Parse_eq (a0 : List QSym) (t : Str) : ref21_Parse a0 t = some (parseR a0 t) := by
  unfold ref21_Parse parseR
  rw [ref21_Lex_eq, Option.bind_some]
  have hk := lexR_ok t
  cases (lexR t).1 != 0 with
  | true => rfl
  | false =>
    rw [cond_false, cond_false, ref21_Words_eq a0 hk.1 (lexR_ok2 t) (by omega)]
    rfl
end
end Go.Abs.Q
namespace Go.Abs.Q
open Go Go.Abs
section
theorem sameSyms_go (ys : List QSym) : (es : List QSym) → (i : Nat) → ys.drop i = es → law0_SameSyms_L0_go ys es i = some (.inl ())
  | [], i, _ => rfl
  | e :: es, i, h => by
    have ih := sameSyms_go ys es (i + 1) (drop_cons_next h)
    unfold law0_SameSyms_L0_go
    simp only [gx_nat, drop_cons_get h, Option.bind_some, ih, eqS, eqI, beq_self_eq_true, cond_true, Bool.not_true, cond_false]
theorem law0_SameSyms_self {a0 : List QSym} (h : a0.length ≤ maxLen) : law0_SameSyms a0 a0 = some true := by
  unfold law0_SameSyms
  rw [show (((List.length a0 : Nat) : Int) != ((List.length a0 : Nat) : Int)) = false from by simp, cond_false, law0_SameSyms_L0_go_at0 _ _ h, sameSyms_go a0 a0 0 rfl]
  rfl
theorem same_parse (a0 : List QSym) (t : Str) : law0_SameNodes (parseR a0 t).2 (parseR a0 t).2 = some true := by
  by_cases h : (parseR a0 t).1 = 0
  · obtain ⟨-, f, h2, h3, h4⟩ := parse_ok h
    rw [h2]
    exact same_flat h3 h4
  · rw [parse_err h]
    rw [law0_SameNodes_eq (Nat.zero_le _) (fun x hx => by cases hx)]
    rfl
theorem law22_Parses_true (a0 : List QSym) (t : Str) (h : a0.length ≤ 1048576) : law22_Parses a0 t = some true := by
  unfold law22_Parses
  have hc : law0_CopySyms a0 = some a0 := by
    unfold law0_CopySyms
    rw [room_ok (by simp; omega), cond_true, List.nil_append]
  cases decide (((List.length t : Nat) : Int) > 5000) with
  | true => rfl
  | false =>
    rw [cond_false, hc, Option.bind_some, formula_Parse_eq, Option.bind_some, ref21_Parse_eq, Option.bind_some, same_parse, Option.bind_some, cond_true]
    unfold law0_Num
    rw [Option.bind_some, beq_self_eq_true, cond_true, law0_SameSyms_self (by unfold maxLen; omega), Option.bind_some, cond_true, law22_awake_eq]
    rfl
theorem wt_syms {a0 : List QSym} {b : Nat} (h : wt (.sl tSym) a0 ≤ b) : a0.length ≤ b := by
  have h : (List.map (wtT tSym : QSym → Nat) a0).sum + 1 ≤ b := h
  have hf : ∀ x : QSym, 1 ≤ wtT tSym x := fun x => by
    show 1 ≤ wt .str x.1 + (1 + (1 + 1))
    omega
  have := Nat.le_trans (Nat.add_le_add_right (wt_len hf a0) 1) h
  omega
theorem parses_plain (x : List QSym × Str) (h : wtL [.sl tSym, .str] x ≤ 1048576) : law22_Parses x.1 x.2 = some true := by
  have h' : wt (.sl tSym) x.1 + wt .str x.2 ≤ 1048576 := h
  exact law22_Parses_true x.1 x.2 (wt_syms (by omega))
end
end Go.Abs.Q
