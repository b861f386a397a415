import Derived.Test.YtanopgblnhaigaaDoorQa
/-
  What the functions make of plain values, and what the law says of that.
-/
namespace Go.Abs.Q
open Go Go.Abs
section
theorem isP_kind {m : Str} {w : QWord} (ws : QWs) (h : w.1 ≠ 3) : isP m (w :: ws) = none := by
  unfold isP
  dsimp only
  rw [show (w.1 == 3) = false from by simpa using h, Bool.false_and]
  rfl
theorem isP_text {m t : Str} (ws : QWs) (h : t ≠ m) : isP m ((3, t) :: ws) = none := by
  unfold isP
  dsimp only
  rw [show (t == m) = false from by simpa using h, Bool.and_false]
  rfl
theorem isP_hit (m : Str) (ws : QWs) : isP m ((3, m) :: ws) = some ws := by
  unfold isP
  dsimp only
  rw [show (m == m) = true from by simp]
  rfl
theorem bindP_kind {w : QWord} (ws : QWs) (h : w.1 ≠ 0) : bindP (w :: ws) = none := by
  unfold bindP
  cases ws with
  | nil => rfl
  | cons v ws =>
    dsimp only
    rw [show (w.1 == 0) = false from by simpa using h, Bool.false_and]
    rfl
theorem bindP_name {s : Str} (ws : QWs) (h : bindName s = false) : bindP ((0, s) :: ws) = none := by
  unfold bindName at h
  rw [Bool.or_eq_false_iff] at h
  unfold bindP
  cases ws with
  | nil => rfl
  | cons v ws =>
    dsimp only
    rw [h.1, h.2]
    cases ((0 : Int) == 0 && v.1 == 1) <;> rfl
theorem sigB_name {a0 : List QSym} (h : sigB a0 = true) {i : Nat} {e : QSym} (he : a0[i]? = some e) : bindName e.1 = false := by
  unfold sigB at h
  rw [Bool.and_eq_true, Bool.not_eq_true', List.any_eq_false] at h
  have := h.2 e (List.mem_of_getElem? he)
  simpa using this
def Begins (a0 : List QSym) (ws : QWs) : Prop := ∃ w rest, ws = w :: rest ∧ (w.1 = 1 ∨ (w.1 = 0 ∧ bindName w.2 = false))
theorem Begins.app {a0 : List QSym} {ws vs : QWs} (h : Begins a0 ws) : Begins a0 (ws ++ vs) := by
  obtain ⟨w, rest, rfl, h⟩ := h
  exact ⟨w, rest ++ vs, rfl, h⟩
theorem Begins.none {a0 : List QSym} {ws : QWs} (h : Begins a0 ws) : isP [126] ws = none ∧ bindP ws = none ∧ isP [40] ws = none := by
  obtain ⟨w, rest, rfl, h⟩ := h
  have h3 : w.1 ≠ 3 := by rcases h with h | h <;> omega
  refine ⟨isP_kind _ h3, ?_, isP_kind _ h3⟩
  rcases h with h | ⟨h, h2⟩
  · exact bindP_kind _ (by omega)
  · obtain ⟨w1, w2⟩ := w
    simp only at h h2
    subst h
    exact bindP_name _ h2
theorem piece_begins {a0 : List QSym} (hs : sigB a0 = true) {q : List Int} (hq : sk a0 1 q = some q.length) (f : List Int → QWs) : Begins a0 (pieceW a0 f q) := by
  obtain ⟨x, r, k, rfl, ha, hk⟩ := piece_cases hq
  unfold pieceW
  dsimp only
  by_cases hx : x < 0
  · rw [decide_eq_true hx, cond_true]
    exact ⟨_, _, rfl, .inl rfl⟩
  · obtain ⟨e, he1, he2, he3, hqe⟩ := arity_pos ha hx
    have hnm : nameOf a0 x = e.1 := by unfold nameOf; rw [he2]
    have hn := sigB_name hs he2
    rw [decide_eq_false hx, cond_false, hnm]
    cases r.isEmpty with
    | true => exact ⟨_, _, rfl, .inr ⟨rfl, hn⟩⟩
    | false => exact ⟨_, _, rfl, .inr ⟨rfl, hn⟩⟩
theorem atom_begins {a0 : List QSym} (hs : sigB a0 = true) {xs : List Int} (h : atomB a0 xs = true) : Begins a0 (atomW a0 xs) := by
  obtain ⟨x, r, e, ps, rfl, h0, he, hg, hk, hsb, hl, hc, hn⟩ := atomB_spec h
  have hS := signB_ok hsb
  have hf := cuts_flat r.length r ps (Nat.le_refl _) hc
  unfold atomW
  dsimp only
  by_cases hx : x = 0
  · subst hx
    rw [show (0 : Int).toNat = 0 from rfl, hS.eq] at he
    injection he with he
    subst he
    have hlen : ps.length = 2 := by
      have : (equalsQ.2.2.1 : Int) = 2 := rfl
      omega
    rw [show ((0 : Int) == 0) = true from rfl, cond_true, hc]
    match ps, hlen with
    | [p, q], _ =>
      show Begins a0 ((wordsTs a0 p ++ [(3, [61])]) ++ wordsTs a0 q)
      rw [wordsTs_one (hf.2 p (by simp)).2]
      exact (piece_begins hs (hf.2 p (by simp)).2 _).app.app
  · rw [show (x == 0) = false from by simpa using hx, cond_false]
    have hnm : nameOf a0 x = e.1 := by unfold nameOf; rw [he]
    have hn := sigB_name hs he
    rw [hnm]
    cases r.isEmpty with
    | true => exact ⟨_, _, rfl, .inr ⟨rfl, hn⟩⟩
    | false => exact ⟨_, _, rfl, .inr ⟨rfl, hn⟩⟩
theorem joint_hit {k : Int} (h : k = 2 ∨ k = 3 ∨ k = 4) (ws : QWs) : jointP ((3, joinM k) :: ws) = some (k, ws) := by
  rcases h with rfl | rfl | rfl <;> rfl
theorem form_reads {a0 : List QSym} (hs : sigB a0 = true) : (t : Fm) → t.ok a0 = true → (n : Nat) → (rest : QWs) → (t.words a0 ++ rest).length < n → formN a0 n (t.words a0 ++ rest) = some (t, false, rest)
  | .atom a, h, n, rest, hn => by
    obtain ⟨n, rfl⟩ : ∃ n', n = n' + 1 := ⟨n - 1, by omega⟩
    have h' : atomB a0 a = true := h
    obtain ⟨b1, b2, b3⟩ := ((atom_begins hs h').app (vs := rest)).none
    have e : (Fm.atom a).words a0 ++ rest = atomW a0 a ++ rest := rfl
    rw [e]
    unfold formN
    rw [b1]
    simp only
    rw [b2]
    simp only
    rw [b3]
    simp only
    rw [atom_reads h' rest]
    have := atomB_len h'
    simp only [Option.map_some]
    rw [decide_eq_false (show ¬ (a.length > 49) by omega)]
  | .not f, h, n, rest, hn => by
    obtain ⟨n, rfl⟩ : ∃ n', n = n' + 1 := ⟨n - 1, by omega⟩
    have e : (Fm.not f).words a0 ++ rest = (3, [126]) :: (f.words a0 ++ rest) := rfl
    rw [e] at hn ⊢
    rw [List.length_cons] at hn
    unfold formN
    rw [isP_hit]
    simp only
    rw [form_reads hs f h n rest (by omega)]
    rfl
  | .qu k v f, h, n, rest, hn => by
    obtain ⟨n, rfl⟩ : ∃ n', n = n' + 1 := ⟨n - 1, by omega⟩
    unfold Fm.ok at h
    simp only [Bool.and_eq_true, Bool.or_eq_true, beq_iff_eq, decide_eq_true_eq] at h
    obtain ⟨⟨⟨hq, hv0⟩, hv1⟩, h⟩ := h
    have e : (Fm.qu k v f).words a0 ++ rest = (0, bindT k) :: (1, 88 :: dig2 v.toNat) :: (f.words a0 ++ rest) := by simp [Fm.words]
    rw [e] at hn ⊢
    rw [List.length_cons, List.length_cons] at hn
    have hv := (dig2_ok v.toNat (by omega)).2
    have hb : bindP ((0, bindT k) :: (1, 88 :: dig2 v.toNat) :: (f.words a0 ++ rest)) = some (k, v.toNat, f.words a0 ++ rest) := by
      rcases hq with rfl | rfl
      · show some (5, numV (dig2 v.toNat), f.words a0 ++ rest) = _
        rw [hv]
      · show some (6, numV (dig2 v.toNat), f.words a0 ++ rest) = _
        rw [hv]
    unfold formN
    rw [isP_kind _ (show (0 : Int) ≠ 3 by decide)]
    simp only
    rw [hb]
    simp only
    rw [form_reads hs f h n rest (by omega), Int.toNat_of_nonneg hv0]
    rfl
  | .bin k f g, h, n, rest, hn => by
    obtain ⟨n, rfl⟩ : ∃ n', n = n' + 1 := ⟨n - 1, by omega⟩
    unfold Fm.ok at h
    simp only [Bool.and_eq_true, Bool.or_eq_true, beq_iff_eq] at h
    obtain ⟨⟨hq, hf⟩, hg⟩ := h
    have hq : k = 2 ∨ k = 3 ∨ k = 4 := by rcases hq with (h | h) | h <;> simp [h]
    have e : (Fm.bin k f g).words a0 ++ rest = (3, [40]) :: (f.words a0 ++ ((3, joinM k) :: (g.words a0 ++ ((3, [41]) :: rest)))) := by simp [Fm.words]
    rw [e] at hn ⊢
    simp only [List.length_cons, List.length_append] at hn
    unfold formN
    rw [isP_text _ (by decide)]
    simp only
    rw [bindP_kind _ (by decide)]
    simp only
    rw [isP_hit]
    simp only
    rw [form_reads hs f hf n _ (by simp; omega)]
    simp only
    rw [joint_hit hq]
    simp only
    rw [form_reads hs g hg n _ (by simp; omega)]
    simp only
    rw [isP_hit]
    rfl
theorem parse_text {a0 : List QSym} (hs : sigB a0 = true) {t : Fm} (h : t.ok a0 = true) (hl : t.flat.length ≤ 40) (ht : (t.text a0).length ≤ 2048) : parseR a0 (t.text a0) = (0, t.flat) := by
  have hx : lexR (t.text a0) = (0, t.words a0) := by
    unfold lexR
    rw [decide_eq_false (show ¬ ((t.text a0).length > 2048) by omega), cond_false, Fm.lexed h]
  unfold parseR
  rw [hx]
  simp only
  unfold readR formP
  have := form_reads hs t h ((t.words a0).length + 1) [] (by simp)
  rw [List.append_nil] at this
  rw [this, hs]
  simp only
  rw [decide_eq_false (show ¬ (t.flat.length > 40) by omega)]
  rfl
theorem flat_rows {a0 : List QSym} : (t : Fm) → t.ok a0 = true → ∀ x ∈ t.flat, x.2.2.length ≤ 49
  | .atom a, h, x, hx => by
    rw [Fm.flat, List.mem_singleton] at hx
    subst hx
    exact atomB_len h
  | .not f, h, x, hx => by
    rcases List.mem_cons.1 hx with rfl | hx
    · simp
    · exact flat_rows f h x hx
  | .qu k v f, h, x, hx => by
    unfold Fm.ok at h
    simp only [Bool.and_eq_true] at h
    rcases List.mem_cons.1 hx with rfl | hx
    · simp
    · exact flat_rows f h.2 x hx
  | .bin k f g, h, x, hx => by
    unfold Fm.ok at h
    simp only [Bool.and_eq_true] at h
    rcases List.mem_cons.1 hx with rfl | hx
    · simp
    · rcases List.mem_append.1 hx with hx | hx
      · exact flat_rows f h.1.2 x hx
      · exact flat_rows g h.2 x hx
theorem same_flat {a0 : List QSym} {t : Fm} (h : t.ok a0 = true) (hl : t.flat.length ≤ 40) : law0_SameNodes t.flat t.flat = some true := by
  rw [law0_SameNodes_eq (by unfold maxLen; omega) (fun x hx => by have := flat_rows t h x hx; unfold maxLen; omega)]
  simp
theorem law22_FormulaBack_true (a0 : List QSym) (f : List QNode) : law22_FormulaBack a0 f = some true := by
  unfold law22_FormulaBack
  rw [law22_awake_eq, Option.bind_some, Bool.not_true, cond_false]
  cases h : fmayB a0 f with
  | false =>
    rw [formula_Show_not h, Option.bind_some]
    simp only [formula_May_eq, h]
    rfl
  | true =>
    obtain ⟨h1, h2, t, rfl, ht⟩ := fmayB_tree h
    rw [formula_Show_tree h ht, Option.bind_some]
    unfold law0_Num
    simp only [Option.bind_some]
    rw [show ((0 : Int) != 0) = false from rfl, cond_false]
    by_cases hl : (t.text a0).length > 2048
    · rw [decide_eq_true (show ((List.length (t.text a0) : Nat) : Int) > 2048 by omega)]; rfl
    · rw [decide_eq_false (show ¬ (((List.length (t.text a0) : Nat) : Int) > 2048) by omega), cond_false, formula_Parse_eq, parse_text h1 ht h2 (by omega), Option.bind_some]
      simp only
      rw [show ((0 : Int) == 0) = true from rfl, cond_true, same_flat ht h2]
      rfl
end
end Go.Abs.Q
