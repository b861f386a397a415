import Derived.Test.YtanopgblnhaigaaDoorQa
/-
  What the functions make of plain values, and what the law says of that.
-/
namespace Go.Abs.Q
open Go Go.Abs
section
theorem formula_top {a0 : List QSym} (hb : signB a0 = true) {ws : QWs} (hw : WOk ws) (hl : ws.length ≤ 900000) : formula_Reader_formula_1 a0 ws false = (lp formula_Reader_formula_1_L0 (fuel + 1) (sPart a0 ws false [] [])).bind fun r => some (r.1, r.2.2.2.2, r.2.1, r.2.2.1, r.2.2.2.1) := by
  obtain ⟨r, g1, g2⟩ := reader_atom hb false hw hl
  rw [lp_succ]
  unfold formula_Reader_formula_1
  generalize lp formula_Reader_formula_1_L0 fuel = rec
  unfold formula_Reader_formula_1_L0 sPart
  simp only [caseS, List.nil_append, List.length_nil, Nat.zero_add]
  cases h1 : isP [126] ws with
  | some ws1 =>
    simp only [reader_is, h1, Option.bind_some, cond_true]
    rw [room_ok (by simp), cond_true]
    rfl
  | none =>
    cases h2 : bindP ws with
    | some p =>
      simp only [reader_is, h1, reader_binder hw, h2, Option.bind_some, cond_true, cond_false]
      rw [room_ok (by simp), cond_true]
      rfl
    | none =>
      cases h3 : isP [40] ws with
      | some ws1 =>
        simp only [reader_is, h1, reader_binder hw, h2, h3, Option.bind_some, cond_true, cond_false]
        rw [room_ok (by simp), cond_true, room_ok (by simp), cond_true]
        rfl
      | none =>
        simp only [reader_is, h1, reader_binder hw, h2, h3, g1, Option.bind_some, cond_false]
        cases r.1 with
        | true =>
          simp only [cond_true]
          rw [room_ok (by simp), cond_true]
          rfl
        | false => rfl
def formP (a0 : List QSym) (ws : QWs) : Option (Fm × Bool × QWs) := formN a0 (ws.length + 1) ws
def readR (a0 : List QSym) (ws : QWs) : Int × List QNode := cond (!sigB a0) (2200, []) (match formP a0 ws with
  | none => (2200, [])
  | some p => cond (decide (p.2.2.length > 0)) (2200, []) (cond p.2.1 (2201, []) (cond (decide (p.1.flat.length > 40)) (2201, []) (0, p.1.flat))))
theorem sigB_sign {a0 : List QSym} (h : sigB a0 = true) : signB a0 = true := by
  unfold sigB at h
  rw [Bool.and_eq_true] at h
  exact h.1
theorem formula_Read_eq (a0 : List QSym) {ws : QWs} (hw : WOk ws) (hl : ws.length ≤ 100000) : formula_Read a0 ws = some (readR a0 ws) := by
  unfold formula_Read readR
  rw [formula_SigMay_eq, Option.bind_some]
  cases hs : sigB a0 with
  | false => rfl
  | true =>
    have hb := sigB_sign hs
    rw [Bool.not_true, cond_false, cond_false, formula_top hb hw (by omega)]
    have key := machine hb (ws.length + 1) ws false [] [] (by omega) hw (by simp; omega) (by simp; omega)
    unfold formP
    cases hf : formN a0 (ws.length + 1) ws with
    | none =>
      rw [hf] at key
      obtain ⟨c, hc, r, k1, k2⟩ := key
      have := k2 (fuel + 1 - c)
      rw [show fuel + 1 - c + c = fuel + 1 from by unfold fuel; omega] at this
      rw [this, Option.bind_some, Option.bind_some]
      simp only [k1]
      rfl
    | some p =>
      rw [hf] at key
      obtain ⟨c, hc, k1⟩ := key
      have hle := (form_suf _ _ hf).2.1
      have := k1 (fuel + 1 - c)
      rw [show fuel + 1 - c + c = fuel + 1 from by unfold fuel; omega, show fuel + 1 - c = (fuel - c) + 1 from by unfold fuel; omega, read_end] at this
      rw [this, Option.bind_some, Option.bind_some]
      simp only [Bool.not_true, cond_false, Bool.false_or, List.nil_append]
      have e1 : decide (((List.length p.2.2 : Nat) : Int) > 0) = decide (p.2.2.length > 0) := decide_eq_decide.2 ⟨fun h => by omega, fun h => by omega⟩
      have e2 : decide (((List.length p.1.flat : Nat) : Int) > 40) = decide (p.1.flat.length > 40) := decide_eq_decide.2 ⟨fun h => by omega, fun h => by omega⟩
      rw [e1, e2]
      cases decide (p.2.2.length > 0) with
      | true => rfl
      | false =>
        cases p.2.1 with
        | true => rfl
        | false => cases decide (p.1.flat.length > 40) <;> rfl
theorem wordP_ok {s rest : Str} {w : QWord} (h : wordP s = some (w, rest)) : w.1 = 1 → ∃ d, w.2 = 88 :: d ∧ (∀ c ∈ d, digB c = true) ∧ d.length ≤ 2 ∧ numV d ≤ 23 := by
  intro hk
  unfold wordP at h
  cases s with
  | nil => cases h
  | cons c r =>
    simp only at h
    cases h1 : letB c with
    | true =>
      rw [h1, cond_true] at h
      cases h2 : decide (((c :: r).takeWhile (runP true)).length ≤ 8) with
      | false => rw [h2] at h; cases h
      | true =>
        rw [h2, cond_true] at h
        injection h with h; injection h with h _
        subst h
        cases hk
    | false =>
      rw [h1, cond_false] at h
      cases h2 : (c == 88) with
      | true =>
        rw [h2, cond_true] at h
        cases h3 : (numB (r.takeWhile (runP false)) 2 && decide (numV (r.takeWhile (runP false)) ≤ 23)) with
        | false => rw [h3] at h; cases h
        | true =>
          rw [h3, cond_true] at h
          injection h with h; injection h with h _
          subst h
          rw [Bool.and_eq_true, decide_eq_true_eq] at h3
          have hc : c = 88 := by simpa using h2
          exact ⟨r.takeWhile (runP false), by rw [hc], digits_all r, numB_len h3.1, h3.2⟩
      | false =>
        rw [h2, cond_false] at h
        cases h3 : digB c with
        | true =>
          rw [h3, cond_true] at h
          cases h4 : numB ((c :: r).takeWhile (runP false)) 4 with
          | false => rw [h4] at h; cases h
          | true =>
            rw [h4, cond_true] at h
            injection h with h; injection h with h _
            subst h
            cases hk
        | false =>
          rw [h3, cond_false] at h
          cases h4 : ((c :: r).take 2 == [45, 62]) with
          | true =>
            rw [h4, cond_true] at h
            injection h with h; injection h with h _
            subst h
            cases hk
          | false =>
            rw [h4, cond_false] at h
            cases h5 : markB c with
            | false => rw [h5] at h; cases h
            | true =>
              rw [h5, cond_true] at h
              injection h with h; injection h with h _
              subst h
              cases hk
theorem lexN_ok : (n : Nat) → (s : Str) → {ws : QWs} → lexN n s = some ws → WOk ws ∧ ws.length ≤ n
  | 0, s, ws, h => by
    injection h with h; subst h
    exact ⟨(fun w hw => by cases hw), by simp⟩
  | n + 1, s, ws, h => by
    unfold lexN at h
    cases he : s.dropWhile (· == 32) with
    | nil =>
      rw [he] at h
      injection h with h; subst h
      exact ⟨(fun w hw => by cases hw), by simp⟩
    | cons c r =>
      rw [he] at h
      simp only at h
      cases hw : wordP (c :: r) with
      | none => rw [hw] at h; cases h
      | some p =>
        obtain ⟨w, rest⟩ := p
        rw [hw] at h
        simp only [Option.map_eq_some_iff] at h
        obtain ⟨vs, hv, rfl⟩ := h
        obtain ⟨h1, h2⟩ := lexN_ok n rest hv
        refine ⟨fun x hx => ?_, by simp; omega⟩
        rcases List.mem_cons.1 hx with rfl | hx
        · exact wordP_ok hw
        · exact h1 x hx
def parseR (a0 : List QSym) (t : Str) : Int × List QNode := cond ((lexR t).1 != 0) (2200, []) (readR a0 (lexR t).2)
theorem lexR_ok (t : Str) : WOk (lexR t).2 ∧ (lexR t).2.length ≤ 2048 := by
  unfold lexR
  by_cases h : t.length > 2048
  · rw [decide_eq_true h]
    exact ⟨(fun w hw => by cases hw), by simp⟩
  · rw [decide_eq_false h, cond_false]
    cases hl : lexP t with
    | none => exact ⟨(fun w hw => by cases hw), by simp⟩
    | some ws =>
      obtain ⟨h1, h2⟩ := lexN_ok _ _ hl
      exact ⟨h1, by simp; omega⟩
theorem formula_Parse_eq (a0 : List QSym) (t : Str) : formula_Parse a0 t = some (parseR a0 t) := by
  unfold formula_Parse parseR
  rw [lex_Lex_eq, Option.bind_some]
  cases ((lexR t).1 != 0) with
  | true => rfl
  | false =>
    obtain ⟨h1, h2⟩ := lexR_ok t
    rw [cond_false, cond_false, formula_Read_eq a0 h1 (by omega)]
    rfl
end
end Go.Abs.Q
namespace Go.Abs.Q
open Go Go.Abs
section
theorem isP_kind {m : Str} {w : QWord} (ws : QWs) (h : w.1 ≠ 3) : isP m (w :: ws) = none := by
  unfold isP
  dsimp only
  rw [show (w.1 == 3) = false from by simpa using h, Bool.false_and]
  rfl
theorem isP_text {m t : Str} (ws : QWs) (h : t ≠ m) : isP m ((3, t) :: ws) = none := by
  unfold isP
  dsimp only
  rw [show (t == m) = false from by simpa using h, Bool.and_false]
  rfl
theorem isP_hit (m : Str) (ws : QWs) : isP m ((3, m) :: ws) = some ws := by
  unfold isP
  dsimp only
  rw [show (m == m) = true from by simp]
  rfl
theorem bindP_kind {w : QWord} (ws : QWs) (h : w.1 ≠ 0) : bindP (w :: ws) = none := by
  unfold bindP
  cases ws with
  | nil => rfl
  | cons v ws =>
    dsimp only
    rw [show (w.1 == 0) = false from by simpa using h, Bool.false_and]
    rfl
theorem bindP_name {s : Str} (ws : QWs) (h : bindName s = false) : bindP ((0, s) :: ws) = none := by
  unfold bindName at h
  rw [Bool.or_eq_false_iff] at h
  unfold bindP
  cases ws with
  | nil => rfl
  | cons v ws =>
    dsimp only
    rw [h.1, h.2]
    cases ((0 : Int) == 0 && v.1 == 1) <;> rfl
theorem sigB_name {a0 : List QSym} (h : sigB a0 = true) {i : Nat} {e : QSym} (he : a0[i]? = some e) : bindName e.1 = false := by
  unfold sigB at h
  rw [Bool.and_eq_true, Bool.not_eq_true', List.any_eq_false] at h
  have := h.2 e (List.mem_of_getElem? he)
  simpa using this
def Begins (a0 : List QSym) (ws : QWs) : Prop := ∃ w rest, ws = w :: rest ∧ (w.1 = 1 ∨ (w.1 = 0 ∧ bindName w.2 = false))
theorem Begins.app {a0 : List QSym} {ws vs : QWs} (h : Begins a0 ws) : Begins a0 (ws ++ vs) := by
  obtain ⟨w, rest, rfl, h⟩ := h
  exact ⟨w, rest ++ vs, rfl, h⟩
theorem Begins.none {a0 : List QSym} {ws : QWs} (h : Begins a0 ws) : isP [126] ws = none ∧ bindP ws = none ∧ isP [40] ws = none := by
  obtain ⟨w, rest, rfl, h⟩ := h
  have h3 : w.1 ≠ 3 := by rcases h with h | h <;> omega
  refine ⟨isP_kind _ h3, ?_, isP_kind _ h3⟩
  rcases h with h | ⟨h, h2⟩
  · exact bindP_kind _ (by omega)
  · obtain ⟨w1, w2⟩ := w
    simp only at h h2
    subst h
    exact bindP_name _ h2
theorem piece_begins {a0 : List QSym} (hs : sigB a0 = true) {q : List Int} (hq : sk a0 1 q = some q.length) (f : List Int → QWs) : Begins a0 (pieceW a0 f q) := by
  obtain ⟨x, r, k, rfl, ha, hk⟩ := piece_cases hq
  unfold pieceW
  dsimp only
  by_cases hx : x < 0
  · rw [decide_eq_true hx, cond_true]
    exact ⟨_, _, rfl, .inl rfl⟩
  · obtain ⟨e, he1, he2, he3, hqe⟩ := arity_pos ha hx
    have hnm : nameOf a0 x = e.1 := by unfold nameOf; rw [he2]
    have hn := sigB_name hs he2
    rw [decide_eq_false hx, cond_false, hnm]
    cases r.isEmpty with
    | true => exact ⟨_, _, rfl, .inr ⟨rfl, hn⟩⟩
    | false => exact ⟨_, _, rfl, .inr ⟨rfl, hn⟩⟩
theorem atom_begins {a0 : List QSym} (hs : sigB a0 = true) {xs : List Int} (h : atomB a0 xs = true) : Begins a0 (atomW a0 xs) := by
  obtain ⟨x, r, e, ps, rfl, h0, he, hg, hk, hsb, hl, hc, hn⟩ := atomB_spec h
  have hS := signB_ok hsb
  have hf := cuts_flat r.length r ps (Nat.le_refl _) hc
  unfold atomW
  dsimp only
  by_cases hx : x = 0
  · subst hx
    rw [show (0 : Int).toNat = 0 from rfl, hS.eq] at he
    injection he with he
    subst he
    have hlen : ps.length = 2 := by
      have : (equalsQ.2.2.1 : Int) = 2 := rfl
      omega
    rw [show ((0 : Int) == 0) = true from rfl, cond_true, hc]
    match ps, hlen with
    | [p, q], _ =>
      show Begins a0 ((wordsTs a0 p ++ [(3, [61])]) ++ wordsTs a0 q)
      rw [wordsTs_one (hf.2 p (by simp)).2]
      exact (piece_begins hs (hf.2 p (by simp)).2 _).app.app
  · rw [show (x == 0) = false from by simpa using hx, cond_false]
    have hnm : nameOf a0 x = e.1 := by unfold nameOf; rw [he]
    have hn := sigB_name hs he
    rw [hnm]
    cases r.isEmpty with
    | true => exact ⟨_, _, rfl, .inr ⟨rfl, hn⟩⟩
    | false => exact ⟨_, _, rfl, .inr ⟨rfl, hn⟩⟩
theorem joint_hit {k : Int} (h : k = 2 ∨ k = 3 ∨ k = 4) (ws : QWs) : jointP ((3, joinM k) :: ws) = some (k, ws) := by
  rcases h with rfl | rfl | rfl <;> rfl
theorem form_reads {a0 : List QSym} (hs : sigB a0 = true) : (t : Fm) → t.ok a0 = true → (n : Nat) → (rest : QWs) → (t.words a0 ++ rest).length < n → formN a0 n (t.words a0 ++ rest) = some (t, false, rest)
  | .atom a, h, n, rest, hn => by
    obtain ⟨n, rfl⟩ : ∃ n', n = n' + 1 := ⟨n - 1, by omega⟩
    have h' : atomB a0 a = true := h
    obtain ⟨b1, b2, b3⟩ := ((atom_begins hs h').app (vs := rest)).none
    have e : (Fm.atom a).words a0 ++ rest = atomW a0 a ++ rest := rfl
    rw [e]
    unfold formN
    rw [b1]
    simp only
    rw [b2]
    simp only
    rw [b3]
    simp only
    rw [atom_reads h' rest]
    have := atomB_len h'
    simp only [Option.map_some]
    rw [decide_eq_false (show ¬ (a.length > 49) by omega)]
  | .not f, h, n, rest, hn => by
    obtain ⟨n, rfl⟩ : ∃ n', n = n' + 1 := ⟨n - 1, by omega⟩
    have e : (Fm.not f).words a0 ++ rest = (3, [126]) :: (f.words a0 ++ rest) := rfl
    rw [e] at hn ⊢
    rw [List.length_cons] at hn
    unfold formN
    rw [isP_hit]
    simp only
    rw [form_reads hs f h n rest (by omega)]
    rfl
  | .qu k v f, h, n, rest, hn => by
    obtain ⟨n, rfl⟩ : ∃ n', n = n' + 1 := ⟨n - 1, by omega⟩
    unfold Fm.ok at h
    simp only [Bool.and_eq_true, Bool.or_eq_true, beq_iff_eq, decide_eq_true_eq] at h
    obtain ⟨⟨⟨hq, hv0⟩, hv1⟩, h⟩ := h
    have e : (Fm.qu k v f).words a0 ++ rest = (0, bindT k) :: (1, 88 :: dig2 v.toNat) :: (f.words a0 ++ rest) := by simp [Fm.words]
    rw [e] at hn ⊢
    rw [List.length_cons, List.length_cons] at hn
    have hv := (dig2_ok v.toNat (by omega)).2
    have hb : bindP ((0, bindT k) :: (1, 88 :: dig2 v.toNat) :: (f.words a0 ++ rest)) = some (k, v.toNat, f.words a0 ++ rest) := by
      rcases hq with rfl | rfl
      · show some (5, numV (dig2 v.toNat), f.words a0 ++ rest) = _
        rw [hv]
      · show some (6, numV (dig2 v.toNat), f.words a0 ++ rest) = _
        rw [hv]
    unfold formN
    rw [isP_kind _ (show (0 : Int) ≠ 3 by decide)]
    simp only
    rw [hb]
    simp only
    rw [form_reads hs f h n rest (by omega), Int.toNat_of_nonneg hv0]
    rfl
  | .bin k f g, h, n, rest, hn => by
    obtain ⟨n, rfl⟩ : ∃ n', n = n' + 1 := ⟨n - 1, by omega⟩
    unfold Fm.ok at h
    simp only [Bool.and_eq_true, Bool.or_eq_true, beq_iff_eq] at h
    obtain ⟨⟨hq, hf⟩, hg⟩ := h
    have hq : k = 2 ∨ k = 3 ∨ k = 4 := by rcases hq with (h | h) | h <;> simp [h]
    have e : (Fm.bin k f g).words a0 ++ rest = (3, [40]) :: (f.words a0 ++ ((3, joinM k) :: (g.words a0 ++ ((3, [41]) :: rest)))) := by simp [Fm.words]
    rw [e] at hn ⊢
    simp only [List.length_cons, List.length_append] at hn
    unfold formN
    rw [isP_text _ (by decide)]
    simp only
    rw [bindP_kind _ (by decide)]
    simp only
    rw [isP_hit]
    simp only
    rw [form_reads hs f hf n _ (by simp; omega)]
    simp only
    rw [joint_hit hq]
    simp only
    rw [form_reads hs g hg n _ (by simp; omega)]
    simp only
    rw [isP_hit]
    rfl
theorem parse_text {a0 : List QSym} (hs : sigB a0 = true) {t : Fm} (h : t.ok a0 = true) (hl : t.flat.length ≤ 40) (ht : (t.text a0).length ≤ 2048) : parseR a0 (t.text a0) = (0, t.flat) := by
  have hx : lexR (t.text a0) = (0, t.words a0) := by
    unfold lexR
    rw [decide_eq_false (show ¬ ((t.text a0).length > 2048) by omega), cond_false, Fm.lexed h]
  unfold parseR
  rw [hx]
  simp only
  unfold readR formP
  have := form_reads hs t h ((t.words a0).length + 1) [] (by simp)
  rw [List.append_nil] at this
  rw [this, hs]
  simp only
  rw [decide_eq_false (show ¬ (t.flat.length > 40) by omega)]
  rfl
theorem flat_rows {a0 : List QSym} : (t : Fm) → t.ok a0 = true → ∀ x ∈ t.flat, x.2.2.length ≤ 49
  | .atom a, h, x, hx => by
    rw [Fm.flat, List.mem_singleton] at hx
    subst hx
    exact atomB_len h
  | .not f, h, x, hx => by
    rcases List.mem_cons.1 hx with rfl | hx
    · simp
    · exact flat_rows f h x hx
  | .qu k v f, h, x, hx => by
    unfold Fm.ok at h
    simp only [Bool.and_eq_true] at h
    rcases List.mem_cons.1 hx with rfl | hx
    · simp
    · exact flat_rows f h.2 x hx
  | .bin k f g, h, x, hx => by
    unfold Fm.ok at h
    simp only [Bool.and_eq_true] at h
    rcases List.mem_cons.1 hx with rfl | hx
    · simp
    · rcases List.mem_append.1 hx with hx | hx
      · exact flat_rows f h.1.2 x hx
      · exact flat_rows g h.2 x hx
theorem same_flat {a0 : List QSym} {t : Fm} (h : t.ok a0 = true) (hl : t.flat.length ≤ 40) : law0_SameNodes t.flat t.flat = some true := by
  rw [law0_SameNodes_eq (by unfold maxLen; omega) (fun x hx => by have := flat_rows t h x hx; unfold maxLen; omega)]
  simp
end
end Go.Abs.Q
namespace Go.Abs.Q
open Go Go.Abs
section
theorem nodes_ok {a0 : List QSym} : (t : Fm) → t.ok a0 = true → (t.flat.all fun x => decide (0 ≤ partN x.1) && nodeB a0 x) = true
  | .atom a, h => by
    have h : atomB a0 a = true := h
    show ((decide (0 ≤ partN 0) && nodeB a0 (0, 0, a)) && true) = true
    unfold nodeB
    dsimp only
    rw [h]
    rfl
  | .not f, h => by
    show ((decide (0 ≤ partN 1) && nodeB a0 (1, 0, [])) && f.flat.all _) = true
    rw [nodes_ok f h]
    rfl
  | .qu k v f, h => by
    unfold Fm.ok at h
    simp only [Bool.and_eq_true, Bool.or_eq_true, beq_iff_eq, decide_eq_true_eq] at h
    obtain ⟨⟨⟨hq, hv0⟩, hv1⟩, h⟩ := h
    show ((decide (0 ≤ partN k) && nodeB a0 (k, v, [])) && f.flat.all _) = true
    rw [nodes_ok f h]
    unfold nodeB
    dsimp only
    rw [decide_eq_true hv0, decide_eq_true hv1]
    rcases hq with rfl | rfl <;> rfl
  | .bin k f g, h => by
    unfold Fm.ok at h
    simp only [Bool.and_eq_true, Bool.or_eq_true, beq_iff_eq] at h
    obtain ⟨⟨hq, hf⟩, hg⟩ := h
    show ((decide (0 ≤ partN k) && nodeB a0 (k, 0, [])) && (f.flat ++ g.flat).all _) = true
    rw [List.all_append, nodes_ok f hf, nodes_ok g hg]
    unfold nodeB
    rcases hq with (rfl | rfl) | rfl <;> rfl
theorem fmay_flat {a0 : List QSym} (hs : sigB a0 = true) {t : Fm} (h : t.ok a0 = true) (hl : t.flat.length ≤ 40) : fmayB a0 t.flat = true := by
  unfold fmayB
  rw [hs, decide_eq_true hl, skipN_walk, nodes_ok t h]
  have := skipN_flat t h 0 []
  rw [List.append_nil] at this
  rw [show (1 : Nat) = 0 + 1 from rfl, this]
  simp [skipN]
end
end Go.Abs.Q
namespace Go.Abs.Q
open Go Go.Abs
section
theorem sk_app {a0 : List QSym} : {xs : List Int} → {n m : Nat} → {ys : List Int} → sk a0 n xs = some xs.length → sk a0 m ys = some ys.length → sk a0 (n + m) (xs ++ ys) = some (xs ++ ys).length
  | [], 0, m, ys, _, h => by rw [Nat.zero_add]; exact h
  | [], n + 1, m, ys, h, _ => by simp [sk] at h
  | x :: xs, 0, m, ys, h, _ => by simp [sk] at h
  | x :: xs, n + 1, m, ys, h, h' => by
    unfold sk at h
    cases ha : arity a0 x with
    | none => rw [ha] at h; cases h
    | some k =>
      rw [ha] at h
      simp only [Option.map_eq_some_iff, List.length_cons] at h
      obtain ⟨j, hj, hjl⟩ := h
      have hj2 : j = xs.length := by omega
      subst hj2
      have ih := sk_app hj h'
      rw [show n + 1 + m = (n + m) + 1 from by omega, List.cons_append]
      unfold sk
      rw [ha]
      simp only
      rw [show n + m + k = n + k + m from by omega, ih]
      rfl
theorem args_sound {a0 : List QSym} {tp : QWs → Option (List Int × QWs)} (hs : ∀ ws t ws', tp ws = some (t, ws') → Suf ws' ws) (ht : ∀ ws t ws', WOk ws → tp ws = some (t, ws') → sk a0 1 t = some t.length) : (m : Nat) → (b : Bool) → (ws : QWs) → {p : List Int × QWs} → WOk ws → argsP tp m b ws = some p → sk a0 m p.1 = some p.1.length
  | 0, b, ws, p, _, h => by injection h with h; subst h; rfl
  | m + 1, b, ws, p, hw, h => by
    unfold argsP at h
    cases h1 : isP (cond b [40] [44]) ws with
    | none => rw [h1] at h; cases h
    | some ws1 =>
      rw [h1] at h
      obtain ⟨w, rfl⟩ := isP_suf h1
      simp only at h
      cases h2 : tp ws1 with
      | none => rw [h2] at h; cases h
      | some q =>
        obtain ⟨t, ws2⟩ := q
        rw [h2] at h
        simp only [Option.map_eq_some_iff] at h
        obtain ⟨q, hq, rfl⟩ := h
        have e1 := ht _ _ _ hw.tail h2
        have e2 := args_sound hs ht m false ws2 ((hs _ _ _ h2).wok hw.tail) hq
        have := sk_app e1 e2
        rw [Nat.add_comm] at this
        exact this
theorem behind_sound {a0 : List QSym} {tp : QWs → Option (List Int × QWs)} (hs : ∀ ws t ws', tp ws = some (t, ws') → Suf ws' ws) (ht : ∀ ws t ws', WOk ws → tp ws = some (t, ws') → sk a0 1 t = some t.length) {c : Int} {ws : QWs} {p : List Int × QWs} (hw : WOk ws) (h : behindP a0 tp c ws = some p) : ∃ as, p.1 = c :: as ∧ sk a0 (ariI a0 c) as = some as.length := by
  unfold behindP at h
  cases h1 : argsP tp (ariI a0 c) true ws with
  | none => rw [h1] at h; cases h
  | some q =>
    obtain ⟨as, ws1⟩ := q
    have e := args_sound hs ht _ _ _ hw h1
    rw [h1] at h
    simp only at h e
    cases h2 : (ariI a0 c == 0) with
    | true => rw [h2] at h; injection h with h; subst h; exact ⟨as, rfl, e⟩
    | false =>
      rw [h2, cond_false, Option.map_eq_some_iff] at h
      obtain ⟨ws2, h3, rfl⟩ := h
      exact ⟨as, rfl, e⟩
theorem arity_of {a0 : List QSym} {c : Int} {e : QSym} (h0 : 0 ≤ c) (he : a0[c.toNat]? = some e) (hk : (kindI a0 c == 0) = false) : arity a0 c = some (ariI a0 c) := by
  unfold kindI at hk
  rw [he] at hk
  unfold arity ariI
  rw [decide_eq_false (show ¬ c < 0 by omega), cond_false, he]
  simp only at hk ⊢
  rw [hk]
  rfl
theorem termN_sound {a0 : List QSym} : (n : Nat) → (ws : QWs) → {t : List Int} → {ws' : QWs} → WOk ws → termN a0 n ws = some (t, ws') → sk a0 1 t = some t.length
  | 0, ws, t, ws', _, hp => by cases hp
  | n + 1, ws, t, ws', hw, hp => by
    unfold termN at hp
    cases h1 : varP ws with
    | some p =>
      obtain ⟨v, ws1⟩ := p
      obtain ⟨w, hw1, hw2, hw3⟩ := varP_suf h1
      rw [h1] at hp
      injection hp with hp; injection hp with hp _
      obtain ⟨d, hd, -, -, h4⟩ := hw w (by rw [hw1]; exact List.mem_cons_self ..) hw2
      simp only at hw3
      rw [hd] at hw3
      have hv : v ≤ 23 := by rw [hw3]; exact h4
      subst hp
      unfold sk arity
      rw [decide_eq_true (show (-1 - (v : Int)) < 0 by omega), cond_true, decide_eq_true (show -24 ≤ (-1 - (v : Int)) by omega)]
      rfl
    | none =>
      rw [h1] at hp
      simp only at hp
      cases h2 : symP a0 ws with
      | none => rw [h2] at hp; cases hp
      | some p =>
        obtain ⟨c, ws1⟩ := p
        obtain ⟨w, hw1, hw2, hw3, -⟩ := symP_suf h2
        simp only at hw1 hw2 hw3
        have hcm := codeP_mem (a0 := a0) (s := w.2) (by omega)
        rw [← hw3] at hcm
        obtain ⟨e, he1, he2, -⟩ := hcm
        rw [h2] at hp
        simp only at hp
        cases hk : (kindI a0 c == 0) with
        | true => rw [hk] at hp; cases hp
        | false =>
          rw [hk, cond_false] at hp
          subst hw1
          obtain ⟨as, e1, e2⟩ := behind_sound (fun ws t ws' h => (term_suf n ws h).1) (fun ws t ws' hw h => termN_sound n ws hw h) hw.tail hp
          simp only at e1
          subst e1
          unfold sk
          rw [arity_of hw2 he1 hk]
          simp only
          rw [Nat.zero_add, e2]
          rfl
theorem termP_sound {a0 : List QSym} {ws : QWs} {t : List Int} {ws' : QWs} (hw : WOk ws) (h : termP a0 ws = some (t, ws')) : sk a0 1 t = some t.length := termN_sound _ ws hw h
theorem atom_mk {a0 : List QSym} (hb : signB a0 = true) {c : Int} {e : QSym} {as : List Int} (h0 : 0 ≤ c) (he : a0[c.toNat]? = some e) (hk : (e.2.1 == 0) = true) {n : Nat} (hn : (n : Int) = e.2.2.1) (hs : sk a0 n as = some as.length) (hl : (c :: as).length ≤ 49) : atomB a0 (c :: as) = true := by
  obtain ⟨ps, hc, hp⟩ := cuts_sk n as hs
  rw [List.length_cons] at hl
  unfold atomB
  dsimp only
  rw [decide_eq_true h0, he]
  simp only
  unfold beginsB
  rw [hb, decide_eq_true (show as.length ≤ 48 by omega), hc, hk]
  simp [hp, hn]
theorem eqP_sound {a0 : List QSym} (hb : signB a0 = true) {ws : QWs} {p : List Int × QWs} (hw : WOk ws) (h : eqP a0 ws = some p) (hl : p.1.length ≤ 49) : atomB a0 p.1 = true := by
  unfold eqP at h
  cases h1 : termP a0 ws with
  | none => rw [h1] at h; cases h
  | some q =>
    obtain ⟨t, ws1⟩ := q
    have s1 := termP_sound hw h1
    rw [h1] at h
    simp only at h
    cases h2 : isP [61] ws1 with
    | none => rw [h2] at h; cases h
    | some ws2 =>
      have hw1 := (termP_suf h1).1.wok hw
      obtain ⟨w, rfl⟩ := isP_suf h2
      rw [h2] at h
      simp only [Option.map_eq_some_iff] at h
      obtain ⟨q, hq, rfl⟩ := h
      obtain ⟨u, ws3⟩ := q
      have s2 := termP_sound hw1.tail hq
      exact atom_mk hb (c := 0) (e := equalsQ) (Int.le_refl _) (signB_ok hb).eq rfl (n := 2) rfl (sk_app s1 s2) hl
theorem atomP_sound {a0 : List QSym} (hb : signB a0 = true) {ws : QWs} {p : List Int × QWs} (hw : WOk ws) (h : atomP a0 ws = some p) (hl : p.1.length ≤ 49) : atomB a0 p.1 = true := by
  unfold atomP at h
  cases h1 : symP a0 ws with
  | none => rw [h1] at h; exact eqP_sound hb hw h hl
  | some q =>
    obtain ⟨c, ws1⟩ := q
    obtain ⟨w, hw1, hw2, hw3, -⟩ := symP_suf h1
    simp only at hw1 hw2 hw3
    have hcm := codeP_mem (a0 := a0) (s := w.2) (by omega)
    rw [← hw3] at hcm
    obtain ⟨e, he1, he2, -⟩ := hcm
    rw [h1] at h
    simp only at h
    cases hk : (kindI a0 c == 0) with
    | false => rw [hk] at h; exact eqP_sound hb hw h hl
    | true =>
      rw [hk, cond_true] at h
      subst hw1
      obtain ⟨as, e1, e2⟩ := behind_sound (fun ws t ws' h => (termP_suf h).1) (fun ws t ws' hw h => termP_sound hw h) hw.tail h
      have hat := (signB_ok hb).at he1
      rw [e1] at hl ⊢
      refine atom_mk hb hw2 he1 ?_ (n := ariI a0 c) ?_ e2 hl
      · unfold kindI at hk
        rw [he1] at hk
        exact hk
      · unfold ariI
        rw [he1]
        simp only
        rw [Int.toNat_of_nonneg hat.2.2.2.2.1]
theorem form_sound {a0 : List QSym} (hb : signB a0 = true) : (n : Nat) → (ws : QWs) → {p : Fm × Bool × QWs} → WOk ws → formN a0 n ws = some p → p.2.1 = false → p.1.ok a0 = true
  | 0, ws, p, _, h, _ => by cases h
  | n + 1, ws, p, hw, h, hf => by
    unfold formN at h
    cases h1 : isP [126] ws with
    | some ws1 =>
      obtain ⟨w, rfl⟩ := isP_suf h1
      rw [h1] at h
      simp only [Option.map_eq_some_iff] at h
      obtain ⟨q, hq, rfl⟩ := h
      have ih := form_sound hb n ws1 (p := q) hw.tail hq hf
      exact ih
    | none =>
      rw [h1] at h
      simp only at h
      cases h2 : bindP ws with
      | some q =>
        obtain ⟨k, v, ws1⟩ := q
        obtain ⟨w, v', hw1, hk, hv1, hv2⟩ := bindP_suf h2
        simp only at hw1 hk hv2
        subst hw1
        obtain ⟨d, hd, -, -, h4⟩ := hw v' (by simp) hv1
        rw [hd] at hv2
        have hv : v ≤ 23 := by rw [hv2]; exact h4
        rw [h2] at h
        simp only [Option.map_eq_some_iff] at h
        obtain ⟨q, hq, rfl⟩ := h
        have ih := form_sound hb n ws1 hw.tail.tail hq hf
        show ((k == 5 || k == 6) && decide (0 ≤ (v : Int)) && decide ((v : Int) ≤ 23) && q.1.ok a0) = true
        rw [ih, decide_eq_true (show 0 ≤ (v : Int) by omega), decide_eq_true (show (v : Int) ≤ 23 by omega)]
        rcases hk with rfl | rfl <;> rfl
      | none =>
        rw [h2] at h
        simp only at h
        cases h3 : isP [40] ws with
        | none =>
          rw [h3] at h
          simp only [Option.map_eq_some_iff] at h
          obtain ⟨q, hq, rfl⟩ := h
          simp only [decide_eq_false_iff_not] at hf
          exact atomP_sound hb hw hq (by omega)
        | some ws1 =>
          obtain ⟨w, rfl⟩ := isP_suf h3
          rw [h3] at h
          simp only at h
          cases h4 : formN a0 n ws1 with
          | none => rw [h4] at h; cases h
          | some q =>
            obtain ⟨f, l1, ws2⟩ := q
            have s1 := form_suf n ws1 h4
            have ih1 := fun hl => form_sound hb n ws1 hw.tail h4 hl
            rw [h4] at h
            simp only at h ih1 s1
            cases h5 : jointP ws2 with
            | none => rw [h5] at h; cases h
            | some q =>
              obtain ⟨k, ws3⟩ := q
              obtain ⟨⟨w2, hw2⟩, hk⟩ := jointP_suf h5
              simp only at hw2 hk
              subst hw2
              have hw3 : WOk ws3 := (s1.1.wok hw.tail).tail
              rw [h5] at h
              simp only at h
              cases h6 : formN a0 n ws3 with
              | none => rw [h6] at h; cases h
              | some q =>
                obtain ⟨g, l2, ws4⟩ := q
                have ih2 := fun hl => form_sound hb n ws3 hw3 h6 hl
                rw [h6] at h
                simp only [Option.map_eq_some_iff] at h ih2
                obtain ⟨ws5, h7, rfl⟩ := h
                simp only [Bool.or_eq_false_iff] at hf
                show ((k == 2 || k == 3 || k == 4) && f.ok a0 && g.ok a0) = true
                rw [ih1 hf.1, ih2 hf.2]
                rcases hk with rfl | rfl | rfl <;> rfl
theorem parse_ok {a0 : List QSym} {t : Str} (h : (parseR a0 t).1 = 0) : sigB a0 = true ∧ ∃ f : Fm, (parseR a0 t).2 = f.flat ∧ f.ok a0 = true ∧ f.flat.length ≤ 40 := by
  unfold parseR at h ⊢
  obtain ⟨hw, -⟩ := lexR_ok t
  cases h1 : ((lexR t).1 != 0) with
  | true => rw [h1] at h; cases h
  | false =>
    rw [h1, cond_false] at h
    rw [cond_false]
    unfold readR at h ⊢
    cases hs : sigB a0 with
    | false => rw [hs] at h; cases h
    | true =>
      refine ⟨rfl, ?_⟩
      rw [hs, Bool.not_true, cond_false] at h
      rw [Bool.not_true, cond_false]
      cases hf : formP a0 (lexR t).2 with
      | none => rw [hf] at h; cases h
      | some p =>
        rw [hf] at h
        simp only at h ⊢
        cases h2 : decide (p.2.2.length > 0) with
        | true => rw [h2] at h; cases h
        | false =>
          rw [h2, cond_false] at h
          rw [cond_false]
          cases h3 : p.2.1 with
          | true => rw [h3] at h; cases h
          | false =>
            rw [h3, cond_false] at h
            rw [cond_false]
            by_cases h4 : p.1.flat.length > 40
            · rw [decide_eq_true h4] at h; cases h
            · rw [decide_eq_false h4, cond_false]
              exact ⟨p.1, rfl, form_sound (sigB_sign hs) _ _ hw hf h3, by omega⟩
theorem parse_err {a0 : List QSym} {t : Str} (h : (parseR a0 t).1 ≠ 0) : (parseR a0 t).2 = [] := by
  unfold parseR at h ⊢
  cases h1 : ((lexR t).1 != 0) with
  | true => rfl
  | false =>
    rw [h1, cond_false] at h
    rw [cond_false]
    unfold readR at h ⊢
    cases hs : sigB a0 with
    | false => rfl
    | true =>
      rw [hs, Bool.not_true, cond_false] at h
      rw [Bool.not_true, cond_false]
      cases hf : formP a0 (lexR t).2 with
      | none => rfl
      | some p =>
        rw [hf] at h
        simp only at h ⊢
        cases h2 : decide (p.2.2.length > 0) with
        | true => rfl
        | false =>
          rw [h2, cond_false] at h
          rw [cond_false]
          cases h3 : p.2.1 with
          | true => rfl
          | false =>
            rw [h3, cond_false] at h
            rw [cond_false]
            cases h4 : decide (p.1.flat.length > 40) with
            | true => rfl
            | false => rw [h4] at h; exact absurd rfl h
theorem law22_FormulaAgain_true (a0 : List QSym) (t : Str) : law22_FormulaAgain a0 t = some true := by
  unfold law22_FormulaAgain
  rw [law22_awake_eq, Option.bind_some, Bool.not_true, cond_false, formula_Parse_eq, Option.bind_some]
  unfold law0_Num
  simp only [Option.bind_some]
  by_cases h : (parseR a0 t).1 = 0
  · obtain ⟨hs, f, h1, h2, h3⟩ := parse_ok h
    rw [h, h1, show ((0 : Int) != 0) = false from rfl, cond_false, formula_Show_tree (fmay_flat hs h2 h3) h2, Option.bind_some]
    simp only
    rw [show ((0 : Int) != 0) = false from rfl, cond_false, formula_May_eq, fmay_flat hs h2 h3, Option.bind_some, Bool.not_true, cond_false]
    by_cases hl : (f.text a0).length > 2048
    · rw [decide_eq_true (show ((List.length (f.text a0) : Nat) : Int) > 2048 by omega)]; rfl
    · rw [decide_eq_false (show ¬ (((List.length (f.text a0) : Nat) : Int) > 2048) by omega), cond_false, formula_Parse_eq, parse_text hs h2 h3 (by omega), Option.bind_some]
      simp only
      rw [formula_Show_tree (fmay_flat hs h2 h3) h2, Option.bind_some, show ((0 : Int) == 0) = true from rfl, cond_true, same_flat h2 h3, Option.bind_some, cond_true]
      simp
  · rw [parse_err h, show ((parseR a0 t).1 != 0) = true from by simpa using h]
    rfl
end
end Go.Abs.Q
