import Derived.Test.YtanopgblnhaigaaDoorQa
/-
  What the functions make of plain values, and what the law says of that.
-/
namespace Go.Abs.Q
open Go Go.Abs
section
theorem formula_top {a0 : List QSym} (hb : signB a0 = true) {ws : QWs} (hw : WOk ws) (hl : ws.length ≤ 900000) : formula_Reader_formula_1 a0 ws false = (lp formula_Reader_formula_1_L0 (fuel + 1) (sPart a0 ws false [] [])).bind fun r => some (r.1, r.2.2.2.2, r.2.1, r.2.2.1, r.2.2.2.1) := by
  obtain ⟨r, g1, g2⟩ := reader_atom hb false hw hl
  rw [lp_succ]
  unfold formula_Reader_formula_1
  generalize lp formula_Reader_formula_1_L0 fuel = rec
  unfold formula_Reader_formula_1_L0 sPart
  simp only [caseS, List.nil_append, List.length_nil, Nat.zero_add]
  cases h1 : isP [126] ws with
  | some ws1 =>
    simp only [reader_is, h1, Option.bind_some, cond_true]
    rw [room_ok (by simp), cond_true]
    rfl
  | none =>
    cases h2 : bindP ws with
    | some p =>
      simp only [reader_is, h1, reader_binder hw, h2, Option.bind_some, cond_true, cond_false]
      rw [room_ok (by simp), cond_true]
      rfl
    | none =>
      cases h3 : isP [40] ws with
      | some ws1 =>
        simp only [reader_is, h1, reader_binder hw, h2, h3, Option.bind_some, cond_true, cond_false]
        rw [room_ok (by simp), cond_true, room_ok (by simp), cond_true]
        rfl
      | none =>
        simp only [reader_is, h1, reader_binder hw, h2, h3, g1, Option.bind_some, cond_false]
        cases r.1 with
        | true =>
          simp only [cond_true]
          rw [room_ok (by simp), cond_true]
          rfl
        | false => rfl
def formP (a0 : List QSym) (ws : QWs) : Option (Fm × Bool × QWs) := formN a0 (ws.length + 1) ws
def readR (a0 : List QSym) (ws : QWs) : Int × List QNode := cond (!sigB a0) (2200, []) (match formP a0 ws with
  | none => (2200, [])
  | some p => cond (decide (p.2.2.length > 0)) (2200, []) (cond p.2.1 (2201, []) (cond (decide (p.1.flat.length > 40)) (2201, []) (0, p.1.flat))))
theorem sigB_sign {a0 : List QSym} (h : sigB a0 = true) : signB a0 = true := by
  unfold sigB at h
  rw [Bool.and_eq_true] at h
  exact h.1
theorem formula_Read_eq (a0 : List QSym) {ws : QWs} (hw : WOk ws) (hl : ws.length ≤ 100000) : formula_Read a0 ws = some (readR a0 ws) := by
  unfold formula_Read readR
  rw [formula_SigMay_eq, Option.bind_some]
  cases hs : sigB a0 with
  | false => rfl
  | true =>
    have hb := sigB_sign hs
    rw [Bool.not_true, cond_false, cond_false, formula_top hb hw (by omega)]
    have key := machine hb (ws.length + 1) ws false [] [] (by omega) hw (by simp; omega) (by simp; omega)
    unfold formP
    cases hf : formN a0 (ws.length + 1) ws with
    | none =>
      rw [hf] at key
      obtain ⟨c, hc, r, k1, k2⟩ := key
      have := k2 (fuel + 1 - c)
      rw [show fuel + 1 - c + c = fuel + 1 from by unfold fuel; omega] at this
      rw [this, Option.bind_some, Option.bind_some]
      simp only [k1]
      rfl
    | some p =>
      rw [hf] at key
      obtain ⟨c, hc, k1⟩ := key
      have hle := (form_suf _ _ hf).2.1
      have := k1 (fuel + 1 - c)
      rw [show fuel + 1 - c + c = fuel + 1 from by unfold fuel; omega, show fuel + 1 - c = (fuel - c) + 1 from by unfold fuel; omega, read_end] at this
      rw [this, Option.bind_some, Option.bind_some]
      simp only [Bool.not_true, cond_false, Bool.false_or, List.nil_append]
      have e1 : decide (((List.length p.2.2 : Nat) : Int) > 0) = decide (p.2.2.length > 0) := decide_eq_decide.2 ⟨fun h => by omega, fun h => by omega⟩
      have e2 : decide (((List.length p.1.flat : Nat) : Int) > 40) = decide (p.1.flat.length > 40) := decide_eq_decide.2 ⟨fun h => by omega, fun h => by omega⟩
      rw [e1, e2]
      cases decide (p.2.2.length > 0) with
      | true => rfl
      | false =>
        cases p.2.1 with
        | true => rfl
        | false => cases decide (p.1.flat.length > 40) <;> rfl
theorem wordP_ok {s rest : Str} {w : QWord} (h : wordP s = some (w, rest)) : w.1 = 1 → ∃ d, w.2 = 88 :: d ∧ (∀ c ∈ d, digB c = true) ∧ d.length ≤ 2 ∧ numV d ≤ 23 := by
  intro hk
  unfold wordP at h
  cases s with
  | nil => cases h
  | cons c r =>
    simp only at h
    cases h1 : letB c with
    | true =>
      rw [h1, cond_true] at h
      cases h2 : decide (((c :: r).takeWhile (runP true)).length ≤ 8) with
      | false => rw [h2] at h; cases h
      | true =>
        rw [h2, cond_true] at h
        injection h with h; injection h with h _
        subst h
        cases hk
    | false =>
      rw [h1, cond_false] at h
      cases h2 : (c == 88) with
      | true =>
        rw [h2, cond_true] at h
        cases h3 : (numB (r.takeWhile (runP false)) 2 && decide (numV (r.takeWhile (runP false)) ≤ 23)) with
        | false => rw [h3] at h; cases h
        | true =>
          rw [h3, cond_true] at h
          injection h with h; injection h with h _
          subst h
          rw [Bool.and_eq_true, decide_eq_true_eq] at h3
          have hc : c = 88 := by simpa using h2
          exact ⟨r.takeWhile (runP false), by rw [hc], digits_all r, numB_len h3.1, h3.2⟩
      | false =>
        rw [h2, cond_false] at h
        cases h3 : digB c with
        | true =>
          rw [h3, cond_true] at h
          cases h4 : numB ((c :: r).takeWhile (runP false)) 4 with
          | false => rw [h4] at h; cases h
          | true =>
            rw [h4, cond_true] at h
            injection h with h; injection h with h _
            subst h
            cases hk
        | false =>
          rw [h3, cond_false] at h
          cases h4 : ((c :: r).take 2 == [45, 62]) with
          | true =>
            rw [h4, cond_true] at h
            injection h with h; injection h with h _
            subst h
            cases hk
          | false =>
            rw [h4, cond_false] at h
            cases h5 : markB c with
            | false => rw [h5] at h; cases h
            | true =>
              rw [h5, cond_true] at h
              injection h with h; injection h with h _
              subst h
              cases hk
theorem lexN_ok : (n : Nat) → (s : Str) → {ws : QWs} → lexN n s = some ws → WOk ws ∧ ws.length ≤ n
  | 0, s, ws, h => by
    injection h with h; subst h
    exact ⟨(fun w hw => by cases hw), by simp⟩
  | n + 1, s, ws, h => by
    unfold lexN at h
    cases he : s.dropWhile (· == 32) with
    | nil =>
      rw [he] at h
      injection h with h; subst h
      exact ⟨(fun w hw => by cases hw), by simp⟩
    | cons c r =>
      rw [he] at h
      simp only at h
      cases hw : wordP (c :: r) with
      | none => rw [hw] at h; cases h
      | some p =>
        obtain ⟨w, rest⟩ := p
        rw [hw] at h
        simp only [Option.map_eq_some_iff] at h
        obtain ⟨vs, hv, rfl⟩ := h
        obtain ⟨h1, h2⟩ := lexN_ok n rest hv
        refine ⟨fun x hx => ?_, by simp; omega⟩
        rcases List.mem_cons.1 hx with rfl | hx
        · exact wordP_ok hw
        · exact h1 x hx
def parseR (a0 : List QSym) (t : Str) : Int × List QNode := cond ((lexR t).1 != 0) (2200, []) (readR a0 (lexR t).2)
theorem lexR_ok (t : Str) : WOk (lexR t).2 ∧ (lexR t).2.length ≤ 2048 := by
  unfold lexR
  by_cases h : t.length > 2048
  · rw [decide_eq_true h]
    exact ⟨(fun w hw => by cases hw), by simp⟩
  · rw [decide_eq_false h, cond_false]
    cases hl : lexP t with
    | none => exact ⟨(fun w hw => by cases hw), by simp⟩
    | some ws =>
      obtain ⟨h1, h2⟩ := lexN_ok _ _ hl
      exact ⟨h1, by simp; omega⟩
theorem formula_Parse_eq (a0 : List QSym) (t : Str) : formula_Parse a0 t = some (parseR a0 t) := by
  unfold formula_Parse parseR
  rw [lex_Lex_eq, Option.bind_some]
  cases ((lexR t).1 != 0) with
  | true => rfl
  | false =>
    obtain ⟨h1, h2⟩ := lexR_ok t
    rw [cond_false, cond_false, formula_Read_eq a0 h1 (by omega)]
    rfl
end
end Go.Abs.Q
namespace Go.Abs.Q
open Go Go.Abs
section
theorem isP_kind {m : Str} {w : QWord} (ws : QWs) (h : w.1 ≠ 3) : isP m (w :: ws) = none := by
  unfold isP
  dsimp only
  rw [show (w.1 == 3) = false from by simpa using h, Bool.false_and]
  rfl
theorem isP_text {m t : Str} (ws : QWs) (h : t ≠ m) : isP m ((3, t) :: ws) = none := by
  unfold isP
  dsimp only
  rw [show (t == m) = false from by simpa using h, Bool.and_false]
  rfl
theorem isP_hit (m : Str) (ws : QWs) : isP m ((3, m) :: ws) = some ws := by
  unfold isP
  dsimp only
  rw [show (m == m) = true from by simp]
  rfl
theorem bindP_kind {w : QWord} (ws : QWs) (h : w.1 ≠ 0) : bindP (w :: ws) = none := by
  unfold bindP
  cases ws with
  | nil => rfl
  | cons v ws =>
    dsimp only
    rw [show (w.1 == 0) = false from by simpa using h, Bool.false_and]
    rfl
theorem bindP_name {s : Str} (ws : QWs) (h : bindName s = false) : bindP ((0, s) :: ws) = none := by
  unfold bindName at h
  rw [Bool.or_eq_false_iff] at h
  unfold bindP
  cases ws with
  | nil => rfl
  | cons v ws =>
    dsimp only
    rw [h.1, h.2]
    cases ((0 : Int) == 0 && v.1 == 1) <;> rfl
theorem sigB_name {a0 : List QSym} (h : sigB a0 = true) {i : Nat} {e : QSym} (he : a0[i]? = some e) : bindName e.1 = false := by
  unfold sigB at h
  rw [Bool.and_eq_true, Bool.not_eq_true', List.any_eq_false] at h
  have := h.2 e (List.mem_of_getElem? he)
  simpa using this
def Begins (a0 : List QSym) (ws : QWs) : Prop := ∃ w rest, ws = w :: rest ∧ (w.1 = 1 ∨ (w.1 = 0 ∧ bindName w.2 = false))
theorem Begins.app {a0 : List QSym} {ws vs : QWs} (h : Begins a0 ws) : Begins a0 (ws ++ vs) := by
  obtain ⟨w, rest, rfl, h⟩ := h
  exact ⟨w, rest ++ vs, rfl, h⟩
theorem Begins.none {a0 : List QSym} {ws : QWs} (h : Begins a0 ws) : isP [126] ws = none ∧ bindP ws = none ∧ isP [40] ws = none := by
  obtain ⟨w, rest, rfl, h⟩ := h
  have h3 : w.1 ≠ 3 := by rcases h with h | h <;> omega
  refine ⟨isP_kind _ h3, ?_, isP_kind _ h3⟩
  rcases h with h | ⟨h, h2⟩
  · exact bindP_kind _ (by omega)
  · obtain ⟨w1, w2⟩ := w
    simp only at h h2
    subst h
    exact bindP_name _ h2
theorem piece_begins {a0 : List QSym} (hs : sigB a0 = true) {q : List Int} (hq : sk a0 1 q = some q.length) (f : List Int → QWs) : Begins a0 (pieceW a0 f q) := by
  obtain ⟨x, r, k, rfl, ha, hk⟩ := piece_cases hq
  unfold pieceW
  dsimp only
  by_cases hx : x < 0
  · rw [decide_eq_true hx, cond_true]
    exact ⟨_, _, rfl, .inl rfl⟩
  · obtain ⟨e, he1, he2, he3, hqe⟩ := arity_pos ha hx
    have hnm : nameOf a0 x = e.1 := by unfold nameOf; rw [he2]
    have hn := sigB_name hs he2
    rw [decide_eq_false hx, cond_false, hnm]
    cases r.isEmpty with
    | true => exact ⟨_, _, rfl, .inr ⟨rfl, hn⟩⟩
    | false => exact ⟨_, _, rfl, .inr ⟨rfl, hn⟩⟩
theorem atom_begins {a0 : List QSym} (hs : sigB a0 = true) {xs : List Int} (h : atomB a0 xs = true) : Begins a0 (atomW a0 xs) := by
  obtain ⟨x, r, e, ps, rfl, h0, he, hg, hk, hsb, hl, hc, hn⟩ := atomB_spec h
  have hS := signB_ok hsb
  have hf := cuts_flat r.length r ps (Nat.le_refl _) hc
  unfold atomW
  dsimp only
  by_cases hx : x = 0
  · subst hx
    rw [show (0 : Int).toNat = 0 from rfl, hS.eq] at he
    injection he with he
    subst he
    have hlen : ps.length = 2 := by
      have : (equalsQ.2.2.1 : Int) = 2 := rfl
      omega
    rw [show ((0 : Int) == 0) = true from rfl, cond_true, hc]
    match ps, hlen with
    | [p, q], _ =>
      show Begins a0 ((wordsTs a0 p ++ [(3, [61])]) ++ wordsTs a0 q)
      rw [wordsTs_one (hf.2 p (by simp)).2]
      exact (piece_begins hs (hf.2 p (by simp)).2 _).app.app
  · rw [show (x == 0) = false from by simpa using hx, cond_false]
    have hnm : nameOf a0 x = e.1 := by unfold nameOf; rw [he]
    have hn := sigB_name hs he
    rw [hnm]
    cases r.isEmpty with
    | true => exact ⟨_, _, rfl, .inr ⟨rfl, hn⟩⟩
    | false => exact ⟨_, _, rfl, .inr ⟨rfl, hn⟩⟩
theorem joint_hit {k : Int} (h : k = 2 ∨ k = 3 ∨ k = 4) (ws : QWs) : jointP ((3, joinM k) :: ws) = some (k, ws) := by
  rcases h with rfl | rfl | rfl <;> rfl
theorem form_reads {a0 : List QSym} (hs : sigB a0 = true) : (t : Fm) → t.ok a0 = true → (n : Nat) → (rest : QWs) → (t.words a0 ++ rest).length < n → formN a0 n (t.words a0 ++ rest) = some (t, false, rest)
  | .atom a, h, n, rest, hn => by
    obtain ⟨n, rfl⟩ : ∃ n', n = n' + 1 := ⟨n - 1, by omega⟩
    have h' : atomB a0 a = true := h
    obtain ⟨b1, b2, b3⟩ := ((atom_begins hs h').app (vs := rest)).none
    have e : (Fm.atom a).words a0 ++ rest = atomW a0 a ++ rest := rfl
    rw [e]
    unfold formN
    rw [b1]
    simp only
    rw [b2]
    simp only
    rw [b3]
    simp only
    rw [atom_reads h' rest]
    have := atomB_len h'
    simp only [Option.map_some]
    rw [decide_eq_false (show ¬ (a.length > 49) by omega)]
  | .not f, h, n, rest, hn => by
    obtain ⟨n, rfl⟩ : ∃ n', n = n' + 1 := ⟨n - 1, by omega⟩
    have e : (Fm.not f).words a0 ++ rest = (3, [126]) :: (f.words a0 ++ rest) := rfl
    rw [e] at hn ⊢
    rw [List.length_cons] at hn
    unfold formN
    rw [isP_hit]
    simp only
    rw [form_reads hs f h n rest (by omega)]
    rfl
  | .qu k v f, h, n, rest, hn => by
    obtain ⟨n, rfl⟩ : ∃ n', n = n' + 1 := ⟨n - 1, by omega⟩
    unfold Fm.ok at h
    simp only [Bool.and_eq_true, Bool.or_eq_true, beq_iff_eq, decide_eq_true_eq] at h
    obtain ⟨⟨⟨hq, hv0⟩, hv1⟩, h⟩ := h
    have e : (Fm.qu k v f).words a0 ++ rest = (0, bindT k) :: (1, 88 :: dig2 v.toNat) :: (f.words a0 ++ rest) := by simp [Fm.words]
    rw [e] at hn ⊢
    rw [List.length_cons, List.length_cons] at hn
    have hv := (dig2_ok v.toNat (by omega)).2
    have hb : bindP ((0, bindT k) :: (1, 88 :: dig2 v.toNat) :: (f.words a0 ++ rest)) = some (k, v.toNat, f.words a0 ++ rest) := by
      rcases hq with rfl | rfl
      · show some (5, numV (dig2 v.toNat), f.words a0 ++ rest) = _
        rw [hv]
      · show some (6, numV (dig2 v.toNat), f.words a0 ++ rest) = _
        rw [hv]
    unfold formN
    rw [isP_kind _ (show (0 : Int) ≠ 3 by decide)]
    simp only
    rw [hb]
    simp only
    rw [form_reads hs f h n rest (by omega), Int.toNat_of_nonneg hv0]
    rfl
  | .bin k f g, h, n, rest, hn => by
    obtain ⟨n, rfl⟩ : ∃ n', n = n' + 1 := ⟨n - 1, by omega⟩
    unfold Fm.ok at h
    simp only [Bool.and_eq_true, Bool.or_eq_true, beq_iff_eq] at h
    obtain ⟨⟨hq, hf⟩, hg⟩ := h
    have hq : k = 2 ∨ k = 3 ∨ k = 4 := by rcases hq with (h | h) | h <;> simp [h]
    have e : (Fm.bin k f g).words a0 ++ rest = (3, [40]) :: (f.words a0 ++ ((3, joinM k) :: (g.words a0 ++ ((3, [41]) :: rest)))) := by simp [Fm.words]
    rw [e] at hn ⊢
    simp only [List.length_cons, List.length_append] at hn
    unfold formN
    rw [isP_text _ (by decide)]
    simp only
    rw [bindP_kind _ (by decide)]
    simp only
    rw [isP_hit]
    simp only
    rw [form_reads hs f hf n _ (by simp; omega)]
    simp only
    rw [joint_hit hq]
    simp only
    rw [form_reads hs g hg n _ (by simp; omega)]
    simp only
    rw [isP_hit]
    rfl
theorem flat_rows {a0 : List QSym} : (t : Fm) → t.ok a0 = true → ∀ x ∈ t.flat, x.2.2.length ≤ 49
  | .atom a, h, x, hx => by
    rw [Fm.flat, List.mem_singleton] at hx
    subst hx
    exact atomB_len h
  | .not f, h, x, hx => by
    rcases List.mem_cons.1 hx with rfl | hx
    · simp
    · exact flat_rows f h x hx
  | .qu k v f, h, x, hx => by
    unfold Fm.ok at h
    simp only [Bool.and_eq_true] at h
    rcases List.mem_cons.1 hx with rfl | hx
    · simp
    · exact flat_rows f h.2 x hx
  | .bin k f g, h, x, hx => by
    unfold Fm.ok at h
    simp only [Bool.and_eq_true] at h
    rcases List.mem_cons.1 hx with rfl | hx
    · simp
    · rcases List.mem_append.1 hx with hx | hx
      · exact flat_rows f h.1.2 x hx
      · exact flat_rows g h.2 x hx
theorem same_flat {a0 : List QSym} {t : Fm} (h : t.ok a0 = true) (hl : t.flat.length ≤ 40) : law0_SameNodes t.flat t.flat = some true := by
  rw [law0_SameNodes_eq (by unfold maxLen; omega) (fun x hx => by have := flat_rows t h x hx; unfold maxLen; omega)]
  simp
end
end Go.Abs.Q
namespace Go.Abs.Q
open Go Go.Abs
section
theorem nodes_ok {a0 : List QSym} : (t : Fm) → t.ok a0 = true → (t.flat.all fun x => decide (0 ≤ partN x.1) && nodeB a0 x) = true
  | .atom a, h => by
    have h : atomB a0 a = true := h
    show ((decide (0 ≤ partN 0) && nodeB a0 (0, 0, a)) && true) = true
    unfold nodeB
    dsimp only
    rw [h]
    rfl
  | .not f, h => by
    show ((decide (0 ≤ partN 1) && nodeB a0 (1, 0, [])) && f.flat.all _) = true
    rw [nodes_ok f h]
    rfl
  | .qu k v f, h => by
    unfold Fm.ok at h
    simp only [Bool.and_eq_true, Bool.or_eq_true, beq_iff_eq, decide_eq_true_eq] at h
    obtain ⟨⟨⟨hq, hv0⟩, hv1⟩, h⟩ := h
    show ((decide (0 ≤ partN k) && nodeB a0 (k, v, [])) && f.flat.all _) = true
    rw [nodes_ok f h]
    unfold nodeB
    dsimp only
    rw [decide_eq_true hv0, decide_eq_true hv1]
    rcases hq with rfl | rfl <;> rfl
  | .bin k f g, h => by
    unfold Fm.ok at h
    simp only [Bool.and_eq_true, Bool.or_eq_true, beq_iff_eq] at h
    obtain ⟨⟨hq, hf⟩, hg⟩ := h
    show ((decide (0 ≤ partN k) && nodeB a0 (k, 0, [])) && (f.flat ++ g.flat).all _) = true
    rw [List.all_append, nodes_ok f hf, nodes_ok g hg]
    unfold nodeB
    rcases hq with (rfl | rfl) | rfl <;> rfl
theorem fmay_flat {a0 : List QSym} (hs : sigB a0 = true) {t : Fm} (h : t.ok a0 = true) (hl : t.flat.length ≤ 40) : fmayB a0 t.flat = true := by
  unfold fmayB
  rw [hs, decide_eq_true hl, skipN_walk, nodes_ok t h]
  have := skipN_flat t h 0 []
  rw [List.append_nil] at this
  rw [show (1 : Nat) = 0 + 1 from rfl, this]
  simp [skipN]
theorem mark_lx {k : Int} (h : k = 2 ∨ k = 3 ∨ k = 4) : ∃ x r, joinM k = x :: r ∧ LxM (x :: r) [(3, joinM k)] ∧ runP true x = false := by
  rcases h with rfl | rfl | rfl
  · exact ⟨38, [], rfl, LxM.mark (by decide), by decide⟩
  · exact ⟨124, [], rfl, LxM.mark (by decide), by decide⟩
  · exact ⟨45, [62], rfl, LxM.arrow, by decide⟩
theorem parse_join {a0 : List QSym} (hs : sigB a0 = true) {f g : Fm} (hf : f.ok a0 = true) (hg : g.ok a0 = true) {k : Int} (hk : k = 2 ∨ k = 3 ∨ k = 4) (hl : (Fm.bin k f g).flat.length ≤ 40)
    (ht : (((([40] ++ f.text a0) ++ joinM k) ++ g.text a0) ++ [41]).length ≤ 2048) : parseR a0 (((([40] ++ f.text a0) ++ joinM k) ++ g.text a0) ++ [41]) = (0, (Fm.bin k f g).flat) := by
  have hok : (Fm.bin k f g).ok a0 = true := by
    unfold Fm.ok
    rw [hf, hg]
    rcases hk with rfl | rfl | rfl <;> rfl
  obtain ⟨x, r, hx, hm, hr⟩ := mark_lx hk
  have h1 := ((LxM.mark (m := 40) (by decide)).then (Fm.lx f hf)).then hm hr
  have h2 := (h1.then (Fm.lx g hg)).then (t := []) (LxM.mark (m := 41) (by decide)) (by decide)
  rw [← hx] at h2
  have hlex : lexP (((([40] ++ f.text a0) ++ joinM k) ++ g.text a0) ++ [41]) = some ((Fm.bin k f g).words a0) := by
    have := h2 []
    rw [List.append_nil, lexP_nil] at this
    rw [this]
    simp [Fm.words]
  have hxr : lexR (((([40] ++ f.text a0) ++ joinM k) ++ g.text a0) ++ [41]) = (0, (Fm.bin k f g).words a0) := by
    unfold lexR
    rw [decide_eq_false (by omega), cond_false, hlex]
  unfold parseR
  rw [hxr]
  simp only
  unfold readR formP
  have := form_reads hs (Fm.bin k f g) hok (((Fm.bin k f g).words a0).length + 1) [] (by simp)
  rw [List.append_nil] at this
  rw [this, hs]
  simp only
  rw [decide_eq_false (show ¬ ((Fm.bin k f g).flat.length > 40) by omega)]
  rfl
theorem joinM_len (k : Int) : (joinM k).length ≤ 2 := by
  unfold joinM
  cases (k == 2) <;> cases (k == 3) <;> decide
theorem law22_FormulaJoins_true (a0 : List QSym) (f g : List QNode) (which : Int) : law22_FormulaJoins a0 f g which = some true := by
  unfold law22_FormulaJoins
  rw [law22_awake_eq, Option.bind_some, Bool.not_true, cond_false]
  obtain ⟨y, hy⟩ := formula_Show_some a0 f
  obtain ⟨z, hz⟩ := formula_Show_some a0 g
  cases h : fmayB a0 f with
  | false =>
    rw [formula_Show_not h, Option.bind_some, hz, Option.bind_some]
    rfl
  | true =>
    obtain ⟨h1, h2, t, rfl, ht⟩ := fmayB_tree h
    rw [formula_Show_tree h ht, Option.bind_some]
    cases h' : fmayB a0 g with
    | false =>
      rw [formula_Show_not h', Option.bind_some]
      rfl
    | true =>
      obtain ⟨-, h2', u, rfl, hu⟩ := fmayB_tree h'
      rw [formula_Show_tree h' hu, Option.bind_some]
      have lt := Fm.text_len t ht
      have lu := Fm.text_len u hu
      unfold law0_Num
      simp only [Option.bind_some]
      rw [show ((0 : Int) != 0) = false from rfl, cond_false, cond_false]
      have w1 : IntKind.wrap .i64 (((List.length t.flat : Nat) : Int) + ((List.length u.flat : Nat) : Int)) = ((t.flat.length + u.flat.length : Nat) : Int) := by rw [wrap64] <;> omega
      have w2 : IntKind.wrap .i64 (((List.length (t.text a0) : Nat) : Int) + ((List.length (u.text a0) : Nat) : Int)) = (((t.text a0).length + (u.text a0).length : Nat) : Int) := by rw [wrap64] <;> omega
      have w3 : IntKind.wrap .i64 ((((t.text a0).length + (u.text a0).length : Nat) : Int) + 6) = (((t.text a0).length + (u.text a0).length + 6 : Nat) : Int) := by rw [wrap64] <;> omega
      rw [w1, w2, w3]
      by_cases hn : t.flat.length + u.flat.length ≥ 40
      · rw [decide_eq_true (show ((t.flat.length + u.flat.length : Nat) : Int) ≥ 40 by omega)]; rfl
      · rw [decide_eq_false (show ¬ (((t.flat.length + u.flat.length : Nat) : Int) ≥ 40) by omega), cond_false]
        by_cases hm : (t.text a0).length + (u.text a0).length + 6 > 2048
        · rw [decide_eq_true (show (((t.text a0).length + (u.text a0).length + 6 : Nat) : Int) > 2048 by omega)]; rfl
        · rw [decide_eq_false (show ¬ ((((t.text a0).length + (u.text a0).length + 6 : Nat) : Int) > 2048) by omega), cond_false]
          have hk0 : (0 : Int) ≤ IntKind.wrap .u64 which := by simp [IntKind.wrap, IntKind.bits, IntKind.signed]; omega
          have hr1 : 0 ≤ Int.tmod (IntKind.wrap .u64 which) 3 := Int.tmod_nonneg _ hk0
          have hr2 : Int.tmod (IntKind.wrap .u64 which) 3 < 3 := Int.tmod_lt_of_pos _ (by omega)
          generalize Int.tmod (IntKind.wrap .u64 which) 3 = i at hr1 hr2
          have fin : ∀ (q : Int), (q = 2 ∨ q = 3 ∨ q = 4) → formula_Parse a0 (((([40] ++ t.text a0) ++ joinM q) ++ u.text a0) ++ [41]) = some (0, (Fm.bin q t u).flat) ∧ formula_Show a0 (Fm.bin q t u).flat = some ((((([40] ++ t.text a0) ++ joinT q) ++ u.text a0) ++ [41]), 0) ∧ law0_SameNodes (Fm.bin q t u).flat (Fm.bin q t u).flat = some true := by
            intro q hq
            have hok : (Fm.bin q t u).ok a0 = true := by
              unfold Fm.ok
              rw [ht, hu]
              rcases hq with rfl | rfl | rfl <;> rfl
            have hl : (Fm.bin q t u).flat.length ≤ 40 := by simp [Fm.flat]; omega
            have hj := joinM_len q
            refine ⟨?_, formula_Show_tree (fmay_flat h1 hok hl) hok, same_flat hok hl⟩
            rw [formula_Parse_eq, parse_join h1 ht hu hq hl (by simp; omega)]
          have hi3 : i = 0 ∨ i = 1 ∨ i = 2 := by omega
          rcases hi3 with hi | hi | hi
          · subst hi
            obtain ⟨f1, f2, f3⟩ := fin 2 (.inl rfl)
            have e1 : formula_Parse a0 (((([40] ++ t.text a0) ++ [38]) ++ u.text a0) ++ [41]) = some (0, (Fm.bin 2 t u).flat) := f1
            have e2 : formula_Show a0 (([(2, 0, [])] ++ t.flat) ++ u.flat) = some ((((([40] ++ t.text a0) ++ [32, 38, 32]) ++ u.text a0) ++ [41]), 0) := f2
            have e3 : law0_SameNodes (([(2, 0, [])] ++ t.flat) ++ u.flat) (Fm.bin 2 t u).flat = some true := f3
            rw [show inR (IntKind.wrap .i64 0) (List.length ([2, 3, 4] : List Int)) = some 0 from rfl, Option.bind_some, show ([2, 3, 4] : List Int)[0]? = some 2 from rfl, Option.bind_some,
              room_ok (by simp; omega), cond_true, room_ok (by simp; omega), cond_true, decide_eq_true (by simp; omega), cond_true,
              show inR (IntKind.wrap .i64 0) (List.length ([([38] : Str), ([124] : Str), ([45, 62] : Str)] : List Str)) = some 0 from rfl, Option.bind_some, show ([([38] : Str), ([124] : Str), ([45, 62] : Str)] : List Str)[0]? = some [38] from rfl, Option.bind_some,
              decide_eq_true (by simp; omega), cond_true, decide_eq_true (by simp; omega), cond_true, decide_eq_true (by simp; omega), cond_true, e1, Option.bind_some, e2, Option.bind_some]
            simp only
            rw [show ((0 : Int) == 0) = true from rfl, cond_true, e3, Option.bind_some, cond_true, cond_true, cond_true,
              decide_eq_true (by simp; omega), cond_true, Option.bind_some, show ([([38] : Str), ([124] : Str), ([45, 62] : Str)] : List Str)[0]? = some [38] from rfl, Option.bind_some, decide_eq_true (by simp; omega), cond_true, decide_eq_true (by simp; omega), cond_true, decide_eq_true (by simp; omega), cond_true, decide_eq_true (by simp; omega), cond_true]
            simp
          · subst hi
            obtain ⟨f1, f2, f3⟩ := fin 3 (.inr (.inl rfl))
            have e1 : formula_Parse a0 (((([40] ++ t.text a0) ++ [124]) ++ u.text a0) ++ [41]) = some (0, (Fm.bin 3 t u).flat) := f1
            have e2 : formula_Show a0 (([(3, 0, [])] ++ t.flat) ++ u.flat) = some ((((([40] ++ t.text a0) ++ [32, 124, 32]) ++ u.text a0) ++ [41]), 0) := f2
            have e3 : law0_SameNodes (([(3, 0, [])] ++ t.flat) ++ u.flat) (Fm.bin 3 t u).flat = some true := f3
            rw [show inR (IntKind.wrap .i64 1) (List.length ([2, 3, 4] : List Int)) = some 1 from rfl, Option.bind_some, show ([2, 3, 4] : List Int)[1]? = some 3 from rfl, Option.bind_some,
              room_ok (by simp; omega), cond_true, room_ok (by simp; omega), cond_true, decide_eq_true (by simp; omega), cond_true,
              show inR (IntKind.wrap .i64 1) (List.length ([([38] : Str), ([124] : Str), ([45, 62] : Str)] : List Str)) = some 1 from rfl, Option.bind_some, show ([([38] : Str), ([124] : Str), ([45, 62] : Str)] : List Str)[1]? = some [124] from rfl, Option.bind_some,
              decide_eq_true (by simp; omega), cond_true, decide_eq_true (by simp; omega), cond_true, decide_eq_true (by simp; omega), cond_true, e1, Option.bind_some, e2, Option.bind_some]
            simp only
            rw [show ((0 : Int) == 0) = true from rfl, cond_true, e3, Option.bind_some, cond_true, cond_true, cond_true,
              decide_eq_true (by simp; omega), cond_true, Option.bind_some, show ([([38] : Str), ([124] : Str), ([45, 62] : Str)] : List Str)[1]? = some [124] from rfl, Option.bind_some, decide_eq_true (by simp; omega), cond_true, decide_eq_true (by simp; omega), cond_true, decide_eq_true (by simp; omega), cond_true, decide_eq_true (by simp; omega), cond_true]
            simp
          · subst hi
            obtain ⟨f1, f2, f3⟩ := fin 4 (.inr (.inr rfl))
            have e1 : formula_Parse a0 (((([40] ++ t.text a0) ++ [45, 62]) ++ u.text a0) ++ [41]) = some (0, (Fm.bin 4 t u).flat) := f1
            have e2 : formula_Show a0 (([(4, 0, [])] ++ t.flat) ++ u.flat) = some ((((([40] ++ t.text a0) ++ [32, 45, 62, 32]) ++ u.text a0) ++ [41]), 0) := f2
            have e3 : law0_SameNodes (([(4, 0, [])] ++ t.flat) ++ u.flat) (Fm.bin 4 t u).flat = some true := f3
            rw [show inR (IntKind.wrap .i64 2) (List.length ([2, 3, 4] : List Int)) = some 2 from rfl, Option.bind_some, show ([2, 3, 4] : List Int)[2]? = some 4 from rfl, Option.bind_some,
              room_ok (by simp; omega), cond_true, room_ok (by simp; omega), cond_true, decide_eq_true (by simp; omega), cond_true,
              show inR (IntKind.wrap .i64 2) (List.length ([([38] : Str), ([124] : Str), ([45, 62] : Str)] : List Str)) = some 2 from rfl, Option.bind_some, show ([([38] : Str), ([124] : Str), ([45, 62] : Str)] : List Str)[2]? = some [45, 62] from rfl, Option.bind_some,
              decide_eq_true (by simp; omega), cond_true, decide_eq_true (by simp; omega), cond_true, decide_eq_true (by simp; omega), cond_true, e1, Option.bind_some, e2, Option.bind_some]
            simp only
            rw [show ((0 : Int) == 0) = true from rfl, cond_true, e3, Option.bind_some, cond_true, cond_true, cond_true,
              decide_eq_true (by simp; omega), cond_true, Option.bind_some, show ([([38] : Str), ([124] : Str), ([45, 62] : Str)] : List Str)[2]? = some [45, 62] from rfl, Option.bind_some, decide_eq_true (by simp; omega), cond_true, decide_eq_true (by simp; omega), cond_true, decide_eq_true (by simp; omega), cond_true, decide_eq_true (by simp; omega), cond_true]
            simp
end
end Go.Abs.Q
