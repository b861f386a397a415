import Derived.Test.YtbgkkdmmddkdbaaDoorQa
/-
  What the functions make of plain values, and what the law says of that.
-/
namespace Go.Abs.Q
open Go Go.Abs
section
inductive Tm where
  | v (n : Nat)
  | f (c : Nat) (as : List Tm)
mutual
def Tm.codes : Tm → List Int
  | .v n => [-1 - (n : Int)]
  | .f c as => (c : Int) :: codesR as
def codesR : List Tm → List Int
  | [] => []
  | t :: ts => t.codes ++ codesR ts
end
mutual
def Tm.size : Tm → Nat
  | .v _ => 1
  | .f _ as => sizeR as + 1
def sizeR : List Tm → Nat
  | [] => 0
  | t :: ts => t.size + sizeR ts
end
abbrev Sb := Nat → Tm
mutual
def Tm.sub (s : Sb) : Tm → Tm
  | .v n => s n
  | .f c as => .f c (subR s as)
def subR (s : Sb) : List Tm → List Tm
  | [] => []
  | t :: ts => t.sub s :: subR s ts
end
mutual
def Tm.has (x : Nat) : Tm → Prop
  | .v n => n = x
  | .f _ as => hasR x as
def hasR (x : Nat) : List Tm → Prop
  | [] => False
  | t :: ts => t.has x ∨ hasR x ts
end
mutual
def Tm.ok (a0 : List QSym) (N : Nat) : Tm → Prop
  | .v n => n < N
  | .f c as => arity a0 (c : Int) = some as.length ∧ okR a0 N as
def okR (a0 : List QSym) (N : Nat) : List Tm → Prop
  | [] => True
  | t :: ts => t.ok a0 N ∧ okR a0 N ts
end
theorem subR_length (s : Sb) : (ts : List Tm) → (subR s ts).length = ts.length
  | [] => rfl
  | t :: ts => by simp [subR, subR_length s ts]
theorem okR_iff {a0 : List QSym} {N : Nat} : {ts : List Tm} → (okR a0 N ts ↔ ∀ t ∈ ts, t.ok a0 N)
  | [] => by simp [okR]
  | t :: ts => by simp [okR, okR_iff (ts := ts)]
theorem subR_eq (s : Sb) : (ts : List Tm) → subR s ts = ts.map (Tm.sub s)
  | [] => rfl
  | t :: ts => by simp [subR, subR_eq s ts]
theorem codesR_eq : (ts : List Tm) → codesR ts = ts.flatMap Tm.codes
  | [] => rfl
  | t :: ts => by simp [codesR, codesR_eq ts]
theorem sizeR_eq : (ts : List Tm) → sizeR ts = (ts.map Tm.size).sum
  | [] => rfl
  | t :: ts => by simp [sizeR, sizeR_eq ts]
theorem codesR_app (ts us : List Tm) : codesR (ts ++ us) = codesR ts ++ codesR us := by simp [codesR_eq]
theorem sizeR_app (ts us : List Tm) : sizeR (ts ++ us) = sizeR ts + sizeR us := by simp [sizeR_eq]
mutual
theorem Tm.codes_len : (t : Tm) → t.codes.length = t.size
  | .v _ => rfl
  | .f c as => by simp [Tm.codes, Tm.size, codesR_len as]
theorem codesR_len : (ts : List Tm) → (codesR ts).length = sizeR ts
  | [] => rfl
  | t :: ts => by simp [codesR, sizeR, Tm.codes_len t, codesR_len ts]
end
theorem Tm.size_pos (t : Tm) : 0 < t.size := by cases t <;> simp [Tm.size]
mutual
theorem Tm.sub_ext {s u : Sb} : (t : Tm) → (∀ x, t.has x → s x = u x) → t.sub s = t.sub u
  | .v n, h => h n rfl
  | .f c as, h => by rw [Tm.sub, Tm.sub, subR_ext as h]
theorem subR_ext {s u : Sb} : (ts : List Tm) → (∀ x, hasR x ts → s x = u x) → subR s ts = subR u ts
  | [], _ => rfl
  | t :: ts, h => by rw [subR, subR, Tm.sub_ext t fun x hx => h x (.inl hx), subR_ext ts fun x hx => h x (.inr hx)]
end
mutual
theorem Tm.sub_sub (s u : Sb) : (t : Tm) → (t.sub s).sub u = t.sub fun x => (s x).sub u
  | .v n => rfl
  | .f c as => by rw [Tm.sub, Tm.sub, Tm.sub, subR_subR s u as]
theorem subR_subR (s u : Sb) : (ts : List Tm) → subR u (subR s ts) = subR (fun x => (s x).sub u) ts
  | [] => rfl
  | t :: ts => by rw [subR, subR, subR, Tm.sub_sub s u t, subR_subR s u ts]
end
mutual
theorem Tm.sub_v : (t : Tm) → t.sub .v = t
  | .v n => rfl
  | .f c as => by rw [Tm.sub, subR_v as]
theorem subR_v : (ts : List Tm) → subR .v ts = ts
  | [] => rfl
  | t :: ts => by rw [subR, Tm.sub_v t, subR_v ts]
end
mutual
theorem Tm.has_sub {s : Sb} {y : Nat} : (t : Tm) → ((t.sub s).has y ↔ ∃ x, t.has x ∧ (s x).has y)
  | .v n => ⟨fun h => ⟨n, rfl, h⟩, fun ⟨x, hx, h⟩ => by cases hx; exact h⟩
  | .f c as => by show hasR y (subR s as) ↔ _; rw [hasR_sub as]; rfl
theorem hasR_sub {s : Sb} {y : Nat} : (ts : List Tm) → (hasR y (subR s ts) ↔ ∃ x, hasR x ts ∧ (s x).has y)
  | [] => ⟨fun h => h.elim, fun ⟨_, h, _⟩ => h.elim⟩
  | t :: ts => by
    show (t.sub s).has y ∨ hasR y (subR s ts) ↔ ∃ x, (t.has x ∨ hasR x ts) ∧ _
    rw [Tm.has_sub t, hasR_sub ts]
    constructor
    · rintro (⟨x, h1, h2⟩ | ⟨x, h1, h2⟩)
      · exact ⟨x, .inl h1, h2⟩
      · exact ⟨x, .inr h1, h2⟩
    · rintro ⟨x, h1 | h1, h2⟩
      · exact .inl ⟨x, h1, h2⟩
      · exact .inr ⟨x, h1, h2⟩
end
mutual
theorem Tm.size_has {s : Sb} {x : Nat} : (t : Tm) → t.has x → (s x).size ≤ (t.sub s).size
  | .v n, h => by cases h; exact Nat.le_refl _
  | .f c as, h => by have := sizeR_has (s := s) as h; show _ ≤ sizeR (subR s as) + 1; omega
theorem sizeR_has {s : Sb} {x : Nat} : (ts : List Tm) → hasR x ts → (s x).size ≤ sizeR (subR s ts)
  | [], h => h.elim
  | t :: ts, h => by
    show _ ≤ (t.sub s).size + sizeR (subR s ts)
    rcases h with h | h
    · have := Tm.size_has (s := s) t h; omega
    · have := sizeR_has (s := s) ts h; omega
end
mutual
theorem Tm.size_sub {s : Sb} {M : Nat} : (t : Tm) → (1 ≤ M) → (∀ x, t.has x → (s x).size ≤ M) → (t.sub s).size ≤ t.size * M
  | .v n, _, h => by have := h n rfl; simpa [Tm.sub, Tm.size] using this
  | .f c as, hM, h => by
    have := sizeR_sub (s := s) as hM h
    show sizeR (subR s as) + 1 ≤ (sizeR as + 1) * M
    rw [Nat.add_mul]; omega
theorem sizeR_sub {s : Sb} {M : Nat} : (ts : List Tm) → (1 ≤ M) → (∀ x, hasR x ts → (s x).size ≤ M) → sizeR (subR s ts) ≤ sizeR ts * M
  | [], _, _ => by simp [subR, sizeR]
  | t :: ts, hM, h => by
    have h1 := Tm.size_sub (s := s) t hM fun x hx => h x (.inl hx)
    have h2 := sizeR_sub (s := s) ts hM fun x hx => h x (.inr hx)
    show (t.sub s).size + sizeR (subR s ts) ≤ (t.size + sizeR ts) * M
    rw [Nat.add_mul]; omega
end
mutual
theorem Tm.ok_sub {a0 : List QSym} {N M : Nat} {s : Sb} : (t : Tm) → t.ok a0 N → (∀ x, t.has x → (s x).ok a0 M) → (t.sub s).ok a0 M
  | .v n, _, h => h n rfl
  | .f c as, ho, h => ⟨by rw [subR_length]; exact ho.1, okR_sub as ho.2 h⟩
theorem okR_sub {a0 : List QSym} {N M : Nat} {s : Sb} : (ts : List Tm) → okR a0 N ts → (∀ x, hasR x ts → (s x).ok a0 M) → okR a0 M (subR s ts)
  | [], _, _ => trivial
  | t :: ts, ho, h => ⟨Tm.ok_sub t ho.1 fun x hx => h x (.inl hx), okR_sub ts ho.2 fun x hx => h x (.inr hx)⟩
end
mutual
theorem Tm.ok_has {a0 : List QSym} {N x : Nat} : (t : Tm) → t.ok a0 N → t.has x → x < N
  | .v n, ho, h => by cases h; exact ho
  | .f c as, ho, h => okR_has as ho.2 h
theorem okR_has {a0 : List QSym} {N x : Nat} : (ts : List Tm) → okR a0 N ts → hasR x ts → x < N
  | [], _, h => h.elim
  | t :: ts, ho, h => h.elim (Tm.ok_has t ho.1) (okR_has ts ho.2)
end
mutual
theorem Tm.ok_mono {a0 : List QSym} {N M : Nat} (hNM : N ≤ M) : (t : Tm) → t.ok a0 N → t.ok a0 M
  | .v n, ho => Nat.lt_of_lt_of_le ho hNM
  | .f c as, ho => ⟨ho.1, okR_mono hNM as ho.2⟩
theorem okR_mono {a0 : List QSym} {N M : Nat} (hNM : N ≤ M) : (ts : List Tm) → okR a0 N ts → okR a0 M ts
  | [], _ => trivial
  | t :: ts, ho => ⟨Tm.ok_mono hNM t ho.1, okR_mono hNM ts ho.2⟩
end
mutual
theorem Tm.mem_codes {c : Int} (hc : c < 0) : (t : Tm) → (c ∈ t.codes ↔ t.has (-1 - c).toNat)
  | .v n => by
    show c ∈ [-1 - (n : Int)] ↔ n = _
    rw [List.mem_singleton]
    omega
  | .f d as => by
    show c ∈ (d : Int) :: codesR as ↔ hasR _ as
    rw [List.mem_cons, ← mem_codesR hc as]
    have : c ≠ (d : Int) := by omega
    simp [this]
theorem mem_codesR {c : Int} (hc : c < 0) : (ts : List Tm) → (c ∈ codesR ts ↔ hasR (-1 - c).toNat ts)
  | [] => by simp [codesR, hasR]
  | t :: ts => by
    show c ∈ t.codes ++ codesR ts ↔ _ ∨ _
    rw [List.mem_append, Tm.mem_codes hc t, mem_codesR hc ts]
end
theorem arity_code {a0 : List QSym} {x : Int} {q : Nat} (h : arity a0 x = some q) : (x < 0 ∧ -24 ≤ x ∧ q = 0) ∨ ∃ c : Nat, x = (c : Int) := by
  unfold arity at h
  by_cases h0 : x < 0
  · rw [decide_eq_true h0, cond_true] at h
    by_cases h1 : -24 ≤ x
    · rw [decide_eq_true h1] at h; injection h with h; exact .inl ⟨h0, h1, h.symm⟩
    · rw [decide_eq_false h1] at h; cases h
  · exact .inr ⟨x.toNat, by omega⟩
theorem terms_of {a0 : List QSym} : ∀ (n : Nat) (ps : List (List Int)), (∀ p ∈ ps, p.length ≤ n) → (∀ p ∈ ps, sk a0 1 p = some p.length) → ∃ ts : List Tm, okR a0 24 ts ∧ ps = ts.map Tm.codes := by
  intro n
  induction n with
  | zero =>
    intro ps h hs
    cases ps with
    | nil => exact ⟨[], trivial, rfl⟩
    | cons p ps =>
      have h1 := h p (List.mem_cons_self ..)
      have h2 := sk_le (hs p (List.mem_cons_self ..))
      omega
  | succ n ih =>
    intro ps
    induction ps with
    | nil => intro _ _; exact ⟨[], trivial, rfl⟩
    | cons p ps ihp =>
      intro h hs
      obtain ⟨ts, h1, h2⟩ := ihp (fun q hq => h q (List.mem_cons_of_mem _ hq)) (fun q hq => hs q (List.mem_cons_of_mem _ hq))
      obtain ⟨x, r, q, rfl, ha, hr⟩ := piece_cases (hs p (List.mem_cons_self ..))
      have hl := h _ (List.mem_cons_self ..)
      rw [List.length_cons] at hl
      rcases arity_code ha with ⟨h3, h4, rfl⟩ | ⟨c, rfl⟩
      · have hr0 : r = [] := by
          have : sk a0 0 r = some 0 := by cases r <;> rfl
          rw [this] at hr
          exact List.length_eq_zero_iff.1 (by injection hr with hr; omega)
        subst hr0
        refine ⟨.v (-1 - x).toNat :: ts, ⟨by show (-1 - x).toNat < 24; omega, h1⟩, ?_⟩
        rw [List.map_cons, ← h2]
        show [x] :: ps = [-1 - (((-1 - x).toNat : Nat) : Int)] :: ps
        rw [show -1 - (((-1 - x).toNat : Nat) : Int) = x from by omega]
      · obtain ⟨qs, hq, hql⟩ := cuts_sk q r hr
        obtain ⟨hf, hqs⟩ := cuts_flat r.length r qs (Nat.le_refl _) hq
        have hlen : ∀ p ∈ qs, p.length ≤ n := fun p hp => by
          have h5 : p.length ≤ qs.flatten.length := by
            obtain ⟨l1, l2, rfl⟩ := List.append_of_mem hp
            simp; omega
          rw [hf] at h5
          omega
        obtain ⟨us, h5, h6⟩ := ih qs hlen fun p hp => (hqs p hp).2
        refine ⟨.f c us :: ts, ⟨⟨by rw [ha, ← hql, h6, List.length_map], h5⟩, h1⟩, ?_⟩
        rw [List.map_cons, ← h2]
        show ((c : Int) :: r) :: ps = ((c : Int) :: codesR us) :: ps
        rw [codesR_eq, List.flatMap, ← h6, hf]
theorem row_of {a0 : List QSym} {xs : List Int} {ps : List (List Int)} (h : cuts a0 xs = some ps) : ∃ ts : List Tm, okR a0 24 ts ∧ ps = ts.map Tm.codes ∧ xs = codesR ts := by
  obtain ⟨h1, h2⟩ := cuts_flat xs.length xs ps (Nat.le_refl _) h
  obtain ⟨ts, h3, h4⟩ := terms_of (a0 := a0) xs.length ps (fun p hp => by
    have : p.length ≤ ps.flatten.length := by
      obtain ⟨l1, l2, rfl⟩ := List.append_of_mem hp
      simp; omega
    rwa [h1] at this) fun p hp => (h2 p hp).2
  exact ⟨ts, h3, h4, by rw [codesR_eq, List.flatMap, ← h4, h1]⟩
theorem arity_var {a0 : List QSym} {n : Nat} (h : n < 24) : arity a0 (-1 - (n : Int)) = some 0 := by
  unfold arity
  rw [decide_eq_true (show -1 - (n : Int) < 0 by omega), cond_true, decide_eq_true (show -24 ≤ -1 - (n : Int) by omega)]
  rfl
mutual
theorem Tm.sk_codes {a0 : List QSym} : (t : Tm) → t.ok a0 24 → sk a0 1 t.codes = some t.codes.length
  | .v n, h => by
    show sk a0 1 [-1 - (n : Int)] = some 1
    unfold sk
    rw [arity_var h]
    rfl
  | .f c as, h => by
    have := sk_codesR as h.2
    show sk a0 1 ((c : Int) :: codesR as) = some (codesR as).length.succ
    unfold sk
    rw [h.1]
    simp only [Nat.zero_add, this, Option.map_some]
theorem sk_codesR {a0 : List QSym} : (ts : List Tm) → okR a0 24 ts → sk a0 ts.length (codesR ts) = some (codesR ts).length
  | [], _ => rfl
  | t :: ts, h => by
    show sk a0 (ts.length + 1) (t.codes ++ codesR ts) = _
    rw [Nat.add_comm]
    exact sk_app (Tm.sk_codes t h.1) (sk_codesR ts h.2)
end
theorem sk_more {a0 : List QSym} : {xs : List Int} → {n k : Nat} → (ys : List Int) → sk a0 n xs = some k → sk a0 n (xs ++ ys) = some k
  | [], 0, k, ys, h => by simp [sk] at h; subst h; cases ys <;> rfl
  | [], n + 1, k, ys, h => by simp [sk] at h
  | x :: xs, 0, k, ys, h => by simp [sk] at h; subst h; rfl
  | x :: xs, n + 1, k, ys, h => by
    unfold sk at h
    cases ha : arity a0 x with
    | none => rw [ha] at h; cases h
    | some m =>
      rw [ha] at h
      simp only [Option.map_eq_some_iff] at h
      obtain ⟨j, hj, rfl⟩ := h
      rw [List.cons_append]
      unfold sk
      rw [ha]
      simp only [sk_more ys hj, Option.map_some]
theorem cuts_codes {a0 : List QSym} : (ts : List Tm) → okR a0 24 ts → cuts a0 (codesR ts) = some (ts.map Tm.codes)
  | [], _ => rfl
  | t :: ts, h => by
    have hp := t.size_pos
    have hl := t.codes_len
    have h1 := Tm.sk_codes t h.1
    show cuts a0 (t.codes ++ codesR ts) = _
    have hne : t.codes ++ codesR ts ≠ [] := fun e => by
      have := congrArg List.length e
      rw [List.length_append, List.length_nil] at this
      omega
    rw [cuts_step hne, sk_more _ h1]
    simp only [List.drop_left, List.take_left, cuts_codes ts h.2, Option.map_some, List.map_cons]
def Tm.up (d : Nat) (t : Tm) : Tm := t.sub fun n => .v (n + d)
theorem Tm.up_zero (t : Tm) : t.up 0 = t := t.sub_v
theorem Tm.up_size (d : Nat) (t : Tm) : (t.up d).size = t.size := by
  have h1 : (t.up d).size ≤ t.size * 1 := Tm.size_sub t (Nat.le_refl _) fun x _ => Nat.le_refl _
  have h2 : ((t.up d).sub fun n => .v (n - d)).size ≤ (t.up d).size * 1 := Tm.size_sub _ (Nat.le_refl _) fun x _ => Nat.le_refl _
  have h3 : (t.up d).sub (fun n => .v (n - d)) = t := by
    unfold Tm.up
    rw [Tm.sub_sub, show (fun x => (Tm.v (x + d)).sub fun n => .v (n - d)) = Tm.v from by
      funext x
      show Tm.v (x + d - d) = _
      rw [Nat.add_sub_cancel], Tm.sub_v]
  rw [h3] at h2
  omega
theorem Tm.up_ok {a0 : List QSym} {N d : Nat} {t : Tm} (h : t.ok a0 N) : (t.up d).ok a0 (N + d) := Tm.ok_sub t h fun x hx => by
  have := Tm.ok_has t h hx
  show x + d < N + d
  omega
theorem Tm.up_has {d y : Nat} {t : Tm} : (t.up d).has y ↔ ∃ x, t.has x ∧ x + d = y := Tm.has_sub t
end
end Go.Abs.Q
namespace Go.Abs.Q
open Go Go.Abs
section
abbrev Bd := Nat → Option Tm
def SolB (θ : Sb) (B : Bd) : Prop := ∀ x t, B x = some t → θ x = t.sub θ
def Sol (θ : Sb) (E : List (Tm × Tm)) : Prop := ∀ p ∈ E, p.1.sub θ = p.2.sub θ
theorem Sol.nil {θ : Sb} : Sol θ [] := fun _ h => nomatch h
theorem Sol.cons {θ : Sb} {p : Tm × Tm} {E : List (Tm × Tm)} : Sol θ (p :: E) ↔ p.1.sub θ = p.2.sub θ ∧ Sol θ E := by simp [Sol]
theorem Sol.append {θ : Sb} {E F : List (Tm × Tm)} : Sol θ (E ++ F) ↔ Sol θ E ∧ Sol θ F := by
  simp only [Sol, List.mem_append]
  exact ⟨fun h => ⟨fun p hp => h p (.inl hp), fun p hp => h p (.inr hp)⟩, fun h p hp => hp.elim (h.1 p) (h.2 p)⟩
theorem Sol.zip {θ : Sb} : {ts us : List Tm} → ts.length = us.length → (Sol θ (ts.zip us) ↔ subR θ ts = subR θ us)
  | [], [], _ => by simp [Sol, subR]
  | [], _ :: _, h => by simp at h
  | _ :: _, [], h => by simp at h
  | t :: ts, u :: us, h => by
    rw [List.zip_cons_cons, Sol.cons, Sol.zip (by simpa using h)]
    simp [subR]
structure Good (B : Bd) (σ : Sb) : Prop where
  free : ∀ x, B x = none → σ x = .v x
  bound : ∀ x t, B x = some t → σ x = t.sub σ
  down : ∀ x y, B x = some (.v y) → y < x
theorem Good.empty : Good (fun _ => none) .v := ⟨fun _ _ => rfl, fun _ _ h => (nomatch h), fun _ _ h => (nomatch h)⟩
theorem Good.ind {B : Bd} {σ : Sb} (h : Good B σ) {P : Nat → Prop} (hf : ∀ x, B x = none → P x) (hb : ∀ x t, B x = some t → (∀ y, t.has y → P y) → P x) : ∀ x, P x := by
  have key : ∀ n x, (σ x).size = n → P x := by
    intro n
    induction n using Nat.strongRecOn with
    | _ n ihn =>
      intro x
      induction x using Nat.strongRecOn with
      | _ x ihx =>
        intro hn
        cases hx : B x with
        | none => exact hf x hx
        | some t =>
          refine hb x t hx fun y hy => ?_
          have hs := h.bound x t hx
          cases t with
          | v z =>
            have hz : z = y := hy
            subst hz
            exact ihx z (h.down x z hx) (by rw [← hn, hs]; rfl)
          | f c as =>
            have := sizeR_has (s := σ) as hy
            refine ihn (σ y).size ?_ y rfl
            rw [← hn, hs]
            show _ < sizeR (subR σ as) + 1
            omega
  exact fun x => key _ x rfl
theorem Good.fac {B : Bd} {σ θ : Sb} (h : Good B σ) (hθ : SolB θ B) : ∀ x, (σ x).sub θ = θ x := by
  refine h.ind (fun x hx => by rw [h.free x hx]; rfl) fun x t hx ih => ?_
  rw [h.bound x t hx, Tm.sub_sub, hθ x t hx]
  exact Tm.sub_ext t fun y hy => ih y hy
theorem Good.facT {B : Bd} {σ θ : Sb} (h : Good B σ) (hθ : SolB θ B) (t : Tm) : (t.sub σ).sub θ = t.sub θ := by
  rw [Tm.sub_sub]
  exact Tm.sub_ext t fun y _ => h.fac hθ y
theorem Good.idem {B : Bd} {σ : Sb} (h : Good B σ) (t : Tm) : (t.sub σ).sub σ = t.sub σ := h.facT h.bound t
theorem Good.le {B : Bd} {σ : Sb} (h : Good B σ) : ∀ x y, σ x = .v y → y ≤ x := by
  refine h.ind (fun x hx y hy => ?_) fun x t hx ih y hy => ?_
  · rw [h.free x hx] at hy; injection hy with hy; omega
  · rw [h.bound x t hx] at hy
    cases t with
    | v z =>
      have h1 := h.down x z hx
      have h2 := ih z rfl y hy
      omega
    | f c as => cases hy
theorem Good.moved {B : Bd} {σ : Sb} (h : Good B σ) {x : Nat} : B x ≠ none ↔ σ x ≠ .v x := by
  constructor
  · intro hb he
    cases hx : B x with
    | none => exact hb hx
    | some t =>
      have h1 := h.bound x t hx
      rw [he] at h1
      cases t with
      | v z =>
        have h2 := h.down x z hx
        have h3 := h.le z x h1.symm
        omega
      | f c as => cases h1
  · intro hs hb
    exact hs (h.free x hb)
def one (x : Nat) (u : Tm) : Sb := fun y => if y = x then u else .v y
def updB (B : Bd) (x : Nat) (t : Tm) : Bd := fun y => if y = x then some t else B y
theorem updB_same (B : Bd) (x : Nat) (t : Tm) : updB B x t x = some t := by simp [updB]
theorem updB_ne (B : Bd) {x y : Nat} (t : Tm) (h : y ≠ x) : updB B x t y = B y := by simp [updB, h]
theorem SolB.upd {B : Bd} {x : Nat} {t : Tm} {θ : Sb} (hx : B x = none) : SolB θ (updB B x t) ↔ SolB θ B ∧ θ x = t.sub θ := by
  constructor
  · intro h
    refine ⟨fun y u hy => h y u ?_, h x t (updB_same ..)⟩
    rw [updB_ne _ _ fun e => by rw [e, hx] at hy; cases hy]
    exact hy
  · rintro ⟨h1, h2⟩ y u hy
    by_cases he : y = x
    · subst he
      rw [updB_same] at hy
      injection hy with hy
      subst hy
      exact h2
    · rw [updB_ne _ _ he] at hy
      exact h1 y u hy
theorem one_off {x : Nat} {u t : Tm} (h : ¬ t.has x) : t.sub (one x u) = t := by
  conv => rhs; rw [← Tm.sub_v t]
  refine Tm.sub_ext t fun y hy => ?_
  have hne : y ≠ x := fun e => h (e ▸ hy)
  unfold one
  rw [if_neg hne]
theorem Good.bind {B : Bd} {σ : Sb} (h : Good B σ) {x : Nat} {t : Tm} (hx : B x = none) (hn : ¬ (t.sub σ).has x) (hd : ∀ y, t = .v y → y < x) : Good (updB B x t) fun y => (σ y).sub (one x (t.sub σ)) where
  free := fun y hy => by
    have hne : y ≠ x := fun e => by rw [e, updB_same] at hy; cases hy
    rw [updB_ne _ _ hne] at hy
    rw [h.free y hy]
    show one x _ y = _
    simp [one, hne]
  bound := fun y u hy => by
    by_cases he : y = x
    · subst he
      rw [updB_same] at hy
      injection hy with hy
      subst hy
      rw [h.free y hx, ← Tm.sub_sub, one_off hn]
      show one y _ y = _
      simp [one]
    · rw [updB_ne _ _ he] at hy
      rw [h.bound y u hy, Tm.sub_sub]
  down := fun y z hy => by
    by_cases he : y = x
    · subst he
      rw [updB_same] at hy
      injection hy with hy
      exact hd z hy
    · rw [updB_ne _ _ he] at hy
      exact h.down y z hy
theorem Good.occurs {B : Bd} {σ θ : Sb} (h : Good B σ) {x c : Nat} {as : List Tm} (hh : ((Tm.f c as).sub σ).has x) (hθ : SolB θ B) (he : θ x = (Tm.f c as).sub θ) : False := by
  have h1 := h.facT hθ (.f c as)
  rw [← he] at h1
  have h2 := sizeR_has (s := θ) (subR σ as) hh
  have h3 : (((Tm.f c as).sub σ).sub θ).size = (θ x).size := by rw [h1]
  have h4 : sizeR (subR θ (subR σ as)) + 1 = (θ x).size := h3
  omega
def Small (B : Bd) : Prop := ∀ x t, B x = some t → x < 48 ∧ t.size ≤ 48
def Good.less (σ : Sb) (y x : Nat) : Bool := decide ((σ y).size < (σ x).size) || (decide ((σ y).size = (σ x).size) && decide (y < x))
def Good.rank (σ : Sb) (x : Nat) : Nat := (List.range 48).countP fun y => Good.less σ y x
theorem countP_lt {α : Type} {p q : α → Bool} {a : α} : {l : List α} → a ∈ l → (∀ x ∈ l, p x = true → q x = true) → p a = false → q a = true → l.countP p < l.countP q
  | [], h, _, _, _ => nomatch h
  | b :: l, hm, hi, hp, hq => by
    have h2 : l.countP p ≤ l.countP q := List.countP_mono_left fun x hx h => hi x (List.mem_cons_of_mem _ hx) h
    rcases List.mem_cons.1 hm with rfl | hm
    · rw [List.countP_cons_of_neg (by simp [hp]), List.countP_cons_of_pos hq]
      omega
    · have h1 := countP_lt hm (fun x hx => hi x (List.mem_cons_of_mem _ hx)) hp hq
      cases hb : p b with
      | true => rw [List.countP_cons_of_pos hb, List.countP_cons_of_pos (hi b (List.mem_cons_self ..) hb)]; omega
      | false =>
        rw [List.countP_cons_of_neg (by simp [hb])]
        cases hc : q b with
        | true => rw [List.countP_cons_of_pos hc]; omega
        | false => rw [List.countP_cons_of_neg (by simp [hc])]; exact h1
theorem Good.small {B : Bd} {σ : Sb} (h : Good B σ) (hb : Small B) : ∀ x, (σ x).size ≤ 48 ^ 49 := by
  have key : ∀ x, B x ≠ none → (σ x).size ≤ 48 ^ (Good.rank σ x + 1) := by
    refine h.ind (fun x hx hn => absurd hx hn) fun x t hx ih _ => ?_
    obtain ⟨hx48, ht⟩ := hb x t hx
    rw [h.bound x t hx]
    have h1 : 1 ≤ 48 ^ Good.rank σ x := Nat.pow_pos (by omega)
    refine Nat.le_trans (Tm.size_sub t h1 fun y hy => ?_) ?_
    · cases hy0 : B y with
      | none => rw [h.free y hy0]; exact h1
      | some u =>
        refine Nat.le_trans (ih y hy (by rw [hy0]; simp)) (Nat.pow_le_pow_right (by omega) ?_)
        have hlt : Good.less σ y x = true := by
          unfold Good.less
          have hs := h.bound x t hx
          cases t with
          | v z =>
            have hz : z = y := hy
            subst hz
            have h2 := h.down x z hx
            have h3 : (σ z).size = (σ x).size := by rw [hs]; rfl
            simp [h3, h2]
          | f c as =>
            have h2 := sizeR_has (s := σ) as hy
            have h3 : (σ x).size = sizeR (subR σ as) + 1 := by rw [hs]; rfl
            rw [decide_eq_true (show (σ y).size < (σ x).size by omega)]
            rfl
        refine countP_lt (a := y) (List.mem_range.2 (hb y u hy0).1) (fun z _ hz => ?_) (by simp [Good.less]) hlt
        simp only [Good.less, Bool.or_eq_true, Bool.and_eq_true, decide_eq_true_eq] at hz hlt ⊢
        omega
    · rw [Nat.pow_succ, Nat.mul_comm]
      exact Nat.mul_le_mul_left _ ht
  intro x
  by_cases hx : B x = none
  · rw [h.free x hx]
    exact Nat.pow_pos (by omega)
  · refine Nat.le_trans (key x hx) (Nat.pow_le_pow_right (by omega) ?_)
    have : Good.rank σ x ≤ (List.range 48).length := List.countP_le_length
    rw [List.length_range] at this
    omega
theorem Good.small_sub {B : Bd} {σ : Sb} (h : Good B σ) (hb : Small B) (t : Tm) : (t.sub σ).size ≤ t.size * 48 ^ 49 :=
  Tm.size_sub t (Nat.pow_pos (by omega)) fun x _ => h.small hb x
def Out (B : Bd) (E : List (Tm × Tm)) : Option Bd → Prop
  | none => ∀ θ, SolB θ B → Sol θ E → False
  | some B' => (∃ σ, Good B' σ) ∧ Small B' ∧ ∀ θ, SolB θ B' ↔ SolB θ B ∧ Sol θ E
theorem Out.via {B B1 : Bd} {E E1 : List (Tm × Tm)} (h : ∀ θ, (SolB θ B1 ∧ Sol θ E1) ↔ (SolB θ B ∧ Sol θ E)) {o : Option Bd} (ho : Out B1 E1 o) : Out B E o := by
  cases o with
  | none => exact fun θ h1 h2 => ho θ ((h θ).2 ⟨h1, h2⟩).1 ((h θ).2 ⟨h1, h2⟩).2
  | some B' => exact ⟨ho.1, ho.2.1, fun θ => (ho.2.2 θ).trans (h θ)⟩
theorem Out.done {B : Bd} {σ : Sb} (h : Good B σ) (hs : Small B) : Out B [] (some B) := ⟨⟨σ, h⟩, hs, fun _ => ⟨fun h => ⟨h, Sol.nil⟩, fun h => h.1⟩⟩
theorem f_eq {θ : Sb} {c d : Nat} {as bs : List Tm} : (Tm.f c as).sub θ = (Tm.f d bs).sub θ ↔ c = d ∧ subR θ as = subR θ bs := by
  simp [Tm.sub]
end
end Go.Abs.Q
namespace Go.Abs.Q
open Go Go.Abs
section
abbrev PI := List Int × Int
abbrev PO := Option (List Int) × Int
def Pc (a0 : List QSym) (N : Nat) (p : List Int) (d : Int) (t : Tm) : Prop := ∃ u n, Tm.ok a0 24 u ∧ p = u.codes ∧ d = ((n : Nat) : Int) ∧ n ≤ N ∧ t = u.up n ∧ p.length ≤ 48
def Pr (a0 : List QSym) (N : Nat) (p : List Int) (d : Int) (ts : List Tm) : Prop := ∃ us n, okR a0 24 us ∧ p = codesR us ∧ d = ((n : Nat) : Int) ∧ n ≤ N ∧ ts = us.map (Tm.up n) ∧ p.length ≤ 48
theorem Pc.size {a0 : List QSym} {N : Nat} {p : List Int} {d : Int} {t : Tm} (h : Pc a0 N p d t) : t.size = p.length ∧ t.size ≤ 48 := by
  obtain ⟨u, n, h1, rfl, h2, h3, rfl, h4⟩ := h
  rw [Tm.up_size, Tm.codes_len]
  rw [Tm.codes_len] at h4
  exact ⟨rfl, h4⟩
theorem Pc.lt {a0 : List QSym} {N : Nat} (hN : N ≤ 24) {p : List Int} {d : Int} {t : Tm} (h : Pc a0 N p d t) {x : Nat} (hx : t.has x) : x < 48 := by
  obtain ⟨u, n, h1, rfl, h2, h3, rfl, h4⟩ := h
  have := Tm.ok_has _ (Tm.up_ok (d := n) h1) hx
  omega
theorem Pc.cases {a0 : List QSym} {N : Nat} {p : List Int} {d : Int} {t : Tm} (h : Pc a0 N p d t) :
    (∃ k n : Nat, p = [-1 - (k : Int)] ∧ d = (n : Int) ∧ k < 24 ∧ n ≤ N ∧ t = .v (k + n)) ∨ ∃ c r ts, p = ((c : Nat) : Int) :: r ∧ t = .f c ts ∧ arity a0 (c : Int) = some ts.length ∧ Pr a0 N r d ts := by
  obtain ⟨u, n, h1, rfl, h2, h3, rfl, h4⟩ := h
  cases u with
  | v k => exact .inl ⟨k, n, rfl, h2, h1, h3, rfl⟩
  | f c as =>
    have h4 : (codesR as).length + 1 ≤ 48 := h4
    refine .inr ⟨c, codesR as, as.map (Tm.up n), rfl, ?_, by rw [List.length_map]; exact h1.1, as, n, h1.2, rfl, h2, h3, rfl, by omega⟩
    show Tm.f c (subR _ as) = _
    rw [subR_eq]
    rfl
def Pq (a0 : List QSym) (N : Nat) (q : List Int × Int × List Int × Int) (e : Tm × Tm) : Prop := Pc a0 N q.1 q.2.1 e.1 ∧ Pc a0 N q.2.2.1 q.2.2.2 e.2
def PqL (a0 : List QSym) (N : Nat) : List (List Int × Int × List Int × Int) → List (Tm × Tm) → Prop
  | [], es => es = []
  | q :: qs, es => ∃ e es', es = e :: es' ∧ Pq a0 N q e ∧ PqL a0 N qs es'
theorem PqL.append {a0 : List QSym} {N : Nat} : {qs : List (List Int × Int × List Int × Int)} → {es : List (Tm × Tm)} → {qs' : List (List Int × Int × List Int × Int)} → {es' : List (Tm × Tm)} → PqL a0 N qs es → PqL a0 N qs' es' → PqL a0 N (qs ++ qs') (es ++ es')
  | [], _, _, _, h, h' => by have h : _ = [] := h; subst h; exact h'
  | q :: qs, _, _, _, h, h' => by
    obtain ⟨e, es, rfl, h1, h2⟩ := h
    exact ⟨e, _, rfl, h1, PqL.append h2 h'⟩
theorem PqL.length {a0 : List QSym} {N : Nat} : {qs : List (List Int × Int × List Int × Int)} → {es : List (Tm × Tm)} → PqL a0 N qs es → es.length = qs.length
  | [], _, h => by have h : _ = [] := h; subst h; rfl
  | q :: qs, _, h => by
    obtain ⟨e, es, rfl, h1, h2⟩ := h
    simp [PqL.length h2]
theorem PqL.split {a0 : List QSym} {N : Nat} : {qs : List (List Int × Int × List Int × Int)} → {qs' : List (List Int × Int × List Int × Int)} → {es : List (Tm × Tm)} → PqL a0 N (qs ++ qs') es → ∃ e1 e2, es = e1 ++ e2 ∧ PqL a0 N qs e1 ∧ PqL a0 N qs' e2
  | [], _, es, h => ⟨[], es, rfl, rfl, h⟩
  | q :: qs, _, _, h => by
    obtain ⟨e, es, rfl, h1, h2⟩ := h
    obtain ⟨e1, e2, rfl, h3, h4⟩ := PqL.split h2
    exact ⟨e :: e1, e2, rfl, ⟨e, e1, rfl, h1, h3⟩, h4⟩
def PcO (a0 : List QSym) (N : Nat) (e : PO) (o : Option Tm) : Prop := match e.1 with
  | none => o = none
  | some p => ∃ t, o = some t ∧ Pc a0 N p e.2 t
structure RepT (a0 : List QSym) (N : Nat) (to : List PO) (B : Bd) : Prop where
  len : to.length = 48
  at_ : ∀ x e, to[x]? = some e → PcO a0 N e (B x)
  out : ∀ x, 48 ≤ x → B x = none
theorem RepT.small {a0 : List QSym} {N : Nat} {to : List PO} {B : Bd} (h : RepT a0 N to B) : Small B := by
  intro x t hx
  have hlt : x < 48 := by
    rcases Nat.lt_or_ge x 48 with h' | h'
    · exact h'
    · rw [h.out x h'] at hx; cases hx
  refine ⟨hlt, ?_⟩
  have hl : x < to.length := by rw [h.len]; exact hlt
  have hg : to[x]? = some to[x] := List.getElem?_eq_getElem hl
  have := h.at_ x _ hg
  unfold PcO at this
  split at this
  · rw [hx] at this; cases this
  · obtain ⟨u, h1, h2⟩ := this
    rw [hx] at h1; injection h1 with h1; subst h1
    exact h2.size.2
theorem RepT.get {a0 : List QSym} {N : Nat} {to : List PO} {B : Bd} (h : RepT a0 N to B) {x : Nat} (hx : x < 48) : ∃ e, to[x]? = some e ∧ PcO a0 N e (B x) := by
  have hl : x < to.length := by rw [h.len]; exact hx
  have hg : to[x]? = some to[x] := List.getElem?_eq_getElem hl
  exact ⟨_, hg, h.at_ x _ hg⟩
theorem RepT.set {a0 : List QSym} {N : Nat} {to : List PO} {B : Bd} (h : RepT a0 N to B) {x : Nat} (hx : x < 48) {p : List Int} {d : Int} {t : Tm} (hp : Pc a0 N p d t) : RepT a0 N (to.set x (some p, d)) (updB B x t) where
  len := by rw [List.length_set]; exact h.len
  at_ := fun y e hy => by
    by_cases he : y = x
    · subst he
      rw [List.getElem?_set_self (by rw [h.len]; exact hx)] at hy
      injection hy with hy
      subst hy
      rw [updB_same]
      exact ⟨t, rfl, hp⟩
    · rw [List.getElem?_set_ne (Ne.symm he)] at hy
      rw [updB_ne _ _ he]
      exact h.at_ y e hy
  out := fun y hy => by
    rw [updB_ne _ _ (by omega)]
    exact h.out y hy
theorem number_eq {N : Nat} (hN : N ≤ 24) {k n : Nat} (hk : k < 24) (hn : n ≤ N) (p : List Int) : unify_piece_number p (n : Int) (-1 - (k : Int)) = some ((k + n : Nat) : Int) := by
  unfold unify_piece_number
  rw [term_Number_eq (by omega) (by omega), Option.bind_some]
  congr 1
  rw [wrap64] <;> omega
def mWhat : Tm → Nat
  | .v x => x + 2
  | .f _ _ => 1
theorem what_run {a0 : List QSym} {N : Nat} (hN : N ≤ 24) {to : List PO} {B : Bd} {σ : Sb} (hT : RepT a0 N to B) (hG : Good B σ) : ∀ (m k : Nat) (p : List Int) (d : Int) (t : Tm) (z : Int), mWhat t ≤ m → m ≤ k → Pc a0 N p d t →
    ∃ p' d' t', lp unify_run_what_L0 k (a0, to, p, d, z) = some (p', d') ∧ Pc a0 N p' d' t' ∧ (∀ θ, SolB θ B → t.sub θ = t'.sub θ) ∧ ∀ y, t' = .v y → B y = none := by
  intro m
  induction m with
  | zero => intro k p d t z hm; cases t <;> simp [mWhat] at hm
  | succ m ih =>
    intro k p d t z hm hk hp
    obtain ⟨k, rfl⟩ : ∃ k', k = k' + 1 := ⟨k - 1, by omega⟩
    rw [lp_succ]
    have key := fun p d t (h1 : mWhat t ≤ m) h2 => ih k p d t z h1 (by omega) h2
    generalize lp unify_run_what_L0 k = rec at key ⊢
    unfold unify_run_what_L0
    rcases hp.cases with ⟨x, n, rfl, rfl, hx, hn, rfl⟩ | ⟨c, r, ts, rfl, rfl, hc, hr⟩
    · simp only [gx_zero, List.getElem?_cons_zero, Option.bind_some]
      rw [decide_eq_true (show -1 - (x : Int) < 0 by omega), cond_true, number_eq hN hx hn, Option.bind_some, inR_nat (by omega), Option.bind_some]
      obtain ⟨e, he, hpe⟩ := hT.get (x := x + n) (by omega)
      rw [he, Option.bind_some]
      unfold PcO at hpe
      split at hpe
      · rename_i h1
        rw [h1]
        exact ⟨_, _, _, rfl, hp, fun θ _ => rfl, fun y hy => by injection hy with hy; rw [← hy]; exact hpe⟩
      · rename_i q h1
        obtain ⟨u, hu, hq⟩ := hpe
        rw [h1]
        simp only [Option.isNone_some, cond_false, Option.getD_some]
        obtain ⟨p', d', t', h2, h3, h4, h5⟩ := key q e.2 u (by
          cases u with
          | v y => have := hG.down _ y hu; simp only [mWhat] at hm ⊢; omega
          | f c as => simp only [mWhat] at hm ⊢; omega) hq
        exact ⟨p', d', t', h2, h3, fun θ hθ => (hθ _ u hu).trans (h4 θ hθ), h5⟩
    · simp only [gx_zero, List.getElem?_cons_zero, Option.bind_some]
      rw [decide_eq_false (show ¬ (c : Int) < 0 by omega), cond_false]
      exact ⟨_, _, _, rfl, hp, fun θ _ => rfl, fun y hy => by cases hy⟩
theorem what_spec {a0 : List QSym} {N : Nat} (hN : N ≤ 24) {to : List PO} {B : Bd} {σ : Sb} (hT : RepT a0 N to B) (hG : Good B σ) {p : List Int} {d : Int} {t : Tm} (hp : Pc a0 N p d t) :
    ∃ p' d' t', unify_run_what p d a0 to = some (p', d') ∧ Pc a0 N p' d' t' ∧ (∀ θ, SolB θ B → t.sub θ = t'.sub θ) ∧ ∀ y, t' = .v y → B y = none := by
  obtain ⟨p', d', t', h1, h2⟩ := what_run hN hT hG (mWhat t) fuel p d t 0 (Nat.le_refl _) (by
    cases t with
    | v x => have := hp.lt hN (x := x) rfl; simp only [mWhat]; unfold fuel; omega
    | f c as => simp only [mWhat]; unfold fuel; omega) hp
  refine ⟨p', d', t', ?_, h2⟩
  unfold unify_run_what
  rw [h1]
  rfl
section
variable {a0 : List QSym} {N : Nat} {to : List PO} {B : Bd} {σ : Sb} {v : Nat}
def DoneV (B : Bd) (v : Nat) (seen : List Bool) (y : Nat) : Prop := y ≠ v ∧ (B y ≠ none → seen[y]? = some true)
def PcL (a0 : List QSym) (N : Nat) : List PI → List Tm → Prop
  | [], ts => ts = []
  | p :: ps, ts => ∃ t ts', ts = t :: ts' ∧ Pc a0 N p.1 p.2 t ∧ PcL a0 N ps ts'
theorem PcL.append : {ps : List PI} → {ts : List Tm} → {ps' : List PI} → {ts' : List Tm} → PcL a0 N ps ts → PcL a0 N ps' ts' → PcL a0 N (ps ++ ps') (ts ++ ts')
  | [], _, _, _, h, h' => by have h : _ = [] := h; subst h; exact h'
  | q :: qs, _, _, _, h, h' => by
    obtain ⟨e, es, rfl, h1, h2⟩ := h
    exact ⟨e, _, rfl, h1, PcL.append h2 h'⟩
theorem PcL.split : {ps : List PI} → {ps' : List PI} → {ts : List Tm} → PcL a0 N (ps ++ ps') ts → ∃ t1 t2, ts = t1 ++ t2 ∧ PcL a0 N ps t1 ∧ PcL a0 N ps' t2
  | [], _, ts, h => ⟨[], ts, rfl, rfl, h⟩
  | q :: qs, _, _, h => by
    obtain ⟨e, es, rfl, h1, h2⟩ := h
    obtain ⟨e1, e2, rfl, h3, h4⟩ := PcL.split h2
    exact ⟨e :: e1, e2, rfl, ⟨e, e1, rfl, h1, h3⟩, h4⟩
theorem PcL.length : {ps : List PI} → {ts : List Tm} → PcL a0 N ps ts → ts.length = ps.length
  | [], _, h => by have h : _ = [] := h; subst h; rfl
  | q :: qs, _, h => by
    obtain ⟨e, es, rfl, h1, h2⟩ := h
    simp [PcL.length h2]
def unseen (seen : List Bool) : Nat := seen.countP fun b => !b
theorem unseen_set {seen : List Bool} {x : Nat} (h : seen[x]? = some false) : unseen (seen.set x true) + 1 = unseen seen := by
  unfold unseen
  obtain ⟨hx, he⟩ := List.getElem?_eq_some_iff.1 h
  have h1 := List.take_append_drop x seen
  have h2 : seen.drop x = false :: seen.drop (x + 1) := by rw [List.drop_eq_getElem_cons hx, he]
  have h3 : seen.set x true = seen.take x ++ true :: seen.drop (x + 1) := by rw [List.set_eq_take_append_cons_drop, if_pos hx]
  conv => rhs; rw [← h1, h2]
  rw [h3]
  simp [List.countP_append, List.countP_cons]
  omega
theorem within_go (hN : N ≤ 24) (hT : RepT a0 N to B) {n : Nat} (hn : n ≤ N) (p0 : List Int) : ∀ (es : List Int) (seen : List Bool) (todo : List PI) (ts : List Tm), (∀ c ∈ es, -24 ≤ c) → seen.length = 48 → todo.length + unseen seen ≤ 1000 → PcL a0 N todo ts →
    (unify_run_within_L0_go (v : Int) to p0 (n : Int) es seen todo = some (.inr true) ∧ ∃ c ∈ es, c < 0 ∧ (-1 - c).toNat + n = v) ∨
    ∃ seen' more us, unify_run_within_L0_go (v : Int) to p0 (n : Int) es seen todo = some (.inl (seen', todo ++ more)) ∧ seen'.length = 48 ∧ more.length + unseen seen' = unseen seen ∧ PcL a0 N more us ∧
      (∀ y : Nat, seen[y]? = some true → seen'[y]? = some true) ∧ (∀ c ∈ es, c < 0 → DoneV B v seen' ((-1 - c).toNat + n)) ∧ (∀ y : Nat, seen'[y]? = some true → seen[y]? = some true ∨ ∃ u, B y = some u ∧ u ∈ us) ∧
      (∀ u ∈ us, ∃ c ∈ es, c < 0 ∧ B ((-1 - c).toNat + n) = some u)
  | [], seen, todo, ts, _, hs, _, _ => .inr ⟨seen, [], [], by rw [List.append_nil]; rfl, hs, by simp, rfl, fun _ h => h, fun c h => (nomatch h), fun y h => .inl h, fun u h => (nomatch h)⟩
  | e :: es, seen, todo, ts, hc, hs, hl, hp => by
    have he := hc e (List.mem_cons_self ..)
    have hc' : ∀ c ∈ es, -24 ≤ c := fun c h => hc c (List.mem_cons_of_mem _ h)
    -- the variable is passed over
    have pass : ∀ f : List Bool → List PI → Option ((List Bool × List PI) ⊕ Bool), f seen todo = unify_run_within_L0_go (v : Int) to p0 (n : Int) es seen todo → (e < 0 → DoneV B v seen ((-1 - e).toNat + n)) →
        ((f seen todo = some (.inr true) ∧ ∃ c ∈ e :: es, c < 0 ∧ (-1 - c).toNat + n = v) ∨
        ∃ seen' more us, f seen todo = some (.inl (seen', todo ++ more)) ∧ seen'.length = 48 ∧ more.length + unseen seen' = unseen seen ∧ PcL a0 N more us ∧
          (∀ y : Nat, seen[y]? = some true → seen'[y]? = some true) ∧ (∀ c ∈ e :: es, c < 0 → DoneV B v seen' ((-1 - c).toNat + n)) ∧ (∀ y : Nat, seen'[y]? = some true → seen[y]? = some true ∨ ∃ u, B y = some u ∧ u ∈ us) ∧
          (∀ u ∈ us, ∃ c ∈ e :: es, c < 0 ∧ B ((-1 - c).toNat + n) = some u)) := by
      intro f hf hd
      rw [hf]
      rcases within_go hN hT hn p0 es seen todo ts hc' hs hl hp with ⟨h1, c, h2, h3⟩ | ⟨seen', more, us, h1, h2, h3, h4, h5, h6, h7, h8⟩
      · exact .inl ⟨h1, c, List.mem_cons_of_mem _ h2, h3⟩
      · refine .inr ⟨seen', more, us, h1, h2, h3, h4, h5, fun c hcm hc0 => ?_, h7, fun u hu => ?_⟩
        · rcases List.mem_cons.1 hcm with rfl | hcm
          · exact ⟨(hd hc0).1, fun hb => h5 _ ((hd hc0).2 hb)⟩
          · exact h6 c hcm hc0
        · obtain ⟨c, h9, h10⟩ := h8 u hu
          exact ⟨c, List.mem_cons_of_mem _ h9, h10⟩
    unfold unify_run_within_L0_go
    by_cases h0 : e ≥ 0
    · rw [decide_eq_true h0, cond_true]
      exact pass (fun seen todo => unify_run_within_L0_go (v : Int) to p0 (n : Int) es seen todo) rfl fun h => by omega
    · rw [decide_eq_false h0, cond_false]
      obtain ⟨k, hk, rfl⟩ : ∃ k : Nat, k < 24 ∧ e = -1 - (k : Int) := ⟨(-1 - e).toNat, by omega, by omega⟩
      have hk2 : (-1 - (-1 - (k : Int))).toNat = k := by omega
      rw [number_eq hN hk hn, Option.bind_some]
      by_cases hv : k + n = v
      · rw [hv, show (((v : Nat) : Int) == (v : Int)) = true from by simp, cond_true]
        exact .inl ⟨rfl, _, List.mem_cons_self .., by omega, by rw [hk2]; exact hv⟩
      · rw [show (((k + n : Nat) : Int) == (v : Int)) = false from by simp; omega, cond_false, inR_nat (show k + n < 48 by omega), Option.bind_some]
        obtain ⟨b, hb⟩ : ∃ b, seen[k + n]? = some b := ⟨seen[k + n]'(by omega), List.getElem?_eq_getElem (by omega)⟩
        rw [hb, Option.bind_some]
        obtain ⟨q, hq, hpq⟩ := hT.get (x := k + n) (by omega)
        cases b with
        | true =>
          simp only [Bool.not_true, cond_false]
          exact pass (fun seen todo => unify_run_within_L0_go (v : Int) to p0 (n : Int) es seen todo) rfl fun _ => by rw [hk2]; exact ⟨hv, fun _ => hb⟩
        | false =>
          simp only [Bool.not_false, cond_true, Option.bind_some, hq]
          unfold PcO at hpq
          split at hpq
          · rename_i h1
            rw [h1]
            simp only [Option.isNone_none, Bool.not_true, cond_false]
            exact pass (fun seen todo => unify_run_within_L0_go (v : Int) to p0 (n : Int) es seen todo) rfl fun _ => by rw [hk2]; exact ⟨hv, fun hn => absurd hpq hn⟩
          · rename_i q1 h1
            obtain ⟨u, hu, hpu⟩ := hpq
            rw [h1]
            simp only [Option.isNone_some, Bool.not_false, cond_true, Option.getD_some, hb, Option.bind_some]
            have hun := unseen_set hb
            rw [room_ok (show (todo.length + ([(q1, q.2)] : List PI).length) * 32 ≤ 140737488351232 by simp; omega), cond_true]
            have hset : (seen.set (k + n) true)[k + n]? = some true := List.getElem?_set_self (by omega)
            have hmono : ∀ y : Nat, seen[y]? = some true → (seen.set (k + n) true)[y]? = some true := fun y hy => by
              by_cases hyk : y = k + n
              · subst hyk; exact hset
              · rw [List.getElem?_set_ne (Ne.symm hyk)]; exact hy
            have hbk : ∀ y : Nat, (seen.set (k + n) true)[y]? = some true → seen[y]? = some true ∨ y = k + n := fun y hy => by
              by_cases hyk : y = k + n
              · exact .inr hyk
              · rw [List.getElem?_set_ne (Ne.symm hyk)] at hy; exact .inl hy
            rcases within_go hN hT hn p0 es (seen.set (k + n) true) (todo ++ [(q1, q.2)]) (ts ++ [u]) hc' (by rw [List.length_set]; exact hs) (by simp; omega) (hp.append ⟨u, [], rfl, hpu, rfl⟩) with ⟨h2, c, h3, h4⟩ | ⟨seen', more, us, h2, h3, h4, h5, h6, h7, h8, h9⟩
            · exact .inl ⟨h2, c, List.mem_cons_of_mem _ h3, h4⟩
            · refine .inr ⟨seen', (q1, q.2) :: more, u :: us, by rw [h2, List.append_assoc]; rfl, h3, by simp; omega, ⟨u, us, rfl, hpu, h5⟩, fun y hy => h6 y (hmono y hy), fun c hcm hc0 => ?_, fun y hy => ?_, fun w hw => ?_⟩
              · rcases List.mem_cons.1 hcm with rfl | hcm
                · rw [hk2]; exact ⟨hv, fun _ => h6 _ hset⟩
                · exact h7 c hcm hc0
              · rcases h8 y hy with h10 | ⟨w, h10, h11⟩
                · rcases hbk y h10 with h12 | rfl
                  · exact .inl h12
                  · exact .inr ⟨u, hu, List.mem_cons_self ..⟩
                · exact .inr ⟨w, h10, List.mem_cons_of_mem _ h11⟩
              · rcases List.mem_cons.1 hw with rfl | hw
                · exact ⟨_, List.mem_cons_self .., by omega, by rw [hk2]; exact hu⟩
                · obtain ⟨c, h10, h11⟩ := h9 w hw
                  exact ⟨c, List.mem_cons_of_mem _ h10, h11⟩
theorem Pc.vars {p : List Int} {d : Int} {t : Tm} (h : Pc a0 N p d t) : ∃ n : Nat, d = (n : Int) ∧ n ≤ N ∧ (∀ c ∈ p, -24 ≤ c) ∧ ∀ y, t.has y ↔ ∃ c ∈ p, c < 0 ∧ (-1 - c).toNat + n = y := by
  obtain ⟨u, n, h1, rfl, h2, h3, rfl, h4⟩ := h
  refine ⟨n, h2, h3, fun c hc => ?_, fun y => ?_⟩
  · by_cases h0 : c < 0
    · have := Tm.ok_has u h1 ((Tm.mem_codes h0 u).1 hc); omega
    · omega
  · rw [Tm.up_has]
    constructor
    · rintro ⟨x, hx, rfl⟩
      have hc : (-1 - (x : Int)) < 0 := by omega
      refine ⟨-1 - (x : Int), (Tm.mem_codes hc u).2 (by rw [show (-1 - (-1 - (x : Int))).toNat = x from by omega]; exact hx), hc, by omega⟩
    · rintro ⟨c, hc, h0, rfl⟩
      exact ⟨_, (Tm.mem_codes h0 u).1 hc, rfl⟩
structure WInv (B : Bd) (σ : Sb) (v : Nat) (t : Tm) (seen : List Bool) (ts : List Tm) : Prop where
  snd : ∀ u ∈ ts, (u.sub σ).has v → (t.sub σ).has v
  top : t ∈ ts ∨ ∀ y, t.has y → DoneV B v seen y
  cls : ∀ x u, seen[x]? = some true → B x = some u → u ∈ ts ∨ ∀ y, u.has y → DoneV B v seen y
theorem DoneV.mono {seen seen' : List Bool} (h : ∀ y : Nat, seen[y]? = some true → seen'[y]? = some true) {y : Nat} (hd : DoneV B v seen y) : DoneV B v seen' y := ⟨hd.1, fun hb => h y (hd.2 hb)⟩
theorem within_run (hN : N ≤ 24) (hT : RepT a0 N to B) (hG : Good B σ) (hv : B v = none) (t : Tm) : ∀ (m k : Nat) (seen : List Bool) (todo : List PI) (ts : List Tm) (z : List Int) (z2 : Int), todo.length + unseen seen = m → m < k → m ≤ 100 → seen.length = 48 → PcL a0 N todo ts → WInv B σ v t seen ts →
    ∃ r, lp unify_run_within_L1 k ((v : Int), a0, to, z, z2, seen, todo) = some r ∧ ((r = .inr true ∧ (t.sub σ).has v) ∨ (r = .inl () ∧ ¬ (t.sub σ).has v)) := by
  intro m
  induction m using Nat.strongRecOn with
  | _ m ih =>
    intro k seen todo ts z z2 hm hk hm1 hs hp hI
    obtain ⟨k, rfl⟩ : ∃ k', k = k' + 1 := ⟨k - 1, by omega⟩
    rw [lp_succ]
    have key := fun (m' : Nat) (h : m' < m) seen todo ts z z2 h1 h2 h3 h4 => ih m' h k seen todo ts z z2 h1 (by omega) (by omega) h2 h3 h4
    generalize lp unify_run_within_L1 k = rec at key ⊢
    unfold unify_run_within_L1
    rcases List.eq_nil_or_concat todo with rfl | ⟨todo', p, rfl⟩
    · have hts : ts = [] := hp
      subst hts
      refine ⟨_, rfl, .inr ⟨rfl, ?_⟩⟩
      have hcl : ∀ x u, seen[x]? = some true → B x = some u → ∀ y, u.has y → DoneV B v seen y := fun x u h1 h2 => (hI.cls x u h1 h2).resolve_left (fun h => nomatch h)
      have hno : ∀ x, DoneV B v seen x → ¬ (σ x).has v := by
        refine hG.ind (fun x hx hd hh => ?_) fun x u hx ihx hd hh => ?_
        · rw [hG.free x hx] at hh
          exact hd.1 hh
        · rw [hG.bound x u hx] at hh
          obtain ⟨y, h1, h2⟩ := (Tm.has_sub u).1 hh
          exact ihx y h1 (hcl x u (hd.2 (by rw [hx]; simp)) hx y h1) h2
      intro hh
      obtain ⟨y, h1, h2⟩ := (Tm.has_sub t).1 hh
      exact hno y ((hI.top.resolve_left fun h => nomatch h) y h1) h2
    · rw [List.concat_eq_append] at *
      obtain ⟨ts', us0, rfl, hp1, hp2⟩ := PcL.split hp
      obtain ⟨u0, us1, rfl, hu0, hus1⟩ := hp2
      have hus1 : us1 = [] := hus1
      subst hus1
      simp only [List.length_append, List.length_singleton] at hm
      obtain ⟨q, d⟩ := p
      obtain ⟨n, rfl, hn, hcs, hvars⟩ := hu0.vars
      have e1 : IntKind.wrap .i64 (((List.length (todo' ++ [(q, (n : Int))]) : Nat) : Int) - 1) = ((todo'.length : Nat) : Int) := by
        rw [List.length_append, List.length_singleton, wrap64] <;> omega
      have e2 : inR ((todo'.length : Nat) : Int) (List.length (todo' ++ [(q, (n : Int))])) = some todo'.length := inR_nat (by simp)
      have e3 : (todo' ++ [(q, (n : Int))])[todo'.length]? = some (q, (n : Int)) := get_mid _ [] _
      have e4 : decide (((List.length (todo' ++ [(q, (n : Int))]) : Nat) : Int) > 0) = true := decide_eq_true (by rw [List.length_append, List.length_singleton]; omega)
      simp only [e1, e2, e3, e4, Option.bind_some, cond_true, slc_last]
      have hsz : u0.size = q.length ∧ u0.size ≤ 48 := hu0.size
      rw [unify_run_within_L0_go_at0 _ _ _ _ _ _ _ _ (by unfold maxLen; omega)]
      rcases within_go (v := v) hN hT hn q q seen todo' ts' hcs hs (by omega) hp1 with ⟨h1, c, h2, h3, h4⟩ | ⟨seen', more, us, h1, h2, h3, h4, h5, h6, h7, h8⟩
      · rw [h1]
        refine ⟨_, rfl, .inl ⟨rfl, hI.snd u0 (by simp) ?_⟩⟩
        refine (Tm.has_sub u0).2 ⟨v, (hvars v).2 ⟨c, h2, h3, h4⟩, ?_⟩
        rw [hG.free v hv]
        rfl
      · rw [h1]
        simp only [Option.bind_some, caseS_inl]
        refine key (todo'.length + more.length + unseen seen') (by omega) seen' (todo' ++ more) (ts' ++ us) q (n : Int) (by simp) h2 (hp1.append h4) ⟨fun w hw hh => ?_, ?_, fun x w hx hw => ?_⟩
        · rcases List.mem_append.1 hw with hw | hw
          · exact hI.snd w (by simp [hw]) hh
          · obtain ⟨c, h9, h10, h11⟩ := h8 w hw
            refine hI.snd u0 (by simp) ((Tm.has_sub u0).2 ⟨_, (hvars _).2 ⟨c, h9, h10, rfl⟩, ?_⟩)
            rw [hG.bound _ w h11]
            exact hh
        · have hdone : ∀ y, u0.has y → DoneV B v seen' y := fun y hy => by
            obtain ⟨c, h9, h10, rfl⟩ := (hvars y).1 hy
            exact h6 c h9 h10
          rcases hI.top with ht | ht
          · rcases List.mem_append.1 ht with ht | ht
            · exact .inl (by simp [ht])
            · rw [List.mem_singleton.1 ht]; exact .inr hdone
          · exact .inr fun y hy => (ht y hy).mono h5
        · have hdone : ∀ y, u0.has y → DoneV B v seen' y := fun y hy => by
            obtain ⟨c, h9, h10, rfl⟩ := (hvars y).1 hy
            exact h6 c h9 h10
          rcases h7 x hx with h9 | ⟨w', h9, h10⟩
          · rcases hI.cls x w h9 hw with ht | ht
            · rcases List.mem_append.1 ht with ht | ht
              · exact .inl (by simp [ht])
              · rw [List.mem_singleton.1 ht]; exact .inr hdone
            · exact .inr fun y hy => (ht y hy).mono h5
          · rw [hw] at h9; injection h9 with h9; subst h9
            exact .inl (by simp [h10])
theorem within_spec (hN : N ≤ 24) (hT : RepT a0 N to B) (hG : Good B σ) (hv : B v = none) {p : List Int} {d : Int} {t : Tm} (hp : Pc a0 N p d t) :
    ∃ r, unify_run_within (v : Int) p d a0 to = some r ∧ (r = true ↔ (t.sub σ).has v) := by
  have hun : unseen (List.replicate 48 false) = 48 := by decide
  obtain ⟨r, h1, h2⟩ := within_run hN hT hG hv t 49 fuel (List.replicate 48 false) [(p, d)] [t] p d (by rw [hun]; rfl) (by unfold fuel; omega) (by omega) (by simp) ⟨t, [], rfl, hp, rfl⟩
    ⟨fun u hu h => by rw [List.mem_singleton.1 hu] at h; exact h, .inl (by simp), fun x u hx _ => by
      rw [List.getElem?_replicate] at hx
      split at hx <;> simp at hx⟩
  unfold unify_run_within
  rw [h1]
  rcases h2 with ⟨rfl, h2⟩ | ⟨rfl, h2⟩
  · exact ⟨true, rfl, by simp [h2]⟩
  · exact ⟨false, rfl, by simp [h2]⟩
end
end
end Go.Abs.Q
namespace Go.Abs.Q
open Go Go.Abs
section
mutual
def Tm.ht : Tm → Nat
  | .v _ => 1
  | .f _ as => htR as + 1
def htR : List Tm → Nat
  | [] => 0
  | t :: ts => max t.ht (htR ts)
end
mutual
theorem Tm.ht_size : (t : Tm) → t.ht ≤ t.size
  | .v _ => Nat.le_refl _
  | .f _ as => by have := htR_size as; simp only [Tm.ht, Tm.size]; omega
theorem htR_size : (ts : List Tm) → htR ts ≤ sizeR ts
  | [] => Nat.le_refl _
  | t :: ts => by have := t.ht_size; have := htR_size ts; simp only [htR, sizeR]; omega
end
mutual
theorem Tm.ht_sub {s : Sb} {M : Nat} : (t : Tm) → (∀ x, t.has x → (s x).ht ≤ M) → (t.sub s).ht ≤ t.ht + M
  | .v n, h => by have := h n rfl; simp only [Tm.sub, Tm.ht]; omega
  | .f _ as, h => by have := htR_sub as h; simp only [Tm.sub, Tm.ht]; omega
theorem htR_sub {s : Sb} {M : Nat} : (ts : List Tm) → (∀ x, hasR x ts → (s x).ht ≤ M) → htR (subR s ts) ≤ htR ts + M
  | [], _ => by simp [subR, htR]
  | t :: ts, h => by
    have h1 := Tm.ht_sub t fun x hx => h x (.inl hx)
    have h2 := htR_sub ts fun x hx => h x (.inr hx)
    simp only [subR, htR]; omega
end
theorem htR_mem : {ts : List Tm} → {t : Tm} → t ∈ ts → t.ht ≤ htR ts
  | u :: us, t, h => by
    rcases List.mem_cons.1 h with rfl | h
    · simp only [htR]; omega
    · have := htR_mem h; simp only [htR]; omega
theorem Good.rank_lt {B : Bd} {σ : Sb} (h : Good B σ) {x y : Nat} {t : Tm} (hx : B x = some t) (hy : t.has y) (h48 : y < 48) : Good.rank σ y < Good.rank σ x := by
  have hlt : Good.less σ y x = true := by
    unfold Good.less
    have hs := h.bound x t hx
    cases t with
    | v z =>
      have hz : z = y := hy
      subst hz
      have h2 := h.down x z hx
      have h3 : (σ z).size = (σ x).size := by rw [hs]; rfl
      simp [h3, h2]
    | f c as =>
      have h2 := sizeR_has (s := σ) as hy
      have h3 : (σ x).size = sizeR (subR σ as) + 1 := by rw [hs]; rfl
      rw [decide_eq_true (show (σ y).size < (σ x).size by omega)]
      rfl
  refine countP_lt (a := y) (List.mem_range.2 h48) (fun z _ hz => ?_) (by simp [Good.less]) hlt
  simp only [Good.less, Bool.or_eq_true, Bool.and_eq_true, decide_eq_true_eq] at hz hlt ⊢
  omega
theorem Good.rank_le (σ : Sb) (x : Nat) : Good.rank σ x ≤ 48 := by
  have : Good.rank σ x ≤ (List.range 48).length := List.countP_le_length
  rwa [List.length_range] at this
theorem Good.low {B : Bd} {σ : Sb} (h : Good B σ) (hb : Small B) : ∀ x, (σ x).ht ≤ 49 * 49 := by
  have key : ∀ x, B x ≠ none → (σ x).ht ≤ 49 * (Good.rank σ x + 1) := by
    refine h.ind (fun x hx hn => absurd hx hn) fun x t hx ih _ => ?_
    obtain ⟨hx48, ht⟩ := hb x t hx
    rw [h.bound x t hx]
    have h0 := t.ht_size
    have := Tm.ht_sub (s := σ) (M := 49 * Good.rank σ x + 1) t fun y hy => (by
      cases hy0 : B y with
      | none => rw [h.free y hy0]; simp only [Tm.ht]; omega
      | some u =>
        have h1 := ih y hy (by rw [hy0]; simp)
        have h2 := h.rank_lt hx hy (hb y u hy0).1
        have : 49 * (Good.rank σ y + 1) ≤ 49 * Good.rank σ x := Nat.mul_le_mul_left _ (by omega)
        omega)
    omega
  intro x
  by_cases hx : B x = none
  · rw [h.free x hx]; simp [Tm.ht]
  · have h1 := key x hx
    have h2 := Good.rank_le σ x
    have : 49 * (Good.rank σ x + 1) ≤ 49 * 49 := Nat.mul_le_mul_left _ (by omega)
    omega
def zipC (n m : Nat) (us ws : List Tm) : List (List Int × Int × List Int × Int) := List.zipWith (fun a b => (a.codes, (n : Int), b.codes, (m : Int))) us ws
theorem codes_le {ts : List Tm} {t : Tm} (h : t ∈ ts) : t.codes.length ≤ (codesR ts).length := by
  obtain ⟨l1, l2, rfl⟩ := List.append_of_mem h
  rw [codesR_app]
  simp [codesR]
  omega
theorem zipC_rel {a0 : List QSym} {N n m : Nat} (hn : n ≤ N) (hm : m ≤ N) : {us ws : List Tm} → okR a0 24 us → okR a0 24 ws → (∀ t ∈ us, t.codes.length ≤ 48) → (∀ t ∈ ws, t.codes.length ≤ 48) →
    PqL a0 N (zipC n m us ws) ((us.map (Tm.up n)).zip (ws.map (Tm.up m)))
  | [], _, _, _, _, _ => rfl
  | _ :: _, [], _, _, _, _ => rfl
  | u :: us, w :: ws, hu, hw, hlu, hlw =>
    ⟨(u.up n, w.up m), _, rfl, ⟨⟨u, n, hu.1, rfl, rfl, hn, rfl, hlu u (List.mem_cons_self ..)⟩, ⟨w, m, hw.1, rfl, rfl, hm, rfl, hlw w (List.mem_cons_self ..)⟩⟩,
      zipC_rel hn hm hu.2 hw.2 (fun t h => hlu t (List.mem_cons_of_mem _ h)) fun t h => hlw t (List.mem_cons_of_mem _ h)⟩
theorem pairs_go2 (ps2 : List (List Int)) (n m : Nat) : (us ws : List Tm) → (i : Nat) → (out : List (List Int × Int × List Int × Int)) → ps2.drop i = ws.map Tm.codes → us.length = ws.length → out.length + us.length ≤ 1000000 →
    unify_run_pairs_1_L0_go ps2 (n : Int) (m : Int) (us.map Tm.codes) i out = some (out ++ zipC n m us ws)
  | [], ws, i, out, _, _, _ => by simp [unify_run_pairs_1_L0_go, zipC]
  | u :: us, [], i, out, _, h, _ => by simp at h
  | u :: us, w :: ws, i, out, h, hl, hr => by
    simp only [List.length_cons] at hl hr
    rw [List.map_cons] at h
    rw [List.map_cons]
    unfold unify_run_pairs_1_L0_go
    rw [gx_nat, drop_cons_get h, Option.bind_some, room_ok (by simp only [List.length_singleton]; omega), cond_true, pairs_go2 ps2 n m us ws (i + 1) _ (drop_cons_next h) (by omega) (by simp only [List.length_append, List.length_singleton]; omega)]
    simp [zipC]
theorem pairs_spec {a0 : List QSym} (h : SignOk a0) {N : Nat} {p q : List Int} {d e : Int} {ts us : List Tm} (hp : Pr a0 N p d ts) (hq : Pr a0 N q e us) (hl : ts.length = us.length) (to : List PO) {out : List (List Int × Int × List Int × Int)} (ho : out.length ≤ 100000) :
    ∃ more, unify_run_pairs_1 p d q e a0 to out = some (out ++ more) ∧ PqL a0 N more (ts.zip us) := by
  obtain ⟨us0, n, h1, rfl, rfl, h2, rfl, h3⟩ := hp
  obtain ⟨ws0, m, h4, rfl, rfl, h5, rfl, h6⟩ := hq
  simp only [List.length_map] at hl
  have hls : us0.length ≤ 48 := by
    have := cuts_len (cuts_codes us0 h1)
    rw [List.length_map] at this
    omega
  refine ⟨zipC n m us0 ws0, ?_, zipC_rel h2 h5 h1 h4 (fun t ht => Nat.le_trans (codes_le ht) h3) fun t ht => Nat.le_trans (codes_le ht) h6⟩
  unfold unify_run_pairs_1
  rw [term_Pieces_eq h (by omega) (cuts_codes us0 h1), Option.bind_some, term_Pieces_eq h (by omega) (cuts_codes ws0 h4), Option.bind_some,
    unify_run_pairs_1_L0_go_at0 _ _ _ _ _ _ _ (by rw [List.length_map]; unfold maxLen; omega), pairs_go2 _ n m us0 ws0 0 out rfl hl (by omega)]
  rfl
theorem nn_codes {a0 : List QSym} {N : Nat} {p : List Int} {d : Int} {t : Tm} (h : Pc a0 N p d t) : nn p = some p := by
  have h1 := h.size
  have h2 := t.size_pos
  cases p with
  | nil => simp at h1; omega
  | cons x r => rfl
theorem put_spec {a0 : List QSym} {N : Nat} (hN : N ≤ 24) {to : List PO} {B : Bd} {σ : Sb} (hT : RepT a0 N to B) (hG : Good B σ) {p q : List Int} {d e : Int} {v : Nat} {u : Tm} (hp : Pc a0 N p d (.v v)) (hq : Pc a0 N q e u) (hv : B v = none) (hu : ∀ y, u = .v y → B y = none) :
    ∃ r to', unify_run_put_1 p d q e a0 to = some (r, a0, to') ∧ ((r = false ∧ ∀ θ, SolB θ B → θ v = u.sub θ → False) ∨ (r = true ∧ ∃ B' σ', RepT a0 N to' B' ∧ Good B' σ' ∧ ∀ θ, SolB θ B' ↔ SolB θ B ∧ θ v = u.sub θ)) := by
  have hv48 : v < 48 := hp.lt hN rfl
  rcases hp.cases with ⟨k, n, rfl, rfl, hk, hn, he⟩ | ⟨_, _, _, _, he, _⟩
  case inr => cases he
  injection he with he
  subst he
  unfold unify_run_put_1
  simp only [gx_zero, List.getElem?_cons_zero, Option.bind_some, number_eq hN hk hn]
  rcases hq.cases with ⟨k2, n2, rfl, rfl, hk2, hn2, rfl⟩ | ⟨c, r, ts, rfl, rfl, hc, hr⟩
  · simp only [List.getElem?_cons_zero, Option.bind_some, number_eq hN hk2 hn2]
    rw [decide_eq_false (show ¬ (-1 - (k2 : Int) ≥ 0) by omega), cond_false]
    have hw := hu _ rfl
    by_cases h1 : k2 + n2 > k + n
    · rw [decide_eq_true (show ((k2 + n2 : Nat) : Int) > ((k + n : Nat) : Int) by omega), cond_true, inR_nat (by omega), Option.bind_some]
      obtain ⟨x, hx, -⟩ := hT.get (x := k2 + n2) (by omega)
      rw [hx, Option.bind_some, nn_codes hp, Option.bind_some]
      refine ⟨true, _, rfl, .inr ⟨rfl, _, _, hT.set (by omega) hp, hG.bind hw ?_ ?_, fun θ => (SolB.upd hw).trans ?_⟩⟩
      · show ¬ (σ (k + n)).has (k2 + n2)
        rw [hG.free _ hv]
        show ¬ (k + n = k2 + n2)
        omega
      · intro y hy
        injection hy with hy
        omega
      · show _ ∧ θ (k2 + n2) = θ (k + n) ↔ _ ∧ θ (k + n) = θ (k2 + n2)
        exact ⟨fun h => ⟨h.1, h.2.symm⟩, fun h => ⟨h.1, h.2.symm⟩⟩
    · rw [decide_eq_false (show ¬ (((k2 + n2 : Nat) : Int) > ((k + n : Nat) : Int)) by omega), cond_false]
      by_cases h2 : k2 + n2 < k + n
      · rw [decide_eq_true (show ((k2 + n2 : Nat) : Int) < ((k + n : Nat) : Int) by omega), cond_true, inR_nat (by omega), Option.bind_some]
        obtain ⟨x, hx, -⟩ := hT.get (x := k + n) (by omega)
        rw [hx, Option.bind_some, nn_codes hq, Option.bind_some]
        refine ⟨true, _, rfl, .inr ⟨rfl, _, _, hT.set (by omega) hq, hG.bind hv ?_ ?_, fun θ => SolB.upd hv⟩⟩
        · show ¬ (σ (k2 + n2)).has (k + n)
          rw [hG.free _ hw]
          show ¬ (k2 + n2 = k + n)
          omega
        · intro y hy
          injection hy with hy
          omega
      · rw [decide_eq_false (show ¬ (((k2 + n2 : Nat) : Int) < ((k + n : Nat) : Int)) by omega), cond_false]
        have : k2 + n2 = k + n := by omega
        refine ⟨true, _, rfl, .inr ⟨rfl, B, σ, hT, hG, fun θ => ⟨fun h => ⟨h, ?_⟩, fun h => h.1⟩⟩⟩
        show θ (k + n) = θ (k2 + n2)
        rw [this]
  · simp only [List.getElem?_cons_zero, Option.bind_some]
    rw [decide_eq_true (show (c : Int) ≥ 0 by omega), cond_true]
    obtain ⟨w, hw1, hw2⟩ := within_spec hN hT hG hv hq
    rw [hw1, Option.bind_some]
    cases w with
    | true =>
      refine ⟨false, _, rfl, .inl ⟨rfl, fun θ h1 h2 => hG.occurs (hw2.1 rfl) h1 h2⟩⟩
    | false =>
      rw [cond_false, inR_nat (by omega), Option.bind_some]
      obtain ⟨x, hx, -⟩ := hT.get (x := k + n) (by omega)
      rw [hx, Option.bind_some, nn_codes hq, Option.bind_some]
      refine ⟨true, _, rfl, .inr ⟨rfl, _, _, hT.set (by omega) hq, hG.bind hv (fun h => by have := hw2.2 h; cases this) (fun y hy => by cases hy), fun θ => SolB.upd hv⟩⟩
end
end Go.Abs.Q
namespace Go.Abs.Q
open Go Go.Abs
section
def wt (σ : Sb) (E : List (Tm × Tm)) : Nat := (E.map fun e => (e.1.sub σ).size).sum
theorem wt_append (σ : Sb) (E F : List (Tm × Tm)) : wt σ (E ++ F) = wt σ E + wt σ F := by simp [wt]
theorem wt_one (σ : Sb) (e : Tm × Tm) : wt σ [e] = (e.1.sub σ).size := by simp [wt]
theorem wt_zip (σ : Sb) : {ts us : List Tm} → ts.length = us.length → wt σ (ts.zip us) = sizeR (subR σ ts)
  | [], _, _ => rfl
  | _ :: _, [], h => by simp at h
  | t :: ts, u :: us, h => by
    have := wt_zip σ (ts := ts) (us := us) (by simpa using h)
    simp only [wt] at this ⊢
    simp only [List.zip_cons_cons, List.map_cons, List.sum_cons, subR, sizeR, this]
def HtOk (R : List Tm) (B : Bd) (i : Nat) (t : Tm) : Prop := ∃ δ : Nat, i ≤ 47 + 3 * δ ∧ ∀ θ, SolB θ B → ∃ c ∈ R, δ + (t.sub θ).ht ≤ (c.sub θ).ht
def StkOk (R : List Tm) (B : Bd) (E : List (Tm × Tm)) : Prop := ∀ (i : Nat) e, E[i]? = some e → HtOk R B i e.1
theorem HtOk.mono {R : List Tm} {B B' : Bd} {i : Nat} {t : Tm} (h : HtOk R B i t) (hB : ∀ θ, SolB θ B' → SolB θ B) : HtOk R B' i t := by
  obtain ⟨δ, h1, h2⟩ := h
  exact ⟨δ, h1, fun θ hθ => h2 θ (hB θ hθ)⟩
theorem StkOk.mono {R : List Tm} {B B' : Bd} {E : List (Tm × Tm)} (h : StkOk R B E) (hB : ∀ θ, SolB θ B' → SolB θ B) : StkOk R B' E := fun i e he => (h i e he).mono hB
theorem StkOk.left {R : List Tm} {B : Bd} {E F : List (Tm × Tm)} (h : StkOk R B (E ++ F)) : StkOk R B E := fun i e he => h i e (by
  rw [List.getElem?_append_left (List.getElem?_eq_some_iff.1 he).1]; exact he)
theorem StkOk.len {R : List Tm} {B : Bd} {σ : Sb} {E : List (Tm × Tm)} (h : StkOk R B E) (hG : Good B σ) (hS : Small B) (hR : ∀ c ∈ R, c.size ≤ 48) : E.length ≤ 8000 := by
  rcases Nat.eq_zero_or_pos E.length with h0 | h0
  · omega
  · obtain ⟨δ, h1, h2⟩ := h (E.length - 1) E[E.length - 1] (List.getElem?_eq_getElem (by omega))
    obtain ⟨c, hc, h3⟩ := h2 σ hG.bound
    have h4 := Tm.ht_sub (s := σ) c fun x _ => hG.low hS x
    have h5 := c.ht_size
    have h6 := hR c hc
    omega
def SameR (a0 : List QSym) (N : Nat) (B : Bd) (E : List (Tm × Tm)) (r : Bool × List QSym × List PO) : Prop :=
  r.2.1 = a0 ∧ ((r.1 = false ∧ Out B E none) ∨ (r.1 = true ∧ ∃ B', RepT a0 N r.2.2 B' ∧ Out B E (some B')))
theorem SameR.via {a0 : List QSym} {N : Nat} {B B1 : Bd} {E E1 : List (Tm × Tm)} (h : ∀ θ, (SolB θ B1 ∧ Sol θ E1) ↔ (SolB θ B ∧ Sol θ E)) {r : Bool × List QSym × List PO} (hr : SameR a0 N B1 E1 r) : SameR a0 N B E r :=
  ⟨hr.1, hr.2.imp (fun h1 => ⟨h1.1, Out.via h h1.2⟩) fun ⟨h1, B', h2, h3⟩ => ⟨h1, B', h2, Out.via h h3⟩⟩
theorem same_run {a0 : List QSym} (hs : SignOk a0) {N : Nat} (hN : N ≤ 24) (R : List Tm) (hR : ∀ c ∈ R, c.size ≤ 48) : ∀ (n : Nat) (to : List PO) (B : Bd) (σ : Sb) (todo : List (List Int × Int × List Int × Int)) (E : List (Tm × Tm)),
    RepT a0 N to B → Good B σ → PqL a0 N todo E → StkOk R B E →
    (∃ r, (∀ k, lp unify_run_same_1_L0 (k + n) (a0, to, todo) = some r) ∧ SameR a0 N B E r) ∨ ∃ B' σ', Good B' σ' ∧ Small B' ∧ (∀ θ, SolB θ B' → SolB θ B) ∧ n ≤ wt σ' E := by
  intro n
  induction n with
  | zero => intro to B σ todo E hT hG _ _; exact .inr ⟨B, σ, hG, hT.small, fun _ h => h, Nat.zero_le _⟩
  | succ n ih =>
    intro to B σ todo E hT hG hP hK
    have hlen := hK.len hG hT.small hR
    have hpl := hP.length
    -- one round, and what is left
    have go : ∀ (to1 : List PO) (B1 : Bd) (σ1 : Sb) (todo1 : List (List Int × Int × List Int × Int)) (E1 : List (Tm × Tm)), RepT a0 N to1 B1 → Good B1 σ1 → PqL a0 N todo1 E1 → StkOk R B1 E1 →
        (∀ θ, (SolB θ B1 ∧ Sol θ E1) ↔ (SolB θ B ∧ Sol θ E)) → (∀ θ, SolB θ B1 → SolB θ B) → (∀ σ', SolB σ' B1 → wt σ' E1 + 1 ≤ wt σ' E) → (∀ rec, unify_run_same_1_L0 rec (a0, to, todo) = rec (a0, to1, todo1)) →
        ((∃ r, (∀ k, lp unify_run_same_1_L0 (k + (n + 1)) (a0, to, todo) = some r) ∧ SameR a0 N B E r) ∨ ∃ B' σ', Good B' σ' ∧ Small B' ∧ (∀ θ, SolB θ B' → SolB θ B) ∧ n + 1 ≤ wt σ' E) := by
      intro to1 B1 σ1 todo1 E1 h1 h2 h3 h4 h5 h6 h7 h8
      rcases ih to1 B1 σ1 todo1 E1 h1 h2 h3 h4 with ⟨r, h9, h10⟩ | ⟨B', σ', h9, h10, h11, h12⟩
      · refine .inl ⟨r, fun k => ?_, h10.via h5⟩
        rw [← Nat.add_assoc, lp_succ, h8]
        exact h9 k
      · have := h7 σ' (h11 _ h9.bound)
        exact .inr ⟨B', σ', h9, h10, fun θ hθ => h6 θ (h11 θ hθ), by omega⟩
    have stop : ∀ r, SameR a0 N B E r → (∀ rec, unify_run_same_1_L0 rec (a0, to, todo) = some r) →
        ((∃ r, (∀ k, lp unify_run_same_1_L0 (k + (n + 1)) (a0, to, todo) = some r) ∧ SameR a0 N B E r) ∨ ∃ B' σ', Good B' σ' ∧ Small B' ∧ (∀ θ, SolB θ B' → SolB θ B) ∧ n + 1 ≤ wt σ' E) :=
      fun r h1 h2 => .inl ⟨r, fun k => by rw [← Nat.add_assoc, lp_succ, h2], h1⟩
    rcases List.eq_nil_or_concat todo with rfl | ⟨todo', t, rfl⟩
    · have hE : E = [] := hP
      subst hE
      exact stop (true, a0, to) ⟨rfl, .inr ⟨rfl, B, hT, Out.done hG hT.small⟩⟩ fun rec => rfl
    · rw [List.concat_eq_append] at *
      obtain ⟨p, d, q, e⟩ := t
      obtain ⟨E', F, rfl, hP', hF⟩ := PqL.split hP
      obtain ⟨⟨s, u⟩, F', rfl, ⟨hps, hqu⟩, hF'⟩ := hF
      have hF' : F' = [] := hF'
      subst hF'
      have hps : Pc a0 N p d s := hps
      have hqu : Pc a0 N q e u := hqu
      obtain ⟨p1, d1, s1, hw1, hp1, hs1, hb1⟩ := what_spec hN hT hG hps
      obtain ⟨q1, e1, u1, hw2, hq1, hu1, hb2⟩ := what_spec hN hT hG hqu
      simp only [List.length_append, List.length_singleton] at hlen hpl
      have x1 : IntKind.wrap .i64 (((List.length (todo' ++ [(p, d, q, e)]) : Nat) : Int) - 1) = ((todo'.length : Nat) : Int) := by
        rw [List.length_append, List.length_singleton, wrap64] <;> omega
      have x2 : inR ((todo'.length : Nat) : Int) (List.length (todo' ++ [(p, d, q, e)])) = some todo'.length := inR_nat (by simp)
      have x3 : (todo' ++ [(p, d, q, e)])[todo'.length]? = some (p, d, q, e) := get_mid _ [] _
      have x4 : (((List.length (todo' ++ [(p, d, q, e)]) : Nat) : Int) == 0) = false := by simp; omega
      have hsol : ∀ θ, SolB θ B → (Sol θ (E' ++ [(s, u)]) ↔ Sol θ E' ∧ s1.sub θ = u1.sub θ) := fun θ hθ => by
        rw [Sol.append, Sol.cons, hs1 θ hθ, hu1 θ hθ]
        exact ⟨fun h => ⟨h.1, h.2.1⟩, fun h => ⟨h.1, h.2, Sol.nil⟩⟩
      -- one round
      have round : ∀ rec, unify_run_same_1_L0 rec (a0, to, todo' ++ [(p, d, q, e)]) = (gx p1 0).bind fun e34 => cond (decide (e34 < 0))
          ((unify_run_put_1 p1 d1 q1 e1 a0 to).bind fun r35 => cond r35.1 (rec (r35.2.1, r35.2.2, todo')) (some (false, r35.2.1, r35.2.2)))
          ((gx q1 0).bind fun e36 => cond (decide (e36 < 0))
            ((unify_run_put_1 q1 e1 p1 d1 a0 to).bind fun r37 => cond r37.1 (rec (r37.2.1, r37.2.2, todo')) (some (false, r37.2.1, r37.2.2)))
            ((gx p1 0).bind fun e38 => (gx q1 0).bind fun e39 => cond (e38 != e39) (some (false, a0, to))
              ((slc2 p1 (some 1) none).bind fun y40 => (slc2 q1 (some 1) none).bind fun y41 => (unify_run_pairs_1 y40 d1 y41 e1 a0 to todo').bind fun r42 => rec (a0, to, r42)))) := by
        intro rec
        unfold unify_run_same_1_L0
        simp only [x1, x2, x3, x4, Option.bind_some, cond_false, slc_last, hw1, hw2]
      have hbind : ∀ {B1 : Bd} {v : Nat} {w : Tm}, (∀ θ, SolB θ B1 ↔ SolB θ B ∧ θ v = w.sub θ) → (∀ θ, SolB θ B → (s1.sub θ = u1.sub θ ↔ θ v = w.sub θ)) → ∀ θ, (SolB θ B1 ∧ Sol θ E') ↔ (SolB θ B ∧ Sol θ (E' ++ [(s, u)])) := by
        intro B1 v w h1 h2 θ
        rw [h1 θ]
        constructor
        · rintro ⟨⟨h3, h4⟩, h5⟩
          exact ⟨h3, (hsol θ h3).2 ⟨h5, (h2 θ h3).2 h4⟩⟩
        · rintro ⟨h3, h4⟩
          have h6 := (hsol θ h3).1 h4
          exact ⟨⟨h3, (h2 θ h3).1 h6.2⟩, h6.1⟩
      have hwt : ∀ σ', wt σ' E' + 1 ≤ wt σ' (E' ++ [(s, u)]) := fun σ' => by
        rw [wt_append, wt_one]
        have := (s.sub σ').size_pos
        show wt σ' E' + 1 ≤ wt σ' E' + (s.sub σ').size
        omega
      rcases hp1.cases with ⟨k1, n1, rfl, rfl, hk1, hn1, rfl⟩ | ⟨c1, r1, ts1, rfl, rfl, hc1, hr1⟩
      · -- a variable on the left
        obtain ⟨r, to1, hput, hres⟩ := put_spec hN hT hG hp1 hq1 (hb1 _ rfl) hb2
        rcases hres with ⟨rfl, hno⟩ | ⟨rfl, B1, σ1, hT1, hG1, hB1⟩
        · refine stop (false, a0, to1) ⟨rfl, .inl ⟨rfl, fun θ h1 h2 => hno θ h1 ((hsol θ h1).1 h2).2⟩⟩ fun rec => ?_
          rw [round, gx_zero, List.getElem?_cons_zero, Option.bind_some, decide_eq_true (show -1 - (k1 : Int) < 0 by omega), cond_true, hput]
          rfl
        · refine go to1 B1 σ1 todo' E' hT1 hG1 hP' (hK.left.mono fun θ h => ((hB1 θ).1 h).1) (hbind hB1 fun θ _ => Iff.rfl) (fun θ h => ((hB1 θ).1 h).1) (fun σ' _ => hwt σ') fun rec => ?_
          rw [round, gx_zero, List.getElem?_cons_zero, Option.bind_some, decide_eq_true (show -1 - (k1 : Int) < 0 by omega), cond_true, hput]
          rfl
      · rcases hq1.cases with ⟨k2, n2, rfl, rfl, hk2, hn2, rfl⟩ | ⟨c2, r2, ts2, rfl, rfl, hc2, hr2⟩
        · obtain ⟨r, to1, hput, hres⟩ := put_spec hN hT hG hq1 hp1 (hb2 _ rfl) hb1
          rcases hres with ⟨rfl, hno⟩ | ⟨rfl, B1, σ1, hT1, hG1, hB1⟩
          · refine stop (false, a0, to1) ⟨rfl, .inl ⟨rfl, fun θ h1 h2 => hno θ h1 ((hsol θ h1).1 h2).2.symm⟩⟩ fun rec => ?_
            rw [round]
            simp only [gx_zero, List.getElem?_cons_zero, Option.bind_some]
            rw [decide_eq_false (show ¬ (c1 : Int) < 0 by omega), cond_false, decide_eq_true (show -1 - (k2 : Int) < 0 by omega), cond_true, hput]
            rfl
          · refine go to1 B1 σ1 todo' E' hT1 hG1 hP' (hK.left.mono fun θ h => ((hB1 θ).1 h).1) (hbind hB1 fun θ _ => ⟨fun h => h.symm, fun h => h.symm⟩) (fun θ h => ((hB1 θ).1 h).1) (fun σ' _ => hwt σ') fun rec => ?_
            rw [round]
            simp only [gx_zero, List.getElem?_cons_zero, Option.bind_some]
            rw [decide_eq_false (show ¬ (c1 : Int) < 0 by omega), cond_false, decide_eq_true (show -1 - (k2 : Int) < 0 by omega), cond_true, hput]
            rfl
        · by_cases hcc : c1 = c2
          · subst hcc
            have hl : ts1.length = ts2.length := by rw [hc1] at hc2; injection hc2
            have hl3 : ts1.length ≤ 3 := arity_le hs hc1
            obtain ⟨more, hm1, hm2⟩ := pairs_spec hs hr1 hr2 hl to (out := todo') (by omega)
            refine go to B σ (todo' ++ more) (E' ++ ts1.zip ts2) hT hG (hP'.append hm2) ?_ ?_ (fun _ h => h) ?_ fun rec => ?_
            · intro i e hi
              rcases Nat.lt_or_ge i E'.length with hlt | hge
              · rw [List.getElem?_append_left hlt] at hi
                exact hK.left i e hi
              · rw [List.getElem?_append_right hge] at hi
                have hi3 : i - E'.length < 3 := by
                  have := (List.getElem?_eq_some_iff.1 hi).1
                  rw [List.length_zip] at this
                  omega
                obtain ⟨δ, h1, h2⟩ := hK E'.length (s, u) (by rw [List.getElem?_append_right (Nat.le_refl _), Nat.sub_self]; rfl)
                refine ⟨δ + 1, by omega, fun θ hθ => ?_⟩
                obtain ⟨c, hc, h3⟩ := h2 θ hθ
                refine ⟨c, hc, ?_⟩
                have h3 : δ + (s.sub θ).ht ≤ (c.sub θ).ht := h3
                rw [hs1 θ hθ] at h3
                have h4 : e.1 ∈ ts1 := (List.of_mem_zip (a := e.1) (b := e.2) (List.mem_of_getElem? hi)).1
                have h5 : (e.1.sub θ).ht ≤ htR (subR θ ts1) := htR_mem (by rw [subR_eq]; exact List.mem_map_of_mem h4)
                have h6 : ((Tm.f c1 ts1).sub θ).ht = htR (subR θ ts1) + 1 := rfl
                omega
            · intro θ
              rw [Sol.append, Sol.zip hl]
              constructor
              · rintro ⟨h1, h2, h3⟩
                exact ⟨h1, (hsol θ h1).2 ⟨h2, f_eq.2 ⟨rfl, h3⟩⟩⟩
              · rintro ⟨h1, h2⟩
                have h3 := (hsol θ h1).1 h2
                exact ⟨h1, h3.1, (f_eq.1 h3.2).2⟩
            · intro σ' hσ'
              rw [wt_append, wt_append, wt_one, wt_zip σ' hl]
              show _ ≤ wt σ' E' + (s.sub σ').size
              rw [hs1 σ' hσ']
              show _ ≤ wt σ' E' + (sizeR (subR σ' ts1) + 1)
              omega
            · rw [round]
              simp only [gx_zero, List.getElem?_cons_zero, Option.bind_some]
              rw [decide_eq_false (show ¬ (c1 : Int) < 0 by omega), cond_false, cond_false, show ((c1 : Int) != (c1 : Int)) = false from by simp, cond_false, slc_tail, Option.bind_some, slc_tail, Option.bind_some, hm1]
              rfl
          · refine stop (false, a0, to) ⟨rfl, .inl ⟨rfl, fun θ h1 h2 => hcc (f_eq.1 ((hsol θ h1).1 h2).2).1⟩⟩ fun rec => ?_
            rw [round]
            simp only [gx_zero, List.getElem?_cons_zero, Option.bind_some]
            rw [decide_eq_false (show ¬ (c1 : Int) < 0 by omega), cond_false, decide_eq_false (show ¬ (c2 : Int) < 0 by omega), cond_false, show ((c1 : Int) != (c2 : Int)) = true from by simp; omega, cond_true]
theorem same_spec {a0 : List QSym} (hs : SignOk a0) {N : Nat} (hN : N ≤ 24) {to : List PO} {B : Bd} {σ : Sb} (hT : RepT a0 N to B) (hG : Good B σ) {p q : List Int} {d e : Int} {ts us : List Tm} (hp : Pr a0 N p d ts) (hq : Pr a0 N q e us) (hl : ts.length = us.length) :
    ∃ r, unify_run_same_1 p d q e a0 to = some r ∧ SameR a0 N B (ts.zip us) r := by
  have eta : ∀ o : Option (Bool × List QSym × List PO), (o.bind fun r => some (r.1, r.2.1, r.2.2)) = o := fun o => by cases o <;> rfl
  obtain ⟨more, hm1, hm2⟩ := pairs_spec hs hp hq hl to (out := []) (by simp)
  have e0 : unify_run_same_1 p d q e a0 to = lp unify_run_same_1_L0 (fuel + 1) (a0, to, more) := by
    unfold unify_run_same_1
    rw [hm1, Option.bind_some, lp_succ, List.nil_append]
    generalize lp unify_run_same_1_L0 fuel = rec
    unfold unify_run_same_1_L0
    simp only [eta]
  have hsz : ∀ c ∈ ts, c.size ≤ 48 := fun c hc => by
    obtain ⟨us0, n, h1, rfl, h2, h3, rfl, h4⟩ := hp
    obtain ⟨c0, h5, rfl⟩ := List.mem_map.1 hc
    rw [Tm.up_size, ← Tm.codes_len]
    exact Nat.le_trans (codes_le h5) h4
  have hlen : ts.length ≤ 48 := by
    obtain ⟨us0, n, h1, rfl, h2, h3, rfl, h4⟩ := hp
    have := cuts_len (cuts_codes us0 h1)
    rw [List.length_map] at this ⊢
    omega
  have hK : StkOk ts B (ts.zip us) := fun i x hi => by
    have hi0 := (List.getElem?_eq_some_iff.1 hi).1
    rw [List.length_zip] at hi0
    exact ⟨0, by omega, fun θ _ => ⟨x.1, (List.of_mem_zip (a := x.1) (b := x.2) (List.mem_of_getElem? hi)).1, by omega⟩⟩
  rw [e0]
  rcases same_run hs hN ts hsz (48 * (48 * 48 ^ 49) + 1) to B σ more (ts.zip us) hT hG hm2 hK with ⟨r, h1, h2⟩ | ⟨B', σ', h1, h2, h3, h4⟩
  · have := h1 (fuel + 1 - (48 * (48 * 48 ^ 49) + 1))
    rw [show fuel + 1 - (48 * (48 * 48 ^ 49) + 1) + (48 * (48 * 48 ^ 49) + 1) = fuel + 1 from by unfold fuel; omega] at this
    exact ⟨r, this, h2⟩
  · exfalso
    rw [wt_zip σ' hl, subR_eq, sizeR_eq, List.map_map] at h4
    have h5 : ∀ l : List Tm, (∀ c ∈ l, c.size ≤ 48) → (l.map (Tm.size ∘ Tm.sub σ')).sum ≤ l.length * (48 * 48 ^ 49) := by
      intro l
      induction l with
      | nil => intro _; simp
      | cons c l ih =>
        intro h
        have h6 := ih fun c hc => h c (List.mem_cons_of_mem _ hc)
        have h7 := h1.small_sub h2 c
        have h8 := h c (List.mem_cons_self ..)
        have h9 : c.size * 48 ^ 49 ≤ 48 * 48 ^ 49 := Nat.mul_le_mul_right _ h8
        simp only [List.map_cons, List.sum_cons, List.length_cons, Function.comp_apply]
        rw [Nat.add_mul, Nat.one_mul]
        omega
    have h6 := h5 ts hsz
    have h7 : ts.length * (48 * 48 ^ 49) ≤ 48 * (48 * 48 ^ 49) := Nat.mul_le_mul_right _ hlen
    omega
end
end Go.Abs.Q
namespace Go.Abs.Q
open Go Go.Abs
section
def expC (s : Sb) (c : Int) : List Int := if c < 0 then (s (-1 - c).toNat).codes else [c]
mutual
theorem Tm.codes_sub (s : Sb) : (t : Tm) → (t.sub s).codes = t.codes.flatMap (expC s)
  | .v n => by
    show (s n).codes = [-1 - (n : Int)].flatMap (expC s)
    simp only [List.flatMap_cons, List.flatMap_nil, List.append_nil, expC]
    rw [if_pos (by omega), show (-1 - (-1 - (n : Int))).toNat = n from by omega]
  | .f c as => by
    show (c : Int) :: codesR (subR s as) = ((c : Int) :: codesR as).flatMap (expC s)
    rw [List.flatMap_cons, codesR_sub s as]
    unfold expC
    rw [if_neg (by omega)]
    rfl
theorem codesR_sub (s : Sb) : (ts : List Tm) → codesR (subR s ts) = (codesR ts).flatMap (expC s)
  | [] => rfl
  | t :: ts => by
    show (t.sub s).codes ++ codesR (subR s ts) = (t.codes ++ codesR ts).flatMap (expC s)
    rw [Tm.codes_sub s t, codesR_sub s ts, List.flatMap_append]
end
theorem number1_eq {k : Nat} (hk : k < 24) (p : Option (List Int)) : unify_piece_number_1 p 0 (-1 - (k : Int)) = some (k : Int) := by
  unfold unify_piece_number_1
  rw [term_Number_eq (by omega) (by omega), Option.bind_some]
  congr 1
  rw [wrap64] <;> omega
section
variable {a0 : List QSym} {to : List PO} {B : Bd} {σ : Sb}
def cutW (o : List Int) : Option (List Int) := if o.length ≤ 48 then some o else none
theorem whole_round (hT : RepT a0 0 to B) (hG : Good B σ) (p : List Int) (hp48 : p.length ≤ 48) (rf : ((Option (List Int)) × Int × (List QSym) × (List PO)) → Option (Option (List Int)))
    (hrf : ∀ (y : Nat) q d u, (-1 - (y : Int)) ∈ p → to[y]? = some (some q, d) → B y = some u → rf (some q, d, a0, to) = some (cutW (u.sub σ).codes)) : ∀ (es : List Int) (i k : Nat) (out : List Int), p.drop i = es → es.length < k → (∀ c ∈ es, -24 ≤ c) → out.length ≤ 48 →
    lp (unify_run_whole_L0 rf) k (some p, ((p.length : Nat) : Int), (i : Int), a0, to, some p, 0, out) = some (if out.length + (es.flatMap (expC σ)).length ≤ 48 then .inl (out ++ es.flatMap (expC σ)) else .inr ()) := by
  intro es
  induction es with
  | nil =>
    intro i k out h hk _ ho
    obtain ⟨k, rfl⟩ : ∃ k', k = k' + 1 := ⟨k - 1, by simp at hk; omega⟩
    rw [lp_succ]
    generalize lp (unify_run_whole_L0 rf) k = rec
    unfold unify_run_whole_L0
    have hi : p.length ≤ i := by
      have := congrArg List.length h
      simp at this; omega
    rw [decide_eq_false (show ¬ ((i : Int) < ((p.length : Nat) : Int)) by omega), cond_false]
    simp [ho]
  | cons c es ih =>
    intro i k out h hk hc ho
    obtain ⟨k, rfl⟩ : ∃ k', k = k' + 1 := ⟨k - 1, by simp at hk; omega⟩
    rw [lp_succ]
    have key := fun out' ho' => ih (i + 1) k out' (drop_cons_next h) (by simp at hk; omega) (fun c h => hc c (List.mem_cons_of_mem _ h)) ho'
    generalize lp (unify_run_whole_L0 rf) k = rec at key ⊢
    unfold unify_run_whole_L0
    have hget := drop_cons_get h
    have hi : i < p.length := (List.getElem?_eq_some_iff.1 hget).1
    have hmem : c ∈ p := List.mem_of_getElem? hget
    have hw : IntKind.wrap .i64 ((i : Int) + 1) = ((i + 1 : Nat) : Int) := by rw [wrap64] <;> omega
    rw [decide_eq_true (show ((i : Int) < ((p.length : Nat) : Int)) by omega), cond_true]
    simp only [Option.getD_some, gx_nat, hget, Option.bind_some, hw]
    -- one code that stays
    have stay : expC σ c = [c] → (((nn ([c] : List Int)).bind fun _ => some false).bind fun z => cond z (some (Sum.inr ()))
        (cond (decide ((IntKind.wrap .i64 (((List.length out : Nat) : Int) + ((List.length ([c] : List Int) : Nat) : Int))) > 48)) (some (Sum.inr ()))
          (cond (room (List.length out + List.length ([c] : List Int)) 8) (rec (some p, ((p.length : Nat) : Int), ((i + 1 : Nat) : Int), a0, to, some p, 0, (out ++ ([c] : List Int)))) none))) =
        some (if out.length + ((c :: es).flatMap (expC σ)).length ≤ 48 then .inl (out ++ (c :: es).flatMap (expC σ)) else .inr ()) := by
      intro he
      have e1 : (nn ([c] : List Int)) = some [c] := rfl
      rw [e1, List.flatMap_cons, he]
      have w2 : IntKind.wrap .i64 (((List.length out : Nat) : Int) + ((List.length ([c] : List Int) : Nat) : Int)) = ((out.length + 1 : Nat) : Int) := by
        rw [wrap64] <;> simp only [List.length_singleton] <;> omega
      simp only [Option.bind_some, cond_false, w2]
      simp only [List.length_append, List.length_singleton]
      by_cases h48 : out.length + 1 ≤ 48
      · rw [decide_eq_false (show ¬ (((out.length + 1 : Nat) : Int) > 48) by omega), cond_false, room_ok (by omega), cond_true, key _ (by simp; omega)]
        simp only [List.length_append, List.length_singleton, List.append_assoc]
        have : out.length + 1 + (es.flatMap (expC σ)).length = out.length + (1 + (es.flatMap (expC σ)).length) := by omega
        rw [this]
      · rw [decide_eq_true (show (((out.length + 1 : Nat) : Int) > 48) by omega), cond_true, if_neg (by omega)]
    by_cases h0 : c < 0
    · obtain ⟨y, hy, rfl⟩ : ∃ y : Nat, y < 24 ∧ c = -1 - (y : Int) := ⟨(-1 - c).toNat, by have := hc c (List.mem_cons_self ..); omega, by omega⟩
      rw [decide_eq_true h0, cond_true, number1_eq hy, Option.bind_some, inR_nat (show y < 48 by omega), Option.bind_some]
      obtain ⟨e, he, hpe⟩ := hT.get (x := y) (by omega)
      rw [he, Option.bind_some]
      have hexp : expC σ (-1 - (y : Int)) = (σ y).codes := by
        unfold expC
        rw [if_pos h0, show (-1 - (-1 - (y : Int))).toNat = y from by omega]
      unfold PcO at hpe
      split at hpe
      · rename_i h1
        rw [h1]
        simp only [Option.isNone_none, Bool.not_true, cond_false]
        exact stay (by rw [hexp, hG.free y hpe]; rfl)
      · rename_i q h1
        obtain ⟨u, hu, hq⟩ := hpe
        rw [h1]
        simp only [Option.isNone_some, Bool.not_false, cond_true, number1_eq hy, Option.bind_some, inR_nat (show y < 48 by omega), he]
        rw [h1, hrf y q e.2 u hmem (by rw [he, ← h1]) hu, Option.bind_some]
        rw [List.flatMap_cons, hexp, hG.bound y u hu]
        unfold cutW
        by_cases hsz : (u.sub σ).codes.length ≤ 48
        · rw [if_pos hsz]
          have w2 : IntKind.wrap .i64 (((List.length out : Nat) : Int) + (((u.sub σ).codes.length : Nat) : Int)) = ((out.length + (u.sub σ).codes.length : Nat) : Int) := by
            rw [wrap64] <;> omega
          simp only [Option.isNone_some, cond_false, Option.getD_some, w2]
          simp only [List.length_append]
          by_cases h48 : out.length + (u.sub σ).codes.length ≤ 48
          · rw [decide_eq_false (show ¬ (((out.length + (u.sub σ).codes.length : Nat) : Int) > 48) by omega), cond_false, room_ok (by omega), cond_true, key _ (by simp; omega)]
            simp only [List.length_append, List.append_assoc]
            rw [Nat.add_assoc]
          · rw [decide_eq_true (show (((out.length + (u.sub σ).codes.length : Nat) : Int) > 48) by omega), cond_true, if_neg (by omega)]
        · rw [if_neg hsz]
          simp only [Option.isNone_none, cond_true, List.length_append]
          rw [if_neg (by omega)]
    · rw [decide_eq_false h0, cond_false]
      exact stay (by unfold expC; rw [if_neg h0])
theorem whole_run (hT : RepT a0 0 to B) (hG : Good B σ) : ∀ (k m : Nat) (p : List Int) (d : Int) (t : Tm), Pc a0 0 p d t → (∀ y, t.has y → B y ≠ none → Good.rank σ y < m) → m < k →
    unify_run_whole_R k (some p, d, a0, to) = some (cutW (t.sub σ).codes) := by
  intro k
  induction k with
  | zero => intro m p d t _ _ h; omega
  | succ k ih =>
    intro m p d t hp hm hk
    obtain ⟨u, n, h1, rfl, rfl, h2, rfl, h3⟩ := hp
    have hn : n = 0 := by omega
    subst hn
    rw [Tm.up_zero] at hm ⊢
    have hsmall : ∀ c ∈ u.codes, -24 ≤ c := fun c hc => by
      by_cases h0 : c < 0
      · have := Tm.ok_has u h1 ((Tm.mem_codes h0 u).1 hc); omega
      · omega
    show unify_run_whole_S (unify_run_whole_R k) (some u.codes) ((0 : Nat) : Int) a0 to = _
    unfold unify_run_whole_S
    have hr := whole_round hT hG u.codes h3 (unify_run_whole_R k) (fun y q d w hy hto hw => by
      have hyu : u.has y := by
        have := (Tm.mem_codes (by omega) u).1 hy
        rwa [show (-1 - (-1 - (y : Int))).toNat = y from by omega] at this
      have hpc : Pc a0 0 q d w := by
        have := hT.at_ y _ hto
        obtain ⟨t', h5, h6⟩ := (show ∃ t, B y = some t ∧ Pc a0 0 q d t from this)
        rw [hw] at h5; injection h5 with h5; subst h5
        exact h6
      have hlt := hm y hyu (by rw [hw]; simp)
      exact ih (Good.rank σ y) q d w hpc (fun z hz hb => hG.rank_lt hw hz (by
        cases hbz : B z with
        | none => exact absurd hbz hb
        | some x => exact (hT.small z x hbz).1)) (by omega)) u.codes 0 fuel [] rfl (by unfold fuel; omega) hsmall (by simp)
    simp only [Option.getD_some]
    have hr : lp (unify_run_whole_L0 (unify_run_whole_R k)) fuel (some u.codes, ((u.codes.length : Nat) : Int), 0, a0, to, some u.codes, ((0 : Nat) : Int), []) = _ := hr
    rw [hr, ← Tm.codes_sub]
    unfold cutW
    have hne : nn (u.sub σ).codes = some (u.sub σ).codes := nn_some fun e => by
      have := congrArg List.length e
      rw [Tm.codes_len] at this
      have := (u.sub σ).size_pos
      simp at *; omega
    by_cases h48 : (u.sub σ).codes.length ≤ 48
    · simp only [List.length_nil, Nat.zero_add, List.nil_append]
      rw [if_pos h48, if_pos h48]
      simp only [Option.bind_some, caseS_inl, hne]
    · simp only [List.length_nil, Nat.zero_add]
      rw [if_neg h48, if_neg h48]
      rfl
theorem whole_spec (hT : RepT a0 0 to B) (hG : Good B σ) {p : List Int} {d : Int} {t : Tm} (hp : Pc a0 0 p d t) : unify_run_whole (some p) d a0 to = some (cutW (t.sub σ).codes) := by
  refine whole_run hT hG fuel 49 p d t hp (fun y _ _ => ?_) (by unfold fuel; omega)
  have := Good.rank_le σ y
  omega
def isBd (B : Bd) (v : Nat) : Bool := (B v).isSome
def bindsFrom (B : Bd) (σ : Sb) (vs : List Nat) : List (Int × List Int) := (vs.filter (isBd B)).map fun v : Nat => ((v : Int), (σ v).codes)
def shortIn (σ : Sb) (vs : List Nat) : Bool := vs.all fun x => decide ((σ x).size ≤ 48)
theorem unify_round (hT : RepT a0 0 to B) (hG : Good B σ) : ∀ (m v k : Nat) (out : List (Int × List Int)), 24 - v = m → v ≤ 24 → m < k → out.length ≤ v →
    lp unify_Unify_L0 k ((v : Int), a0, to, out) = some (cond (shortIn σ ((List.range 24).drop v)) (.inl (out ++ bindsFrom B σ ((List.range 24).drop v))) (.inr (false, 401))) := by
  intro m
  induction m with
  | zero =>
    intro v k out hm hv hk ho
    obtain ⟨k, rfl⟩ : ∃ k', k = k' + 1 := ⟨k - 1, by omega⟩
    rw [lp_succ]
    generalize lp unify_Unify_L0 k = rec
    unfold unify_Unify_L0
    have : v = 24 := by omega
    subst this
    rw [show (List.range 24).drop 24 = [] from rfl]
    simp [bindsFrom, shortIn]
  | succ m ih =>
    intro v k out hm hv hk ho
    obtain ⟨k, rfl⟩ : ∃ k', k = k' + 1 := ⟨k - 1, by omega⟩
    rw [lp_succ]
    have key := fun out' ho' => ih (v + 1) k out' (by omega) (by omega) (by omega) ho'
    generalize lp unify_Unify_L0 k = rec at key ⊢
    unfold unify_Unify_L0
    have w : IntKind.wrap .i64 ((v : Int) + 1) = ((v + 1 : Nat) : Int) := by rw [wrap64] <;> omega
    obtain ⟨e, he, hpe⟩ := hT.get (x := v) (by omega)
    have hdr : (List.range 24).drop v = v :: (List.range 24).drop (v + 1) := by
      rw [List.drop_eq_getElem_cons (by simp; omega)]
      simp
    simp only [decide_eq_true (show (v : Int) < 24 by omega), cond_true, inR_nat (show v < 48 by omega), Option.bind_some, he, w]
    rw [hdr]
    unfold PcO at hpe
    split at hpe
    · rename_i h1
      rw [h1]
      simp only [Option.isNone_none, cond_true]
      rw [key out (by omega)]
      have hs : (σ v).size ≤ 48 := by rw [hG.free v hpe]; simp [Tm.size]
      have hb : isBd B v = false := by simp [isBd, hpe]
      simp [bindsFrom, shortIn, hb, hs]
    · rename_i q h1
      obtain ⟨u, hu, hq⟩ := hpe
      rw [h1]
      simp only [Option.isNone_some, cond_false]
      rw [whole_spec hT hG hq, Option.bind_some, ← hG.bound v u hu]
      unfold cutW
      rw [Tm.codes_len]
      by_cases hs : (σ v).size ≤ 48
      · rw [if_pos hs]
        simp only [Option.isNone_some, cond_false, Option.getD_some]
        rw [slices_CloneN_eq (by rw [Tm.codes_len]; omega), Option.bind_some, room_ok (by simp only [List.length_singleton]; omega), cond_true, key _ (by simp only [List.length_append, List.length_singleton]; omega)]
        have hb : isBd B v = true := by simp [isBd, hu]
        simp [bindsFrom, shortIn, hb, hs]
      · rw [if_neg hs]
        simp only [Option.isNone_none, cond_true]
        simp [shortIn, hs]
end
structure Mgu (σ : Sb) (E : List (Tm × Tm)) : Prop where
  sol : Sol σ E
  gen : ∀ θ, Sol θ E → ∀ x, (σ x).sub θ = θ x
  le : ∀ x y, σ x = .v y → y ≤ x
  idem : ∀ x, (σ x).sub σ = σ x
theorem Mgu.of {B : Bd} {σ : Sb} {E : List (Tm × Tm)} (hG : Good B σ) (h : ∀ θ, SolB θ B ↔ SolB θ (fun _ => none) ∧ Sol θ E) : Mgu σ E where
  sol := ((h σ).1 hG.bound).2
  gen := fun θ hθ => hG.fac ((h θ).2 ⟨fun _ _ h => (nomatch h), hθ⟩)
  le := hG.le
  idem := fun x => by rw [← hG.fac hG.bound x]; exact hG.idem _
def moved (σ : Sb) (v : Nat) : Bool := match σ v with
  | .v y => !(y == v)
  | .f _ _ => true
theorem isBd_eq {B : Bd} {σ : Sb} (h : Good B σ) (v : Nat) : isBd B v = moved σ v := by
  have := h.moved (x := v)
  unfold isBd moved
  cases hb : B v with
  | none =>
    rw [h.free v hb]
    simp
  | some t =>
    have h1 := this.1 (by rw [hb]; simp)
    cases hs : σ v with
    | f c as => rfl
    | v y =>
      rw [hs] at h1
      have : y ≠ v := fun e => h1 (by rw [e])
      simp [this]
def bindsL (σ : Sb) : List (Int × List Int) := ((List.range 24).filter (moved σ)).map fun v : Nat => ((v : Int), (σ v).codes)
theorem rep0 (a0 : List QSym) (N : Nat) : RepT a0 N to0 (fun _ => none) where
  len := by simp [to0]
  at_ := fun x e h => by
    have hx : x < 48 := by
      have := (List.getElem?_eq_some_iff.1 h).1
      simpa [to0] using this
    rw [to0_get hx] at h
    injection h with h
    rw [← h]
    rfl
  out := fun _ _ => rfl
theorem unify_spec {a0 : List QSym} {xs ys : List Int} {ts us : List Tm} (hs : SignOk a0) (hx : xs = codesR ts) (hy : ys = codesR us) (ht : okR a0 24 ts) (hu : okR a0 24 us) (hb : signB a0 = true) (hlx : xs.length ≤ 48) (hly : ys.length ≤ 48) :
    (unify_Unify a0 xs ys = some (false, 0, []) ∧ (ts.length ≠ us.length ∨ ∀ θ, ¬ Sol θ (ts.zip us))) ∨
    (ts.length = us.length ∧ ∃ σ, Mgu σ (ts.zip us) ∧ (∀ x, x < 24 → (σ x).ok a0 24) ∧ unify_Unify a0 xs ys = some (cond (shortIn σ (List.range 24)) (true, 0, bindsL σ) (false, 401, []))) := by
  have hr : ∀ {zs : List Int} {ws : List Tm}, zs = codesR ws → okR a0 24 ws → zs.length ≤ 48 → rowW a0 zs = some ws.length := by
    intro zs ws h1 h2 h3
    unfold rowW beginsB
    rw [hb, decide_eq_true h3, h1, cuts_codes ws h2]
    simp
  unfold unify_Unify
  rw [term_Row_eq, hr hx ht hlx, Option.bind_some, term_Row_eq, hr hy hu hly, Option.bind_some]
  simp only
  rw [show ((0 : Int) != 0) = false from rfl, cond_false, cond_false]
  by_cases hl : ts.length = us.length
  · rw [hl, show (((us.length : Nat) : Int) != ((us.length : Nat) : Int)) = false from by simp, cond_false]
    obtain ⟨r, h1, h2, h3⟩ := same_spec hs (N := 0) (by omega) (rep0 a0 0) Good.empty (p := xs) (q := ys) (d := 0) (e := 0) (ts := ts) (us := us)
      ⟨ts, 0, ht, hx, rfl, Nat.le_refl _, by rw [show Tm.up 0 = id from funext Tm.up_zero, List.map_id], hlx⟩ ⟨us, 0, hu, hy, rfl, Nat.le_refl _, by rw [show Tm.up 0 = id from funext Tm.up_zero, List.map_id], hly⟩ hl
    have h1 : unify_run_same_1 xs 0 ys 0 a0 (List.replicate 48 ((none : Option (List Int)), (0 : Int))) = some r := h1
    rw [h1, Option.bind_some]
    rcases h3 with ⟨h3, h4⟩ | ⟨h3, B', h4, ⟨σ, h5⟩, -, h6⟩
    · rw [h3]
      exact .inl ⟨rfl, .inr fun θ h => h4 θ (fun _ _ h => (nomatch h)) h⟩
    · rw [h3]
      have hok : ∀ x, x < 24 → (σ x).ok a0 24 := by
        refine h5.ind (fun x hx hlt => by rw [h5.free x hx]; exact hlt) fun x t hx ih _ => ?_
        have hto : Pc a0 0 t.codes 0 t := by
          obtain ⟨e, he, hpe⟩ := h4.get (x := x) (h4.small x t hx).1
          unfold PcO at hpe
          split at hpe
          · rw [hx] at hpe; cases hpe
          · obtain ⟨u, hu, hq⟩ := hpe
            rw [hx] at hu; injection hu with hu; subst hu
            obtain ⟨u0, n, g1, g2, g3, g4, g5, g6⟩ := hq
            have : n = 0 := by omega
            subst this
            rw [Tm.up_zero] at g5
            subst g5
            exact ⟨t, 0, g1, rfl, rfl, Nat.le_refl _, (Tm.up_zero t).symm, by rw [← g2]; exact g6⟩
        obtain ⟨u0, n, g1, g2, g3, g4, g5, g6⟩ := hto
        have : n = 0 := by omega
        subst this
        rw [Tm.up_zero] at g5
        subst g5
        rw [h5.bound x t hx]
        exact Tm.ok_sub t g1 fun y hy => ih y hy (Tm.ok_has t g1 hy)
      refine .inr ⟨rfl, σ, Mgu.of h5 h6, hok, ?_⟩
      simp only [Bool.not_true, cond_false]
      have := unify_round (a0 := r.2.1) (by rw [h2]; exact h4) h5 24 0 fuel [] rfl (by omega) (by unfold fuel; omega) (by simp)
      rw [show ((0 : Nat) : Int) = 0 from rfl] at this
      rw [this, List.drop_zero]
      have he : bindsFrom B' σ (List.range 24) = bindsL σ := by
        unfold bindsFrom bindsL
        rw [show isBd B' = moved σ from funext (isBd_eq h5)]
      cases shortIn σ (List.range 24) with
      | true => simp only [cond_true, Option.bind_some, caseS_inl, List.nil_append, he]
      | false => rfl
  · rw [show (((ts.length : Nat) : Int) != ((us.length : Nat) : Int)) = true from by simp; omega, cond_true]
    exact .inl ⟨rfl, .inl hl⟩
end
end Go.Abs.Q
namespace Go.Abs.Q
open Go Go.Abs
section
theorem wrap64u {n : Int} (h1 : 0 ≤ n) (h2 : n ≤ 9223372036854775807) : IntKind.wrap .u64 n = n := by
  simp [IntKind.wrap, IntKind.signed, IntKind.bits]
  omega
theorem mid_eq {l h : Nat} (hl : l + h ≤ 1000000000) : IntKind.wrap .i64 (Int.fdiv (IntKind.wrap .u64 (IntKind.wrap .i64 ((l : Int) + (h : Int)))) (2 ^ min (Int.toNat 1) (IntKind.bits .u64))) = (((l + h) / 2 : Nat) : Int) := by
  rw [wrap64 (n := (l : Int) + (h : Int)) (by omega) (by omega), wrap64u (by omega) (by omega)]
  have : (2 : Int) ^ min (Int.toNat 1) (IntKind.bits .u64) = 2 := by decide
  rw [this, Int.fdiv_eq_ediv_of_nonneg _ (by omega)]
  rw [wrap64] <;> omega
theorem cmp_Less_eq (a b : Int) : cmp_Less a b = some (decide (a < b)) := by
  unfold cmp_Less cmp_isNaN
  simp
abbrev Rise (xs : List Int) : Prop := xs.Pairwise (· < ·)
theorem Rise.lt {xs : List Int} (h : Rise xs) {i j : Nat} {x y : Int} (hi : xs[i]? = some x) (hj : xs[j]? = some y) (hij : i < j) : x < y := by
  obtain ⟨h1, rfl⟩ := List.getElem?_eq_some_iff.1 hi
  obtain ⟨h2, rfl⟩ := List.getElem?_eq_some_iff.1 hj
  exact List.pairwise_iff_getElem.1 h i j h1 h2 hij
theorem bs_round {xs : List Int} (h : Rise xs) (hl : xs.length ≤ 1000000) (t : Int) (z : Int) : ∀ (m l r k : Nat), r - l = m → l ≤ r → r ≤ xs.length → m < k → (∀ (i : Nat) x, xs[i]? = some x → i < l → x < t) → (∀ (i : Nat) x, xs[i]? = some x → r ≤ i → t ≤ x) →
    ∃ q : Nat, lp slices_BinarySearch_L0 k (xs, t, z, (l : Int), (r : Int)) = some (q : Int) ∧ q ≤ xs.length ∧ (∀ (i : Nat) x, xs[i]? = some x → i < q → x < t) ∧ ∀ (i : Nat) x, xs[i]? = some x → q ≤ i → t ≤ x := by
  intro m
  induction m using Nat.strongRecOn with
  | _ m ih =>
    intro l r k hm hlr hr hk h1 h2
    obtain ⟨k, rfl⟩ : ∃ k', k = k' + 1 := ⟨k - 1, by omega⟩
    rw [lp_succ]
    have key := fun l r (h3 : r - l < m) h4 h5 h6 h7 => ih (r - l) h3 l r k rfl h4 h5 (by omega) h6 h7
    generalize lp slices_BinarySearch_L0 k = rec at key ⊢
    unfold slices_BinarySearch_L0
    by_cases hlt : l < r
    · have hml : (l + r) / 2 < xs.length := by omega
      simp only [decide_eq_true (show (l : Int) < (r : Int) by omega), cond_true, mid_eq (show l + r ≤ 1000000000 by omega), gx_nat, List.getElem?_eq_getElem hml, Option.bind_some, cmp_Less_eq]
      have hget := List.getElem?_eq_getElem hml
      have w : IntKind.wrap .i64 ((((l + r) / 2 : Nat) : Int) + 1) = (((l + r) / 2 + 1 : Nat) : Int) := by rw [wrap64] <;> omega
      by_cases hc : xs[(l + r) / 2] < t
      · rw [decide_eq_true hc, cond_true, w]
        refine key ((l + r) / 2 + 1) r (by omega) (by omega) hr (fun i x hi hil => ?_) h2
        rcases Nat.lt_or_ge i ((l + r) / 2) with hi2 | hi2
        · have := h.lt hi hget hi2; omega
        · have : i = (l + r) / 2 := by omega
          subst this
          rw [hget] at hi; injection hi with hi; omega
      · rw [decide_eq_false hc, cond_false]
        refine key l ((l + r) / 2) (by omega) (by omega) (by omega) h1 (fun i x hi hil => ?_)
        rcases Nat.lt_or_ge ((l + r) / 2) i with hi2 | hi2
        · have := h.lt hget hi hi2; omega
        · have : i = (l + r) / 2 := by omega
          subst this
          rw [hget] at hi; injection hi with hi; omega
    · rw [decide_eq_false (show ¬ ((l : Int) < (r : Int)) by omega), cond_false]
      have : l = r := by omega
      subst this
      exact ⟨l, rfl, hr, h1, h2⟩
theorem bs_spec {xs : List Int} (h : Rise xs) (hl : xs.length ≤ 1000000) (t : Int) : ∃ (q : Nat) (b : Bool), slices_BinarySearch xs t = some ((q : Int), b) ∧ q ≤ xs.length ∧ (∀ (i : Nat) x, xs[i]? = some x → i < q → x < t) ∧ (∀ (i : Nat) x, xs[i]? = some x → q ≤ i → t ≤ x) ∧ (b = true ↔ t ∈ xs) := by
  obtain ⟨q, h1, h2, h3, h4⟩ := bs_round h hl t ((xs.length : Nat) : Int) xs.length 0 xs.length fuel rfl (Nat.zero_le _) (Nat.le_refl _) (by unfold fuel; omega) (fun i x _ h => by omega) (fun i x hi h => by
    have := (List.getElem?_eq_some_iff.1 hi).1; omega)
  have h1 : lp slices_BinarySearch_L0 fuel (xs, t, ((xs.length : Nat) : Int), 0, ((xs.length : Nat) : Int)) = some (q : Int) := h1
  unfold slices_BinarySearch
  rw [h1, Option.bind_some]
  by_cases hq : q < xs.length
  · rw [decide_eq_true (show ((q : Int) < ((xs.length : Nat) : Int)) by omega), cond_true, gx_nat, List.getElem?_eq_getElem hq, Option.bind_some]
    have hget := List.getElem?_eq_getElem hq
    by_cases he : xs[q] = t
    · rw [show (xs[q] == t) = true from by simp [he], cond_true]
      exact ⟨q, true, rfl, h2, h3, h4, by simp only [true_iff]; rw [← he]; exact List.getElem_mem hq⟩
    · rw [show (xs[q] == t) = false from by simp [he], cond_false, Option.bind_some]
      have hn : slices_isNaN xs[q] = some false := by unfold slices_isNaN; simp
      rw [hn, Option.bind_some, cond_false]
      refine ⟨q, false, rfl, h2, h3, h4, ?_⟩
      constructor
      · intro h; cases h
      · intro hm
        exfalso
        obtain ⟨i, hi⟩ := List.mem_iff_getElem?.1 hm
        rcases Nat.lt_trichotomy i q with h5 | h5 | h5
        · have := h3 i t hi h5; omega
        · subst h5; rw [hget] at hi; injection hi with hi; exact he hi
        · have := h.lt hget hi h5
          have := h4 q _ hget (Nat.le_refl _)
          omega
  · rw [decide_eq_false (show ¬ ((q : Int) < ((xs.length : Nat) : Int)) by omega), cond_false]
    refine ⟨q, false, rfl, h2, h3, h4, ?_⟩
    constructor
    · intro h; cases h
    · intro hm
      exfalso
      obtain ⟨i, hi⟩ := List.mem_iff_getElem?.1 hm
      have := h3 i t hi (by have := (List.getElem?_eq_some_iff.1 hi).1; omega)
      omega
theorem insert_rise {xs : List Int} (h : Rise xs) {q : Nat} {t : Int} (hq : q ≤ xs.length) (h1 : ∀ (i : Nat) x, xs[i]? = some x → i < q → x < t) (h2 : ∀ (i : Nat) x, xs[i]? = some x → q ≤ i → t ≤ x) (h3 : t ∉ xs) : Rise (insAt xs q [t]) := by
  unfold insAt Rise
  have ht : ∀ x ∈ xs.take q, x < t := fun x hx => by
    obtain ⟨i, hi⟩ := List.mem_iff_getElem?.1 hx
    rw [List.getElem?_take] at hi
    split at hi
    · exact h1 i x hi (by assumption)
    · cases hi
  have hd : ∀ x ∈ xs.drop q, t < x := fun x hx => by
    obtain ⟨i, hi⟩ := List.mem_iff_getElem?.1 hx
    rw [List.getElem?_drop] at hi
    have h4 := h2 _ x hi (by omega)
    have : x ≠ t := fun e => h3 (e ▸ List.mem_of_getElem? hi)
    omega
  rw [List.pairwise_append]
  refine ⟨h.sublist (List.take_sublist ..), ?_, fun x hx y hy => ?_⟩
  · rw [List.singleton_append, List.pairwise_cons]
    exact ⟨hd, h.sublist (List.drop_sublist ..)⟩
  · have h5 := ht x hx
    rcases List.mem_append.1 hy with hy | hy
    · rw [List.mem_singleton.1 hy]; exact h5
    · have := hd y hy; omega
theorem mem_insAt {xs : List Int} {q : Nat} {t x : Int} : x ∈ insAt xs q [t] ↔ x ∈ xs ∨ x = t := by
  unfold insAt
  simp only [List.mem_append, List.mem_singleton]
  constructor
  · rintro (h | h | h)
    · exact .inl (List.mem_of_mem_take h)
    · exact .inr h
    · exact .inl (List.mem_of_mem_drop h)
  · rintro (h | h)
    · rw [← List.take_append_drop q xs] at h
      rcases List.mem_append.1 h with h | h
      · exact .inl h
      · exact .inr (.inr h)
    · exact .inr (.inl h)
def VarC (r : List Int) (x : Int) : Prop := ∃ c ∈ r, c < 0 ∧ x = -1 - c
theorem seen_go : (es vs : List Int) → Rise vs → vs.length + es.length ≤ 1000000 → (∀ c ∈ es, -1000000 ≤ c ∧ c ≤ 1000000) → ∃ ws, term_Seen_1_L0_go es vs = some ws ∧ Rise ws ∧ (∀ x, x ∈ ws ↔ x ∈ vs ∨ VarC es x) ∧ ws.length ≤ vs.length + es.length
  | [], vs, h, _, _ => ⟨vs, rfl, h, fun x => ⟨.inl, fun h => h.elim (fun h => h) fun ⟨c, hc, _⟩ => (nomatch hc)⟩, Nat.le_refl _⟩
  | e :: es, vs, h, hl, hc => by
    rw [List.length_cons] at hl
    have he := hc e (List.mem_cons_self ..)
    have hc' : ∀ c ∈ es, -1000000 ≤ c ∧ c ≤ 1000000 := fun c h => hc c (List.mem_cons_of_mem _ h)
    unfold term_Seen_1_L0_go
    by_cases h0 : e ≥ 0
    · rw [decide_eq_true h0, cond_true]
      obtain ⟨ws, h1, h2, h3, h4⟩ := seen_go es vs h (by omega) hc'
      refine ⟨ws, h1, h2, fun x => (h3 x).trans ?_, by rw [List.length_cons]; omega⟩
      constructor
      · rintro (h5 | ⟨c, h5, h6⟩)
        · exact .inl h5
        · exact .inr ⟨c, List.mem_cons_of_mem _ h5, h6⟩
      · rintro (h5 | ⟨c, h5, h6, h7⟩)
        · exact .inl h5
        · rcases List.mem_cons.1 h5 with rfl | h5
          · omega
          · exact .inr ⟨c, h5, h6, h7⟩
    · rw [decide_eq_false h0, cond_false, term_Number_eq (by omega) (by omega), Option.bind_some]
      obtain ⟨q, b, h1, h2, h3, h4, h5⟩ := bs_spec h (by omega) (-1 - e)
      rw [h1, Option.bind_some]
      have fin : ∀ {vs' : List Int}, (∀ x, x ∈ vs' ↔ x ∈ vs ∨ x = -1 - e) → ∀ x, (x ∈ vs' ∨ VarC es x) ↔ (x ∈ vs ∨ VarC (e :: es) x) := by
        intro vs' hv x
        rw [hv x]
        constructor
        · rintro ((h6 | h6) | ⟨c, h6, h7⟩)
          · exact .inl h6
          · exact .inr ⟨e, List.mem_cons_self .., by omega, h6⟩
          · exact .inr ⟨c, List.mem_cons_of_mem _ h6, h7⟩
        · rintro (h6 | ⟨c, h6, h7, h8⟩)
          · exact .inl (.inl h6)
          · rcases List.mem_cons.1 h6 with rfl | h6
            · exact .inl (.inr h8)
            · exact .inr ⟨c, h6, h7, h8⟩
      cases b with
      | true =>
        simp only [Bool.not_true, cond_false]
        obtain ⟨ws, h6, h7, h8, h9⟩ := seen_go es vs h (by omega) hc'
        refine ⟨ws, h6, h7, fun x => (h8 x).trans (fin (fun x => ⟨.inl, fun h => h.elim (fun h => h) fun h => ?_⟩) x), by rw [List.length_cons]; omega⟩
        rw [h]
        exact h5.1 rfl
      | false =>
        simp only [Bool.not_false, cond_true, Option.bind_some]
        have hn : -1 - e ∉ vs := fun h => by have := h5.2 h; cases this
        have hi : slices_Insert (q : Int) vs [-1 - e] = some (insAt vs q [-1 - e]) := by
          unfold slices_Insert insF
          rw [room_ok (by simp; omega)]
          have e1 : nneg (q : Int) = true := by simp [nneg]
          have e2 : decide ((q : Int) ≤ (List.length vs : Int)) = true := by simp; omega
          have e3 : posI ((List.length [-1 - e] : Nat) : Int) = true := by simp [posI]
          rw [e1, e2, e3, Int.toNat_natCast]
          rfl
        rw [hi, Option.bind_some]
        have hlen : (insAt vs q [-1 - e]).length = vs.length + 1 := insAt_length vs _ h2
        obtain ⟨ws, h6, h7, h8, h9⟩ := seen_go es (insAt vs q [-1 - e]) (insert_rise h h2 h3 h4 hn) (by omega) hc'
        exact ⟨ws, h6, h7, fun x => (h8 x).trans (fin (fun x => mem_insAt) x), by rw [List.length_cons]; omega⟩
theorem seen_spec {r vs : List Int} (h : Rise vs) (hl : vs.length + r.length ≤ 1000000) (hc : ∀ c ∈ r, -1000000 ≤ c ∧ c ≤ 1000000) : ∃ ws, term_Seen_1 r vs = some ws ∧ Rise ws ∧ (∀ x, x ∈ ws ↔ x ∈ vs ∨ VarC r x) ∧ ws.length ≤ vs.length + r.length := by
  obtain ⟨ws, h1, h2⟩ := seen_go r vs h hl hc
  refine ⟨ws, ?_, h2⟩
  unfold term_Seen_1
  rw [term_Seen_1_L0_go_at0 _ _ (by unfold maxLen; omega), h1]
  rfl
def VarR (rs : List (List Int)) (x : Int) : Prop := ∃ r ∈ rs, VarC r x
theorem VarR_cons {r : List Int} {rs : List (List Int)} {x : Int} : VarR (r :: rs) x ↔ VarC r x ∨ VarR rs x := by simp [VarR]
theorem VarR_append {rs ss : List (List Int)} {x : Int} : VarR (rs ++ ss) x ↔ VarR rs x ∨ VarR ss x := by
  simp only [VarR, List.mem_append]
  constructor
  · rintro ⟨r, h | h, h2⟩
    · exact .inl ⟨r, h, h2⟩
    · exact .inr ⟨r, h, h2⟩
  · rintro (⟨r, h, h2⟩ | ⟨r, h, h2⟩)
    · exact ⟨r, .inl h, h2⟩
    · exact ⟨r, .inr h, h2⟩
theorem sumLen_cons (r : List Int) (rs : List (List Int)) : sumLen (r :: rs) = r.length + sumLen rs := by simp [sumLen]
theorem sumLen_append (rs ss : List (List Int)) : sumLen (rs ++ ss) = sumLen rs + sumLen ss := by simp [sumLen]
theorem vars_L0 : (es : List QLit) → (vs : List Int) → Rise vs → vs.length + sumLen (es.map (·.2)) ≤ 1000000 → (∀ l ∈ es, NearR l.2) →
    ∃ ws, clause_Vars_L0_go es vs = some ws ∧ Rise ws ∧ (∀ x, x ∈ ws ↔ x ∈ vs ∨ VarR (es.map (·.2)) x) ∧ ws.length ≤ vs.length + sumLen (es.map (·.2))
  | [], vs, h, _, _ => ⟨vs, rfl, h, fun x => ⟨.inl, fun h => h.elim (fun h => h) fun ⟨c, hc, _⟩ => (nomatch hc)⟩, by simp [sumLen]⟩
  | e :: es, vs, h, hl, hn => by
    rw [List.map_cons, sumLen_cons] at hl
    unfold clause_Vars_L0_go
    obtain ⟨ws, h1, h2, h3, h4⟩ := seen_spec h (r := e.2) (by omega) (hn e (List.mem_cons_self ..)).2
    rw [h1, Option.bind_some]
    obtain ⟨xs, h5, h6, h7, h8⟩ := vars_L0 es ws h2 (by omega) fun l hl => hn l (List.mem_cons_of_mem _ hl)
    refine ⟨xs, h5, h6, fun x => ?_, by rw [List.map_cons, sumLen_cons]; omega⟩
    rw [h7 x, h3 x, List.map_cons, VarR_cons, or_assoc]
theorem vars_L1 : (es : List (List Int)) → (vs : List Int) → Rise vs → vs.length + sumLen es ≤ 1000000 → (∀ l ∈ es, NearR l) →
    ∃ ws, clause_Vars_L1_go es vs = some ws ∧ Rise ws ∧ (∀ x, x ∈ ws ↔ x ∈ vs ∨ VarR es x) ∧ ws.length ≤ vs.length + sumLen es
  | [], vs, h, _, _ => ⟨vs, rfl, h, fun x => ⟨.inl, fun h => h.elim (fun h => h) fun ⟨c, hc, _⟩ => (nomatch hc)⟩, by simp [sumLen]⟩
  | e :: es, vs, h, hl, hn => by
    rw [sumLen_cons] at hl
    unfold clause_Vars_L1_go
    obtain ⟨ws, h1, h2, h3, h4⟩ := seen_spec h (r := e) (by omega) (hn e (List.mem_cons_self ..)).2
    rw [h1, Option.bind_some]
    obtain ⟨xs, h5, h6, h7, h8⟩ := vars_L1 es ws h2 (by omega) fun l hl => hn l (List.mem_cons_of_mem _ hl)
    refine ⟨xs, h5, h6, fun x => ?_, by rw [sumLen_cons]; omega⟩
    rw [h7 x, h3 x, VarR_cons, or_assoc]
def rowsOf (L : List QLit) (T : List (List Int)) (C : List QLit) : List (List Int) := L.map (·.2) ++ C.map (·.2) ++ T
theorem clause_Vars_spec {a0 : List QSym} (hs : SignOk a0) {L : List QLit} {T : List (List Int)} {C : List QLit} (h : mayB a0 L T C = true) : ∃ ws, clause_Vars a0 L T C = some (0, ws) ∧ Rise ws ∧ ∀ x, x ∈ ws ↔ VarR (rowsOf L T C) x := by
  obtain ⟨-, h1, h2, h3, h4, h5, h6, h7⟩ := mayB_spec h
  have n1 := litsB_near hs h4
  have n2 := rowsB_near hs h5
  have n3 := litsB_near hs h6
  unfold clause_Vars
  rw [clause_May_eq, Option.bind_some, h]
  simp only [Bool.not_true, cond_false]
  rw [slices_Concat2L_eq (by omega), Option.bind_some, clause_Vars_L0_go_at0 _ _ _ _ _ (by unfold maxLen; simp; omega)]
  obtain ⟨ws, h8, h9, h10, h11⟩ := vars_L0 (L ++ C) [] List.Pairwise.nil (by rw [List.map_append, sumLen_append]; simp; omega) (fun l hl => (List.mem_append.1 hl).elim (n1 l) (n3 l))
  rw [h8, Option.bind_some, clause_Vars_L1_go_at0 _ _ (by unfold maxLen; omega)]
  rw [List.map_append, sumLen_append] at h11
  obtain ⟨xs, h12, h13, h14, -⟩ := vars_L1 T ws h9 (by simp at h11; omega) n2
  rw [h12]
  refine ⟨xs, rfl, h13, fun x => ?_⟩
  rw [h14 x, h10 x, List.map_append]
  unfold rowsOf
  rw [VarR_append, VarR_append, VarR_append]
  simp
def upC (by_ : Int) (c : Int) : Int := cond (decide (c < 0)) (c - by_) c
def upLs (b : Int) (ls : List QLit) : List QLit := ls.map fun l => (l.1, l.2.map (upC b))
theorem shift_round (b : Int) (hb : 0 ≤ b ∧ b ≤ 1000) : (es done : List Int) → (k : Nat) → es.length < k → done.length + es.length ≤ 1000000 → (∀ c ∈ es, -1000000 ≤ c ∧ c ≤ 1000000) →
    lp clause_Shift_c1_L0 k (((done.length + es.length : Nat) : Int), (done.length : Int), b, done ++ es) = some (done ++ es.map (upC b))
  | [], done, k, hk, hl, hc => by
    obtain ⟨k, rfl⟩ : ∃ k', k = k' + 1 := ⟨k - 1, by omega⟩
    rw [lp_succ]
    generalize lp clause_Shift_c1_L0 k = rec
    unfold clause_Shift_c1_L0
    simp
  | e :: es, done, k, hk, hl, hc => by
    obtain ⟨k, rfl⟩ : ∃ k', k = k' + 1 := ⟨k - 1, by omega⟩
    rw [lp_succ]
    have he := hc e (List.mem_cons_self ..)
    have hl' : done.length + (es.length + 1) ≤ 1000000 := hl
    have key := fun e' => shift_round b hb es (done ++ [e']) k (Nat.lt_of_succ_lt_succ hk) (by simp; omega) (fun c hx => hc c (List.mem_cons_of_mem _ hx))
    generalize lp clause_Shift_c1_L0 k = rec at key ⊢
    unfold clause_Shift_c1_L0
    have e1 : decide (((done.length : Nat) : Int) < ((done.length + (e :: es).length : Nat) : Int)) = true := by rw [decide_eq_true_eq, List.length_cons]; omega
    have e2 : inR ((done.length : Nat) : Int) (List.length (done ++ e :: es)) = some done.length := inR_nat (by simp)
    have e3 : IntKind.wrap .i64 (((done.length : Nat) : Int) + 1) = ((done.length + 1 : Nat) : Int) := by rw [wrap64] <;> omega
    have key2 := fun e' => by
      have := key e'
      rw [List.append_assoc, List.length_append, List.length_singleton, Nat.add_assoc, Nat.add_comm 1 es.length] at this
      exact this
    simp only [e1, cond_true, e2, Option.bind_some, get_mid, e3]
    by_cases h0 : e < 0
    · have hu : upC b e = e - b := by unfold upC; rw [decide_eq_true h0]; rfl
      have w : IntKind.wrap .i64 (e - b) = e - b := by rw [wrap64] <;> omega
      rw [decide_eq_true h0, cond_true, w]
      have hset : (done ++ e :: es).set done.length (e - b) = done ++ (e - b) :: es := by
        rw [List.set_append_right _ _ (Nat.le_refl _), Nat.sub_self]; rfl
      rw [hset, List.map_cons, hu]
      have := key2 (e - b)
      exact this.trans (by simp)
    · have hu : upC b e = e := by unfold upC; rw [decide_eq_false h0]; rfl
      rw [decide_eq_false h0, cond_false, List.map_cons, hu]
      have := key2 e
      exact this.trans (by simp)
theorem shift_eq {b : Int} (hb : 0 ≤ b ∧ b ≤ 1000) {r : List Int} (hn : NearR r) : clause_Shift_c1 r b = some (r.map (upC b)) := by
  unfold clause_Shift_c1
  rw [slices_CloneN_eq (by have := hn.1; omega), Option.bind_some]
  have := shift_round b hb r [] fuel (by have := hn.1; unfold fuel; omega) (by have := hn.1; simp; omega) hn.2
  simp only [List.length_nil, Nat.zero_add, List.nil_append] at this
  have h0 : ((0 : Nat) : Int) = 0 := rfl
  rw [h0] at this
  rw [this]
  rfl
theorem eachUp_L0 {b : Int} (hb : 0 ≤ b ∧ b ≤ 1000) : (es out : List QLit) → (∀ l ∈ es, NearR l.2) → out.length + es.length ≤ 1000000 → clause_each_2_L0_go b es out = some (out ++ upLs b es)
  | [], out, _, _ => by simp [clause_each_2_L0_go, upLs]
  | e :: es, out, hn, hl => by
    rw [List.length_cons] at hl
    unfold clause_each_2_L0_go
    rw [shift_eq hb (hn e (List.mem_cons_self ..)), Option.bind_some, room_ok (show (out.length + ([(e.1, e.2.map (upC b))] : List QLit).length) * 32 ≤ 140737488351232 by simp; omega), cond_true,
      eachUp_L0 hb es _ (fun l hl => hn l (List.mem_cons_of_mem _ hl)) (by simp; omega)]
    simp [upLs]
theorem eachUp_L1 {b : Int} (hb : 0 ≤ b ∧ b ≤ 1000) (s7 : List QLit) : (es out : List (List Int)) → (∀ l ∈ es, NearR l) → out.length + es.length ≤ 1000000 → clause_each_2_L1_go b s7 es out = some (s7, out ++ es.map (List.map (upC b)))
  | [], out, _, _ => by simp [clause_each_2_L1_go]
  | e :: es, out, hn, hl => by
    rw [List.length_cons] at hl
    unfold clause_each_2_L1_go
    rw [shift_eq hb (hn e (List.mem_cons_self ..)), Option.bind_some, room_ok (show (out.length + ([e.map (upC b)] : List (List Int)).length) * 24 ≤ 140737488351232 by simp; omega), cond_true,
      eachUp_L1 hb s7 es _ (fun l hl => hn l (List.mem_cons_of_mem _ hl)) (by simp; omega)]
    simp
theorem eachUp_L2 {b : Int} (hb : 0 ≤ b ∧ b ≤ 1000) (s4 : List QLit) (s5 : List (List Int)) : (es out : List QLit) → (∀ l ∈ es, NearR l.2) → out.length + es.length ≤ 1000000 → clause_each_2_L2_go b s4 s5 es out = some (s4, s5, out ++ upLs b es)
  | [], out, _, _ => by simp [clause_each_2_L2_go, upLs]
  | e :: es, out, hn, hl => by
    rw [List.length_cons] at hl
    unfold clause_each_2_L2_go
    rw [shift_eq hb (hn e (List.mem_cons_self ..)), Option.bind_some, room_ok (show (out.length + ([(e.1, e.2.map (upC b))] : List QLit).length) * 32 ≤ 140737488351232 by simp; omega), cond_true,
      eachUp_L2 hb s4 s5 es _ (fun l hl => hn l (List.mem_cons_of_mem _ hl)) (by simp; omega)]
    simp [upLs]
theorem clause_Shift_eq {b : Int} (hb : 0 ≤ b ∧ b ≤ 1000) {L : List QLit} {T : List (List Int)} {C : List QLit} (hL : ∀ l ∈ L, NearR l.2) (hT : ∀ l ∈ T, NearR l) (hC : ∀ l ∈ C, NearR l.2) (h1 : L.length ≤ 1000) (h2 : T.length ≤ 1000) (h3 : C.length ≤ 1000) :
    clause_Shift L T C b = some (upLs b L, T.map (List.map (upC b)), upLs b C) := by
  unfold clause_Shift clause_each_2
  rw [clause_each_2_L0_go_at0 _ _ _ _ _ _ (by unfold maxLen; omega), eachUp_L0 hb L [] hL (by simp; omega), Option.bind_some,
    clause_each_2_L1_go_at0 _ _ _ _ _ _ _ (by unfold maxLen; omega), eachUp_L1 hb _ T [] hT (by simp; omega), Option.bind_some,
    clause_each_2_L2_go_at0 _ _ _ _ _ (by unfold maxLen; omega), eachUp_L2 hb _ _ C [] hC (by simp; omega), Option.bind_some]
  simp
def TopV (rs : List (List Int)) (m : Int) : Prop := (∀ x, VarR rs x → x < m) ∧ (m = 0 ∨ VarR rs (m - 1))
theorem top_of {ws : List Int} {rs : List (List Int)} (h : Rise ws) (hm : ∀ x, x ∈ ws ↔ VarR rs x) : (ws = [] ∧ TopV rs 0) ∨ ∃ x, ws[ws.length - 1]? = some x ∧ 0 < ws.length ∧ TopV rs (x + 1) := by
  cases hw : ws with
  | nil => exact .inl ⟨rfl, ⟨fun x hx => (by have := (hm x).2 hx; rw [hw] at this; cases this), .inl rfl⟩⟩
  | cons w ws' =>
    rw [← hw]
    have hl : 0 < ws.length := by rw [hw]; simp
    refine .inr ⟨ws[ws.length - 1], List.getElem?_eq_getElem (by omega), hl, ⟨fun x hx => ?_, .inr ?_⟩⟩
    · obtain ⟨i, hi⟩ := List.mem_iff_getElem?.1 ((hm x).2 hx)
      have hil := (List.getElem?_eq_some_iff.1 hi).1
      rcases Nat.lt_or_ge i (ws.length - 1) with h1 | h1
      · have := h.lt hi (List.getElem?_eq_getElem (show ws.length - 1 < ws.length by omega)) h1; omega
      · have : i = ws.length - 1 := by omega
        subst this
        rw [List.getElem?_eq_getElem (by omega)] at hi
        injection hi with hi; omega
    · rw [show ws[ws.length - 1] + 1 - 1 = ws[ws.length - 1] from by omega]
      exact (hm _).1 (List.getElem_mem _)
end
end Go.Abs.Q
namespace Go.Abs.Q
open Go Go.Abs
section
def subCs (s : Sb) (r : List Int) : List Int := r.flatMap (expC s)
theorem look_binds (σ : Sb) (v : Nat) : (vs : List Nat) → lookB ((vs.filter (moved σ)).map fun v : Nat => ((v : Int), (σ v).codes)) (v : Int) = if v ∈ vs ∧ moved σ v = true then some (σ v).codes else none
  | [] => by simp [lookB]
  | w :: vs => by
    have ih := look_binds σ v vs
    cases hm : moved σ w with
    | false =>
      rw [List.filter_cons_of_neg (by simp [hm]), ih]
      by_cases hv : v = w
      · subst hv
        simp [hm]
      · simp [hv]
    | true =>
      rw [List.filter_cons_of_pos hm, List.map_cons]
      unfold lookB at ih ⊢
      rw [List.find?_cons]
      by_cases hv : v = w
      · subst hv
        simp [hm]
      · rw [show (((w : Nat) : Int) == (v : Int)) = false from by simp; omega, ih]
        simp [hv]
theorem onB_sub {σ : Sb} {r : List Int} (h : ∀ c ∈ r, -24 ≤ c) : onB (bindsL σ) r = subCs σ r := by
  unfold onB subCs
  induction r with
  | nil => rfl
  | cons c r ih =>
    rw [List.flatMap_cons, List.flatMap_cons, ih fun c hc => h c (List.mem_cons_of_mem _ hc)]
    congr 1
    have hc := h c (List.mem_cons_self ..)
    unfold onC expC
    by_cases h0 : c ≥ 0
    · rw [decide_eq_true h0, cond_true, if_neg (by omega)]
    · rw [decide_eq_false h0, cond_false, if_pos (by omega)]
      obtain ⟨k, hk, rfl⟩ : ∃ k : Nat, k < 24 ∧ c = -1 - (k : Int) := ⟨(-1 - c).toNat, by omega, by omega⟩
      have e1 : (-1 : Int) - (-1 - (k : Int)) = (k : Int) := by omega
      rw [e1, Int.toNat_natCast]
      unfold bindsL
      rw [look_binds σ k]
      cases hm : moved σ k with
      | true => simp [hk]
      | false =>
        have : σ k = .v k := by
          unfold moved at hm
          split at hm
          · rename_i y hy
            have : y = k := by simpa using hm
            rw [hy, this]
          · cases hm
        rw [this]
        simp [Tm.codes]
theorem binds_ok {σ : Sb} (h : shortIn σ (List.range 24) = true) : BindsOk (bindsL σ) where
  len := by
    unfold bindsL
    rw [List.length_map]
    have := List.length_filter_le (moved σ) (List.range 24)
    simp at this
    omega
  all := fun b hb => by
    unfold bindsL at hb
    obtain ⟨v, hv, rfl⟩ := List.mem_map.1 hb
    have hv := (List.mem_filter.1 hv).1
    have h1 := List.all_eq_true.1 h v hv
    have h2 := (σ v).size_pos
    have h3 := (σ v).codes_len
    have h4 : (σ v).size ≤ 48 := of_decide_eq_true h1
    refine ⟨fun e => ?_, ?_⟩
    · have := congrArg List.length e
      simp only [List.length_nil] at this
      omega
    · show (σ v).codes.length ≤ 1000
      omega
def subLs (s : Sb) (ls : List QLit) : List QLit := ls.map fun l => (l.1, subCs s l.2)
theorem onLs_sub {σ : Sb} {ls : List QLit} (h : ∀ l ∈ ls, ∀ c ∈ l.2, -24 ≤ c) : onLs (bindsL σ) ls = subLs σ ls := by
  unfold onLs subLs
  exact List.map_congr_left fun l hl => by rw [onB_sub (h l hl)]
theorem onRs_sub {σ : Sb} {rs : List (List Int)} (h : ∀ r ∈ rs, ∀ c ∈ r, -24 ≤ c) : onRs (bindsL σ) rs = rs.map (subCs σ) := by
  unfold onRs
  exact List.map_congr_left fun r hr => onB_sub (h r hr)
theorem atom_tree {a0 : List QSym} {xs : List Int} (h : atomB a0 xs = true) : ∃ (c : Nat) (ts : List Tm) (e : QSym), xs = (c : Int) :: codesR ts ∧ okR a0 24 ts ∧ a0[c]? = some e ∧ e.2.1 = 0 ∧ ((ts.length : Nat) : Int) = e.2.2.1 ∧ (codesR ts).length ≤ 48 ∧ signB a0 = true := by
  obtain ⟨x, r, e, ps, rfl, h0, h1, -, h2, h3, h4, h5, h6⟩ := atomB_spec h
  obtain ⟨ts, h7, h8, h9⟩ := row_of h5
  refine ⟨x.toNat, ts, e, by rw [← h9, Int.toNat_of_nonneg h0], h7, h1, h2, ?_, by rw [← h9]; exact h4, h3⟩
  rw [← h6, h8, List.length_map]
theorem up_codes (b : Nat) : (ts : List Tm) → (codesR ts).map (upC (b : Int)) = codesR (ts.map (Tm.up b)) := by
  intro ts
  have h := codesR_sub (fun n => Tm.v (n + b)) ts
  have e : ts.map (Tm.up b) = subR (fun n => Tm.v (n + b)) ts := by rw [subR_eq]; rfl
  rw [e, h]
  generalize codesR ts = r
  induction r with
  | nil => rfl
  | cons c r ih =>
    rw [List.map_cons, List.flatMap_cons, ih]
    congr 1
    unfold upC expC
    by_cases h0 : c < 0
    · rw [decide_eq_true h0, cond_true, if_pos h0]
      show [c - (b : Int)] ++ _ = [-1 - (((-1 - c).toNat + b : Nat) : Int)] ++ _
      rw [show -1 - (((-1 - c).toNat + b : Nat) : Int) = c - (b : Int) from by omega]
      rfl
    · rw [decide_eq_false h0, cond_false, if_neg h0]
      rfl
theorem VarC_codes {ts : List Tm} {x : Int} : VarC (codesR ts) x ↔ ∃ k : Nat, x = (k : Int) ∧ hasR k ts := by
  constructor
  · rintro ⟨c, h1, h2, rfl⟩
    exact ⟨(-1 - c).toNat, by omega, (mem_codesR h2 ts).1 h1⟩
  · rintro ⟨k, rfl, hk⟩
    refine ⟨-1 - (k : Int), (mem_codesR (by omega) ts).2 (by rwa [show (-1 - (-1 - (k : Int))).toNat = k from by omega]), by omega, by omega⟩
end
end Go.Abs.Q
namespace Go.Abs.Q
open Go Go.Abs
section
theorem may_small {a0 : List QSym} {L : List QLit} {T : List (List Int)} {C : List QLit} (h : mayB a0 L T C = true) : ∀ r ∈ rowsOf L T C, SmallR r := by
  obtain ⟨-, -, -, -, h4, h5, h6, -⟩ := mayB_spec h
  intro r hr
  unfold rowsOf at hr
  rcases List.mem_append.1 hr with hr | hr
  · rcases List.mem_append.1 hr with hr | hr
    · obtain ⟨l, hl, rfl⟩ := List.mem_map.1 hr; exact litsB_small h4 l hl
    · obtain ⟨l, hl, rfl⟩ := List.mem_map.1 hr; exact litsB_small h6 l hl
  · exact rowsB_small h5 r hr
theorem varR_lt {a0 : List QSym} {L : List QLit} {T : List (List Int)} {C : List QLit} (h : mayB a0 L T C = true) {x : Int} (hx : VarR (rowsOf L T C) x) : 0 ≤ x ∧ x < 24 := by
  obtain ⟨r, hr, c, hc, h0, rfl⟩ := hx
  have := (may_small h r hr).2 c hc
  omega
abbrev ApR := List QLit × List (List Int) × Bool × List QLit
theorem apart_spec {a0 : List QSym} (hs : SignOk a0) {L : List QLit} {T : List (List Int)} {C : List QLit} {L' : List QLit} {T' : List (List Int)} {C' : List QLit} (h : mayB a0 L T C = true) (h' : mayB a0 L' T' C' = true) :
    ∃ b : Nat, b ≤ 24 ∧ TopV (rowsOf L T C) (b : Int) ∧
      ((resolve_Apart a0 L T C L' T' C' = some ([], [], false, []) ∧ ∃ x, VarR (rowsOf L' T' C') x ∧ 23 < x + (b : Int)) ∨
       (resolve_Apart a0 L T C L' T' C' = some (upLs (b : Int) L', T'.map (List.map (upC (b : Int))), true, upLs (b : Int) C') ∧ ∀ x, VarR (rowsOf L' T' C') x → x + (b : Int) ≤ 23)) := by
  obtain ⟨ws, h1, h2, h3⟩ := clause_Vars_spec hs h
  obtain ⟨ws', h1', h2', h3'⟩ := clause_Vars_spec hs h'
  obtain ⟨-, l1, l2, l3, l4, l5, l6, -⟩ := mayB_spec h'
  have hsh : ∀ b : Nat, b ≤ 24 → clause_Shift L' T' C' (b : Int) = some (upLs (b : Int) L', T'.map (List.map (upC (b : Int))), upLs (b : Int) C') := fun b hb =>
    clause_Shift_eq (by omega) (litsB_near hs l4) (rowsB_near hs l5) (litsB_near hs l6) (by omega) (by omega) (by omega)
  -- the second half
  have second : ∀ b : Nat, b ≤ 24 → ∃ o : Option ApR, ((clause_Vars a0 L' T' C').bind fun r17 =>
      cond (decide (((List.length r17.2 : Nat) : Int) > 0))
      ((inR (IntKind.wrap .i64 (((List.length r17.2 : Nat) : Int) - 1)) (List.length r17.2)).bind fun k18 =>
        (r17.2[k18]?).bind fun x19 =>
        cond (decide ((IntKind.wrap .i64 (x19 + (b : Int))) > 23))
        (some (([] : (List QLit)), ([] : (List (List Int))), false, ([] : (List QLit))))
        ((clause_Shift L' T' C' (b : Int)).bind fun r20 =>
          some (r20.1, r20.2.1, true, r20.2.2)))
      ((clause_Shift L' T' C' (b : Int)).bind fun r21 =>
        some (r21.1, r21.2.1, true, r21.2.2))) = o ∧ ((o = some ([], [], false, []) ∧ ∃ x, VarR (rowsOf L' T' C') x ∧ 23 < x + (b : Int)) ∨
       (o = some (upLs (b : Int) L', T'.map (List.map (upC (b : Int))), true, upLs (b : Int) C') ∧ ∀ x, VarR (rowsOf L' T' C') x → x + (b : Int) ≤ 23)) := by
    intro b hb
    refine ⟨_, rfl, ?_⟩
    rw [h1', Option.bind_some]
    simp only
    rcases top_of h2' h3' with ⟨rfl, h4⟩ | ⟨x, h4, h5, h6, h7⟩
    · rw [show decide (((List.length ([] : List Int) : Nat) : Int) > 0) = false from rfl, cond_false, hsh b hb]
      refine .inr ⟨rfl, fun x hx => ?_⟩
      have := h4.1 x hx
      have := (varR_lt h' hx).1
      omega
    · have hvx : VarR (rowsOf L' T' C') x := by
        rcases h7 with h7 | h7
        · have := (h3' x).1 (List.mem_of_getElem? h4); exact this
        · rwa [show x + 1 - 1 = x from by omega] at h7
      have hx := varR_lt h' hvx
      have hwl : ws'.length ≤ 1000000 ∨ True := .inr trivial
      have e1 : IntKind.wrap .i64 (((List.length ws' : Nat) : Int) - 1) = ((ws'.length - 1 : Nat) : Int) ∨ ws'.length > 1000000 := by
        rcases Nat.lt_or_ge 1000000 ws'.length with h8 | h8
        · exact .inr h8
        · left; rw [wrap64] <;> omega
      have hlen : ws'.length ≤ 24 := by
        -- numbers below 24 that rise
        have key : ∀ (ys : List Int) (m : Int), Rise ys → (∀ y ∈ ys, m ≤ y ∧ y < 24) → (ys.length : Int) ≤ 24 - m ∨ ys = [] := by
          intro ys
          induction ys with
          | nil => intro m _ _; exact .inr rfl
          | cons y ys ih =>
            intro m hr hy
            have hr := List.pairwise_cons.1 hr
            have hy0 := hy y (List.mem_cons_self ..)
            rcases ih (y + 1) hr.2 (fun z hz => ⟨by have := hr.1 z hz; omega, (hy z (List.mem_cons_of_mem _ hz)).2⟩) with h8 | h8
            · left; rw [List.length_cons]; omega
            · subst h8; left; simp; omega
        rcases key ws' 0 h2' fun y hy => varR_lt h' ((h3' y).1 hy) with h8 | h8
        · omega
        · rw [h8]; simp
      have e1 : IntKind.wrap .i64 (((List.length ws' : Nat) : Int) - 1) = ((ws'.length - 1 : Nat) : Int) := by rw [wrap64] <;> omega
      rw [decide_eq_true (show ((List.length ws' : Nat) : Int) > 0 by omega), cond_true, e1, inR_nat (by omega), Option.bind_some, h4, Option.bind_some]
      have e2 : IntKind.wrap .i64 (x + (b : Int)) = x + (b : Int) := by rw [wrap64] <;> omega
      simp only [e2]
      by_cases hf : x + (b : Int) > 23
      · rw [decide_eq_true hf, cond_true]
        exact .inl ⟨rfl, x, hvx, by omega⟩
      · rw [decide_eq_false hf, cond_false, hsh b hb]
        refine .inr ⟨rfl, fun y hy => ?_⟩
        have := h6 y hy
        omega
  unfold resolve_Apart
  rw [h1, Option.bind_some]
  simp only
  rcases top_of h2 h3 with ⟨rfl, h4⟩ | ⟨x, h4, h5, h6⟩
  · rw [show decide (((List.length ([] : List Int) : Nat) : Int) > 0) = false from rfl, cond_false]
    obtain ⟨o, h8, h9⟩ := second 0 (by omega)
    rw [show ((0 : Nat) : Int) = 0 from rfl] at h8 h9
    refine ⟨0, by omega, h4, ?_⟩
    have h8' := h8
    rw [show ((0 : Nat) : Int) = 0 from rfl]
    refine h9.imp (fun h => ⟨?_, h.2⟩) fun h => ⟨?_, h.2⟩
    · exact h8.trans h.1
    · exact h8.trans h.1
  · have hvx : VarR (rowsOf L T C) x := (h3 x).1 (List.mem_of_getElem? h4)
    have hx := varR_lt h hvx
    have hlen : ws.length ≤ 24 := by
      have key : ∀ (ys : List Int) (m : Int), Rise ys → (∀ y ∈ ys, m ≤ y ∧ y < 24) → (ys.length : Int) ≤ 24 - m ∨ ys = [] := by
        intro ys
        induction ys with
        | nil => intro m _ _; exact .inr rfl
        | cons y ys ih =>
          intro m hr hy
          have hr := List.pairwise_cons.1 hr
          have hy0 := hy y (List.mem_cons_self ..)
          rcases ih (y + 1) hr.2 (fun z hz => ⟨by have := hr.1 z hz; omega, (hy z (List.mem_cons_of_mem _ hz)).2⟩) with h8 | h8
          · left; rw [List.length_cons]; omega
          · subst h8; left; simp; omega
      rcases key ws 0 h2 fun y hy => varR_lt h ((h3 y).1 hy) with h8 | h8
      · omega
      · rw [h8]; simp
    have e1 : IntKind.wrap .i64 (((List.length ws : Nat) : Int) - 1) = ((ws.length - 1 : Nat) : Int) := by rw [wrap64] <;> omega
    rw [decide_eq_true (show ((List.length ws : Nat) : Int) > 0 by omega), cond_true, e1, inR_nat (by omega), Option.bind_some, h4, Option.bind_some]
    have e2 : IntKind.wrap .i64 (x + 1) = (((x + 1).toNat : Nat) : Int) := by rw [wrap64] <;> omega
    rw [e2]
    obtain ⟨o, h8, h9⟩ := second (x + 1).toNat (by omega)
    refine ⟨(x + 1).toNat, by omega, by rw [Int.toNat_of_nonneg (show (0 : Int) ≤ x + 1 by omega)]; exact h6, ?_⟩
    refine h9.imp (fun h => ⟨?_, h.2⟩) fun h => ⟨?_, h.2⟩
    · exact h8.trans h.1
    · exact h8.trans h.1
end
end Go.Abs.Q
namespace Go.Abs.Q
open Go Go.Abs
section
abbrev ResT := List QLit × List (List Int) × Bool × Int × List QLit
def failR (k : Int) : Option ResT := some ([], [], false, k, [])
theorem gx_map {α β : Type} (f : α → β) {xs : List α} {i : Int} {x : α} (h : gx xs i = some x) : gx (xs.map f) i = some (f x) := by
  unfold gx at h ⊢
  cases hd : decide (0 ≤ i) with
  | false => rw [hd] at h; cases h
  | true =>
    rw [hd, cond_true] at h
    rw [cond_true, List.getElem?_map, h]
    rfl
theorem gx_mem {α : Type} {xs : List α} {i : Int} {x : α} (h : gx xs i = some x) : x ∈ xs := by
  unfold gx at h
  cases hd : decide (0 ≤ i) with
  | false => rw [hd] at h; cases h
  | true =>
    rw [hd, cond_true] at h
    exact List.mem_of_getElem? h
def Cds (r : List Int) : Prop := r.length ≤ 1000 ∧ ∀ c ∈ r, -24 ≤ c ∧ c ≤ 1000000
theorem Cds.near {r : List Int} (h : Cds r) : NearR r := ⟨h.1, fun c hc => by have := h.2 c hc; omega⟩
theorem may_cds {a0 : List QSym} (hs : SignOk a0) {L : List QLit} {T : List (List Int)} {C : List QLit} (h : mayB a0 L T C = true) : ∀ r ∈ rowsOf L T C, Cds r := by
  intro r hr
  have h1 := may_small h r hr
  obtain ⟨-, -, -, -, h4, h5, h6, -⟩ := mayB_spec h
  have h2 : NearR r := by
    unfold rowsOf at hr
    rcases List.mem_append.1 hr with hr | hr
    · rcases List.mem_append.1 hr with hr | hr
      · obtain ⟨l, hl, rfl⟩ := List.mem_map.1 hr; exact litsB_near hs h4 l hl
      · obtain ⟨l, hl, rfl⟩ := List.mem_map.1 hr; exact litsB_near hs h6 l hl
    · exact rowsB_near hs h5 r hr
  exact ⟨h2.1, fun c hc => ⟨h1.2 c hc, (h2.2 c hc).2⟩⟩
theorem up_cds {b : Nat} {r : List Int} (h : Cds r) (hb : ∀ x, VarC r x → x + (b : Int) ≤ 23) : Cds (r.map (upC (b : Int))) := by
  refine ⟨by rw [List.length_map]; exact h.1, fun c hc => ?_⟩
  obtain ⟨d, hd, rfl⟩ := List.mem_map.1 hc
  have h1 := h.2 d hd
  unfold upC
  by_cases h0 : d < 0
  · have := hb (-1 - d) ⟨d, hd, h0, rfl⟩
    rw [decide_eq_true h0, cond_true]; omega
  · rw [decide_eq_false h0, cond_false]; omega
theorem up_ok24 {a0 : List QSym} {b : Nat} {ts : List Tm} (h : okR a0 24 ts) (hb : ∀ k : Nat, hasR k ts → k + b < 24) : okR a0 24 (ts.map (Tm.up b)) := by
  have e : ts.map (Tm.up b) = subR (fun n => Tm.v (n + b)) ts := by rw [subR_eq]; rfl
  rw [e]
  exact okR_sub ts h fun x hx => hb x hx
theorem upC_atom (b : Nat) (c : Nat) (ts : List Tm) : ((c : Int) :: codesR ts).map (upC (b : Int)) = (c : Int) :: codesR (ts.map (Tm.up b)) := by
  rw [List.map_cons, up_codes]
  unfold upC
  rw [decide_eq_false (show ¬ ((c : Int) < 0) by omega)]
  rfl
theorem mem_rows_lit {L : List QLit} {T : List (List Int)} {C : List QLit} {l : QLit} (h : l ∈ L) : l.2 ∈ rowsOf L T C := by
  unfold rowsOf
  exact List.mem_append_left _ (List.mem_append_left _ (List.mem_map_of_mem h))
theorem mem_rows_cond {L : List QLit} {T : List (List Int)} {C : List QLit} {l : QLit} (h : l ∈ C) : l.2 ∈ rowsOf L T C := by
  unfold rowsOf
  exact List.mem_append_left _ (List.mem_append_right _ (List.mem_map_of_mem h))
theorem mem_rows_row {L : List QLit} {T : List (List Int)} {C : List QLit} {r : List Int} (h : r ∈ T) : r ∈ rowsOf L T C := by
  unfold rowsOf
  exact List.mem_append_right _ h
theorem On_sub {σ : Sb} (hsh : shortIn σ (List.range 24) = true) {L : List QLit} {T : List (List Int)} {C : List QLit} (hL : ∀ l ∈ L, Cds l.2) (hT : ∀ r ∈ T, Cds r) (hC : ∀ l ∈ C, Cds l.2) (h1 : L.length ≤ 1000) (h2 : T.length ≤ 1000) (h3 : C.length ≤ 1000) :
    clause_On (bindsL σ) L T C = some (subLs σ L, T.map (subCs σ), subLs σ C) := by
  rw [clause_On_eq (binds_ok hsh) (fun l hl => (hL l hl).near) (fun r hr => (hT r hr).near) (fun l hl => (hC l hl).near) h1 h2 h3,
    onLs_sub fun l hl c hc => ((hL l hl).2 c hc).1, onLs_sub fun l hl c hc => ((hC l hl).2 c hc).1, onRs_sub fun r hr c hc => ((hT r hr).2 c hc).1]
def bothL (i j : Int) (b : Nat) (L L' : List QLit) : List QLit := without i L 0 ++ without j (upLs (b : Int) L') 0
def bothT (b : Nat) (T T' : List (List Int)) : List (List Int) := T ++ T'.map (List.map (upC (b : Int)))
def bothC (b : Nat) (C C' : List QLit) : List QLit := C ++ upLs (b : Int) C'
def resOut (a0 : List QSym) (σ : Sb) (L : List QLit) (T : List (List Int)) (C : List QLit) (k : Int) : Option ResT :=
  cond (mayB a0 (subLs σ L) (T.map (subCs σ)) (subLs σ C)) (some ((normC (subLs σ L) (T.map (subCs σ)) (subLs σ C)).1, (normC (subLs σ L) (T.map (subCs σ)) (subLs σ C)).2.1, true, 0, (normC (subLs σ L) (T.map (subCs σ)) (subLs σ C)).2.2)) (failR k)
theorem resolve_one_spec {a0 : List QSym} (hs : SignOk a0) {L : List QLit} {T : List (List Int)} {C : List QLit} {L' : List QLit} {T' : List (List Int)} {C' : List QLit} (h : mayB a0 L T C = true) (h' : mayB a0 L' T' C' = true) {i j : Int} {n n' : Bool} {A A' : List Int}
    (hi : gx L i = some (n, A)) (hj : gx L' j = some (n', A')) :
    ((n = n' ∨ gx A 0 ≠ gx A' 0) ∧ resolve_one a0 L T C i L' T' C' j = failR 0) ∨
    (n ≠ n' ∧ ∃ (b c : Nat) (ts us : List Tm), b ≤ 24 ∧ TopV (rowsOf L T C) (b : Int) ∧ A = (c : Int) :: codesR ts ∧ A' = (c : Int) :: codesR us ∧ okR a0 24 ts ∧ okR a0 24 us ∧ ts.length = us.length ∧
      ((resolve_one a0 L T C i L' T' C' j = failR 1301 ∧ ∃ x, VarR (rowsOf L' T' C') x ∧ 23 < x + (b : Int)) ∨
       ((∀ x, VarR (rowsOf L' T' C') x → x + (b : Int) ≤ 23) ∧
        ((resolve_one a0 L T C i L' T' C' j = failR 0 ∧ ∀ θ, ¬ Sol θ (ts.zip (us.map (Tm.up b)))) ∨
         ∃ σ, Mgu σ (ts.zip (us.map (Tm.up b))) ∧ (∀ x, x < 24 → (σ x).ok a0 24) ∧
           ((shortIn σ (List.range 24) = false ∧ resolve_one a0 L T C i L' T' C' j = failR 1302) ∨
            (shortIn σ (List.range 24) = true ∧ resolve_one a0 L T C i L' T' C' j = resOut a0 σ (bothL i j b L L') (bothT b T T') (bothC b C C') 1302)))))) := by
  obtain ⟨hsb, l1, l2, l3, l4, l5, l6, -⟩ := mayB_spec h
  obtain ⟨-, l1', l2', l3', l4', l5', l6', -⟩ := mayB_spec h'
  have hA := List.all_eq_true.1 l4 (n, A) (gx_mem hi)
  have hA' := List.all_eq_true.1 l4' (n', A') (gx_mem hj)
  obtain ⟨c, ts, e, rfl, ho, he, -, hlen, hl48, -⟩ := atom_tree hA
  obtain ⟨c', us, e', rfl, ho', he', -, hlen', hl48', -⟩ := atom_tree hA'
  unfold resolve_one
  rw [hi, Option.bind_some, hj, Option.bind_some]
  simp only [Option.bind_some]
  by_cases hn : n = n'
  · subst hn
    rw [show (n == n) = true from by simp, cond_true]
    exact .inl ⟨.inl rfl, rfl⟩
  · rw [show (n == n') = false from by simp [hn], cond_false]
    simp only [gx_zero, List.getElem?_cons_zero, Option.bind_some]
    by_cases hc : c = c'
    · subst hc
      rw [show ((c : Int) != (c : Int)) = false from by simp, cond_false]
      have hll : ts.length = us.length := by
        rw [he] at he'; injection he' with he'; subst he'
        omega
      refine .inr ⟨hn, ?_⟩
      obtain ⟨b, hb, htop, hap⟩ := apart_spec hs h h'
      refine ⟨b, c, ts, us, hb, htop, rfl, rfl, ho, ho', hll, ?_⟩
      rcases hap with ⟨hap, hfar⟩ | ⟨hap, hnear⟩
      · rw [hap]
        exact .inl ⟨rfl, hfar⟩
      · rw [hap]
        simp only [Option.bind_some, Bool.not_true, cond_false]
        refine .inr ⟨hnear, ?_⟩
        have hj2 : gx (upLs (b : Int) L') j = some (n', ((c : Int) :: codesR us).map (upC (b : Int))) := gx_map _ hj
        rw [hj2]
        simp only [slc_tail, Option.bind_some]
        rw [upC_atom, slc_tail]
        simp only [Option.bind_some]
        have hvar : ∀ k : Nat, hasR k us → k + b < 24 := fun k hk => by
          have := hnear (k : Int) ⟨_, mem_rows_lit (gx_mem hj), by
            obtain ⟨c0, h1, h2, h3⟩ := VarC_codes.2 ⟨k, rfl, hk⟩
            exact ⟨c0, List.mem_cons_of_mem _ h1, h2, h3⟩⟩
          omega
        have hlu : (codesR (us.map (Tm.up b))).length ≤ 48 := by rw [← up_codes, List.length_map]; exact hl48'
        rcases unify_spec hs (xs := codesR ts) (ys := codesR (us.map (Tm.up b))) rfl rfl ho (up_ok24 ho' hvar) hsb hl48 hlu with ⟨hu, hno⟩ | ⟨-, σ, hm, hok, hu⟩
        · rw [hu]
          refine .inl ⟨rfl, ?_⟩
          rcases hno with hno | hno
          · rw [List.length_map] at hno; exact absurd hll hno
          · exact hno
        · rw [hu]
          refine .inr ⟨σ, hm, hok, ?_⟩
          cases hsh : shortIn σ (List.range 24) with
          | false => exact .inl ⟨rfl, rfl⟩
          | true =>
            refine .inr ⟨rfl, ?_⟩
            simp only [cond_true, Option.bind_some, show ((0 : Int) != 0) = false from rfl, cond_false, Bool.not_true]
            have hul : (upLs (b : Int) L').length = L'.length := by simp [upLs]
            have hucl : (upLs (b : Int) C').length = C'.length := by simp [upLs]
            rw [resolve_Both_eq i j (by omega) (by omega) (by omega) (by omega) (by simp; omega) (by omega), Option.bind_some]
            simp only
            have hcd := may_cds hs h
            have hcd' := may_cds hs h'
            have hwl := without_len i L 0
            have hwl' := without_len j (upLs (b : Int) L') 0
            have hup : ∀ r ∈ rowsOf L' T' C', Cds (r.map (upC (b : Int))) := fun r hr => up_cds (hcd' r hr) fun x hx => hnear x ⟨r, hr, hx⟩
            have hupl : ∀ ls : List QLit, (∀ l ∈ ls, l.2 ∈ rowsOf L' T' C') → ∀ l ∈ upLs (b : Int) ls, Cds l.2 := fun ls hls l hl => by
              obtain ⟨l0, h0, rfl⟩ := List.mem_map.1 hl
              exact hup _ (hls l0 h0)
            rw [On_sub hsh (fun l hl => ?_) (fun r hr => ?_) (fun l hl => ?_) (by rw [List.length_append]; omega) (by rw [List.length_append, List.length_map]; omega) (by rw [List.length_append]; omega), Option.bind_some, clause_Normal_eq, Option.bind_some]
            · unfold resOut bothL bothT bothC
              cases hmy : mayB a0 (subLs σ (without i L 0 ++ without j (upLs (b : Int) L') 0)) ((T ++ T'.map (List.map (upC (b : Int)))).map (subCs σ)) (subLs σ (C ++ upLs (b : Int) C')) with
              | true => rfl
              | false => rfl
            · rcases List.mem_append.1 hl with hl | hl
              · exact hcd _ (mem_rows_lit (without_mem L 0 hl))
              · exact hupl L' (fun l hl => mem_rows_lit hl) l (without_mem _ 0 hl)
            · rcases List.mem_append.1 hr with hr | hr
              · exact hcd _ (mem_rows_row hr)
              · obtain ⟨r0, h0, rfl⟩ := List.mem_map.1 hr
                exact hup _ (mem_rows_row h0)
            · rcases List.mem_append.1 hl with hl | hl
              · exact hcd _ (mem_rows_cond hl)
              · exact hupl C' (fun l hl => mem_rows_cond hl) l hl
    · rw [show ((c : Int) != (c' : Int)) = true from by simp; omega, cond_true]
      refine .inl ⟨.inr ?_, rfl⟩
      intro hcc
      injection hcc with hcc
      omega
end
end Go.Abs.Q
namespace Go.Abs.Q
open Go Go.Abs
section
theorem codesR_inj {a0 : List QSym} : ∀ (n : Nat) (ts us : List Tm), sizeR ts ≤ n → okR a0 24 ts → okR a0 24 us → codesR ts = codesR us → ts = us := by
  intro n
  induction n with
  | zero =>
    intro ts us hn _ _ he
    cases ts with
    | cons t ts => have := t.size_pos; simp only [sizeR] at hn; omega
    | nil =>
      cases us with
      | nil => rfl
      | cons u us =>
        have := congrArg List.length he
        rw [codesR_len, codesR_len] at this
        have := u.size_pos
        simp only [sizeR] at *; omega
  | succ n ih =>
    intro ts us hn ho ho' he
    cases ts with
    | nil =>
      cases us with
      | nil => rfl
      | cons u us =>
        have := congrArg List.length he
        rw [codesR_len, codesR_len] at this
        have := u.size_pos
        simp only [sizeR] at *; omega
    | cons t ts =>
      cases us with
      | nil =>
        have := congrArg List.length he
        rw [codesR_len, codesR_len] at this
        have := t.size_pos
        simp only [sizeR] at *; omega
      | cons u us =>
        have he : t.codes ++ codesR ts = u.codes ++ codesR us := he
        cases t with
        | v k =>
          cases u with
          | v k' =>
            have he : (-1 - (k : Int)) :: codesR ts = (-1 - (k' : Int)) :: codesR us := he
            injection he with h1 h2
            have : k = k' := by omega
            rw [this, ih ts us (by simp only [sizeR, Tm.size] at hn; omega) ho.2 ho'.2 h2]
          | f c as =>
            have he : (-1 - (k : Int)) :: codesR ts = (c : Int) :: (codesR as ++ codesR us) := he
            injection he with h1 h2
            omega
        | f c as =>
          cases u with
          | v k' =>
            have he : (c : Int) :: (codesR as ++ codesR ts) = (-1 - (k' : Int)) :: codesR us := he
            injection he with h1 h2
            omega
          | f c' bs =>
            have he : (c : Int) :: (codesR as ++ codesR ts) = (c' : Int) :: (codesR bs ++ codesR us) := he
            injection he with h1 h2
            have hc : c = c' := by omega
            subst hc
            rw [← codesR_app, ← codesR_app] at h2
            have ha := ho.1.1
            have hb := ho'.1.1
            rw [ha] at hb
            injection hb with hb
            have := ih (as ++ ts) (bs ++ us) (by rw [sizeR_app]; simp only [sizeR, Tm.size] at hn; omega)
              (okR_iff.2 fun t ht => (List.mem_append.1 ht).elim (okR_iff.1 ho.1.2 t) (okR_iff.1 ho.2 t))
              (okR_iff.2 fun t ht => (List.mem_append.1 ht).elim (okR_iff.1 ho'.1.2 t) (okR_iff.1 ho'.2 t)) h2
            obtain ⟨h3, h4⟩ := List.append_inj this hb
            rw [h3, h4]
theorem resolve_place_eq (L : List QLit) (T : List (List Int)) (C : List QLit) (i : Int) : resolve_place L T C i = some (placeB L i) := by
  unfold resolve_place placeB
  by_cases h : i ≥ 0
  · rw [decide_eq_true h, cond_true, Bool.true_and]
  · rw [decide_eq_false h, cond_false, Bool.false_and]
theorem resolve_One_eq (a0 : List QSym) (L : List QLit) (T : List (List Int)) (C : List QLit) (i : Int) (L' : List QLit) (T' : List (List Int)) (C' : List QLit) (j : Int) :
    resolve_One a0 L T C i L' T' C' j = cond (mayB a0 L T C && mayB a0 L' T' C' && placeB L i && placeB L' j) (resolve_one a0 L T C i L' T' C' j) (failR 1300) := by
  unfold resolve_One
  rw [clause_May_eq, Option.bind_some, clause_May_eq, Option.bind_some, resolve_place_eq, Option.bind_some, resolve_place_eq, Option.bind_some]
  have eta : ∀ o : Option ResT, (o.bind fun r => some (r.1, r.2.1, r.2.2.1, r.2.2.2.1, r.2.2.2.2)) = o := fun o => by cases o <;> rfl
  cases mayB a0 L T C with
  | false => rfl
  | true =>
    cases mayB a0 L' T' C' with
    | false => rfl
    | true =>
      cases placeB L i with
      | false => rfl
      | true =>
        cases placeB L' j with
        | false => rfl
        | true => exact eta _
theorem law13_awake_eq : law13_awake = some true := by kernel_rfl
end
end Go.Abs.Q
namespace Go.Abs.Q
open Go Go.Abs
section
theorem onceL_nodup {α : Type} [DecidableEq α] : (es out : List α) → out.Nodup → (onceL es out).Nodup
  | [], out, h => h
  | e :: es, out, h => by
    unfold onceL
    by_cases he : e ∈ out
    · rw [decide_eq_true he, cond_true]; exact onceL_nodup es out h
    · rw [decide_eq_false he, cond_false]
      refine onceL_nodup es _ ?_
      rw [List.nodup_append]
      exact ⟨h, List.nodup_cons.2 ⟨by simp, List.nodup_nil⟩, fun a ha b hb => by rw [List.mem_singleton.1 hb]; exact fun e' => he (e' ▸ ha)⟩
theorem nodup_le {α : Type} [DecidableEq α] : (a b : List α) → a.Nodup → (∀ x ∈ a, x ∈ b) → a.length ≤ b.length
  | [], _, _, _ => Nat.zero_le _
  | x :: a, b, hn, hs => by
    have hn := List.nodup_cons.1 hn
    have hx := hs x (List.mem_cons_self ..)
    have h1 : ∀ y ∈ a, y ∈ b.erase x := fun y hy => by
      have hne : y ≠ x := fun e => hn.1 (e ▸ hy)
      exact (List.mem_erase_of_ne hne).2 (hs y (List.mem_cons_of_mem _ hy))
    have h2 := nodup_le a (b.erase x) hn.2 h1
    rw [List.length_erase_of_mem hx] at h2
    have := List.length_pos_of_mem hx
    simp only [List.length_cons]
    omega
theorem once_le {α : Type} [DecidableEq α] {a b : List α} (h h' : α → α) (h1 : ∀ x ∈ a, h x ∈ b) (h2 : ∀ x ∈ a, h' (h x) = x) : (onceL a []).length ≤ (onceL b []).length := by
  have hn := onceL_nodup a [] List.nodup_nil
  have hm : ∀ x ∈ onceL a [], x ∈ a := fun x hx => by simpa using (onceL_mem a []).1 hx
  have h3 : ((onceL a []).map h).Nodup := by
    have : ∀ l : List α, l.Nodup → (∀ x ∈ l, x ∈ a) → (l.map h).Nodup := by
      intro l
      induction l with
      | nil => intro _ _; exact List.nodup_nil
      | cons x l ih =>
        intro hn hs
        have hn := List.nodup_cons.1 hn
        rw [List.map_cons, List.nodup_cons]
        refine ⟨fun hx => ?_, ih hn.2 fun y hy => hs y (List.mem_cons_of_mem _ hy)⟩
        obtain ⟨y, hy, he⟩ := List.mem_map.1 hx
        have e1 := h2 x (hs x (List.mem_cons_self ..))
        have e2 := h2 y (hs y (List.mem_cons_of_mem _ hy))
        rw [← he, e2] at e1
        exact hn.1 (e1 ▸ hy)
    exact this _ hn hm
  have h4 := nodup_le _ (onceL b []) h3 fun x hx => by
    obtain ⟨y, hy, rfl⟩ := List.mem_map.1 hx
    exact (onceL_mem b []).2 (.inr (h1 y (hm y hy)))
  rwa [List.length_map] at h4
theorem normC_lens (L : List QLit) (T : List (List Int)) (C : List QLit) : (normC L T C).1.length = (onceL L []).length ∧ (normC L T C).2.1.length = (onceL T []).length ∧ (normC L T C).2.2.length = (onceL C []).length := by
  unfold normC renC
  exact ⟨renLs_len _ _, renRs_len _ _, renLs_len _ _⟩
theorem subCs_sub (s u : Sb) (r : List Int) : subCs u (subCs s r) = subCs (fun k => (s k).sub u) r := by
  unfold subCs
  rw [List.flatMap_assoc]
  congr 1
  funext c
  unfold expC
  by_cases h0 : c < 0
  · rw [if_pos h0, if_pos h0]
    exact ((s (-1 - c).toNat).codes_sub u).symm
  · rw [if_neg h0, if_neg h0]
    simp [expC, h0]
theorem subCs_up (s : Sb) (b : Nat) (r : List Int) : subCs s (r.map (upC (b : Int))) = subCs (fun k => s (k + b)) r := by
  unfold subCs
  rw [List.flatMap_map]
  congr 1
  funext c
  unfold expC upC
  by_cases h0 : c < 0
  · rw [decide_eq_true h0, cond_true, if_pos h0, if_pos (by omega), show (-1 - (c - (b : Int))).toNat = (-1 - c).toNat + b from by omega]
  · rw [decide_eq_false h0, cond_false, if_neg h0, if_neg h0]
theorem subCs_ext {s u : Sb} {r : List Int} (h : ∀ x, VarC r x → s x.toNat = u x.toNat) : subCs s r = subCs u r := by
  unfold subCs
  induction r with
  | nil => rfl
  | cons c r ih =>
    rw [List.flatMap_cons, List.flatMap_cons, ih fun x ⟨d, hd, h1⟩ => h x ⟨d, List.mem_cons_of_mem _ hd, h1⟩]
    congr 1
    unfold expC
    by_cases h0 : c < 0
    · rw [if_pos h0, if_pos h0, h (-1 - c) ⟨c, List.mem_cons_self .., h0, rfl⟩]
    · rw [if_neg h0, if_neg h0]
def swapV (b b' : Nat) (v : Nat) : Nat := if v < b then v + b' else v - b
theorem up_eq (b : Nat) (ts : List Tm) : ts.map (Tm.up b) = subR (fun n => Tm.v (n + b)) ts := by rw [subR_eq]; rfl
theorem sol_swap {b b' : Nat} {ts us : List Tm} (hl : ts.length = us.length) (ht : ∀ k, hasR k ts → k < b) {θ : Sb} (h : Sol θ (us.zip (ts.map (Tm.up b')))) : Sol (fun v => θ (swapV b b' v)) (ts.zip (us.map (Tm.up b))) := by
  rw [Sol.zip (by rw [List.length_map]; exact hl.symm)] at h
  rw [Sol.zip (by rw [List.length_map]; exact hl)]
  rw [up_eq, subR_subR] at h ⊢
  have e1 : subR (fun v => θ (swapV b b' v)) ts = subR (fun x => θ (x + b')) ts := subR_ext ts fun x hx => by
    unfold swapV
    rw [if_pos (ht x hx)]
  have e2 : subR (fun x => (Tm.v (x + b)).sub fun v => θ (swapV b b' v)) us = subR θ us := subR_ext us fun x _ => by
    show θ (swapV b b' (x + b)) = θ x
    unfold swapV
    rw [if_neg (by omega), Nat.add_sub_cancel]
  rw [e1, e2]
  exact h.symm
theorem rows_swap {b b' : Nat} {σ1 σ2 : Sb} (hg : ∀ x, (σ1 x).sub (fun v => σ2 (swapV b b' v)) = σ2 (swapV b b' x)) {P Q : List (List Int)} (hP : ∀ r ∈ P, ∀ x, VarC r x → x < (b : Int)) :
    (∀ r ∈ P, subCs (fun v => σ2 (swapV b b' v)) (subCs σ1 r) = subCs σ2 (r.map (upC (b' : Int)))) ∧ ∀ r ∈ Q, subCs (fun v => σ2 (swapV b b' v)) (subCs σ1 (r.map (upC (b : Int)))) = subCs σ2 r := by
  constructor
  · intro r hr
    rw [subCs_sub, subCs_up]
    refine subCs_ext fun x hx => ?_
    rw [hg]
    have := hP r hr x hx
    obtain ⟨c, hc, h0, rfl⟩ := hx
    unfold swapV
    rw [if_pos (by omega)]
  · intro r hr
    rw [subCs_up, subCs_sub]
    refine subCs_ext fun x hx => ?_
    rw [hg]
    unfold swapV
    rw [if_neg (by omega), Nat.add_sub_cancel]
theorem upLs_without (b : Nat) (j : Int) : (L : List QLit) → (i : Nat) → without j (upLs (b : Int) L) i = upLs (b : Int) (without j L i)
  | [], _ => rfl
  | l :: L, i => by
    have ih := upLs_without b j L (i + 1)
    show without j ((l.1, l.2.map (upC (b : Int))) :: upLs (b : Int) L) i = _
    unfold without
    cases ((i : Int) != j) with
    | true => rw [cond_true, cond_true, ih]; rfl
    | false => rw [cond_false, cond_false, ih]
theorem once_swap_lits {b b' : Nat} {σ1 σ2 : Sb} (hg : ∀ x, (σ1 x).sub (fun v => σ2 (swapV b b' v)) = σ2 (swapV b b' x)) (hg' : ∀ x, (σ2 x).sub (fun v => σ1 (swapV b' b v)) = σ1 (swapV b' b x)) {P Q : List QLit}
    (hP : ∀ l ∈ P, ∀ x, VarC l.2 x → x < (b : Int)) (hQ : ∀ l ∈ Q, ∀ x, VarC l.2 x → x < (b' : Int)) :
    (onceL (subLs σ1 (P ++ upLs (b : Int) Q)) []).length ≤ (onceL (subLs σ2 (Q ++ upLs (b' : Int) P)) []).length := by
  have r1 := rows_swap hg (P := P.map (·.2)) (Q := Q.map (·.2)) (fun r hr => by obtain ⟨l, hl, rfl⟩ := List.mem_map.1 hr; exact hP l hl)
  have r2 := rows_swap hg' (P := Q.map (·.2)) (Q := P.map (·.2)) (fun r hr => by obtain ⟨l, hl, rfl⟩ := List.mem_map.1 hr; exact hQ l hl)
  have cases1 : ∀ l ∈ subLs σ1 (P ++ upLs (b : Int) Q), (∃ p ∈ P, l = (p.1, subCs σ1 p.2)) ∨ ∃ q ∈ Q, l = (q.1, subCs σ1 (q.2.map (upC (b : Int)))) := fun l hl => by
    obtain ⟨l0, h0, rfl⟩ := List.mem_map.1 hl
    rcases List.mem_append.1 h0 with h0 | h0
    · exact .inl ⟨l0, h0, rfl⟩
    · obtain ⟨q, hq, rfl⟩ := List.mem_map.1 h0
      exact .inr ⟨q, hq, rfl⟩
  refine once_le (fun l => (l.1, subCs (fun v => σ2 (swapV b b' v)) l.2)) (fun l => (l.1, subCs (fun v => σ1 (swapV b' b v)) l.2)) (fun l hl => ?_) (fun l hl => ?_)
  · rcases cases1 l hl with ⟨p, hp, rfl⟩ | ⟨q, hq, rfl⟩
    · show (p.1, subCs _ (subCs σ1 p.2)) ∈ _
      rw [r1.1 p.2 (List.mem_map_of_mem hp)]
      refine List.mem_map.2 ⟨(p.1, p.2.map (upC (b' : Int))), List.mem_append_right _ (List.mem_map.2 ⟨p, hp, rfl⟩), rfl⟩
    · show (q.1, subCs _ (subCs σ1 (q.2.map (upC (b : Int))))) ∈ _
      rw [r1.2 q.2 (List.mem_map_of_mem hq)]
      exact List.mem_map.2 ⟨q, List.mem_append_left _ hq, rfl⟩
  · rcases cases1 l hl with ⟨p, hp, rfl⟩ | ⟨q, hq, rfl⟩
    · show (p.1, subCs _ (subCs _ (subCs σ1 p.2))) = (p.1, subCs σ1 p.2)
      rw [r1.1 p.2 (List.mem_map_of_mem hp), r2.2 p.2 (List.mem_map_of_mem hp)]
    · show (q.1, subCs _ (subCs _ (subCs σ1 (q.2.map (upC (b : Int)))))) = (q.1, subCs σ1 (q.2.map (upC (b : Int))))
      rw [r1.2 q.2 (List.mem_map_of_mem hq), r2.1 q.2 (List.mem_map_of_mem hq)]
theorem once_swap_rows {b b' : Nat} {σ1 σ2 : Sb} (hg : ∀ x, (σ1 x).sub (fun v => σ2 (swapV b b' v)) = σ2 (swapV b b' x)) (hg' : ∀ x, (σ2 x).sub (fun v => σ1 (swapV b' b v)) = σ1 (swapV b' b x)) {P Q : List (List Int)}
    (hP : ∀ l ∈ P, ∀ x, VarC l x → x < (b : Int)) (hQ : ∀ l ∈ Q, ∀ x, VarC l x → x < (b' : Int)) :
    (onceL ((P ++ Q.map (List.map (upC (b : Int)))).map (subCs σ1)) []).length ≤ (onceL ((Q ++ P.map (List.map (upC (b' : Int)))).map (subCs σ2)) []).length := by
  have r1 := rows_swap hg (P := P) (Q := Q) hP
  have r2 := rows_swap hg' (P := Q) (Q := P) hQ
  have cases1 : ∀ l ∈ (P ++ Q.map (List.map (upC (b : Int)))).map (subCs σ1), (∃ p ∈ P, l = subCs σ1 p) ∨ ∃ q ∈ Q, l = subCs σ1 (q.map (upC (b : Int))) := fun l hl => by
    obtain ⟨l0, h0, rfl⟩ := List.mem_map.1 hl
    rcases List.mem_append.1 h0 with h0 | h0
    · exact .inl ⟨l0, h0, rfl⟩
    · obtain ⟨q, hq, rfl⟩ := List.mem_map.1 h0
      exact .inr ⟨q, hq, rfl⟩
  refine once_le (subCs (fun v => σ2 (swapV b b' v))) (subCs (fun v => σ1 (swapV b' b v))) (fun l hl => ?_) (fun l hl => ?_)
  · rcases cases1 l hl with ⟨p, hp, rfl⟩ | ⟨q, hq, rfl⟩
    · rw [r1.1 p hp]
      exact List.mem_map.2 ⟨p.map (upC (b' : Int)), List.mem_append_right _ (List.mem_map.2 ⟨p, hp, rfl⟩), rfl⟩
    · rw [r1.2 q hq]
      exact List.mem_map.2 ⟨q, List.mem_append_left _ hq, rfl⟩
  · rcases cases1 l hl with ⟨p, hp, rfl⟩ | ⟨q, hq, rfl⟩
    · rw [r1.1 p hp, r2.2 p hp]
    · rw [r1.2 q hq, r2.1 q hq]
theorem placeB_gx {L : List QLit} {i : Int} (h : placeB L i = true) : ∃ l, gx L i = some l := by
  unfold placeB at h
  simp only [Bool.and_eq_true, decide_eq_true_eq] at h
  obtain ⟨l, h1, -⟩ := gx_at (xs := L) h.1 h.2
  exact ⟨l, h1⟩
def Turned (r s : ResT) : Prop := (r.2.2.2.1 ≠ 0 → r.1 = []) ∧ (s.2.2.2.1 ≠ 0 → s.1 = []) ∧ (r.2.2.2.1 = 0 → s.2.2.2.1 = 0 → r.2.2.1 = s.2.2.1 ∧ r.1.length = s.1.length ∧ r.2.1.length = s.2.1.length ∧ r.2.2.2.2.length = s.2.2.2.2.length)
theorem resOut_ok {a0 : List QSym} {σ : Sb} {L : List QLit} {T : List (List Int)} {C : List QLit} {k : Int} : ∃ r, resOut a0 σ L T C k = some r ∧ (r.2.2.2.1 ≠ 0 → r.1 = []) ∧ (k ≠ 0 → r.2.2.2.1 = 0 → r.2.2.1 = true ∧ r.1.length = (onceL (subLs σ L) []).length ∧ r.2.1.length = (onceL (T.map (subCs σ)) []).length ∧ r.2.2.2.2.length = (onceL (subLs σ C) []).length) := by
  unfold resOut
  cases hm : mayB a0 (subLs σ L) (T.map (subCs σ)) (subLs σ C) with
  | true =>
    obtain ⟨h1, h2, h3⟩ := normC_lens (subLs σ L) (T.map (subCs σ)) (subLs σ C)
    exact ⟨_, rfl, fun h => absurd rfl h, fun _ _ => ⟨rfl, h1, h2, h3⟩⟩
  | false => exact ⟨_, rfl, fun _ => rfl, fun h1 h2 => absurd h2 h1⟩
theorem resolve_turned (a0 : List QSym) (L : List QLit) (T : List (List Int)) (C : List QLit) (i : Int) (L' : List QLit) (T' : List (List Int)) (C' : List QLit) (j : Int) :
    ∃ r s, resolve_One a0 L T C i L' T' C' j = some r ∧ resolve_One a0 L' T' C' j L T C i = some s ∧ Turned r s := by
  rw [resolve_One_eq, resolve_One_eq]
  have e0 : (mayB a0 L' T' C' && mayB a0 L T C && placeB L' j && placeB L i) = (mayB a0 L T C && mayB a0 L' T' C' && placeB L i && placeB L' j) := by
    cases mayB a0 L T C <;> cases mayB a0 L' T' C' <;> cases placeB L i <;> cases placeB L' j <;> rfl
  rw [e0]
  cases hall : mayB a0 L T C && mayB a0 L' T' C' && placeB L i && placeB L' j with
  | false => exact ⟨_, _, rfl, rfl, fun _ => rfl, fun _ => rfl, fun h => by cases h⟩
  | true =>
    rw [cond_true, cond_true]
    simp only [Bool.and_eq_true] at hall
    obtain ⟨⟨⟨h, h'⟩, hpi⟩, hpj⟩ := hall
    obtain ⟨⟨n, A⟩, hi⟩ := placeB_gx hpi
    obtain ⟨⟨n', A'⟩, hj⟩ := placeB_gx hpj
    have hs := signB_ok (mayB_spec h).1
    have fails : ∀ {k k' : Int} {o o' : Option ResT}, o = failR k → o' = failR k' → ∃ r s, o = some r ∧ o' = some s ∧ Turned r s := fun h1 h2 => ⟨_, _, h1, h2, fun _ => rfl, fun _ => rfl, fun _ _ => ⟨rfl, rfl, rfl, rfl⟩⟩
    have one : ∀ {k : Int} {o o' : Option ResT}, k ≠ 0 → o = failR k → (∃ s, o' = some s ∧ (s.2.2.2.1 ≠ 0 → s.1 = [])) → ∃ r s, o = some r ∧ o' = some s ∧ Turned r s := fun hk h1 ⟨s, h2, h3⟩ => ⟨_, s, h1, h2, fun _ => rfl, h3, fun h => absurd h hk⟩
    have two : ∀ {k : Int} {o o' : Option ResT}, k ≠ 0 → o' = failR k → (∃ s, o = some s ∧ (s.2.2.2.1 ≠ 0 → s.1 = [])) → ∃ r s, o = some r ∧ o' = some s ∧ Turned r s := fun hk h1 ⟨s, h2, h3⟩ => ⟨s, _, h2, h1, h3, fun _ => rfl, fun _ h => absurd h hk⟩
    have some1 : ∀ {k : Int} {o : Option ResT}, o = failR k → ∃ s, o = some s ∧ (s.2.2.2.1 ≠ 0 → s.1 = []) := fun h => ⟨_, h, fun _ => rfl⟩
    rcases resolve_one_spec hs h h' hi hj with ⟨hno, r1⟩ | ⟨hnn, b, c, ts, us, hb, htop, rfl, rfl, ho, ho', hll, r1⟩
    · rcases resolve_one_spec hs h' h hj hi with ⟨-, r2⟩ | ⟨hnn2, b2, c2, ts2, us2, -, -, e1, e2, -⟩
      · exact fails r1 r2
      · rcases hno with hno | hno
        · exact absurd hno.symm hnn2
        · rw [e1, e2] at hno; exact absurd rfl hno
    · rcases resolve_one_spec hs h' h hj hi with ⟨hno, r2⟩ | ⟨-, b', c2, ts2, us2, hb', htop', e1, e2, ho2, ho2', -, r2⟩
      · rcases hno with hno | hno
        · exact absurd hno.symm hnn
        · exact absurd rfl hno
      · injection e1 with e0 e1
        injection e2 with _ e2
        have e1 := codesR_inj _ us ts2 (Nat.le_refl _) ho' ho2 e1
        have e2 := codesR_inj _ ts us2 (Nat.le_refl _) ho ho2' e2
        subst e1; subst e2
        have hvA : ∀ k, hasR k ts → k < b := fun k hk => by
          have := htop.1 (k : Int) ⟨_, mem_rows_lit (gx_mem hi), by
            obtain ⟨c0, g1, g2, g3⟩ := VarC_codes.2 ⟨k, rfl, hk⟩
            exact ⟨c0, List.mem_cons_of_mem _ g1, g2, g3⟩⟩
          omega
        have hvB : ∀ k, hasR k us → k < b' := fun k hk => by
          have := htop'.1 (k : Int) ⟨_, mem_rows_lit (gx_mem hj), by
            obtain ⟨c0, g1, g2, g3⟩ := VarC_codes.2 ⟨k, rfl, hk⟩
            exact ⟨c0, List.mem_cons_of_mem _ g1, g2, g3⟩⟩
          omega
        -- what the second one comes to, whatever it is
        have all2 : ∃ s, resolve_one a0 L' T' C' j L T C i = some s ∧ (s.2.2.2.1 ≠ 0 → s.1 = []) := by
          rcases r2 with ⟨q, -⟩ | ⟨-, ⟨q, -⟩ | ⟨σ, -, -, ⟨-, q⟩ | ⟨-, q⟩⟩⟩
          · exact some1 q
          · exact some1 q
          · exact some1 q
          · obtain ⟨r, g1, g2, -⟩ := resOut_ok (a0 := a0) (σ := σ) (L := bothL j i b' L' L) (T := bothT b' T' T) (C := bothC b' C' C) (k := 1302)
            exact ⟨r, q.trans g1, g2⟩
        have all1 : ∃ s, resolve_one a0 L T C i L' T' C' j = some s ∧ (s.2.2.2.1 ≠ 0 → s.1 = []) := by
          rcases r1 with ⟨q, -⟩ | ⟨-, ⟨q, -⟩ | ⟨σ, -, -, ⟨-, q⟩ | ⟨-, q⟩⟩⟩
          · exact some1 q
          · exact some1 q
          · exact some1 q
          · obtain ⟨r, g1, g2, -⟩ := resOut_ok (a0 := a0) (σ := σ) (L := bothL i j b L L') (T := bothT b T T') (C := bothC b C C') (k := 1302)
            exact ⟨r, q.trans g1, g2⟩
        rcases r1 with ⟨q1, -⟩ | ⟨-, r1⟩
        · exact one (by omega) q1 all2
        rcases r2 with ⟨q2, -⟩ | ⟨-, r2⟩
        · exact two (by omega) q2 all1
        rcases r1 with ⟨q1, no1⟩ | ⟨σ1, m1, -, r1⟩
        · rcases r2 with ⟨q2, -⟩ | ⟨σ2, m2, -, -⟩
          · exact fails q1 q2
          · exact absurd (sol_swap hll hvA m2.sol) (no1 _)
        · rcases r2 with ⟨q2, no2⟩ | ⟨σ2, m2, -, r2⟩
          · exact absurd (sol_swap hll.symm hvB m1.sol) (no2 _)
          · rcases r1 with ⟨-, q1⟩ | ⟨-, q1⟩
            · exact one (by omega) q1 all2
            rcases r2 with ⟨-, q2⟩ | ⟨-, q2⟩
            · exact two (by omega) q2 all1
            obtain ⟨r, g1, g2, g3⟩ := resOut_ok (a0 := a0) (σ := σ1) (L := bothL i j b L L') (T := bothT b T T') (C := bothC b C C') (k := 1302)
            obtain ⟨s, g1', g2', g3'⟩ := resOut_ok (a0 := a0) (σ := σ2) (L := bothL j i b' L' L) (T := bothT b' T' T) (C := bothC b' C' C) (k := 1302)
            refine ⟨r, s, q1.trans g1, q2.trans g1', g2, g2', fun z1 z2 => ?_⟩
            obtain ⟨k1, k2, k3, k4⟩ := g3 (by omega) z1
            obtain ⟨k1', k2', k3', k4'⟩ := g3' (by omega) z2
            have hg := m1.gen _ (sol_swap hll hvA m2.sol)
            have hg' := m2.gen _ (sol_swap hll.symm hvB m1.sol)
            have pL : ∀ l ∈ without i L 0, ∀ x, VarC l.2 x → x < (b : Int) := fun l hl x hx => htop.1 x ⟨_, mem_rows_lit (without_mem L 0 hl), hx⟩
            have qL : ∀ l ∈ without j L' 0, ∀ x, VarC l.2 x → x < (b' : Int) := fun l hl x hx => htop'.1 x ⟨_, mem_rows_lit (without_mem L' 0 hl), hx⟩
            have pT : ∀ l ∈ T, ∀ x, VarC l x → x < (b : Int) := fun l hl x hx => htop.1 x ⟨_, mem_rows_row hl, hx⟩
            have qT : ∀ l ∈ T', ∀ x, VarC l x → x < (b' : Int) := fun l hl x hx => htop'.1 x ⟨_, mem_rows_row hl, hx⟩
            have pC : ∀ l ∈ C, ∀ x, VarC l.2 x → x < (b : Int) := fun l hl x hx => htop.1 x ⟨_, mem_rows_cond hl, hx⟩
            have qC : ∀ l ∈ C', ∀ x, VarC l.2 x → x < (b' : Int) := fun l hl x hx => htop'.1 x ⟨_, mem_rows_cond hl, hx⟩
            have eL : bothL i j b L L' = without i L 0 ++ upLs (b : Int) (without j L' 0) := by unfold bothL; rw [upLs_without]
            have eL' : bothL j i b' L' L = without j L' 0 ++ upLs (b' : Int) (without i L 0) := by unfold bothL; rw [upLs_without]
            refine ⟨k1.trans k1'.symm, ?_, ?_, ?_⟩
            · rw [k2, k2', eL, eL']
              exact Nat.le_antisymm (once_swap_lits hg hg' pL qL) (once_swap_lits hg' hg qL pL)
            · rw [k3, k3']
              exact Nat.le_antisymm (once_swap_rows hg hg' pT qT) (once_swap_rows hg' hg qT pT)
            · rw [k4, k4']
              exact Nat.le_antisymm (once_swap_lits hg hg' pC qC) (once_swap_lits hg' hg qC pC)
theorem law13_ResolveTurned_true (a0 : List QSym) (L : List QLit) (T : List (List Int)) (C : List QLit) (i : Int) (L' : List QLit) (T' : List (List Int)) (C' : List QLit) (j : Int) : law13_ResolveTurned a0 L T C i L' T' C' j = some true := by
  unfold law13_ResolveTurned
  rw [law13_awake_eq, Option.bind_some]
  simp only [Bool.not_true, cond_false]
  obtain ⟨r, s, h1, h2, h3, h4, h5⟩ := resolve_turned a0 L T C i L' T' C' j
  have hnum : ∀ k : Int, law0_Num k = some k := fun k => rfl
  rw [h1, Option.bind_some, h2, Option.bind_some]
  simp only [hnum, Option.bind_some]
  by_cases z1 : r.2.2.2.1 = 0
  · rw [z1, show ((0 : Int) != 0) = false from rfl, cond_false]
    by_cases z2 : s.2.2.2.1 = 0
    · rw [z2, show ((0 : Int) != 0) = false from rfl, cond_false]
      obtain ⟨e1, e2, e3, e4⟩ := h5 z1 z2
      rw [e1, e2, e3, e4]
      simp
    · rw [show (s.2.2.2.1 != 0) = true from by simp [z2], cond_true, h4 z2]
      cases (((List.length r.1 : Nat) : Int) == 0) <;> rfl
  · rw [show (r.2.2.2.1 != 0) = true from by simp [z1], cond_true, h3 z1]
    rfl
end
end Go.Abs.Q
