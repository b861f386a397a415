import Derived.Test.YtbgkkdmmddkdbaaGreatDoorQa
/-
  What the functions make of plain values, and what the law says of that.
-/
namespace Go.Abs.Q
open Go Go.Abs
section
abbrev Bd := Nat → Option Tm
def SolB (θ : Sb) (B : Bd) : Prop := ∀ x t, B x = some t → θ x = t.sub θ
def Sol (θ : Sb) (E : List (Tm × Tm)) : Prop := ∀ p ∈ E, p.1.sub θ = p.2.sub θ
theorem Sol.nil {θ : Sb} : Sol θ [] := fun _ h => nomatch h
theorem Sol.cons {θ : Sb} {p : Tm × Tm} {E : List (Tm × Tm)} : Sol θ (p :: E) ↔ p.1.sub θ = p.2.sub θ ∧ Sol θ E := by simp [Sol]
theorem Sol.append {θ : Sb} {E F : List (Tm × Tm)} : Sol θ (E ++ F) ↔ Sol θ E ∧ Sol θ F := by
 simp only [Sol, List.mem_append]
 exact ⟨fun h => ⟨fun p hp => h p (.inl hp), fun p hp => h p (.inr hp)⟩, fun h p hp => hp.elim (h.1 p) (h.2 p)⟩
theorem Sol.zip {θ : Sb} : {ts us : List Tm} → ts.length = us.length → (Sol θ (ts.zip us) ↔ subR θ ts = subR θ us)
 | [], [], _ => by simp [Sol, subR]
 | [], _ :: _, h => by simp at h
 | _ :: _, [], h => by simp at h
 | t :: ts, u :: us, h => by
  rw [List.zip_cons_cons, Sol.cons, Sol.zip (by simpa using h)]
  simp [subR]
structure Good (B : Bd) (σ : Sb) : Prop where
 free : ∀ x, B x = none → σ x = .v x
 bound : ∀ x t, B x = some t → σ x = t.sub σ
 down : ∀ x y, B x = some (.v y) → y < x
theorem Good.empty : Good (fun _ => none) .v := ⟨fun _ _ => rfl, fun _ _ h => (nomatch h), fun _ _ h => (nomatch h)⟩
theorem Good.ind {B : Bd} {σ : Sb} (h : Good B σ) {P : Nat → Prop} (hf : ∀ x, B x = none → P x) (hb : ∀ x t, B x = some t → (∀ y, t.has y → P y) → P x) : ∀ x, P x := by
 have key : ∀ n x, (σ x).size = n → P x := by
  intro n
  induction n using Nat.strongRecOn with
  | _ n ihn =>
   intro x
   induction x using Nat.strongRecOn with
   | _ x ihx =>
    intro hn
    cases hx : B x with
    | none => exact hf x hx
    | some t =>
     refine hb x t hx fun y hy => ?_
     have hs := h.bound x t hx
     cases t with
     | v z =>
      have hz : z = y := hy
      subst hz
      exact ihx z (h.down x z hx) (by rw [← hn, hs]; rfl)
     | f c as =>
      have := sizeR_has (s := σ) as hy
      refine ihn (σ y).size ?_ y rfl
      rw [← hn, hs]
      show _ < sizeR (subR σ as) + 1
      omega
 exact fun x => key _ x rfl
theorem Good.fac {B : Bd} {σ θ : Sb} (h : Good B σ) (hθ : SolB θ B) : ∀ x, (σ x).sub θ = θ x := by
 refine h.ind (fun x hx => by rw [h.free x hx]; rfl) fun x t hx ih => ?_
 rw [h.bound x t hx, Tm.sub_sub, hθ x t hx]
 exact Tm.sub_ext t fun y hy => ih y hy
theorem Good.facT {B : Bd} {σ θ : Sb} (h : Good B σ) (hθ : SolB θ B) (t : Tm) : (t.sub σ).sub θ = t.sub θ := by
 rw [Tm.sub_sub]
 exact Tm.sub_ext t fun y _ => h.fac hθ y
theorem Good.idem {B : Bd} {σ : Sb} (h : Good B σ) (t : Tm) : (t.sub σ).sub σ = t.sub σ := h.facT h.bound t
theorem Good.le {B : Bd} {σ : Sb} (h : Good B σ) : ∀ x y, σ x = .v y → y ≤ x := by
 refine h.ind (fun x hx y hy => ?_) fun x t hx ih y hy => ?_
 ·rw [h.free x hx] at hy; injection hy with hy; omega
 ·rw [h.bound x t hx] at hy
  cases t with
  | v z =>
   have h1 := h.down x z hx
   have h2 := ih z rfl y hy
   omega
  | f c as => cases hy
theorem Good.moved {B : Bd} {σ : Sb} (h : Good B σ) {x : Nat} : B x ≠ none ↔ σ x ≠ .v x := by
 constructor
 ·intro hb he
  cases hx : B x with
  | none => exact hb hx
  | some t =>
   have h1 := h.bound x t hx
   rw [he] at h1
   cases t with
   | v z =>
    have h2 := h.down x z hx
    have h3 := h.le z x h1.symm
    omega
   | f c as => cases h1
 ·intro hs hb
  exact hs (h.free x hb)
def one (x : Nat) (u : Tm) : Sb := fun y => if y = x then u else .v y
def updB (B : Bd) (x : Nat) (t : Tm) : Bd := fun y => if y = x then some t else B y
theorem updB_same (B : Bd) (x : Nat) (t : Tm) : updB B x t x = some t := by simp [updB]
theorem updB_ne (B : Bd) {x y : Nat} (t : Tm) (h : y ≠ x) : updB B x t y = B y := by simp [updB, h]
theorem SolB.upd {B : Bd} {x : Nat} {t : Tm} {θ : Sb} (hx : B x = none) : SolB θ (updB B x t) ↔ SolB θ B ∧ θ x = t.sub θ := by
 constructor
 ·intro h
  refine ⟨fun y u hy => h y u ?_, h x t (updB_same ..)⟩
  rw [updB_ne _ _ fun e => by rw [e, hx] at hy; cases hy]
  exact hy
 ·rintro ⟨h1, h2⟩ y u hy
  by_cases he : y = x
  ·subst he
   rw [updB_same] at hy
   injection hy with hy
   subst hy
   exact h2
  ·rw [updB_ne _ _ he] at hy
   exact h1 y u hy
theorem one_off {x : Nat} {u t : Tm} (h : ¬ t.has x) : t.sub (one x u) = t := by
 conv => rhs; rw [← Tm.sub_v t]
 refine Tm.sub_ext t fun y hy => ?_
 have hne : y ≠ x := fun e => h (e ▸ hy)
 unfold one
 rw [if_neg hne]
theorem Good.bind {B : Bd} {σ : Sb} (h : Good B σ) {x : Nat} {t : Tm} (hx : B x = none) (hn : ¬ (t.sub σ).has x) (hd : ∀ y, t = .v y → y < x) : Good (updB B x t) fun y => (σ y).sub (one x (t.sub σ)) where
 free := fun y hy => by
  have hne : y ≠ x := fun e => by rw [e, updB_same] at hy; cases hy
  rw [updB_ne _ _ hne] at hy
  rw [h.free y hy]
  show one x _ y = _
  simp [one, hne]
 bound := fun y u hy => by
  by_cases he : y = x
  ·subst he
   rw [updB_same] at hy
   injection hy with hy
   subst hy
   rw [h.free y hx, ← Tm.sub_sub, one_off hn]
   show one y _ y = _
   simp [one]
  ·rw [updB_ne _ _ he] at hy
   rw [h.bound y u hy, Tm.sub_sub]
 down := fun y z hy => by
  by_cases he : y = x
  ·subst he
   rw [updB_same] at hy
   injection hy with hy
   exact hd z hy
  ·rw [updB_ne _ _ he] at hy
   exact h.down y z hy
theorem Good.occurs {B : Bd} {σ θ : Sb} (h : Good B σ) {x c : Nat} {as : List Tm} (hh : ((Tm.f c as).sub σ).has x) (hθ : SolB θ B) (he : θ x = (Tm.f c as).sub θ) : False := by
 have h1 := h.facT hθ (.f c as)
 rw [← he] at h1
 have h2 := sizeR_has (s := θ) (subR σ as) hh
 have h3 : (((Tm.f c as).sub σ).sub θ).size = (θ x).size := by rw [h1]
 have h4 : sizeR (subR θ (subR σ as)) + 1 = (θ x).size := h3
 omega
def Small (B : Bd) : Prop := ∀ x t, B x = some t → x < 48 ∧ t.size ≤ 48
def Good.less (σ : Sb) (y x : Nat) : Bool := decide ((σ y).size < (σ x).size) || (decide ((σ y).size = (σ x).size) && decide (y < x))
def Good.rank (σ : Sb) (x : Nat) : Nat := (List.range 48).countP fun y => Good.less σ y x
theorem countP_lt {α : Type} {p q : α → Bool} {a : α} : {l : List α} → a ∈ l → (∀ x ∈ l, p x = true → q x = true) → p a = false → q a = true → l.countP p < l.countP q
 | [], h, _, _, _ => nomatch h
 | b :: l, hm, hi, hp, hq => by
  have h2 : l.countP p ≤ l.countP q := List.countP_mono_left fun x hx h => hi x (List.mem_cons_of_mem _ hx) h
  rcases List.mem_cons.1 hm with rfl | hm
  ·rw [List.countP_cons_of_neg (by simp [hp]), List.countP_cons_of_pos hq]
   omega
  ·have h1 := countP_lt hm (fun x hx => hi x (List.mem_cons_of_mem _ hx)) hp hq
   cases hb : p b with
   | true => rw [List.countP_cons_of_pos hb, List.countP_cons_of_pos (hi b (List.mem_cons_self ..) hb)]; omega
   | false =>
    rw [List.countP_cons_of_neg (by simp [hb])]
    cases hc : q b with
    | true => rw [List.countP_cons_of_pos hc]; omega
    | false => rw [List.countP_cons_of_neg (by simp [hc])]; exact h1
theorem Good.small {B : Bd} {σ : Sb} (h : Good B σ) (hb : Small B) : ∀ x, (σ x).size ≤ 48 ^ 49 := by
 have key : ∀ x, B x ≠ none → (σ x).size ≤ 48 ^ (Good.rank σ x + 1) := by
  refine h.ind (fun x hx hn => absurd hx hn) fun x t hx ih _ => ?_
  obtain ⟨hx48, ht⟩ := hb x t hx
  rw [h.bound x t hx]
  have h1 : 1 ≤ 48 ^ Good.rank σ x := Nat.pow_pos (by omega)
  refine Nat.le_trans (Tm.size_sub t h1 fun y hy => ?_) ?_
  ·cases hy0 : B y with
   | none => rw [h.free y hy0]; exact h1
   | some u =>
    refine Nat.le_trans (ih y hy (by rw [hy0]; simp)) (Nat.pow_le_pow_right (by omega) ?_)
    have hlt : Good.less σ y x = true := by
     unfold Good.less
     have hs := h.bound x t hx
     cases t with
     | v z =>
      have hz : z = y := hy
      subst hz
      have h2 := h.down x z hx
      have h3 : (σ z).size = (σ x).size := by rw [hs]; rfl
      simp [h3, h2]
     | f c as =>
      have h2 := sizeR_has (s := σ) as hy
      have h3 : (σ x).size = sizeR (subR σ as) + 1 := by rw [hs]; rfl
      rw [decide_eq_true (show (σ y).size < (σ x).size by omega)]
      rfl
    refine countP_lt (a := y) (List.mem_range.2 (hb y u hy0).1) (fun z _ hz => ?_) (by simp [Good.less]) hlt
    simp only [Good.less, Bool.or_eq_true, Bool.and_eq_true, decide_eq_true_eq] at hz hlt ⊢
    omega
  ·rw [Nat.pow_succ, Nat.mul_comm]
   exact Nat.mul_le_mul_left _ ht
 intro x
 by_cases hx : B x = none
 ·rw [h.free x hx]
  exact Nat.pow_pos (by omega)
 ·refine Nat.le_trans (key x hx) (Nat.pow_le_pow_right (by omega) ?_)
  have : Good.rank σ x ≤ (List.range 48).length := List.countP_le_length
  rw [List.length_range] at this
  omega
theorem Good.small_sub {B : Bd} {σ : Sb} (h : Good B σ) (hb : Small B) (t : Tm) : (t.sub σ).size ≤ t.size * 48 ^ 49 :=
 Tm.size_sub t (Nat.pow_pos (by omega)) fun x _ => h.small hb x
def Out (B : Bd) (E : List (Tm × Tm)) : Option Bd → Prop
 | none => ∀ θ, SolB θ B → Sol θ E → False
 | some B' => (∃ σ, Good B' σ) ∧ Small B' ∧ ∀ θ, SolB θ B' ↔ SolB θ B ∧ Sol θ E
theorem Out.via {B B1 : Bd} {E E1 : List (Tm × Tm)} (h : ∀ θ, (SolB θ B1 ∧ Sol θ E1) ↔ (SolB θ B ∧ Sol θ E)) {o : Option Bd} (ho : Out B1 E1 o) : Out B E o := by
 cases o with
 | none => exact fun θ h1 h2 => ho θ ((h θ).2 ⟨h1, h2⟩).1 ((h θ).2 ⟨h1, h2⟩).2
 | some B' => exact ⟨ho.1, ho.2.1, fun θ => (ho.2.2 θ).trans (h θ)⟩
theorem Out.done {B : Bd} {σ : Sb} (h : Good B σ) (hs : Small B) : Out B [] (some B) := ⟨⟨σ, h⟩, hs, fun _ => ⟨fun h => ⟨h, Sol.nil⟩, fun h => h.1⟩⟩
theorem f_eq {θ : Sb} {c d : Nat} {as bs : List Tm} : (Tm.f c as).sub θ = (Tm.f d bs).sub θ ↔ c = d ∧ subR θ as = subR θ bs := by
 simp [Tm.sub]
end
end Go.Abs.Q
namespace Go.Abs.Q
open Go Go.Abs
section
abbrev PI := List Int × Int
abbrev PO := Option (List Int) × Int
def Pc (a0 : List QSym) (N : Nat) (p : List Int) (d : Int) (t : Tm) : Prop := ∃ u n, Tm.ok a0 24 u ∧ p = u.codes ∧ d = ((n : Nat) : Int) ∧ n ≤ N ∧ t = u.up n ∧ p.length ≤ 48
def Pr (a0 : List QSym) (N : Nat) (p : List Int) (d : Int) (ts : List Tm) : Prop := ∃ us n, okR a0 24 us ∧ p = codesR us ∧ d = ((n : Nat) : Int) ∧ n ≤ N ∧ ts = us.map (Tm.up n) ∧ p.length ≤ 48
theorem Pc.size {a0 : List QSym} {N : Nat} {p : List Int} {d : Int} {t : Tm} (h : Pc a0 N p d t) : t.size = p.length ∧ t.size ≤ 48 := by
 obtain ⟨u, n, h1, rfl, h2, h3, rfl, h4⟩ := h
 rw [Tm.up_size, Tm.codes_len]
 rw [Tm.codes_len] at h4
 exact ⟨rfl, h4⟩
theorem Pc.lt {a0 : List QSym} {N : Nat} (hN : N ≤ 24) {p : List Int} {d : Int} {t : Tm} (h : Pc a0 N p d t) {x : Nat} (hx : t.has x) : x < 48 := by
 obtain ⟨u, n, h1, rfl, h2, h3, rfl, h4⟩ := h
 have := Tm.ok_has _ (Tm.up_ok (d := n) h1) hx
 omega
theorem Pc.cases {a0 : List QSym} {N : Nat} {p : List Int} {d : Int} {t : Tm} (h : Pc a0 N p d t) :
  (∃ k n : Nat, p = [-1 - (k : Int)] ∧ d = (n : Int) ∧ k < 24 ∧ n ≤ N ∧ t = .v (k + n)) ∨ ∃ c r ts, p = ((c : Nat) : Int) :: r ∧ t = .f c ts ∧ arity a0 (c : Int) = some ts.length ∧ Pr a0 N r d ts := by
 obtain ⟨u, n, h1, rfl, h2, h3, rfl, h4⟩ := h
 cases u with
 | v k => exact .inl ⟨k, n, rfl, h2, h1, h3, rfl⟩
 | f c as =>
  have h4 : (codesR as).length + 1 ≤ 48 := h4
  refine .inr ⟨c, codesR as, as.map (Tm.up n), rfl, ?_, by rw [List.length_map]; exact h1.1, as, n, h1.2, rfl, h2, h3, rfl, by omega⟩
  show Tm.f c (subR _ as) = _
  rw [subR_eq]
  rfl
def Pq (a0 : List QSym) (N : Nat) (q : List Int × Int × List Int × Int) (e : Tm × Tm) : Prop := Pc a0 N q.1 q.2.1 e.1 ∧ Pc a0 N q.2.2.1 q.2.2.2 e.2
def PqL (a0 : List QSym) (N : Nat) : List (List Int × Int × List Int × Int) → List (Tm × Tm) → Prop
 | [], es => es = []
 | q :: qs, es => ∃ e es', es = e :: es' ∧ Pq a0 N q e ∧ PqL a0 N qs es'
theorem PqL.append {a0 : List QSym} {N : Nat} : {qs : List (List Int × Int × List Int × Int)} → {es : List (Tm × Tm)} → {qs' : List (List Int × Int × List Int × Int)} → {es' : List (Tm × Tm)} → PqL a0 N qs es → PqL a0 N qs' es' → PqL a0 N (qs ++ qs') (es ++ es')
 | [], _, _, _, h, h' => by have h : _ = [] := h; subst h; exact h'
 | q :: qs, _, _, _, h, h' => by
  obtain ⟨e, es, rfl, h1, h2⟩ := h
  exact ⟨e, _, rfl, h1, PqL.append h2 h'⟩
theorem PqL.length {a0 : List QSym} {N : Nat} : {qs : List (List Int × Int × List Int × Int)} → {es : List (Tm × Tm)} → PqL a0 N qs es → es.length = qs.length
 | [], _, h => by have h : _ = [] := h; subst h; rfl
 | q :: qs, _, h => by
  obtain ⟨e, es, rfl, h1, h2⟩ := h
  simp [PqL.length h2]
theorem PqL.split {a0 : List QSym} {N : Nat} : {qs : List (List Int × Int × List Int × Int)} → {qs' : List (List Int × Int × List Int × Int)} → {es : List (Tm × Tm)} → PqL a0 N (qs ++ qs') es → ∃ e1 e2, es = e1 ++ e2 ∧ PqL a0 N qs e1 ∧ PqL a0 N qs' e2
 | [], _, es, h => ⟨[], es, rfl, rfl, h⟩
 | q :: qs, _, _, h => by
  obtain ⟨e, es, rfl, h1, h2⟩ := h
  obtain ⟨e1, e2, rfl, h3, h4⟩ := PqL.split h2
  exact ⟨e :: e1, e2, rfl, ⟨e, e1, rfl, h1, h3⟩, h4⟩
def PcO (a0 : List QSym) (N : Nat) (e : PO) (o : Option Tm) : Prop := match e.1 with
 | none => o = none
 | some p => ∃ t, o = some t ∧ Pc a0 N p e.2 t
structure RepT (a0 : List QSym) (N : Nat) (to : List PO) (B : Bd) : Prop where
 len : to.length = 48
 at_ : ∀ x e, to[x]? = some e → PcO a0 N e (B x)
 out : ∀ x, 48 ≤ x → B x = none
theorem RepT.small {a0 : List QSym} {N : Nat} {to : List PO} {B : Bd} (h : RepT a0 N to B) : Small B := by
 intro x t hx
 have hlt : x < 48 := by
  rcases Nat.lt_or_ge x 48 with h' | h'
  ·exact h'
  ·rw [h.out x h'] at hx; cases hx
 refine ⟨hlt, ?_⟩
 have hl : x < to.length := by rw [h.len]; exact hlt
 have hg : to[x]? = some to[x] := List.getElem?_eq_getElem hl
 have := h.at_ x _ hg
 unfold PcO at this
 split at this
 ·rw [hx] at this; cases this
 ·obtain ⟨u, h1, h2⟩ := this
  rw [hx] at h1; injection h1 with h1; subst h1
  exact h2.size.2
theorem RepT.get {a0 : List QSym} {N : Nat} {to : List PO} {B : Bd} (h : RepT a0 N to B) {x : Nat} (hx : x < 48) : ∃ e, to[x]? = some e ∧ PcO a0 N e (B x) := by
 have hl : x < to.length := by rw [h.len]; exact hx
 have hg : to[x]? = some to[x] := List.getElem?_eq_getElem hl
 exact ⟨_, hg, h.at_ x _ hg⟩
theorem RepT.set {a0 : List QSym} {N : Nat} {to : List PO} {B : Bd} (h : RepT a0 N to B) {x : Nat} (hx : x < 48) {p : List Int} {d : Int} {t : Tm} (hp : Pc a0 N p d t) : RepT a0 N (to.set x (some p, d)) (updB B x t) where
 len := by rw [List.length_set]; exact h.len
 at_ := fun y e hy => by
  by_cases he : y = x
  ·subst he
   rw [List.getElem?_set_self (by rw [h.len]; exact hx)] at hy
   injection hy with hy
   subst hy
   rw [updB_same]
   exact ⟨t, rfl, hp⟩
  ·rw [List.getElem?_set_ne (Ne.symm he)] at hy
   rw [updB_ne _ _ he]
   exact h.at_ y e hy
 out := fun y hy => by
  rw [updB_ne _ _ (by omega)]
  exact h.out y hy
theorem number_eq {N : Nat} (hN : N ≤ 24) {k n : Nat} (hk : k < 24) (hn : n ≤ N) (p : List Int) : unify_piece_number p (n : Int) (-1 - (k : Int)) = some ((k + n : Nat) : Int) := by
 unfold unify_piece_number
 rw [term_Number_eq (by omega) (by omega), Option.bind_some]
 congr 1
 rw [wrap64] <;> omega
def mWhat : Tm → Nat
 | .v x => x + 2
 | .f _ _ => 1
theorem what_run {a0 : List QSym} {N : Nat} (hN : N ≤ 24) {to : List PO} {B : Bd} {σ : Sb} (hT : RepT a0 N to B) (hG : Good B σ) : ∀ (m k : Nat) (p : List Int) (d : Int) (t : Tm) (z : Int), mWhat t ≤ m → m ≤ k → Pc a0 N p d t →
  ∃ p' d' t', lp unify_run_what_L0 k (a0, to, p, d, z) = some (p', d') ∧ Pc a0 N p' d' t' ∧ (∀ θ, SolB θ B → t.sub θ = t'.sub θ) ∧ ∀ y, t' = .v y → B y = none := by
 intro m
 induction m with
 | zero => intro k p d t z hm; cases t <;> simp [mWhat] at hm
 | succ m ih =>
  intro k p d t z hm hk hp
  obtain ⟨k, rfl⟩ : ∃ k', k = k' + 1 := ⟨k - 1, by omega⟩
  rw [lp_succ]
  have key := fun p d t (h1 : mWhat t ≤ m) h2 => ih k p d t z h1 (by omega) h2
  generalize lp unify_run_what_L0 k = rec at key ⊢
  unfold unify_run_what_L0
  rcases hp.cases with ⟨x, n, rfl, rfl, hx, hn, rfl⟩ | ⟨c, r, ts, rfl, rfl, hc, hr⟩
  ·simp only [gx_zero, List.getElem?_cons_zero, Option.bind_some]
   rw [decide_eq_true (show -1 - (x : Int) < 0 by omega), cond_true, number_eq hN hx hn, Option.bind_some, inR_nat (by omega), Option.bind_some]
   obtain ⟨e, he, hpe⟩ := hT.get (x := x + n) (by omega)
   rw [he, Option.bind_some]
   unfold PcO at hpe
   split at hpe
   ·rename_i h1
    rw [h1]
    exact ⟨_, _, _, rfl, hp, fun θ _ => rfl, fun y hy => by injection hy with hy; rw [← hy]; exact hpe⟩
   ·rename_i q h1
    obtain ⟨u, hu, hq⟩ := hpe
    rw [h1]
    simp only [Option.isNone_some, cond_false, Option.getD_some]
    obtain ⟨p', d', t', h2, h3, h4, h5⟩ := key q e.2 u (by
     cases u with
     | v y => have := hG.down _ y hu; simp only [mWhat] at hm ⊢; omega
     | f c as => simp only [mWhat] at hm ⊢; omega) hq
    exact ⟨p', d', t', h2, h3, fun θ hθ => (hθ _ u hu).trans (h4 θ hθ), h5⟩
  ·simp only [gx_zero, List.getElem?_cons_zero, Option.bind_some]
   rw [decide_eq_false (show ¬ (c : Int) < 0 by omega), cond_false]
   exact ⟨_, _, _, rfl, hp, fun θ _ => rfl, fun y hy => by cases hy⟩
theorem what_spec {a0 : List QSym} {N : Nat} (hN : N ≤ 24) {to : List PO} {B : Bd} {σ : Sb} (hT : RepT a0 N to B) (hG : Good B σ) {p : List Int} {d : Int} {t : Tm} (hp : Pc a0 N p d t) :
  ∃ p' d' t', unify_run_what p d a0 to = some (p', d') ∧ Pc a0 N p' d' t' ∧ (∀ θ, SolB θ B → t.sub θ = t'.sub θ) ∧ ∀ y, t' = .v y → B y = none := by
 obtain ⟨p', d', t', h1, h2⟩ := what_run hN hT hG (mWhat t) fuel p d t 0 (Nat.le_refl _) (by
  cases t with
  | v x => have := hp.lt hN (x := x) rfl; simp only [mWhat]; unfold fuel; omega
  | f c as => simp only [mWhat]; unfold fuel; omega) hp
 refine ⟨p', d', t', ?_, h2⟩
 unfold unify_run_what
 rw [h1]
 rfl
section
variable {a0 : List QSym} {N : Nat} {to : List PO} {B : Bd} {σ : Sb} {v : Nat}
def DoneV (B : Bd) (v : Nat) (seen : List Bool) (y : Nat) : Prop := y ≠ v ∧ (B y ≠ none → seen[y]? = some true)
def PcL (a0 : List QSym) (N : Nat) : List PI → List Tm → Prop
 | [], ts => ts = []
 | p :: ps, ts => ∃ t ts', ts = t :: ts' ∧ Pc a0 N p.1 p.2 t ∧ PcL a0 N ps ts'
theorem PcL.append : {ps : List PI} → {ts : List Tm} → {ps' : List PI} → {ts' : List Tm} → PcL a0 N ps ts → PcL a0 N ps' ts' → PcL a0 N (ps ++ ps') (ts ++ ts')
 | [], _, _, _, h, h' => by have h : _ = [] := h; subst h; exact h'
 | q :: qs, _, _, _, h, h' => by
  obtain ⟨e, es, rfl, h1, h2⟩ := h
  exact ⟨e, _, rfl, h1, PcL.append h2 h'⟩
theorem PcL.split : {ps : List PI} → {ps' : List PI} → {ts : List Tm} → PcL a0 N (ps ++ ps') ts → ∃ t1 t2, ts = t1 ++ t2 ∧ PcL a0 N ps t1 ∧ PcL a0 N ps' t2
 | [], _, ts, h => ⟨[], ts, rfl, rfl, h⟩
 | q :: qs, _, _, h => by
  obtain ⟨e, es, rfl, h1, h2⟩ := h
  obtain ⟨e1, e2, rfl, h3, h4⟩ := PcL.split h2
  exact ⟨e :: e1, e2, rfl, ⟨e, e1, rfl, h1, h3⟩, h4⟩
theorem PcL.length : {ps : List PI} → {ts : List Tm} → PcL a0 N ps ts → ts.length = ps.length
 | [], _, h => by have h : _ = [] := h; subst h; rfl
 | q :: qs, _, h => by
  obtain ⟨e, es, rfl, h1, h2⟩ := h
  simp [PcL.length h2]
def unseen (seen : List Bool) : Nat := seen.countP fun b => !b
theorem unseen_set {seen : List Bool} {x : Nat} (h : seen[x]? = some false) : unseen (seen.set x true) + 1 = unseen seen := by
 unfold unseen
 obtain ⟨hx, he⟩ := List.getElem?_eq_some_iff.1 h
 have h1 := List.take_append_drop x seen
 have h2 : seen.drop x = false :: seen.drop (x + 1) := by rw [List.drop_eq_getElem_cons hx, he]
 have h3 : seen.set x true = seen.take x ++ true :: seen.drop (x + 1) := by rw [List.set_eq_take_append_cons_drop, if_pos hx]
 conv => rhs; rw [← h1, h2]
 rw [h3]
 simp [List.countP_append, List.countP_cons]
 omega
theorem within_go (hN : N ≤ 24) (hT : RepT a0 N to B) {n : Nat} (hn : n ≤ N) (p0 : List Int) : ∀ (es : List Int) (seen : List Bool) (todo : List PI) (ts : List Tm), (∀ c ∈ es, -24 ≤ c) → seen.length = 48 → todo.length + unseen seen ≤ 1000 → PcL a0 N todo ts →
  (unify_run_within_L0_go (v : Int) to p0 (n : Int) es seen todo = some (.inr true) ∧ ∃ c ∈ es, c < 0 ∧ (-1 - c).toNat + n = v) ∨
  ∃ seen' more us, unify_run_within_L0_go (v : Int) to p0 (n : Int) es seen todo = some (.inl (seen', todo ++ more)) ∧ seen'.length = 48 ∧ more.length + unseen seen' = unseen seen ∧ PcL a0 N more us ∧
   (∀ y : Nat, seen[y]? = some true → seen'[y]? = some true) ∧ (∀ c ∈ es, c < 0 → DoneV B v seen' ((-1 - c).toNat + n)) ∧ (∀ y : Nat, seen'[y]? = some true → seen[y]? = some true ∨ ∃ u, B y = some u ∧ u ∈ us) ∧
   (∀ u ∈ us, ∃ c ∈ es, c < 0 ∧ B ((-1 - c).toNat + n) = some u)
 | [], seen, todo, ts, _, hs, _, _ => .inr ⟨seen, [], [], by rw [List.append_nil]; rfl, hs, by simp, rfl, fun _ h => h, fun c h => (nomatch h), fun y h => .inl h, fun u h => (nomatch h)⟩
 | e :: es, seen, todo, ts, hc, hs, hl, hp => by
  have he := hc e (List.mem_cons_self ..)
  have hc' : ∀ c ∈ es, -24 ≤ c := fun c h => hc c (List.mem_cons_of_mem _ h)
  -- the variable is passed over
  have pass : ∀ f : List Bool → List PI → Option ((List Bool × List PI) ⊕ Bool), f seen todo = unify_run_within_L0_go (v : Int) to p0 (n : Int) es seen todo → (e < 0 → DoneV B v seen ((-1 - e).toNat + n)) →
    ((f seen todo = some (.inr true) ∧ ∃ c ∈ e :: es, c < 0 ∧ (-1 - c).toNat + n = v) ∨
    ∃ seen' more us, f seen todo = some (.inl (seen', todo ++ more)) ∧ seen'.length = 48 ∧ more.length + unseen seen' = unseen seen ∧ PcL a0 N more us ∧
     (∀ y : Nat, seen[y]? = some true → seen'[y]? = some true) ∧ (∀ c ∈ e :: es, c < 0 → DoneV B v seen' ((-1 - c).toNat + n)) ∧ (∀ y : Nat, seen'[y]? = some true → seen[y]? = some true ∨ ∃ u, B y = some u ∧ u ∈ us) ∧
     (∀ u ∈ us, ∃ c ∈ e :: es, c < 0 ∧ B ((-1 - c).toNat + n) = some u)) := by
   intro f hf hd
   rw [hf]
   rcases within_go hN hT hn p0 es seen todo ts hc' hs hl hp with ⟨h1, c, h2, h3⟩ | ⟨seen', more, us, h1, h2, h3, h4, h5, h6, h7, h8⟩
   ·exact .inl ⟨h1, c, List.mem_cons_of_mem _ h2, h3⟩
   ·refine .inr ⟨seen', more, us, h1, h2, h3, h4, h5, fun c hcm hc0 => ?_, h7, fun u hu => ?_⟩
    ·rcases List.mem_cons.1 hcm with rfl | hcm
     ·exact ⟨(hd hc0).1, fun hb => h5 _ ((hd hc0).2 hb)⟩
     ·exact h6 c hcm hc0
    ·obtain ⟨c, h9, h10⟩ := h8 u hu
     exact ⟨c, List.mem_cons_of_mem _ h9, h10⟩
  unfold unify_run_within_L0_go
  by_cases h0 : e ≥ 0
  ·rw [decide_eq_true h0, cond_true]
   exact pass (fun seen todo => unify_run_within_L0_go (v : Int) to p0 (n : Int) es seen todo) rfl fun h => by omega
  ·rw [decide_eq_false h0, cond_false]
   obtain ⟨k, hk, rfl⟩ : ∃ k : Nat, k < 24 ∧ e = -1 - (k : Int) := ⟨(-1 - e).toNat, by omega, by omega⟩
   have hk2 : (-1 - (-1 - (k : Int))).toNat = k := by omega
   rw [number_eq hN hk hn, Option.bind_some]
   by_cases hv : k + n = v
   ·rw [hv, show (((v : Nat) : Int) == (v : Int)) = true from by simp, cond_true]
    exact .inl ⟨rfl, _, List.mem_cons_self .., by omega, by rw [hk2]; exact hv⟩
   ·rw [show (((k + n : Nat) : Int) == (v : Int)) = false from by simp; omega, cond_false, inR_nat (show k + n < 48 by omega), Option.bind_some]
    obtain ⟨b, hb⟩ : ∃ b, seen[k + n]? = some b := ⟨seen[k + n]'(by omega), List.getElem?_eq_getElem (by omega)⟩
    rw [hb, Option.bind_some]
    obtain ⟨q, hq, hpq⟩ := hT.get (x := k + n) (by omega)
    cases b with
    | true =>
     simp only [Bool.not_true, cond_false]
     exact pass (fun seen todo => unify_run_within_L0_go (v : Int) to p0 (n : Int) es seen todo) rfl fun _ => by rw [hk2]; exact ⟨hv, fun _ => hb⟩
    | false =>
     simp only [Bool.not_false, cond_true, Option.bind_some, hq]
     unfold PcO at hpq
     split at hpq
     ·rename_i h1
      rw [h1]
      simp only [Option.isNone_none, Bool.not_true, cond_false]
      exact pass (fun seen todo => unify_run_within_L0_go (v : Int) to p0 (n : Int) es seen todo) rfl fun _ => by rw [hk2]; exact ⟨hv, fun hn => absurd hpq hn⟩
     ·rename_i q1 h1
      obtain ⟨u, hu, hpu⟩ := hpq
      rw [h1]
      simp only [Option.isNone_some, Bool.not_false, cond_true, Option.getD_some, hb, Option.bind_some]
      have hun := unseen_set hb
      rw [room_ok (show (todo.length + ([(q1, q.2)] : List PI).length) * 32 ≤ 140737488351232 by simp; omega), cond_true]
      have hset : (seen.set (k + n) true)[k + n]? = some true := List.getElem?_set_self (by omega)
      have hmono : ∀ y : Nat, seen[y]? = some true → (seen.set (k + n) true)[y]? = some true := fun y hy => by
       by_cases hyk : y = k + n
       ·subst hyk; exact hset
       ·rw [List.getElem?_set_ne (Ne.symm hyk)]; exact hy
      have hbk : ∀ y : Nat, (seen.set (k + n) true)[y]? = some true → seen[y]? = some true ∨ y = k + n := fun y hy => by
       by_cases hyk : y = k + n
       ·exact .inr hyk
       ·rw [List.getElem?_set_ne (Ne.symm hyk)] at hy; exact .inl hy
      rcases within_go hN hT hn p0 es (seen.set (k + n) true) (todo ++ [(q1, q.2)]) (ts ++ [u]) hc' (by rw [List.length_set]; exact hs) (by simp; omega) (hp.append ⟨u, [], rfl, hpu, rfl⟩) with ⟨h2, c, h3, h4⟩ | ⟨seen', more, us, h2, h3, h4, h5, h6, h7, h8, h9⟩
      ·exact .inl ⟨h2, c, List.mem_cons_of_mem _ h3, h4⟩
      ·refine .inr ⟨seen', (q1, q.2) :: more, u :: us, by rw [h2, List.append_assoc]; rfl, h3, by simp; omega, ⟨u, us, rfl, hpu, h5⟩, fun y hy => h6 y (hmono y hy), fun c hcm hc0 => ?_, fun y hy => ?_, fun w hw => ?_⟩
       ·rcases List.mem_cons.1 hcm with rfl | hcm
        ·rw [hk2]; exact ⟨hv, fun _ => h6 _ hset⟩
        ·exact h7 c hcm hc0
       ·rcases h8 y hy with h10 | ⟨w, h10, h11⟩
        ·rcases hbk y h10 with h12 | rfl
         ·exact .inl h12
         ·exact .inr ⟨u, hu, List.mem_cons_self ..⟩
        ·exact .inr ⟨w, h10, List.mem_cons_of_mem _ h11⟩
       ·rcases List.mem_cons.1 hw with rfl | hw
        ·exact ⟨_, List.mem_cons_self .., by omega, by rw [hk2]; exact hu⟩
        ·obtain ⟨c, h10, h11⟩ := h9 w hw
         exact ⟨c, List.mem_cons_of_mem _ h10, h11⟩
theorem Pc.vars {p : List Int} {d : Int} {t : Tm} (h : Pc a0 N p d t) : ∃ n : Nat, d = (n : Int) ∧ n ≤ N ∧ (∀ c ∈ p, -24 ≤ c) ∧ ∀ y, t.has y ↔ ∃ c ∈ p, c < 0 ∧ (-1 - c).toNat + n = y := by
 obtain ⟨u, n, h1, rfl, h2, h3, rfl, h4⟩ := h
 refine ⟨n, h2, h3, fun c hc => ?_, fun y => ?_⟩
 ·by_cases h0 : c < 0
  ·have := Tm.ok_has u h1 ((Tm.mem_codes h0 u).1 hc); omega
  ·omega
 ·rw [Tm.up_has]
  constructor
  ·rintro ⟨x, hx, rfl⟩
   have hc : (-1 - (x : Int)) < 0 := by omega
   refine ⟨-1 - (x : Int), (Tm.mem_codes hc u).2 (by rw [show (-1 - (-1 - (x : Int))).toNat = x from by omega]; exact hx), hc, by omega⟩
  ·rintro ⟨c, hc, h0, rfl⟩
   exact ⟨_, (Tm.mem_codes h0 u).1 hc, rfl⟩
structure WInv (B : Bd) (σ : Sb) (v : Nat) (t : Tm) (seen : List Bool) (ts : List Tm) : Prop where
 snd : ∀ u ∈ ts, (u.sub σ).has v → (t.sub σ).has v
 top : t ∈ ts ∨ ∀ y, t.has y → DoneV B v seen y
 cls : ∀ x u, seen[x]? = some true → B x = some u → u ∈ ts ∨ ∀ y, u.has y → DoneV B v seen y
theorem DoneV.mono {seen seen' : List Bool} (h : ∀ y : Nat, seen[y]? = some true → seen'[y]? = some true) {y : Nat} (hd : DoneV B v seen y) : DoneV B v seen' y := ⟨hd.1, fun hb => h y (hd.2 hb)⟩
theorem within_run (hN : N ≤ 24) (hT : RepT a0 N to B) (hG : Good B σ) (hv : B v = none) (t : Tm) : ∀ (m k : Nat) (seen : List Bool) (todo : List PI) (ts : List Tm) (z : List Int) (z2 : Int), todo.length + unseen seen = m → m < k → m ≤ 100 → seen.length = 48 → PcL a0 N todo ts → WInv B σ v t seen ts →
  ∃ r, lp unify_run_within_L1 k ((v : Int), a0, to, z, z2, seen, todo) = some r ∧ ((r = .inr true ∧ (t.sub σ).has v) ∨ (r = .inl () ∧ ¬ (t.sub σ).has v)) := by
 intro m
 induction m using Nat.strongRecOn with
 | _ m ih =>
  intro k seen todo ts z z2 hm hk hm1 hs hp hI
  obtain ⟨k, rfl⟩ : ∃ k', k = k' + 1 := ⟨k - 1, by omega⟩
  rw [lp_succ]
  have key := fun (m' : Nat) (h : m' < m) seen todo ts z z2 h1 h2 h3 h4 => ih m' h k seen todo ts z z2 h1 (by omega) (by omega) h2 h3 h4
  generalize lp unify_run_within_L1 k = rec at key ⊢
  unfold unify_run_within_L1
  rcases List.eq_nil_or_concat todo with rfl | ⟨todo', p, rfl⟩
  ·have hts : ts = [] := hp
   subst hts
   refine ⟨_, rfl, .inr ⟨rfl, ?_⟩⟩
   have hcl : ∀ x u, seen[x]? = some true → B x = some u → ∀ y, u.has y → DoneV B v seen y := fun x u h1 h2 => (hI.cls x u h1 h2).resolve_left (fun h => nomatch h)
   have hno : ∀ x, DoneV B v seen x → ¬ (σ x).has v := by
    refine hG.ind (fun x hx hd hh => ?_) fun x u hx ihx hd hh => ?_
    ·rw [hG.free x hx] at hh
     exact hd.1 hh
    ·rw [hG.bound x u hx] at hh
     obtain ⟨y, h1, h2⟩ := (Tm.has_sub u).1 hh
     exact ihx y h1 (hcl x u (hd.2 (by rw [hx]; simp)) hx y h1) h2
   intro hh
   obtain ⟨y, h1, h2⟩ := (Tm.has_sub t).1 hh
   exact hno y ((hI.top.resolve_left fun h => nomatch h) y h1) h2
  ·rw [List.concat_eq_append] at *
   obtain ⟨ts', us0, rfl, hp1, hp2⟩ := PcL.split hp
   obtain ⟨u0, us1, rfl, hu0, hus1⟩ := hp2
   have hus1 : us1 = [] := hus1
   subst hus1
   simp only [List.length_append, List.length_singleton] at hm
   obtain ⟨q, d⟩ := p
   obtain ⟨n, rfl, hn, hcs, hvars⟩ := hu0.vars
   have e1 : IntKind.wrap .i64 (((List.length (todo' ++ [(q, (n : Int))]) : Nat) : Int) - 1) = ((todo'.length : Nat) : Int) := by
    rw [List.length_append, List.length_singleton, wrap64] <;> omega
   have e2 : inR ((todo'.length : Nat) : Int) (List.length (todo' ++ [(q, (n : Int))])) = some todo'.length := inR_nat (by simp)
   have e3 : (todo' ++ [(q, (n : Int))])[todo'.length]? = some (q, (n : Int)) := get_mid _ [] _
   have e4 : decide (((List.length (todo' ++ [(q, (n : Int))]) : Nat) : Int) > 0) = true := decide_eq_true (by rw [List.length_append, List.length_singleton]; omega)
   simp only [e1, e2, e3, e4, Option.bind_some, cond_true, slc_last]
   have hsz : u0.size = q.length ∧ u0.size ≤ 48 := hu0.size
   rw [unify_run_within_L0_go_at0 _ _ _ _ _ _ _ _ (by unfold maxLen; omega)]
   rcases within_go (v := v) hN hT hn q q seen todo' ts' hcs hs (by omega) hp1 with ⟨h1, c, h2, h3, h4⟩ | ⟨seen', more, us, h1, h2, h3, h4, h5, h6, h7, h8⟩
   ·rw [h1]
    refine ⟨_, rfl, .inl ⟨rfl, hI.snd u0 (by simp) ?_⟩⟩
    refine (Tm.has_sub u0).2 ⟨v, (hvars v).2 ⟨c, h2, h3, h4⟩, ?_⟩
    rw [hG.free v hv]
    rfl
   ·rw [h1]
    simp only [Option.bind_some, caseS_inl]
    refine key (todo'.length + more.length + unseen seen') (by omega) seen' (todo' ++ more) (ts' ++ us) q (n : Int) (by simp) h2 (hp1.append h4) ⟨fun w hw hh => ?_, ?_, fun x w hx hw => ?_⟩
    ·rcases List.mem_append.1 hw with hw | hw
     ·exact hI.snd w (by simp [hw]) hh
     ·obtain ⟨c, h9, h10, h11⟩ := h8 w hw
      refine hI.snd u0 (by simp) ((Tm.has_sub u0).2 ⟨_, (hvars _).2 ⟨c, h9, h10, rfl⟩, ?_⟩)
      rw [hG.bound _ w h11]
      exact hh
    ·have hdone : ∀ y, u0.has y → DoneV B v seen' y := fun y hy => by
      obtain ⟨c, h9, h10, rfl⟩ := (hvars y).1 hy
      exact h6 c h9 h10
     rcases hI.top with ht | ht
     ·rcases List.mem_append.1 ht with ht | ht
      ·exact .inl (by simp [ht])
      ·rw [List.mem_singleton.1 ht]; exact .inr hdone
     ·exact .inr fun y hy => (ht y hy).mono h5
    ·have hdone : ∀ y, u0.has y → DoneV B v seen' y := fun y hy => by
      obtain ⟨c, h9, h10, rfl⟩ := (hvars y).1 hy
      exact h6 c h9 h10
     rcases h7 x hx with h9 | ⟨w', h9, h10⟩
     ·rcases hI.cls x w h9 hw with ht | ht
      ·rcases List.mem_append.1 ht with ht | ht
       ·exact .inl (by simp [ht])
       ·rw [List.mem_singleton.1 ht]; exact .inr hdone
      ·exact .inr fun y hy => (ht y hy).mono h5
     ·rw [hw] at h9; injection h9 with h9; subst h9
      exact .inl (by simp [h10])
theorem within_spec (hN : N ≤ 24) (hT : RepT a0 N to B) (hG : Good B σ) (hv : B v = none) {p : List Int} {d : Int} {t : Tm} (hp : Pc a0 N p d t) :
  ∃ r, unify_run_within (v : Int) p d a0 to = some r ∧ (r = true ↔ (t.sub σ).has v) := by
 have hun : unseen (List.replicate 48 false) = 48 := by decide
 obtain ⟨r, h1, h2⟩ := within_run hN hT hG hv t 49 fuel (List.replicate 48 false) [(p, d)] [t] p d (by rw [hun]; rfl) (by unfold fuel; omega) (by omega) (by simp) ⟨t, [], rfl, hp, rfl⟩
  ⟨fun u hu h => by rw [List.mem_singleton.1 hu] at h; exact h, .inl (by simp), fun x u hx _ => by
   rw [List.getElem?_replicate] at hx
   split at hx <;> simp at hx⟩
 unfold unify_run_within
 rw [h1]
 rcases h2 with ⟨rfl, h2⟩ | ⟨rfl, h2⟩
 ·exact ⟨true, rfl, by simp [h2]⟩
 ·exact ⟨false, rfl, by simp [h2]⟩
end
end
end Go.Abs.Q
namespace Go.Abs.Q
open Go Go.Abs
section
mutual
def Tm.ht : Tm → Nat
 | .v _ => 1
 | .f _ as => htR as + 1
def htR : List Tm → Nat
 | [] => 0
 | t :: ts => max t.ht (htR ts)
end
mutual
theorem Tm.ht_size : (t : Tm) → t.ht ≤ t.size
 | .v _ => Nat.le_refl _
 | .f _ as => by have := htR_size as; simp only [Tm.ht, Tm.size]; omega
theorem htR_size : (ts : List Tm) → htR ts ≤ sizeR ts
 | [] => Nat.le_refl _
 | t :: ts => by have := t.ht_size; have := htR_size ts; simp only [htR, sizeR]; omega
end
mutual
theorem Tm.ht_sub {s : Sb} {M : Nat} : (t : Tm) → (∀ x, t.has x → (s x).ht ≤ M) → (t.sub s).ht ≤ t.ht + M
 | .v n, h => by have := h n rfl; simp only [Tm.sub, Tm.ht]; omega
 | .f _ as, h => by have := htR_sub as h; simp only [Tm.sub, Tm.ht]; omega
theorem htR_sub {s : Sb} {M : Nat} : (ts : List Tm) → (∀ x, hasR x ts → (s x).ht ≤ M) → htR (subR s ts) ≤ htR ts + M
 | [], _ => by simp [subR, htR]
 | t :: ts, h => by
  have h1 := Tm.ht_sub t fun x hx => h x (.inl hx)
  have h2 := htR_sub ts fun x hx => h x (.inr hx)
  simp only [subR, htR]; omega
end
theorem htR_mem : {ts : List Tm} → {t : Tm} → t ∈ ts → t.ht ≤ htR ts
 | u :: us, t, h => by
  rcases List.mem_cons.1 h with rfl | h
  ·simp only [htR]; omega
  ·have := htR_mem h; simp only [htR]; omega
theorem Good.rank_lt {B : Bd} {σ : Sb} (h : Good B σ) {x y : Nat} {t : Tm} (hx : B x = some t) (hy : t.has y) (h48 : y < 48) : Good.rank σ y < Good.rank σ x := by
 have hlt : Good.less σ y x = true := by
  unfold Good.less
  have hs := h.bound x t hx
  cases t with
  | v z =>
   have hz : z = y := hy
   subst hz
   have h2 := h.down x z hx
   have h3 : (σ z).size = (σ x).size := by rw [hs]; rfl
   simp [h3, h2]
  | f c as =>
   have h2 := sizeR_has (s := σ) as hy
   have h3 : (σ x).size = sizeR (subR σ as) + 1 := by rw [hs]; rfl
   rw [decide_eq_true (show (σ y).size < (σ x).size by omega)]
   rfl
 refine countP_lt (a := y) (List.mem_range.2 h48) (fun z _ hz => ?_) (by simp [Good.less]) hlt
 simp only [Good.less, Bool.or_eq_true, Bool.and_eq_true, decide_eq_true_eq] at hz hlt ⊢
 omega
theorem Good.rank_le (σ : Sb) (x : Nat) : Good.rank σ x ≤ 48 := by
 have : Good.rank σ x ≤ (List.range 48).length := List.countP_le_length
 rwa [List.length_range] at this
theorem Good.low {B : Bd} {σ : Sb} (h : Good B σ) (hb : Small B) : ∀ x, (σ x).ht ≤ 49 * 49 := by
 have key : ∀ x, B x ≠ none → (σ x).ht ≤ 49 * (Good.rank σ x + 1) := by
  refine h.ind (fun x hx hn => absurd hx hn) fun x t hx ih _ => ?_
  obtain ⟨hx48, ht⟩ := hb x t hx
  rw [h.bound x t hx]
  have h0 := t.ht_size
  have := Tm.ht_sub (s := σ) (M := 49 * Good.rank σ x + 1) t fun y hy => (by
   cases hy0 : B y with
   | none => rw [h.free y hy0]; simp only [Tm.ht]; omega
   | some u =>
    have h1 := ih y hy (by rw [hy0]; simp)
    have h2 := h.rank_lt hx hy (hb y u hy0).1
    have : 49 * (Good.rank σ y + 1) ≤ 49 * Good.rank σ x := Nat.mul_le_mul_left _ (by omega)
    omega)
  omega
 intro x
 by_cases hx : B x = none
 ·rw [h.free x hx]; simp [Tm.ht]
 ·have h1 := key x hx
  have h2 := Good.rank_le σ x
  have : 49 * (Good.rank σ x + 1) ≤ 49 * 49 := Nat.mul_le_mul_left _ (by omega)
  omega
def zipC (n m : Nat) (us ws : List Tm) : List (List Int × Int × List Int × Int) := List.zipWith (fun a b => (a.codes, (n : Int), b.codes, (m : Int))) us ws
theorem codes_le {ts : List Tm} {t : Tm} (h : t ∈ ts) : t.codes.length ≤ (codesR ts).length := by
 obtain ⟨l1, l2, rfl⟩ := List.append_of_mem h
 rw [codesR_app]
 simp [codesR]
 omega
theorem zipC_rel {a0 : List QSym} {N n m : Nat} (hn : n ≤ N) (hm : m ≤ N) : {us ws : List Tm} → okR a0 24 us → okR a0 24 ws → (∀ t ∈ us, t.codes.length ≤ 48) → (∀ t ∈ ws, t.codes.length ≤ 48) →
  PqL a0 N (zipC n m us ws) ((us.map (Tm.up n)).zip (ws.map (Tm.up m)))
 | [], _, _, _, _, _ => rfl
 | _ :: _, [], _, _, _, _ => rfl
 | u :: us, w :: ws, hu, hw, hlu, hlw =>
  ⟨(u.up n, w.up m), _, rfl, ⟨⟨u, n, hu.1, rfl, rfl, hn, rfl, hlu u (List.mem_cons_self ..)⟩, ⟨w, m, hw.1, rfl, rfl, hm, rfl, hlw w (List.mem_cons_self ..)⟩⟩,
   zipC_rel hn hm hu.2 hw.2 (fun t h => hlu t (List.mem_cons_of_mem _ h)) fun t h => hlw t (List.mem_cons_of_mem _ h)⟩
theorem pairs_go2 (ps2 : List (List Int)) (n m : Nat) : (us ws : List Tm) → (i : Nat) → (out : List (List Int × Int × List Int × Int)) → ps2.drop i = ws.map Tm.codes → us.length = ws.length → out.length + us.length ≤ 1000000 →
  unify_run_pairs_1_L0_go ps2 (n : Int) (m : Int) (us.map Tm.codes) i out = some (out ++ zipC n m us ws)
 | [], ws, i, out, _, _, _ => by simp [unify_run_pairs_1_L0_go, zipC]
 | u :: us, [], i, out, _, h, _ => by simp at h
 | u :: us, w :: ws, i, out, h, hl, hr => by
  simp only [List.length_cons] at hl hr
  rw [List.map_cons] at h
  rw [List.map_cons]
  unfold unify_run_pairs_1_L0_go
  rw [gx_nat, drop_cons_get h, Option.bind_some, room_ok (by simp only [List.length_singleton]; omega), cond_true, pairs_go2 ps2 n m us ws (i + 1) _ (drop_cons_next h) (by omega) (by simp only [List.length_append, List.length_singleton]; omega)]
  simp [zipC]
theorem pairs_spec {a0 : List QSym} (h : SignOk a0) {N : Nat} {p q : List Int} {d e : Int} {ts us : List Tm} (hp : Pr a0 N p d ts) (hq : Pr a0 N q e us) (hl : ts.length = us.length) (to : List PO) {out : List (List Int × Int × List Int × Int)} (ho : out.length ≤ 100000) :
  ∃ more, unify_run_pairs_1 p d q e a0 to out = some (out ++ more) ∧ PqL a0 N more (ts.zip us) := by
 obtain ⟨us0, n, h1, rfl, rfl, h2, rfl, h3⟩ := hp
 obtain ⟨ws0, m, h4, rfl, rfl, h5, rfl, h6⟩ := hq
 simp only [List.length_map] at hl
 have hls : us0.length ≤ 48 := by
  have := cuts_len (cuts_codes us0 h1)
  rw [List.length_map] at this
  omega
 refine ⟨zipC n m us0 ws0, ?_, zipC_rel h2 h5 h1 h4 (fun t ht => Nat.le_trans (codes_le ht) h3) fun t ht => Nat.le_trans (codes_le ht) h6⟩
 unfold unify_run_pairs_1
 rw [term_Pieces_eq h (by omega) (cuts_codes us0 h1), Option.bind_some, term_Pieces_eq h (by omega) (cuts_codes ws0 h4), Option.bind_some,
  unify_run_pairs_1_L0_go_at0 _ _ _ _ _ _ _ (by rw [List.length_map]; unfold maxLen; omega), pairs_go2 _ n m us0 ws0 0 out rfl hl (by omega)]
 rfl
theorem nn_codes {a0 : List QSym} {N : Nat} {p : List Int} {d : Int} {t : Tm} (h : Pc a0 N p d t) : nn p = some p := by
 have h1 := h.size
 have h2 := t.size_pos
 cases p with
 | nil => simp at h1; omega
 | cons x r => rfl
theorem put_spec {a0 : List QSym} {N : Nat} (hN : N ≤ 24) {to : List PO} {B : Bd} {σ : Sb} (hT : RepT a0 N to B) (hG : Good B σ) {p q : List Int} {d e : Int} {v : Nat} {u : Tm} (hp : Pc a0 N p d (.v v)) (hq : Pc a0 N q e u) (hv : B v = none) (hu : ∀ y, u = .v y → B y = none) :
  ∃ r to', unify_run_put_1 p d q e a0 to = some (r, a0, to') ∧ ((r = false ∧ ∀ θ, SolB θ B → θ v = u.sub θ → False) ∨ (r = true ∧ ∃ B' σ', RepT a0 N to' B' ∧ Good B' σ' ∧ ∀ θ, SolB θ B' ↔ SolB θ B ∧ θ v = u.sub θ)) := by
 have hv48 : v < 48 := hp.lt hN rfl
 rcases hp.cases with ⟨k, n, rfl, rfl, hk, hn, he⟩ | ⟨_, _, _, _, he, _⟩
 case inr => cases he
 injection he with he
 subst he
 unfold unify_run_put_1
 simp only [gx_zero, List.getElem?_cons_zero, Option.bind_some, number_eq hN hk hn]
 rcases hq.cases with ⟨k2, n2, rfl, rfl, hk2, hn2, rfl⟩ | ⟨c, r, ts, rfl, rfl, hc, hr⟩
 ·simp only [List.getElem?_cons_zero, Option.bind_some, number_eq hN hk2 hn2]
  rw [decide_eq_false (show ¬ (-1 - (k2 : Int) ≥ 0) by omega), cond_false]
  have hw := hu _ rfl
  by_cases h1 : k2 + n2 > k + n
  ·rw [decide_eq_true (show ((k2 + n2 : Nat) : Int) > ((k + n : Nat) : Int) by omega), cond_true, inR_nat (by omega), Option.bind_some]
   obtain ⟨x, hx, -⟩ := hT.get (x := k2 + n2) (by omega)
   rw [hx, Option.bind_some, nn_codes hp, Option.bind_some]
   refine ⟨true, _, rfl, .inr ⟨rfl, _, _, hT.set (by omega) hp, hG.bind hw ?_ ?_, fun θ => (SolB.upd hw).trans ?_⟩⟩
   ·show ¬ (σ (k + n)).has (k2 + n2)
    rw [hG.free _ hv]
    show ¬ (k + n = k2 + n2)
    omega
   ·intro y hy
    injection hy with hy
    omega
   ·show _ ∧ θ (k2 + n2) = θ (k + n) ↔ _ ∧ θ (k + n) = θ (k2 + n2)
    exact ⟨fun h => ⟨h.1, h.2.symm⟩, fun h => ⟨h.1, h.2.symm⟩⟩
  ·rw [decide_eq_false (show ¬ (((k2 + n2 : Nat) : Int) > ((k + n : Nat) : Int)) by omega), cond_false]
   by_cases h2 : k2 + n2 < k + n
   ·rw [decide_eq_true (show ((k2 + n2 : Nat) : Int) < ((k + n : Nat) : Int) by omega), cond_true, inR_nat (by omega), Option.bind_some]
    obtain ⟨x, hx, -⟩ := hT.get (x := k + n) (by omega)
    rw [hx, Option.bind_some, nn_codes hq, Option.bind_some]
    refine ⟨true, _, rfl, .inr ⟨rfl, _, _, hT.set (by omega) hq, hG.bind hv ?_ ?_, fun θ => SolB.upd hv⟩⟩
    ·show ¬ (σ (k2 + n2)).has (k + n)
     rw [hG.free _ hw]
     show ¬ (k2 + n2 = k + n)
     omega
    ·intro y hy
     injection hy with hy
     omega
   ·rw [decide_eq_false (show ¬ (((k2 + n2 : Nat) : Int) < ((k + n : Nat) : Int)) by omega), cond_false]
    have : k2 + n2 = k + n := by omega
    refine ⟨true, _, rfl, .inr ⟨rfl, B, σ, hT, hG, fun θ => ⟨fun h => ⟨h, ?_⟩, fun h => h.1⟩⟩⟩
    show θ (k + n) = θ (k2 + n2)
    rw [this]
 ·simp only [List.getElem?_cons_zero, Option.bind_some]
  rw [decide_eq_true (show (c : Int) ≥ 0 by omega), cond_true]
  obtain ⟨w, hw1, hw2⟩ := within_spec hN hT hG hv hq
  rw [hw1, Option.bind_some]
  cases w with
  | true =>
   refine ⟨false, _, rfl, .inl ⟨rfl, fun θ h1 h2 => hG.occurs (hw2.1 rfl) h1 h2⟩⟩
  | false =>
   rw [cond_false, inR_nat (by omega), Option.bind_some]
   obtain ⟨x, hx, -⟩ := hT.get (x := k + n) (by omega)
   rw [hx, Option.bind_some, nn_codes hq, Option.bind_some]
   refine ⟨true, _, rfl, .inr ⟨rfl, _, _, hT.set (by omega) hq, hG.bind hv (fun h => by have := hw2.2 h; cases this) (fun y hy => by cases hy), fun θ => SolB.upd hv⟩⟩
end
end Go.Abs.Q
namespace Go.Abs.Q
open Go Go.Abs
section
def wt (σ : Sb) (E : List (Tm × Tm)) : Nat := (E.map fun e => (e.1.sub σ).size).sum
theorem wt_append (σ : Sb) (E F : List (Tm × Tm)) : wt σ (E ++ F) = wt σ E + wt σ F := by simp [wt]
theorem wt_one (σ : Sb) (e : Tm × Tm) : wt σ [e] = (e.1.sub σ).size := by simp [wt]
theorem wt_zip (σ : Sb) : {ts us : List Tm} → ts.length = us.length → wt σ (ts.zip us) = sizeR (subR σ ts)
 | [], _, _ => rfl
 | _ :: _, [], h => by simp at h
 | t :: ts, u :: us, h => by
  have := wt_zip σ (ts := ts) (us := us) (by simpa using h)
  simp only [wt] at this ⊢
  simp only [List.zip_cons_cons, List.map_cons, List.sum_cons, subR, sizeR, this]
def HtOk (R : List Tm) (B : Bd) (i : Nat) (t : Tm) : Prop := ∃ δ : Nat, i ≤ 47 + 3 * δ ∧ ∀ θ, SolB θ B → ∃ c ∈ R, δ + (t.sub θ).ht ≤ (c.sub θ).ht
def StkOk (R : List Tm) (B : Bd) (E : List (Tm × Tm)) : Prop := ∀ (i : Nat) e, E[i]? = some e → HtOk R B i e.1
theorem HtOk.mono {R : List Tm} {B B' : Bd} {i : Nat} {t : Tm} (h : HtOk R B i t) (hB : ∀ θ, SolB θ B' → SolB θ B) : HtOk R B' i t := by
 obtain ⟨δ, h1, h2⟩ := h
 exact ⟨δ, h1, fun θ hθ => h2 θ (hB θ hθ)⟩
theorem StkOk.mono {R : List Tm} {B B' : Bd} {E : List (Tm × Tm)} (h : StkOk R B E) (hB : ∀ θ, SolB θ B' → SolB θ B) : StkOk R B' E := fun i e he => (h i e he).mono hB
theorem StkOk.left {R : List Tm} {B : Bd} {E F : List (Tm × Tm)} (h : StkOk R B (E ++ F)) : StkOk R B E := fun i e he => h i e (by
 rw [List.getElem?_append_left (List.getElem?_eq_some_iff.1 he).1]; exact he)
theorem StkOk.len {R : List Tm} {B : Bd} {σ : Sb} {E : List (Tm × Tm)} (h : StkOk R B E) (hG : Good B σ) (hS : Small B) (hR : ∀ c ∈ R, c.size ≤ 48) : E.length ≤ 8000 := by
 rcases Nat.eq_zero_or_pos E.length with h0 | h0
 ·omega
 ·obtain ⟨δ, h1, h2⟩ := h (E.length - 1) E[E.length - 1] (List.getElem?_eq_getElem (by omega))
  obtain ⟨c, hc, h3⟩ := h2 σ hG.bound
  have h4 := Tm.ht_sub (s := σ) c fun x _ => hG.low hS x
  have h5 := c.ht_size
  have h6 := hR c hc
  omega
def SameR (a0 : List QSym) (N : Nat) (B : Bd) (E : List (Tm × Tm)) (r : Bool × List QSym × List PO) : Prop :=
 r.2.1 = a0 ∧ ((r.1 = false ∧ Out B E none) ∨ (r.1 = true ∧ ∃ B', RepT a0 N r.2.2 B' ∧ Out B E (some B')))
theorem SameR.via {a0 : List QSym} {N : Nat} {B B1 : Bd} {E E1 : List (Tm × Tm)} (h : ∀ θ, (SolB θ B1 ∧ Sol θ E1) ↔ (SolB θ B ∧ Sol θ E)) {r : Bool × List QSym × List PO} (hr : SameR a0 N B1 E1 r) : SameR a0 N B E r :=
 ⟨hr.1, hr.2.imp (fun h1 => ⟨h1.1, Out.via h h1.2⟩) fun ⟨h1, B', h2, h3⟩ => ⟨h1, B', h2, Out.via h h3⟩⟩
theorem same_run {a0 : List QSym} (hs : SignOk a0) {N : Nat} (hN : N ≤ 24) (R : List Tm) (hR : ∀ c ∈ R, c.size ≤ 48) : ∀ (n : Nat) (to : List PO) (B : Bd) (σ : Sb) (todo : List (List Int × Int × List Int × Int)) (E : List (Tm × Tm)),
  RepT a0 N to B → Good B σ → PqL a0 N todo E → StkOk R B E →
  (∃ r, (∀ k, lp unify_run_same_1_L0 (k + n) (a0, to, todo) = some r) ∧ SameR a0 N B E r) ∨ ∃ B' σ', Good B' σ' ∧ Small B' ∧ (∀ θ, SolB θ B' → SolB θ B) ∧ n ≤ wt σ' E := by
 intro n
 induction n with
 | zero => intro to B σ todo E hT hG _ _; exact .inr ⟨B, σ, hG, hT.small, fun _ h => h, Nat.zero_le _⟩
 | succ n ih =>
  intro to B σ todo E hT hG hP hK
  have hlen := hK.len hG hT.small hR
  have hpl := hP.length
  -- one round, and what is left
  have go : ∀ (to1 : List PO) (B1 : Bd) (σ1 : Sb) (todo1 : List (List Int × Int × List Int × Int)) (E1 : List (Tm × Tm)), RepT a0 N to1 B1 → Good B1 σ1 → PqL a0 N todo1 E1 → StkOk R B1 E1 →
    (∀ θ, (SolB θ B1 ∧ Sol θ E1) ↔ (SolB θ B ∧ Sol θ E)) → (∀ θ, SolB θ B1 → SolB θ B) → (∀ σ', SolB σ' B1 → wt σ' E1 + 1 ≤ wt σ' E) → (∀ rec, unify_run_same_1_L0 rec (a0, to, todo) = rec (a0, to1, todo1)) →
    ((∃ r, (∀ k, lp unify_run_same_1_L0 (k + (n + 1)) (a0, to, todo) = some r) ∧ SameR a0 N B E r) ∨ ∃ B' σ', Good B' σ' ∧ Small B' ∧ (∀ θ, SolB θ B' → SolB θ B) ∧ n + 1 ≤ wt σ' E) := by
   intro to1 B1 σ1 todo1 E1 h1 h2 h3 h4 h5 h6 h7 h8
   rcases ih to1 B1 σ1 todo1 E1 h1 h2 h3 h4 with ⟨r, h9, h10⟩ | ⟨B', σ', h9, h10, h11, h12⟩
   ·refine .inl ⟨r, fun k => ?_, h10.via h5⟩
    rw [← Nat.add_assoc, lp_succ, h8]
    exact h9 k
   ·have := h7 σ' (h11 _ h9.bound)
    exact .inr ⟨B', σ', h9, h10, fun θ hθ => h6 θ (h11 θ hθ), by omega⟩
  have stop : ∀ r, SameR a0 N B E r → (∀ rec, unify_run_same_1_L0 rec (a0, to, todo) = some r) →
    ((∃ r, (∀ k, lp unify_run_same_1_L0 (k + (n + 1)) (a0, to, todo) = some r) ∧ SameR a0 N B E r) ∨ ∃ B' σ', Good B' σ' ∧ Small B' ∧ (∀ θ, SolB θ B' → SolB θ B) ∧ n + 1 ≤ wt σ' E) :=
   fun r h1 h2 => .inl ⟨r, fun k => by rw [← Nat.add_assoc, lp_succ, h2], h1⟩
  rcases List.eq_nil_or_concat todo with rfl | ⟨todo', t, rfl⟩
  ·have hE : E = [] := hP
   subst hE
   exact stop (true, a0, to) ⟨rfl, .inr ⟨rfl, B, hT, Out.done hG hT.small⟩⟩ fun rec => rfl
  ·rw [List.concat_eq_append] at *
   obtain ⟨p, d, q, e⟩ := t
   obtain ⟨E', F, rfl, hP', hF⟩ := PqL.split hP
   obtain ⟨⟨s, u⟩, F', rfl, ⟨hps, hqu⟩, hF'⟩ := hF
   have hF' : F' = [] := hF'
   subst hF'
   have hps : Pc a0 N p d s := hps
   have hqu : Pc a0 N q e u := hqu
   obtain ⟨p1, d1, s1, hw1, hp1, hs1, hb1⟩ := what_spec hN hT hG hps
   obtain ⟨q1, e1, u1, hw2, hq1, hu1, hb2⟩ := what_spec hN hT hG hqu
   simp only [List.length_append, List.length_singleton] at hlen hpl
   have x1 : IntKind.wrap .i64 (((List.length (todo' ++ [(p, d, q, e)]) : Nat) : Int) - 1) = ((todo'.length : Nat) : Int) := by
    rw [List.length_append, List.length_singleton, wrap64] <;> omega
   have x2 : inR ((todo'.length : Nat) : Int) (List.length (todo' ++ [(p, d, q, e)])) = some todo'.length := inR_nat (by simp)
   have x3 : (todo' ++ [(p, d, q, e)])[todo'.length]? = some (p, d, q, e) := get_mid _ [] _
   have x4 : (((List.length (todo' ++ [(p, d, q, e)]) : Nat) : Int) == 0) = false := by simp; omega
   have hsol : ∀ θ, SolB θ B → (Sol θ (E' ++ [(s, u)]) ↔ Sol θ E' ∧ s1.sub θ = u1.sub θ) := fun θ hθ => by
    rw [Sol.append, Sol.cons, hs1 θ hθ, hu1 θ hθ]
    exact ⟨fun h => ⟨h.1, h.2.1⟩, fun h => ⟨h.1, h.2, Sol.nil⟩⟩
   -- one round
   have round : ∀ rec, unify_run_same_1_L0 rec (a0, to, todo' ++ [(p, d, q, e)]) = (gx p1 0).bind fun e34 => cond (decide (e34 < 0))
     ((unify_run_put_1 p1 d1 q1 e1 a0 to).bind fun r35 => cond r35.1 (rec (r35.2.1, r35.2.2, todo')) (some (false, r35.2.1, r35.2.2)))
     ((gx q1 0).bind fun e36 => cond (decide (e36 < 0))
      ((unify_run_put_1 q1 e1 p1 d1 a0 to).bind fun r37 => cond r37.1 (rec (r37.2.1, r37.2.2, todo')) (some (false, r37.2.1, r37.2.2)))
      ((gx p1 0).bind fun e38 => (gx q1 0).bind fun e39 => cond (e38 != e39) (some (false, a0, to))
       ((slc2 p1 (some 1) none).bind fun y40 => (slc2 q1 (some 1) none).bind fun y41 => (unify_run_pairs_1 y40 d1 y41 e1 a0 to todo').bind fun r42 => rec (a0, to, r42)))) := by
    intro rec
    unfold unify_run_same_1_L0
    simp only [x1, x2, x3, x4, Option.bind_some, cond_false, slc_last, hw1, hw2]
   have hbind : ∀ {B1 : Bd} {v : Nat} {w : Tm}, (∀ θ, SolB θ B1 ↔ SolB θ B ∧ θ v = w.sub θ) → (∀ θ, SolB θ B → (s1.sub θ = u1.sub θ ↔ θ v = w.sub θ)) → ∀ θ, (SolB θ B1 ∧ Sol θ E') ↔ (SolB θ B ∧ Sol θ (E' ++ [(s, u)])) := by
    intro B1 v w h1 h2 θ
    rw [h1 θ]
    constructor
    ·rintro ⟨⟨h3, h4⟩, h5⟩
     exact ⟨h3, (hsol θ h3).2 ⟨h5, (h2 θ h3).2 h4⟩⟩
    ·rintro ⟨h3, h4⟩
     have h6 := (hsol θ h3).1 h4
     exact ⟨⟨h3, (h2 θ h3).1 h6.2⟩, h6.1⟩
   have hwt : ∀ σ', wt σ' E' + 1 ≤ wt σ' (E' ++ [(s, u)]) := fun σ' => by
    rw [wt_append, wt_one]
    have := (s.sub σ').size_pos
    show wt σ' E' + 1 ≤ wt σ' E' + (s.sub σ').size
    omega
   rcases hp1.cases with ⟨k1, n1, rfl, rfl, hk1, hn1, rfl⟩ | ⟨c1, r1, ts1, rfl, rfl, hc1, hr1⟩
   ·-- a variable on the left
    obtain ⟨r, to1, hput, hres⟩ := put_spec hN hT hG hp1 hq1 (hb1 _ rfl) hb2
    rcases hres with ⟨rfl, hno⟩ | ⟨rfl, B1, σ1, hT1, hG1, hB1⟩
    ·refine stop (false, a0, to1) ⟨rfl, .inl ⟨rfl, fun θ h1 h2 => hno θ h1 ((hsol θ h1).1 h2).2⟩⟩ fun rec => ?_
     rw [round, gx_zero, List.getElem?_cons_zero, Option.bind_some, decide_eq_true (show -1 - (k1 : Int) < 0 by omega), cond_true, hput]
     rfl
    ·refine go to1 B1 σ1 todo' E' hT1 hG1 hP' (hK.left.mono fun θ h => ((hB1 θ).1 h).1) (hbind hB1 fun θ _ => Iff.rfl) (fun θ h => ((hB1 θ).1 h).1) (fun σ' _ => hwt σ') fun rec => ?_
     rw [round, gx_zero, List.getElem?_cons_zero, Option.bind_some, decide_eq_true (show -1 - (k1 : Int) < 0 by omega), cond_true, hput]
     rfl
   ·rcases hq1.cases with ⟨k2, n2, rfl, rfl, hk2, hn2, rfl⟩ | ⟨c2, r2, ts2, rfl, rfl, hc2, hr2⟩
    ·obtain ⟨r, to1, hput, hres⟩ := put_spec hN hT hG hq1 hp1 (hb2 _ rfl) hb1
     rcases hres with ⟨rfl, hno⟩ | ⟨rfl, B1, σ1, hT1, hG1, hB1⟩
     ·refine stop (false, a0, to1) ⟨rfl, .inl ⟨rfl, fun θ h1 h2 => hno θ h1 ((hsol θ h1).1 h2).2.symm⟩⟩ fun rec => ?_
      rw [round]
      simp only [gx_zero, List.getElem?_cons_zero, Option.bind_some]
      rw [decide_eq_false (show ¬ (c1 : Int) < 0 by omega), cond_false, decide_eq_true (show -1 - (k2 : Int) < 0 by omega), cond_true, hput]
      rfl
     ·refine go to1 B1 σ1 todo' E' hT1 hG1 hP' (hK.left.mono fun θ h => ((hB1 θ).1 h).1) (hbind hB1 fun θ _ => ⟨fun h => h.symm, fun h => h.symm⟩) (fun θ h => ((hB1 θ).1 h).1) (fun σ' _ => hwt σ') fun rec => ?_
      rw [round]
      simp only [gx_zero, List.getElem?_cons_zero, Option.bind_some]
      rw [decide_eq_false (show ¬ (c1 : Int) < 0 by omega), cond_false, decide_eq_true (show -1 - (k2 : Int) < 0 by omega), cond_true, hput]
      rfl
    ·by_cases hcc : c1 = c2
     ·subst hcc
      have hl : ts1.length = ts2.length := by rw [hc1] at hc2; injection hc2
      have hl3 : ts1.length ≤ 3 := arity_le hs hc1
      obtain ⟨more, hm1, hm2⟩ := pairs_spec hs hr1 hr2 hl to (out := todo') (by omega)
      refine go to B σ (todo' ++ more) (E' ++ ts1.zip ts2) hT hG (hP'.append hm2) ?_ ?_ (fun _ h => h) ?_ fun rec => ?_
      ·intro i e hi
       rcases Nat.lt_or_ge i E'.length with hlt | hge
       ·rw [List.getElem?_append_left hlt] at hi
        exact hK.left i e hi
       ·rw [List.getElem?_append_right hge] at hi
        have hi3 : i - E'.length < 3 := by
         have := (List.getElem?_eq_some_iff.1 hi).1
         rw [List.length_zip] at this
         omega
        obtain ⟨δ, h1, h2⟩ := hK E'.length (s, u) (by rw [List.getElem?_append_right (Nat.le_refl _), Nat.sub_self]; rfl)
        refine ⟨δ + 1, by omega, fun θ hθ => ?_⟩
        obtain ⟨c, hc, h3⟩ := h2 θ hθ
        refine ⟨c, hc, ?_⟩
        have h3 : δ + (s.sub θ).ht ≤ (c.sub θ).ht := h3
        rw [hs1 θ hθ] at h3
        have h4 : e.1 ∈ ts1 := (List.of_mem_zip (a := e.1) (b := e.2) (List.mem_of_getElem? hi)).1
        have h5 : (e.1.sub θ).ht ≤ htR (subR θ ts1) := htR_mem (by rw [subR_eq]; exact List.mem_map_of_mem h4)
        have h6 : ((Tm.f c1 ts1).sub θ).ht = htR (subR θ ts1) + 1 := rfl
        omega
      ·intro θ
       rw [Sol.append, Sol.zip hl]
       constructor
       ·rintro ⟨h1, h2, h3⟩
        exact ⟨h1, (hsol θ h1).2 ⟨h2, f_eq.2 ⟨rfl, h3⟩⟩⟩
       ·rintro ⟨h1, h2⟩
        have h3 := (hsol θ h1).1 h2
        exact ⟨h1, h3.1, (f_eq.1 h3.2).2⟩
      ·intro σ' hσ'
       rw [wt_append, wt_append, wt_one, wt_zip σ' hl]
       show _ ≤ wt σ' E' + (s.sub σ').size
       rw [hs1 σ' hσ']
       show _ ≤ wt σ' E' + (sizeR (subR σ' ts1) + 1)
       omega
      ·rw [round]
       simp only [gx_zero, List.getElem?_cons_zero, Option.bind_some]
       rw [decide_eq_false (show ¬ (c1 : Int) < 0 by omega), cond_false, cond_false, show ((c1 : Int) != (c1 : Int)) = false from by simp, cond_false, slc_tail, Option.bind_some, slc_tail, Option.bind_some, hm1]
       rfl
     ·refine stop (false, a0, to) ⟨rfl, .inl ⟨rfl, fun θ h1 h2 => hcc (f_eq.1 ((hsol θ h1).1 h2).2).1⟩⟩ fun rec => ?_
      rw [round]
      simp only [gx_zero, List.getElem?_cons_zero, Option.bind_some]
      rw [decide_eq_false (show ¬ (c1 : Int) < 0 by omega), cond_false, decide_eq_false (show ¬ (c2 : Int) < 0 by omega), cond_false, show ((c1 : Int) != (c2 : Int)) = true from by simp; omega, cond_true]
theorem same_spec {a0 : List QSym} (hs : SignOk a0) {N : Nat} (hN : N ≤ 24) {to : List PO} {B : Bd} {σ : Sb} (hT : RepT a0 N to B) (hG : Good B σ) {p q : List Int} {d e : Int} {ts us : List Tm} (hp : Pr a0 N p d ts) (hq : Pr a0 N q e us) (hl : ts.length = us.length) :
  ∃ r, unify_run_same_1 p d q e a0 to = some r ∧ SameR a0 N B (ts.zip us) r := by
 have eta : ∀ o : Option (Bool × List QSym × List PO), (o.bind fun r => some (r.1, r.2.1, r.2.2)) = o := fun o => by cases o <;> rfl
 obtain ⟨more, hm1, hm2⟩ := pairs_spec hs hp hq hl to (out := []) (by simp)
 have e0 : unify_run_same_1 p d q e a0 to = lp unify_run_same_1_L0 (fuel + 1) (a0, to, more) := by
  unfold unify_run_same_1
  rw [hm1, Option.bind_some, lp_succ, List.nil_append]
  generalize lp unify_run_same_1_L0 fuel = rec
  unfold unify_run_same_1_L0
  simp only [eta]
 have hsz : ∀ c ∈ ts, c.size ≤ 48 := fun c hc => by
  obtain ⟨us0, n, h1, rfl, h2, h3, rfl, h4⟩ := hp
  obtain ⟨c0, h5, rfl⟩ := List.mem_map.1 hc
  rw [Tm.up_size, ← Tm.codes_len]
  exact Nat.le_trans (codes_le h5) h4
 have hlen : ts.length ≤ 48 := by
  obtain ⟨us0, n, h1, rfl, h2, h3, rfl, h4⟩ := hp
  have := cuts_len (cuts_codes us0 h1)
  rw [List.length_map] at this ⊢
  omega
 have hK : StkOk ts B (ts.zip us) := fun i x hi => by
  have hi0 := (List.getElem?_eq_some_iff.1 hi).1
  rw [List.length_zip] at hi0
  exact ⟨0, by omega, fun θ _ => ⟨x.1, (List.of_mem_zip (a := x.1) (b := x.2) (List.mem_of_getElem? hi)).1, by omega⟩⟩
 rw [e0]
 rcases same_run hs hN ts hsz (48 * (48 * 48 ^ 49) + 1) to B σ more (ts.zip us) hT hG hm2 hK with ⟨r, h1, h2⟩ | ⟨B', σ', h1, h2, h3, h4⟩
 ·have := h1 (fuel + 1 - (48 * (48 * 48 ^ 49) + 1))
  rw [show fuel + 1 - (48 * (48 * 48 ^ 49) + 1) + (48 * (48 * 48 ^ 49) + 1) = fuel + 1 from by unfold fuel; omega] at this
  exact ⟨r, this, h2⟩
 ·exfalso
  rw [wt_zip σ' hl, subR_eq, sizeR_eq, List.map_map] at h4
  have h5 : ∀ l : List Tm, (∀ c ∈ l, c.size ≤ 48) → (l.map (Tm.size ∘ Tm.sub σ')).sum ≤ l.length * (48 * 48 ^ 49) := by
   intro l
   induction l with
   | nil => intro _; simp
   | cons c l ih =>
    intro h
    have h6 := ih fun c hc => h c (List.mem_cons_of_mem _ hc)
    have h7 := h1.small_sub h2 c
    have h8 := h c (List.mem_cons_self ..)
    have h9 : c.size * 48 ^ 49 ≤ 48 * 48 ^ 49 := Nat.mul_le_mul_right _ h8
    simp only [List.map_cons, List.sum_cons, List.length_cons, Function.comp_apply]
    rw [Nat.add_mul, Nat.one_mul]
    omega
  have h6 := h5 ts hsz
  have h7 : ts.length * (48 * 48 ^ 49) ≤ 48 * (48 * 48 ^ 49) := Nat.mul_le_mul_right _ hlen
  omega
end
end Go.Abs.Q
namespace Go.Abs.Q
open Go Go.Abs
section
def expC (s : Sb) (c : Int) : List Int := if c < 0 then (s (-1 - c).toNat).codes else [c]
mutual
theorem Tm.codes_sub (s : Sb) : (t : Tm) → (t.sub s).codes = t.codes.flatMap (expC s)
 | .v n => by
  show (s n).codes = [-1 - (n : Int)].flatMap (expC s)
  simp only [List.flatMap_cons, List.flatMap_nil, List.append_nil, expC]
  rw [if_pos (by omega), show (-1 - (-1 - (n : Int))).toNat = n from by omega]
 | .f c as => by
  show (c : Int) :: codesR (subR s as) = ((c : Int) :: codesR as).flatMap (expC s)
  rw [List.flatMap_cons, codesR_sub s as]
  unfold expC
  rw [if_neg (by omega)]
  rfl
theorem codesR_sub (s : Sb) : (ts : List Tm) → codesR (subR s ts) = (codesR ts).flatMap (expC s)
 | [] => rfl
 | t :: ts => by
  show (t.sub s).codes ++ codesR (subR s ts) = (t.codes ++ codesR ts).flatMap (expC s)
  rw [Tm.codes_sub s t, codesR_sub s ts, List.flatMap_append]
end
theorem number1_eq {k : Nat} (hk : k < 24) (p : Option (List Int)) : unify_piece_number_1 p 0 (-1 - (k : Int)) = some (k : Int) := by
 unfold unify_piece_number_1
 rw [term_Number_eq (by omega) (by omega), Option.bind_some]
 congr 1
 rw [wrap64] <;> omega
section
variable {a0 : List QSym} {to : List PO} {B : Bd} {σ : Sb}
def cutW (o : List Int) : Option (List Int) := if o.length ≤ 48 then some o else none
theorem whole_round (hT : RepT a0 0 to B) (hG : Good B σ) (p : List Int) (hp48 : p.length ≤ 48) (rf : ((Option (List Int)) × Int × (List QSym) × (List PO)) → Option (Option (List Int)))
  (hrf : ∀ (y : Nat) q d u, (-1 - (y : Int)) ∈ p → to[y]? = some (some q, d) → B y = some u → rf (some q, d, a0, to) = some (cutW (u.sub σ).codes)) : ∀ (es : List Int) (i k : Nat) (out : List Int), p.drop i = es → es.length < k → (∀ c ∈ es, -24 ≤ c) → out.length ≤ 48 →
  lp (unify_run_whole_L0 rf) k (some p, ((p.length : Nat) : Int), (i : Int), a0, to, some p, 0, out) = some (if out.length + (es.flatMap (expC σ)).length ≤ 48 then .inl (out ++ es.flatMap (expC σ)) else .inr ()) := by
 intro es
 induction es with
 | nil =>
  intro i k out h hk _ ho
  obtain ⟨k, rfl⟩ : ∃ k', k = k' + 1 := ⟨k - 1, by simp at hk; omega⟩
  rw [lp_succ]
  generalize lp (unify_run_whole_L0 rf) k = rec
  unfold unify_run_whole_L0
  have hi : p.length ≤ i := by
   have := congrArg List.length h
   simp at this; omega
  rw [decide_eq_false (show ¬ ((i : Int) < ((p.length : Nat) : Int)) by omega), cond_false]
  simp [ho]
 | cons c es ih =>
  intro i k out h hk hc ho
  obtain ⟨k, rfl⟩ : ∃ k', k = k' + 1 := ⟨k - 1, by simp at hk; omega⟩
  rw [lp_succ]
  have key := fun out' ho' => ih (i + 1) k out' (drop_cons_next h) (by simp at hk; omega) (fun c h => hc c (List.mem_cons_of_mem _ h)) ho'
  generalize lp (unify_run_whole_L0 rf) k = rec at key ⊢
  unfold unify_run_whole_L0
  have hget := drop_cons_get h
  have hi : i < p.length := (List.getElem?_eq_some_iff.1 hget).1
  have hmem : c ∈ p := List.mem_of_getElem? hget
  have hw : IntKind.wrap .i64 ((i : Int) + 1) = ((i + 1 : Nat) : Int) := by rw [wrap64] <;> omega
  rw [decide_eq_true (show ((i : Int) < ((p.length : Nat) : Int)) by omega), cond_true]
  simp only [Option.getD_some, gx_nat, hget, Option.bind_some, hw]
  -- one code that stays
  have stay : expC σ c = [c] → (((nn ([c] : List Int)).bind fun _ => some false).bind fun z => cond z (some (Sum.inr ()))
    (cond (decide ((IntKind.wrap .i64 (((List.length out : Nat) : Int) + ((List.length ([c] : List Int) : Nat) : Int))) > 48)) (some (Sum.inr ()))
     (cond (room (List.length out + List.length ([c] : List Int)) 8) (rec (some p, ((p.length : Nat) : Int), ((i + 1 : Nat) : Int), a0, to, some p, 0, (out ++ ([c] : List Int)))) none))) =
    some (if out.length + ((c :: es).flatMap (expC σ)).length ≤ 48 then .inl (out ++ (c :: es).flatMap (expC σ)) else .inr ()) := by
   intro he
   have e1 : (nn ([c] : List Int)) = some [c] := rfl
   rw [e1, List.flatMap_cons, he]
   have w2 : IntKind.wrap .i64 (((List.length out : Nat) : Int) + ((List.length ([c] : List Int) : Nat) : Int)) = ((out.length + 1 : Nat) : Int) := by
    rw [wrap64] <;> simp only [List.length_singleton] <;> omega
   simp only [Option.bind_some, cond_false, w2]
   simp only [List.length_append, List.length_singleton]
   by_cases h48 : out.length + 1 ≤ 48
   ·rw [decide_eq_false (show ¬ (((out.length + 1 : Nat) : Int) > 48) by omega), cond_false, room_ok (by omega), cond_true, key _ (by simp; omega)]
    simp only [List.length_append, List.length_singleton, List.append_assoc]
    have : out.length + 1 + (es.flatMap (expC σ)).length = out.length + (1 + (es.flatMap (expC σ)).length) := by omega
    rw [this]
   ·rw [decide_eq_true (show (((out.length + 1 : Nat) : Int) > 48) by omega), cond_true, if_neg (by omega)]
  by_cases h0 : c < 0
  ·obtain ⟨y, hy, rfl⟩ : ∃ y : Nat, y < 24 ∧ c = -1 - (y : Int) := ⟨(-1 - c).toNat, by have := hc c (List.mem_cons_self ..); omega, by omega⟩
   rw [decide_eq_true h0, cond_true, number1_eq hy, Option.bind_some, inR_nat (show y < 48 by omega), Option.bind_some]
   obtain ⟨e, he, hpe⟩ := hT.get (x := y) (by omega)
   rw [he, Option.bind_some]
   have hexp : expC σ (-1 - (y : Int)) = (σ y).codes := by
    unfold expC
    rw [if_pos h0, show (-1 - (-1 - (y : Int))).toNat = y from by omega]
   unfold PcO at hpe
   split at hpe
   ·rename_i h1
    rw [h1]
    simp only [Option.isNone_none, Bool.not_true, cond_false]
    exact stay (by rw [hexp, hG.free y hpe]; rfl)
   ·rename_i q h1
    obtain ⟨u, hu, hq⟩ := hpe
    rw [h1]
    simp only [Option.isNone_some, Bool.not_false, cond_true, number1_eq hy, Option.bind_some, inR_nat (show y < 48 by omega), he]
    rw [h1, hrf y q e.2 u hmem (by rw [he, ← h1]) hu, Option.bind_some]
    rw [List.flatMap_cons, hexp, hG.bound y u hu]
    unfold cutW
    by_cases hsz : (u.sub σ).codes.length ≤ 48
    ·rw [if_pos hsz]
     have w2 : IntKind.wrap .i64 (((List.length out : Nat) : Int) + (((u.sub σ).codes.length : Nat) : Int)) = ((out.length + (u.sub σ).codes.length : Nat) : Int) := by
      rw [wrap64] <;> omega
     simp only [Option.isNone_some, cond_false, Option.getD_some, w2]
     simp only [List.length_append]
     by_cases h48 : out.length + (u.sub σ).codes.length ≤ 48
     ·rw [decide_eq_false (show ¬ (((out.length + (u.sub σ).codes.length : Nat) : Int) > 48) by omega), cond_false, room_ok (by omega), cond_true, key _ (by simp; omega)]
      simp only [List.length_append, List.append_assoc]
      rw [Nat.add_assoc]
     ·rw [decide_eq_true (show (((out.length + (u.sub σ).codes.length : Nat) : Int) > 48) by omega), cond_true, if_neg (by omega)]
    ·rw [if_neg hsz]
     simp only [Option.isNone_none, cond_true, List.length_append]
     rw [if_neg (by omega)]
  ·rw [decide_eq_false h0, cond_false]
   exact stay (by unfold expC; rw [if_neg h0])
theorem whole_run (hT : RepT a0 0 to B) (hG : Good B σ) : ∀ (k m : Nat) (p : List Int) (d : Int) (t : Tm), Pc a0 0 p d t → (∀ y, t.has y → B y ≠ none → Good.rank σ y < m) → m < k →
  unify_run_whole_R k (some p, d, a0, to) = some (cutW (t.sub σ).codes) := by
 intro k
 induction k with
 | zero => intro m p d t _ _ h; omega
 | succ k ih =>
  intro m p d t hp hm hk
  obtain ⟨u, n, h1, rfl, rfl, h2, rfl, h3⟩ := hp
  have hn : n = 0 := by omega
  subst hn
  rw [Tm.up_zero] at hm ⊢
  have hsmall : ∀ c ∈ u.codes, -24 ≤ c := fun c hc => by
   by_cases h0 : c < 0
   ·have := Tm.ok_has u h1 ((Tm.mem_codes h0 u).1 hc); omega
   ·omega
  show unify_run_whole_S (unify_run_whole_R k) (some u.codes) ((0 : Nat) : Int) a0 to = _
  unfold unify_run_whole_S
  have hr := whole_round hT hG u.codes h3 (unify_run_whole_R k) (fun y q d w hy hto hw => by
   have hyu : u.has y := by
    have := (Tm.mem_codes (by omega) u).1 hy
    rwa [show (-1 - (-1 - (y : Int))).toNat = y from by omega] at this
   have hpc : Pc a0 0 q d w := by
    have := hT.at_ y _ hto
    obtain ⟨t', h5, h6⟩ := (show ∃ t, B y = some t ∧ Pc a0 0 q d t from this)
    rw [hw] at h5; injection h5 with h5; subst h5
    exact h6
   have hlt := hm y hyu (by rw [hw]; simp)
   exact ih (Good.rank σ y) q d w hpc (fun z hz hb => hG.rank_lt hw hz (by
    cases hbz : B z with
    | none => exact absurd hbz hb
    | some x => exact (hT.small z x hbz).1)) (by omega)) u.codes 0 fuel [] rfl (by unfold fuel; omega) hsmall (by simp)
  simp only [Option.getD_some]
  have hr : lp (unify_run_whole_L0 (unify_run_whole_R k)) fuel (some u.codes, ((u.codes.length : Nat) : Int), 0, a0, to, some u.codes, ((0 : Nat) : Int), []) = _ := hr
  rw [hr, ← Tm.codes_sub]
  unfold cutW
  have hne : nn (u.sub σ).codes = some (u.sub σ).codes := nn_some fun e => by
   have := congrArg List.length e
   rw [Tm.codes_len] at this
   have := (u.sub σ).size_pos
   simp at *; omega
  by_cases h48 : (u.sub σ).codes.length ≤ 48
  ·simp only [List.length_nil, Nat.zero_add, List.nil_append]
   rw [if_pos h48, if_pos h48]
   simp only [Option.bind_some, caseS_inl, hne]
  ·simp only [List.length_nil, Nat.zero_add]
   rw [if_neg h48, if_neg h48]
   rfl
theorem whole_spec (hT : RepT a0 0 to B) (hG : Good B σ) {p : List Int} {d : Int} {t : Tm} (hp : Pc a0 0 p d t) : unify_run_whole (some p) d a0 to = some (cutW (t.sub σ).codes) := by
 refine whole_run hT hG fuel 49 p d t hp (fun y _ _ => ?_) (by unfold fuel; omega)
 have := Good.rank_le σ y
 omega
def isBd (B : Bd) (v : Nat) : Bool := (B v).isSome
def bindsFrom (B : Bd) (σ : Sb) (vs : List Nat) : List (Int × List Int) := (vs.filter (isBd B)).map fun v : Nat => ((v : Int), (σ v).codes)
def shortIn (σ : Sb) (vs : List Nat) : Bool := vs.all fun x => decide ((σ x).size ≤ 48)
theorem unify_round (hT : RepT a0 0 to B) (hG : Good B σ) : ∀ (m v k : Nat) (out : List (Int × List Int)), 24 - v = m → v ≤ 24 → m < k → out.length ≤ v →
  lp unify_Unify_L0 k ((v : Int), a0, to, out) = some (cond (shortIn σ ((List.range 24).drop v)) (.inl (out ++ bindsFrom B σ ((List.range 24).drop v))) (.inr (false, 401))) := by
 intro m
 induction m with
 | zero =>
  intro v k out hm hv hk ho
  obtain ⟨k, rfl⟩ : ∃ k', k = k' + 1 := ⟨k - 1, by omega⟩
  rw [lp_succ]
  generalize lp unify_Unify_L0 k = rec
  unfold unify_Unify_L0
  have : v = 24 := by omega
  subst this
  rw [show (List.range 24).drop 24 = [] from rfl]
  simp [bindsFrom, shortIn]
 | succ m ih =>
  intro v k out hm hv hk ho
  obtain ⟨k, rfl⟩ : ∃ k', k = k' + 1 := ⟨k - 1, by omega⟩
  rw [lp_succ]
  have key := fun out' ho' => ih (v + 1) k out' (by omega) (by omega) (by omega) ho'
  generalize lp unify_Unify_L0 k = rec at key ⊢
  unfold unify_Unify_L0
  have w : IntKind.wrap .i64 ((v : Int) + 1) = ((v + 1 : Nat) : Int) := by rw [wrap64] <;> omega
  obtain ⟨e, he, hpe⟩ := hT.get (x := v) (by omega)
  have hdr : (List.range 24).drop v = v :: (List.range 24).drop (v + 1) := by
   rw [List.drop_eq_getElem_cons (by simp; omega)]
   simp
  simp only [decide_eq_true (show (v : Int) < 24 by omega), cond_true, inR_nat (show v < 48 by omega), Option.bind_some, he, w]
  rw [hdr]
  unfold PcO at hpe
  split at hpe
  ·rename_i h1
   rw [h1]
   simp only [Option.isNone_none, cond_true]
   rw [key out (by omega)]
   have hs : (σ v).size ≤ 48 := by rw [hG.free v hpe]; simp [Tm.size]
   have hb : isBd B v = false := by simp [isBd, hpe]
   simp [bindsFrom, shortIn, hb, hs]
  ·rename_i q h1
   obtain ⟨u, hu, hq⟩ := hpe
   rw [h1]
   simp only [Option.isNone_some, cond_false]
   rw [whole_spec hT hG hq, Option.bind_some, ← hG.bound v u hu]
   unfold cutW
   rw [Tm.codes_len]
   by_cases hs : (σ v).size ≤ 48
   ·rw [if_pos hs]
    simp only [Option.isNone_some, cond_false, Option.getD_some]
    rw [slices_CloneN_eq (by rw [Tm.codes_len]; omega), Option.bind_some, room_ok (by simp only [List.length_singleton]; omega), cond_true, key _ (by simp only [List.length_append, List.length_singleton]; omega)]
    have hb : isBd B v = true := by simp [isBd, hu]
    simp [bindsFrom, shortIn, hb, hs]
   ·rw [if_neg hs]
    simp only [Option.isNone_none, cond_true]
    simp [shortIn, hs]
end
structure Mgu (σ : Sb) (E : List (Tm × Tm)) : Prop where
 sol : Sol σ E
 gen : ∀ θ, Sol θ E → ∀ x, (σ x).sub θ = θ x
 le : ∀ x y, σ x = .v y → y ≤ x
 idem : ∀ x, (σ x).sub σ = σ x
theorem Mgu.of {B : Bd} {σ : Sb} {E : List (Tm × Tm)} (hG : Good B σ) (h : ∀ θ, SolB θ B ↔ SolB θ (fun _ => none) ∧ Sol θ E) : Mgu σ E where
 sol := ((h σ).1 hG.bound).2
 gen := fun θ hθ => hG.fac ((h θ).2 ⟨fun _ _ h => (nomatch h), hθ⟩)
 le := hG.le
 idem := fun x => by rw [← hG.fac hG.bound x]; exact hG.idem _
def moved (σ : Sb) (v : Nat) : Bool := match σ v with
 | .v y => !(y == v)
 | .f _ _ => true
theorem isBd_eq {B : Bd} {σ : Sb} (h : Good B σ) (v : Nat) : isBd B v = moved σ v := by
 have := h.moved (x := v)
 unfold isBd moved
 cases hb : B v with
 | none =>
  rw [h.free v hb]
  simp
 | some t =>
  have h1 := this.1 (by rw [hb]; simp)
  cases hs : σ v with
  | f c as => rfl
  | v y =>
   rw [hs] at h1
   have : y ≠ v := fun e => h1 (by rw [e])
   simp [this]
def bindsL (σ : Sb) : List (Int × List Int) := ((List.range 24).filter (moved σ)).map fun v : Nat => ((v : Int), (σ v).codes)
theorem rep0 (a0 : List QSym) (N : Nat) : RepT a0 N to0 (fun _ => none) where
 len := by simp [to0]
 at_ := fun x e h => by
  have hx : x < 48 := by
   have := (List.getElem?_eq_some_iff.1 h).1
   simpa [to0] using this
  rw [to0_get hx] at h
  injection h with h
  rw [← h]
  rfl
 out := fun _ _ => rfl
theorem unify_spec {a0 : List QSym} {xs ys : List Int} {ts us : List Tm} (hs : SignOk a0) (hx : xs = codesR ts) (hy : ys = codesR us) (ht : okR a0 24 ts) (hu : okR a0 24 us) (hb : signB a0 = true) (hlx : xs.length ≤ 48) (hly : ys.length ≤ 48) :
  (unify_Unify a0 xs ys = some (false, 0, []) ∧ (ts.length ≠ us.length ∨ ∀ θ, ¬ Sol θ (ts.zip us))) ∨
  (ts.length = us.length ∧ ∃ σ, Mgu σ (ts.zip us) ∧ (∀ x, x < 24 → (σ x).ok a0 24) ∧ unify_Unify a0 xs ys = some (cond (shortIn σ (List.range 24)) (true, 0, bindsL σ) (false, 401, []))) := by
 have hr : ∀ {zs : List Int} {ws : List Tm}, zs = codesR ws → okR a0 24 ws → zs.length ≤ 48 → rowW a0 zs = some ws.length := by
  intro zs ws h1 h2 h3
  unfold rowW beginsB
  rw [hb, decide_eq_true h3, h1, cuts_codes ws h2]
  simp
 unfold unify_Unify
 rw [term_Row_eq, hr hx ht hlx, Option.bind_some, term_Row_eq, hr hy hu hly, Option.bind_some]
 simp only
 rw [show ((0 : Int) != 0) = false from rfl, cond_false, cond_false]
 by_cases hl : ts.length = us.length
 ·rw [hl, show (((us.length : Nat) : Int) != ((us.length : Nat) : Int)) = false from by simp, cond_false]
  obtain ⟨r, h1, h2, h3⟩ := same_spec hs (N := 0) (by omega) (rep0 a0 0) Good.empty (p := xs) (q := ys) (d := 0) (e := 0) (ts := ts) (us := us)
   ⟨ts, 0, ht, hx, rfl, Nat.le_refl _, by rw [show Tm.up 0 = id from funext Tm.up_zero, List.map_id], hlx⟩ ⟨us, 0, hu, hy, rfl, Nat.le_refl _, by rw [show Tm.up 0 = id from funext Tm.up_zero, List.map_id], hly⟩ hl
  have h1 : unify_run_same_1 xs 0 ys 0 a0 (List.replicate 48 ((none : Option (List Int)), (0 : Int))) = some r := h1
  rw [h1, Option.bind_some]
  rcases h3 with ⟨h3, h4⟩ | ⟨h3, B', h4, ⟨σ, h5⟩, -, h6⟩
  ·rw [h3]
   exact .inl ⟨rfl, .inr fun θ h => h4 θ (fun _ _ h => (nomatch h)) h⟩
  ·rw [h3]
   have hok : ∀ x, x < 24 → (σ x).ok a0 24 := by
    refine h5.ind (fun x hx hlt => by rw [h5.free x hx]; exact hlt) fun x t hx ih _ => ?_
    have hto : Pc a0 0 t.codes 0 t := by
     obtain ⟨e, he, hpe⟩ := h4.get (x := x) (h4.small x t hx).1
     unfold PcO at hpe
     split at hpe
     ·rw [hx] at hpe; cases hpe
     ·obtain ⟨u, hu, hq⟩ := hpe
      rw [hx] at hu; injection hu with hu; subst hu
      obtain ⟨u0, n, g1, g2, g3, g4, g5, g6⟩ := hq
      have : n = 0 := by omega
      subst this
      rw [Tm.up_zero] at g5
      subst g5
      exact ⟨t, 0, g1, rfl, rfl, Nat.le_refl _, (Tm.up_zero t).symm, by rw [← g2]; exact g6⟩
    obtain ⟨u0, n, g1, g2, g3, g4, g5, g6⟩ := hto
    have : n = 0 := by omega
    subst this
    rw [Tm.up_zero] at g5
    subst g5
    rw [h5.bound x t hx]
    exact Tm.ok_sub t g1 fun y hy => ih y hy (Tm.ok_has t g1 hy)
   refine .inr ⟨rfl, σ, Mgu.of h5 h6, hok, ?_⟩
   simp only [Bool.not_true, cond_false]
   have := unify_round (a0 := r.2.1) (by rw [h2]; exact h4) h5 24 0 fuel [] rfl (by omega) (by unfold fuel; omega) (by simp)
   rw [show ((0 : Nat) : Int) = 0 from rfl] at this
   rw [this, List.drop_zero]
   have he : bindsFrom B' σ (List.range 24) = bindsL σ := by
    unfold bindsFrom bindsL
    rw [show isBd B' = moved σ from funext (isBd_eq h5)]
   cases shortIn σ (List.range 24) with
   | true => simp only [cond_true, Option.bind_some, caseS_inl, List.nil_append, he]
   | false => rfl
 ·rw [show (((ts.length : Nat) : Int) != ((us.length : Nat) : Int)) = true from by simp; omega, cond_true]
  exact .inl ⟨rfl, .inl hl⟩
end
end Go.Abs.Q
namespace Go.Abs.Q
open Go Go.Abs
section
theorem wrap64u {n : Int} (h1 : 0 ≤ n) (h2 : n ≤ 9223372036854775807) : IntKind.wrap .u64 n = n := by
 simp [IntKind.wrap, IntKind.signed, IntKind.bits]
 omega
theorem mid_eq {l h : Nat} (hl : l + h ≤ 1000000000) : IntKind.wrap .i64 (Int.fdiv (IntKind.wrap .u64 (IntKind.wrap .i64 ((l : Int) + (h : Int)))) (2 ^ min (Int.toNat 1) (IntKind.bits .u64))) = (((l + h) / 2 : Nat) : Int) := by
 rw [wrap64 (n := (l : Int) + (h : Int)) (by omega) (by omega), wrap64u (by omega) (by omega)]
 have : (2 : Int) ^ min (Int.toNat 1) (IntKind.bits .u64) = 2 := by decide
 rw [this, Int.fdiv_eq_ediv_of_nonneg _ (by omega)]
 rw [wrap64] <;> omega
theorem cmp_Less_eq (a b : Int) : cmp_Less a b = some (decide (a < b)) := by
 unfold cmp_Less cmp_isNaN
 simp
abbrev Rise (xs : List Int) : Prop := xs.Pairwise (· < ·)
theorem Rise.lt {xs : List Int} (h : Rise xs) {i j : Nat} {x y : Int} (hi : xs[i]? = some x) (hj : xs[j]? = some y) (hij : i < j) : x < y := by
 obtain ⟨h1, rfl⟩ := List.getElem?_eq_some_iff.1 hi
 obtain ⟨h2, rfl⟩ := List.getElem?_eq_some_iff.1 hj
 exact List.pairwise_iff_getElem.1 h i j h1 h2 hij
theorem bs_round {xs : List Int} (h : Rise xs) (hl : xs.length ≤ 1000000) (t : Int) (z : Int) : ∀ (m l r k : Nat), r - l = m → l ≤ r → r ≤ xs.length → m < k → (∀ (i : Nat) x, xs[i]? = some x → i < l → x < t) → (∀ (i : Nat) x, xs[i]? = some x → r ≤ i → t ≤ x) →
  ∃ q : Nat, lp slices_BinarySearch_L0 k (xs, t, z, (l : Int), (r : Int)) = some (q : Int) ∧ q ≤ xs.length ∧ (∀ (i : Nat) x, xs[i]? = some x → i < q → x < t) ∧ ∀ (i : Nat) x, xs[i]? = some x → q ≤ i → t ≤ x := by
 intro m
 induction m using Nat.strongRecOn with
 | _ m ih =>
  intro l r k hm hlr hr hk h1 h2
  obtain ⟨k, rfl⟩ : ∃ k', k = k' + 1 := ⟨k - 1, by omega⟩
  rw [lp_succ]
  have key := fun l r (h3 : r - l < m) h4 h5 h6 h7 => ih (r - l) h3 l r k rfl h4 h5 (by omega) h6 h7
  generalize lp slices_BinarySearch_L0 k = rec at key ⊢
  unfold slices_BinarySearch_L0
  by_cases hlt : l < r
  ·have hml : (l + r) / 2 < xs.length := by omega
   simp only [decide_eq_true (show (l : Int) < (r : Int) by omega), cond_true, mid_eq (show l + r ≤ 1000000000 by omega), gx_nat, List.getElem?_eq_getElem hml, Option.bind_some, cmp_Less_eq]
   have hget := List.getElem?_eq_getElem hml
   have w : IntKind.wrap .i64 ((((l + r) / 2 : Nat) : Int) + 1) = (((l + r) / 2 + 1 : Nat) : Int) := by rw [wrap64] <;> omega
   by_cases hc : xs[(l + r) / 2] < t
   ·rw [decide_eq_true hc, cond_true, w]
    refine key ((l + r) / 2 + 1) r (by omega) (by omega) hr (fun i x hi hil => ?_) h2
    rcases Nat.lt_or_ge i ((l + r) / 2) with hi2 | hi2
    ·have := h.lt hi hget hi2; omega
    ·have : i = (l + r) / 2 := by omega
     subst this
     rw [hget] at hi; injection hi with hi; omega
   ·rw [decide_eq_false hc, cond_false]
    refine key l ((l + r) / 2) (by omega) (by omega) (by omega) h1 (fun i x hi hil => ?_)
    rcases Nat.lt_or_ge ((l + r) / 2) i with hi2 | hi2
    ·have := h.lt hget hi hi2; omega
    ·have : i = (l + r) / 2 := by omega
     subst this
     rw [hget] at hi; injection hi with hi; omega
  ·rw [decide_eq_false (show ¬ ((l : Int) < (r : Int)) by omega), cond_false]
   have : l = r := by omega
   subst this
   exact ⟨l, rfl, hr, h1, h2⟩
theorem bs_spec {xs : List Int} (h : Rise xs) (hl : xs.length ≤ 1000000) (t : Int) : ∃ (q : Nat) (b : Bool), slices_BinarySearch xs t = some ((q : Int), b) ∧ q ≤ xs.length ∧ (∀ (i : Nat) x, xs[i]? = some x → i < q → x < t) ∧ (∀ (i : Nat) x, xs[i]? = some x → q ≤ i → t ≤ x) ∧ (b = true ↔ t ∈ xs) := by
 obtain ⟨q, h1, h2, h3, h4⟩ := bs_round h hl t ((xs.length : Nat) : Int) xs.length 0 xs.length fuel rfl (Nat.zero_le _) (Nat.le_refl _) (by unfold fuel; omega) (fun i x _ h => by omega) (fun i x hi h => by
  have := (List.getElem?_eq_some_iff.1 hi).1; omega)
 have h1 : lp slices_BinarySearch_L0 fuel (xs, t, ((xs.length : Nat) : Int), 0, ((xs.length : Nat) : Int)) = some (q : Int) := h1
 unfold slices_BinarySearch
 rw [h1, Option.bind_some]
 by_cases hq : q < xs.length
 ·rw [decide_eq_true (show ((q : Int) < ((xs.length : Nat) : Int)) by omega), cond_true, gx_nat, List.getElem?_eq_getElem hq, Option.bind_some]
  have hget := List.getElem?_eq_getElem hq
  by_cases he : xs[q] = t
  ·rw [show (xs[q] == t) = true from by simp [he], cond_true]
   exact ⟨q, true, rfl, h2, h3, h4, by simp only [true_iff]; rw [← he]; exact List.getElem_mem hq⟩
  ·rw [show (xs[q] == t) = false from by simp [he], cond_false, Option.bind_some]
   have hn : slices_isNaN xs[q] = some false := by unfold slices_isNaN; simp
   rw [hn, Option.bind_some, cond_false]
   refine ⟨q, false, rfl, h2, h3, h4, ?_⟩
   constructor
   ·intro h; cases h
   ·intro hm
    exfalso
    obtain ⟨i, hi⟩ := List.mem_iff_getElem?.1 hm
    rcases Nat.lt_trichotomy i q with h5 | h5 | h5
    ·have := h3 i t hi h5; omega
    ·subst h5; rw [hget] at hi; injection hi with hi; exact he hi
    ·have := h.lt hget hi h5
     have := h4 q _ hget (Nat.le_refl _)
     omega
 ·rw [decide_eq_false (show ¬ ((q : Int) < ((xs.length : Nat) : Int)) by omega), cond_false]
  refine ⟨q, false, rfl, h2, h3, h4, ?_⟩
  constructor
  ·intro h; cases h
  ·intro hm
   exfalso
   obtain ⟨i, hi⟩ := List.mem_iff_getElem?.1 hm
   have := h3 i t hi (by have := (List.getElem?_eq_some_iff.1 hi).1; omega)
   omega
theorem insert_rise {xs : List Int} (h : Rise xs) {q : Nat} {t : Int} (hq : q ≤ xs.length) (h1 : ∀ (i : Nat) x, xs[i]? = some x → i < q → x < t) (h2 : ∀ (i : Nat) x, xs[i]? = some x → q ≤ i → t ≤ x) (h3 : t ∉ xs) : Rise (insAt xs q [t]) := by
 unfold insAt Rise
 have ht : ∀ x ∈ xs.take q, x < t := fun x hx => by
  obtain ⟨i, hi⟩ := List.mem_iff_getElem?.1 hx
  rw [List.getElem?_take] at hi
  split at hi
  ·exact h1 i x hi (by assumption)
  ·cases hi
 have hd : ∀ x ∈ xs.drop q, t < x := fun x hx => by
  obtain ⟨i, hi⟩ := List.mem_iff_getElem?.1 hx
  rw [List.getElem?_drop] at hi
  have h4 := h2 _ x hi (by omega)
  have : x ≠ t := fun e => h3 (e ▸ List.mem_of_getElem? hi)
  omega
 rw [List.pairwise_append]
 refine ⟨h.sublist (List.take_sublist ..), ?_, fun x hx y hy => ?_⟩
 ·rw [List.singleton_append, List.pairwise_cons]
  exact ⟨hd, h.sublist (List.drop_sublist ..)⟩
 ·have h5 := ht x hx
  rcases List.mem_append.1 hy with hy | hy
  ·rw [List.mem_singleton.1 hy]; exact h5
  ·have := hd y hy; omega
theorem mem_insAt {xs : List Int} {q : Nat} {t x : Int} : x ∈ insAt xs q [t] ↔ x ∈ xs ∨ x = t := by
 unfold insAt
 simp only [List.mem_append, List.mem_singleton]
 constructor
 ·rintro (h | h | h)
  ·exact .inl (List.mem_of_mem_take h)
  ·exact .inr h
  ·exact .inl (List.mem_of_mem_drop h)
 ·rintro (h | h)
  ·rw [← List.take_append_drop q xs] at h
   rcases List.mem_append.1 h with h | h
   ·exact .inl h
   ·exact .inr (.inr h)
  ·exact .inr (.inl h)
def VarC (r : List Int) (x : Int) : Prop := ∃ c ∈ r, c < 0 ∧ x = -1 - c
theorem seen_go : (es vs : List Int) → Rise vs → vs.length + es.length ≤ 1000000 → (∀ c ∈ es, -1000000 ≤ c ∧ c ≤ 1000000) → ∃ ws, term_Seen_1_L0_go es vs = some ws ∧ Rise ws ∧ (∀ x, x ∈ ws ↔ x ∈ vs ∨ VarC es x) ∧ ws.length ≤ vs.length + es.length
 | [], vs, h, _, _ => ⟨vs, rfl, h, fun x => ⟨.inl, fun h => h.elim (fun h => h) fun ⟨c, hc, _⟩ => (nomatch hc)⟩, Nat.le_refl _⟩
 | e :: es, vs, h, hl, hc => by
  rw [List.length_cons] at hl
  have he := hc e (List.mem_cons_self ..)
  have hc' : ∀ c ∈ es, -1000000 ≤ c ∧ c ≤ 1000000 := fun c h => hc c (List.mem_cons_of_mem _ h)
  unfold term_Seen_1_L0_go
  by_cases h0 : e ≥ 0
  ·rw [decide_eq_true h0, cond_true]
   obtain ⟨ws, h1, h2, h3, h4⟩ := seen_go es vs h (by omega) hc'
   refine ⟨ws, h1, h2, fun x => (h3 x).trans ?_, by rw [List.length_cons]; omega⟩
   constructor
   ·rintro (h5 | ⟨c, h5, h6⟩)
    ·exact .inl h5
    ·exact .inr ⟨c, List.mem_cons_of_mem _ h5, h6⟩
   ·rintro (h5 | ⟨c, h5, h6, h7⟩)
    ·exact .inl h5
    ·rcases List.mem_cons.1 h5 with rfl | h5
     ·omega
     ·exact .inr ⟨c, h5, h6, h7⟩
  ·rw [decide_eq_false h0, cond_false, term_Number_eq (by omega) (by omega), Option.bind_some]
   obtain ⟨q, b, h1, h2, h3, h4, h5⟩ := bs_spec h (by omega) (-1 - e)
   rw [h1, Option.bind_some]
   have fin : ∀ {vs' : List Int}, (∀ x, x ∈ vs' ↔ x ∈ vs ∨ x = -1 - e) → ∀ x, (x ∈ vs' ∨ VarC es x) ↔ (x ∈ vs ∨ VarC (e :: es) x) := by
    intro vs' hv x
    rw [hv x]
    constructor
    ·rintro ((h6 | h6) | ⟨c, h6, h7⟩)
     ·exact .inl h6
     ·exact .inr ⟨e, List.mem_cons_self .., by omega, h6⟩
     ·exact .inr ⟨c, List.mem_cons_of_mem _ h6, h7⟩
    ·rintro (h6 | ⟨c, h6, h7, h8⟩)
     ·exact .inl (.inl h6)
     ·rcases List.mem_cons.1 h6 with rfl | h6
      ·exact .inl (.inr h8)
      ·exact .inr ⟨c, h6, h7, h8⟩
   cases b with
   | true =>
    simp only [Bool.not_true, cond_false]
    obtain ⟨ws, h6, h7, h8, h9⟩ := seen_go es vs h (by omega) hc'
    refine ⟨ws, h6, h7, fun x => (h8 x).trans (fin (fun x => ⟨.inl, fun h => h.elim (fun h => h) fun h => ?_⟩) x), by rw [List.length_cons]; omega⟩
    rw [h]
    exact h5.1 rfl
   | false =>
    simp only [Bool.not_false, cond_true, Option.bind_some]
    have hn : -1 - e ∉ vs := fun h => by have := h5.2 h; cases this
    have hi : slices_Insert (q : Int) vs [-1 - e] = some (insAt vs q [-1 - e]) := by
     unfold slices_Insert insF
     rw [room_ok (by simp; omega)]
     have e1 : nneg (q : Int) = true := by simp [nneg]
     have e2 : decide ((q : Int) ≤ (List.length vs : Int)) = true := by simp; omega
     have e3 : posI ((List.length [-1 - e] : Nat) : Int) = true := by simp [posI]
     rw [e1, e2, e3, Int.toNat_natCast]
     rfl
    rw [hi, Option.bind_some]
    have hlen : (insAt vs q [-1 - e]).length = vs.length + 1 := insAt_length vs _ h2
    obtain ⟨ws, h6, h7, h8, h9⟩ := seen_go es (insAt vs q [-1 - e]) (insert_rise h h2 h3 h4 hn) (by omega) hc'
    exact ⟨ws, h6, h7, fun x => (h8 x).trans (fin (fun x => mem_insAt) x), by rw [List.length_cons]; omega⟩
theorem seen_spec {r vs : List Int} (h : Rise vs) (hl : vs.length + r.length ≤ 1000000) (hc : ∀ c ∈ r, -1000000 ≤ c ∧ c ≤ 1000000) : ∃ ws, term_Seen_1 r vs = some ws ∧ Rise ws ∧ (∀ x, x ∈ ws ↔ x ∈ vs ∨ VarC r x) ∧ ws.length ≤ vs.length + r.length := by
 obtain ⟨ws, h1, h2⟩ := seen_go r vs h hl hc
 refine ⟨ws, ?_, h2⟩
 unfold term_Seen_1
 rw [term_Seen_1_L0_go_at0 _ _ (by unfold maxLen; omega), h1]
 rfl
def VarR (rs : List (List Int)) (x : Int) : Prop := ∃ r ∈ rs, VarC r x
theorem VarR_cons {r : List Int} {rs : List (List Int)} {x : Int} : VarR (r :: rs) x ↔ VarC r x ∨ VarR rs x := by simp [VarR]
theorem VarR_append {rs ss : List (List Int)} {x : Int} : VarR (rs ++ ss) x ↔ VarR rs x ∨ VarR ss x := by
 simp only [VarR, List.mem_append]
 constructor
 ·rintro ⟨r, h | h, h2⟩
  ·exact .inl ⟨r, h, h2⟩
  ·exact .inr ⟨r, h, h2⟩
 ·rintro (⟨r, h, h2⟩ | ⟨r, h, h2⟩)
  ·exact ⟨r, .inl h, h2⟩
  ·exact ⟨r, .inr h, h2⟩
theorem sumLen_cons (r : List Int) (rs : List (List Int)) : sumLen (r :: rs) = r.length + sumLen rs := by simp [sumLen]
theorem sumLen_append (rs ss : List (List Int)) : sumLen (rs ++ ss) = sumLen rs + sumLen ss := by simp [sumLen]
theorem vars_L0 : (es : List QLit) → (vs : List Int) → Rise vs → vs.length + sumLen (es.map (·.2)) ≤ 1000000 → (∀ l ∈ es, NearR l.2) →
  ∃ ws, clause_Vars_L0_go es vs = some ws ∧ Rise ws ∧ (∀ x, x ∈ ws ↔ x ∈ vs ∨ VarR (es.map (·.2)) x) ∧ ws.length ≤ vs.length + sumLen (es.map (·.2))
 | [], vs, h, _, _ => ⟨vs, rfl, h, fun x => ⟨.inl, fun h => h.elim (fun h => h) fun ⟨c, hc, _⟩ => (nomatch hc)⟩, by simp [sumLen]⟩
 | e :: es, vs, h, hl, hn => by
  rw [List.map_cons, sumLen_cons] at hl
  unfold clause_Vars_L0_go
  obtain ⟨ws, h1, h2, h3, h4⟩ := seen_spec h (r := e.2) (by omega) (hn e (List.mem_cons_self ..)).2
  rw [h1, Option.bind_some]
  obtain ⟨xs, h5, h6, h7, h8⟩ := vars_L0 es ws h2 (by omega) fun l hl => hn l (List.mem_cons_of_mem _ hl)
  refine ⟨xs, h5, h6, fun x => ?_, by rw [List.map_cons, sumLen_cons]; omega⟩
  rw [h7 x, h3 x, List.map_cons, VarR_cons, or_assoc]
theorem vars_L1 : (es : List (List Int)) → (vs : List Int) → Rise vs → vs.length + sumLen es ≤ 1000000 → (∀ l ∈ es, NearR l) →
  ∃ ws, clause_Vars_L1_go es vs = some ws ∧ Rise ws ∧ (∀ x, x ∈ ws ↔ x ∈ vs ∨ VarR es x) ∧ ws.length ≤ vs.length + sumLen es
 | [], vs, h, _, _ => ⟨vs, rfl, h, fun x => ⟨.inl, fun h => h.elim (fun h => h) fun ⟨c, hc, _⟩ => (nomatch hc)⟩, by simp [sumLen]⟩
 | e :: es, vs, h, hl, hn => by
  rw [sumLen_cons] at hl
  unfold clause_Vars_L1_go
  obtain ⟨ws, h1, h2, h3, h4⟩ := seen_spec h (r := e) (by omega) (hn e (List.mem_cons_self ..)).2
  rw [h1, Option.bind_some]
  obtain ⟨xs, h5, h6, h7, h8⟩ := vars_L1 es ws h2 (by omega) fun l hl => hn l (List.mem_cons_of_mem _ hl)
  refine ⟨xs, h5, h6, fun x => ?_, by rw [sumLen_cons]; omega⟩
  rw [h7 x, h3 x, VarR_cons, or_assoc]
def rowsOf (L : List QLit) (T : List (List Int)) (C : List QLit) : List (List Int) := L.map (·.2) ++ C.map (·.2) ++ T
theorem clause_Vars_spec {a0 : List QSym} (hs : SignOk a0) {L : List QLit} {T : List (List Int)} {C : List QLit} (h : mayB a0 L T C = true) : ∃ ws, clause_Vars a0 L T C = some (0, ws) ∧ Rise ws ∧ ∀ x, x ∈ ws ↔ VarR (rowsOf L T C) x := by
 obtain ⟨-, h1, h2, h3, h4, h5, h6, h7⟩ := mayB_spec h
 have n1 := litsB_near hs h4
 have n2 := rowsB_near hs h5
 have n3 := litsB_near hs h6
 unfold clause_Vars
 rw [clause_May_eq, Option.bind_some, h]
 simp only [Bool.not_true, cond_false]
 rw [slices_Concat2L_eq (by omega), Option.bind_some, clause_Vars_L0_go_at0 _ _ _ _ _ (by unfold maxLen; simp; omega)]
 obtain ⟨ws, h8, h9, h10, h11⟩ := vars_L0 (L ++ C) [] List.Pairwise.nil (by rw [List.map_append, sumLen_append]; simp; omega) (fun l hl => (List.mem_append.1 hl).elim (n1 l) (n3 l))
 rw [h8, Option.bind_some, clause_Vars_L1_go_at0 _ _ (by unfold maxLen; omega)]
 rw [List.map_append, sumLen_append] at h11
 obtain ⟨xs, h12, h13, h14, -⟩ := vars_L1 T ws h9 (by simp at h11; omega) n2
 rw [h12]
 refine ⟨xs, rfl, h13, fun x => ?_⟩
 rw [h14 x, h10 x, List.map_append]
 unfold rowsOf
 rw [VarR_append, VarR_append, VarR_append]
 simp
def upC (by_ : Int) (c : Int) : Int := cond (decide (c < 0)) (c - by_) c
def upLs (b : Int) (ls : List QLit) : List QLit := ls.map fun l => (l.1, l.2.map (upC b))
theorem shift_round (b : Int) (hb : 0 ≤ b ∧ b ≤ 1000) : (es done : List Int) → (k : Nat) → es.length < k → done.length + es.length ≤ 1000000 → (∀ c ∈ es, -1000000 ≤ c ∧ c ≤ 1000000) →
  lp clause_Shift_c1_L0 k (((done.length + es.length : Nat) : Int), (done.length : Int), b, done ++ es) = some (done ++ es.map (upC b))
 | [], done, k, hk, hl, hc => by
  obtain ⟨k, rfl⟩ : ∃ k', k = k' + 1 := ⟨k - 1, by omega⟩
  rw [lp_succ]
  generalize lp clause_Shift_c1_L0 k = rec
  unfold clause_Shift_c1_L0
  simp
 | e :: es, done, k, hk, hl, hc => by
  obtain ⟨k, rfl⟩ : ∃ k', k = k' + 1 := ⟨k - 1, by omega⟩
  rw [lp_succ]
  have he := hc e (List.mem_cons_self ..)
  have hl' : done.length + (es.length + 1) ≤ 1000000 := hl
  have key := fun e' => shift_round b hb es (done ++ [e']) k (Nat.lt_of_succ_lt_succ hk) (by simp; omega) (fun c hx => hc c (List.mem_cons_of_mem _ hx))
  generalize lp clause_Shift_c1_L0 k = rec at key ⊢
  unfold clause_Shift_c1_L0
  have e1 : decide (((done.length : Nat) : Int) < ((done.length + (e :: es).length : Nat) : Int)) = true := by rw [decide_eq_true_eq, List.length_cons]; omega
  have e2 : inR ((done.length : Nat) : Int) (List.length (done ++ e :: es)) = some done.length := inR_nat (by simp)
  have e3 : IntKind.wrap .i64 (((done.length : Nat) : Int) + 1) = ((done.length + 1 : Nat) : Int) := by rw [wrap64] <;> omega
  have key2 := fun e' => by
   have := key e'
   rw [List.append_assoc, List.length_append, List.length_singleton, Nat.add_assoc, Nat.add_comm 1 es.length] at this
   exact this
  simp only [e1, cond_true, e2, Option.bind_some, get_mid, e3]
  by_cases h0 : e < 0
  ·have hu : upC b e = e - b := by unfold upC; rw [decide_eq_true h0]; rfl
   have w : IntKind.wrap .i64 (e - b) = e - b := by rw [wrap64] <;> omega
   rw [decide_eq_true h0, cond_true, w]
   have hset : (done ++ e :: es).set done.length (e - b) = done ++ (e - b) :: es := by
    rw [List.set_append_right _ _ (Nat.le_refl _), Nat.sub_self]; rfl
   rw [hset, List.map_cons, hu]
   have := key2 (e - b)
   exact this.trans (by simp)
  ·have hu : upC b e = e := by unfold upC; rw [decide_eq_false h0]; rfl
   rw [decide_eq_false h0, cond_false, List.map_cons, hu]
   have := key2 e
   exact this.trans (by simp)
theorem shift_eq {b : Int} (hb : 0 ≤ b ∧ b ≤ 1000) {r : List Int} (hn : NearR r) : clause_Shift_c1 r b = some (r.map (upC b)) := by
 unfold clause_Shift_c1
 rw [slices_CloneN_eq (by have := hn.1; omega), Option.bind_some]
 have := shift_round b hb r [] fuel (by have := hn.1; unfold fuel; omega) (by have := hn.1; simp; omega) hn.2
 simp only [List.length_nil, Nat.zero_add, List.nil_append] at this
 have h0 : ((0 : Nat) : Int) = 0 := rfl
 rw [h0] at this
 rw [this]
 rfl
theorem eachUp_L0 {b : Int} (hb : 0 ≤ b ∧ b ≤ 1000) : (es out : List QLit) → (∀ l ∈ es, NearR l.2) → out.length + es.length ≤ 1000000 → clause_each_2_L0_go b es out = some (out ++ upLs b es)
 | [], out, _, _ => by simp [clause_each_2_L0_go, upLs]
 | e :: es, out, hn, hl => by
  rw [List.length_cons] at hl
  unfold clause_each_2_L0_go
  rw [shift_eq hb (hn e (List.mem_cons_self ..)), Option.bind_some, room_ok (show (out.length + ([(e.1, e.2.map (upC b))] : List QLit).length) * 32 ≤ 140737488351232 by simp; omega), cond_true,
   eachUp_L0 hb es _ (fun l hl => hn l (List.mem_cons_of_mem _ hl)) (by simp; omega)]
  simp [upLs]
theorem eachUp_L1 {b : Int} (hb : 0 ≤ b ∧ b ≤ 1000) (s7 : List QLit) : (es out : List (List Int)) → (∀ l ∈ es, NearR l) → out.length + es.length ≤ 1000000 → clause_each_2_L1_go b s7 es out = some (s7, out ++ es.map (List.map (upC b)))
 | [], out, _, _ => by simp [clause_each_2_L1_go]
 | e :: es, out, hn, hl => by
  rw [List.length_cons] at hl
  unfold clause_each_2_L1_go
  rw [shift_eq hb (hn e (List.mem_cons_self ..)), Option.bind_some, room_ok (show (out.length + ([e.map (upC b)] : List (List Int)).length) * 24 ≤ 140737488351232 by simp; omega), cond_true,
   eachUp_L1 hb s7 es _ (fun l hl => hn l (List.mem_cons_of_mem _ hl)) (by simp; omega)]
  simp
theorem eachUp_L2 {b : Int} (hb : 0 ≤ b ∧ b ≤ 1000) (s4 : List QLit) (s5 : List (List Int)) : (es out : List QLit) → (∀ l ∈ es, NearR l.2) → out.length + es.length ≤ 1000000 → clause_each_2_L2_go b s4 s5 es out = some (s4, s5, out ++ upLs b es)
 | [], out, _, _ => by simp [clause_each_2_L2_go, upLs]
 | e :: es, out, hn, hl => by
  rw [List.length_cons] at hl
  unfold clause_each_2_L2_go
  rw [shift_eq hb (hn e (List.mem_cons_self ..)), Option.bind_some, room_ok (show (out.length + ([(e.1, e.2.map (upC b))] : List QLit).length) * 32 ≤ 140737488351232 by simp; omega), cond_true,
   eachUp_L2 hb s4 s5 es _ (fun l hl => hn l (List.mem_cons_of_mem _ hl)) (by simp; omega)]
  simp [upLs]
theorem clause_Shift_eq {b : Int} (hb : 0 ≤ b ∧ b ≤ 1000) {L : List QLit} {T : List (List Int)} {C : List QLit} (hL : ∀ l ∈ L, NearR l.2) (hT : ∀ l ∈ T, NearR l) (hC : ∀ l ∈ C, NearR l.2) (h1 : L.length ≤ 1000) (h2 : T.length ≤ 1000) (h3 : C.length ≤ 1000) :
  clause_Shift L T C b = some (upLs b L, T.map (List.map (upC b)), upLs b C) := by
 unfold clause_Shift clause_each_2
 rw [clause_each_2_L0_go_at0 _ _ _ _ _ _ (by unfold maxLen; omega), eachUp_L0 hb L [] hL (by simp; omega), Option.bind_some,
  clause_each_2_L1_go_at0 _ _ _ _ _ _ _ (by unfold maxLen; omega), eachUp_L1 hb _ T [] hT (by simp; omega), Option.bind_some,
  clause_each_2_L2_go_at0 _ _ _ _ _ (by unfold maxLen; omega), eachUp_L2 hb _ _ C [] hC (by simp; omega), Option.bind_some]
 simp
def TopV (rs : List (List Int)) (m : Int) : Prop := (∀ x, VarR rs x → x < m) ∧ (m = 0 ∨ VarR rs (m - 1))
theorem top_of {ws : List Int} {rs : List (List Int)} (h : Rise ws) (hm : ∀ x, x ∈ ws ↔ VarR rs x) : (ws = [] ∧ TopV rs 0) ∨ ∃ x, ws[ws.length - 1]? = some x ∧ 0 < ws.length ∧ TopV rs (x + 1) := by
 cases hw : ws with
 | nil => exact .inl ⟨rfl, ⟨fun x hx => (by have := (hm x).2 hx; rw [hw] at this; cases this), .inl rfl⟩⟩
 | cons w ws' =>
  rw [← hw]
  have hl : 0 < ws.length := by rw [hw]; simp
  refine .inr ⟨ws[ws.length - 1], List.getElem?_eq_getElem (by omega), hl, ⟨fun x hx => ?_, .inr ?_⟩⟩
  ·obtain ⟨i, hi⟩ := List.mem_iff_getElem?.1 ((hm x).2 hx)
   have hil := (List.getElem?_eq_some_iff.1 hi).1
   rcases Nat.lt_or_ge i (ws.length - 1) with h1 | h1
   ·have := h.lt hi (List.getElem?_eq_getElem (show ws.length - 1 < ws.length by omega)) h1; omega
   ·have : i = ws.length - 1 := by omega
    subst this
    rw [List.getElem?_eq_getElem (by omega)] at hi
    injection hi with hi; omega
  ·rw [show ws[ws.length - 1] + 1 - 1 = ws[ws.length - 1] from by omega]
   exact (hm _).1 (List.getElem_mem _)
end
end Go.Abs.Q
namespace Go.Abs.Q
open Go Go.Abs
section
def subCs (s : Sb) (r : List Int) : List Int := r.flatMap (expC s)
theorem look_binds (σ : Sb) (v : Nat) : (vs : List Nat) → lookB ((vs.filter (moved σ)).map fun v : Nat => ((v : Int), (σ v).codes)) (v : Int) = if v ∈ vs ∧ moved σ v = true then some (σ v).codes else none
 | [] => by simp [lookB]
 | w :: vs => by
  have ih := look_binds σ v vs
  cases hm : moved σ w with
  | false =>
   rw [List.filter_cons_of_neg (by simp [hm]), ih]
   by_cases hv : v = w
   ·subst hv
    simp [hm]
   ·simp [hv]
  | true =>
   rw [List.filter_cons_of_pos hm, List.map_cons]
   unfold lookB at ih ⊢
   rw [List.find?_cons]
   by_cases hv : v = w
   ·subst hv
    simp [hm]
   ·rw [show (((w : Nat) : Int) == (v : Int)) = false from by simp; omega, ih]
    simp [hv]
theorem onB_sub {σ : Sb} {r : List Int} (h : ∀ c ∈ r, -24 ≤ c) : onB (bindsL σ) r = subCs σ r := by
 unfold onB subCs
 induction r with
 | nil => rfl
 | cons c r ih =>
  rw [List.flatMap_cons, List.flatMap_cons, ih fun c hc => h c (List.mem_cons_of_mem _ hc)]
  congr 1
  have hc := h c (List.mem_cons_self ..)
  unfold onC expC
  by_cases h0 : c ≥ 0
  ·rw [decide_eq_true h0, cond_true, if_neg (by omega)]
  ·rw [decide_eq_false h0, cond_false, if_pos (by omega)]
   obtain ⟨k, hk, rfl⟩ : ∃ k : Nat, k < 24 ∧ c = -1 - (k : Int) := ⟨(-1 - c).toNat, by omega, by omega⟩
   have e1 : (-1 : Int) - (-1 - (k : Int)) = (k : Int) := by omega
   rw [e1, Int.toNat_natCast]
   unfold bindsL
   rw [look_binds σ k]
   cases hm : moved σ k with
   | true => simp [hk]
   | false =>
    have : σ k = .v k := by
     unfold moved at hm
     split at hm
     ·rename_i y hy
      have : y = k := by simpa using hm
      rw [hy, this]
     ·cases hm
    rw [this]
    simp [Tm.codes]
theorem binds_ok {σ : Sb} (h : shortIn σ (List.range 24) = true) : BindsOk (bindsL σ) where
 len := by
  unfold bindsL
  rw [List.length_map]
  have := List.length_filter_le (moved σ) (List.range 24)
  simp at this
  omega
 all := fun b hb => by
  unfold bindsL at hb
  obtain ⟨v, hv, rfl⟩ := List.mem_map.1 hb
  have hv := (List.mem_filter.1 hv).1
  have h1 := List.all_eq_true.1 h v hv
  have h2 := (σ v).size_pos
  have h3 := (σ v).codes_len
  have h4 : (σ v).size ≤ 48 := of_decide_eq_true h1
  refine ⟨fun e => ?_, ?_⟩
  ·have := congrArg List.length e
   simp only [List.length_nil] at this
   omega
  ·show (σ v).codes.length ≤ 1000
   omega
def subLs (s : Sb) (ls : List QLit) : List QLit := ls.map fun l => (l.1, subCs s l.2)
theorem onLs_sub {σ : Sb} {ls : List QLit} (h : ∀ l ∈ ls, ∀ c ∈ l.2, -24 ≤ c) : onLs (bindsL σ) ls = subLs σ ls := by
 unfold onLs subLs
 exact List.map_congr_left fun l hl => by rw [onB_sub (h l hl)]
theorem onRs_sub {σ : Sb} {rs : List (List Int)} (h : ∀ r ∈ rs, ∀ c ∈ r, -24 ≤ c) : onRs (bindsL σ) rs = rs.map (subCs σ) := by
 unfold onRs
 exact List.map_congr_left fun r hr => onB_sub (h r hr)
theorem atom_tree {a0 : List QSym} {xs : List Int} (h : atomB a0 xs = true) : ∃ (c : Nat) (ts : List Tm) (e : QSym), xs = (c : Int) :: codesR ts ∧ okR a0 24 ts ∧ a0[c]? = some e ∧ e.2.1 = 0 ∧ ((ts.length : Nat) : Int) = e.2.2.1 ∧ (codesR ts).length ≤ 48 ∧ signB a0 = true := by
 obtain ⟨x, r, e, ps, rfl, h0, h1, -, h2, h3, h4, h5, h6⟩ := atomB_spec h
 obtain ⟨ts, h7, h8, h9⟩ := row_of h5
 refine ⟨x.toNat, ts, e, by rw [← h9, Int.toNat_of_nonneg h0], h7, h1, h2, ?_, by rw [← h9]; exact h4, h3⟩
 rw [← h6, h8, List.length_map]
theorem atomT_mk {a0 : List QSym} {c : Nat} {ts : List Tm} {e : QSym} (h1 : okR a0 24 ts) (h2 : a0[c]? = some e) (h3 : e.2.1 = 0) (h4 : ((ts.length : Nat) : Int) = e.2.2.1) (h5 : (codesR ts).length ≤ 48) (h6 : signB a0 = true) : atomB a0 ((c : Int) :: codesR ts) = true := by
 unfold atomB
 simp only [Int.toNat_natCast, h2]
 unfold beginsB
 rw [h6, decide_eq_true h5]
 simp [h3, cuts_codes ts h1, h4]
theorem up_codes (b : Nat) : (ts : List Tm) → (codesR ts).map (upC (b : Int)) = codesR (ts.map (Tm.up b)) := by
 intro ts
 have h := codesR_sub (fun n => Tm.v (n + b)) ts
 have e : ts.map (Tm.up b) = subR (fun n => Tm.v (n + b)) ts := by rw [subR_eq]; rfl
 rw [e, h]
 generalize codesR ts = r
 induction r with
 | nil => rfl
 | cons c r ih =>
  rw [List.map_cons, List.flatMap_cons, ih]
  congr 1
  unfold upC expC
  by_cases h0 : c < 0
  ·rw [decide_eq_true h0, cond_true, if_pos h0]
   show [c - (b : Int)] ++ _ = [-1 - (((-1 - c).toNat + b : Nat) : Int)] ++ _
   rw [show -1 - (((-1 - c).toNat + b : Nat) : Int) = c - (b : Int) from by omega]
   rfl
  ·rw [decide_eq_false h0, cond_false, if_neg h0]
   rfl
theorem VarC_codes {ts : List Tm} {x : Int} : VarC (codesR ts) x ↔ ∃ k : Nat, x = (k : Int) ∧ hasR k ts := by
 constructor
 ·rintro ⟨c, h1, h2, rfl⟩
  exact ⟨(-1 - c).toNat, by omega, (mem_codesR h2 ts).1 h1⟩
 ·rintro ⟨k, rfl, hk⟩
  refine ⟨-1 - (k : Int), (mem_codesR (by omega) ts).2 (by rwa [show (-1 - (-1 - (k : Int))).toNat = k from by omega]), by omega, by omega⟩
end
end Go.Abs.Q
namespace Go.Abs.Q
open Go Go.Abs
section
theorem may_small {a0 : List QSym} {L : List QLit} {T : List (List Int)} {C : List QLit} (h : mayB a0 L T C = true) : ∀ r ∈ rowsOf L T C, SmallR r := by
 obtain ⟨-, -, -, -, h4, h5, h6, -⟩ := mayB_spec h
 intro r hr
 unfold rowsOf at hr
 rcases List.mem_append.1 hr with hr | hr
 ·rcases List.mem_append.1 hr with hr | hr
  ·obtain ⟨l, hl, rfl⟩ := List.mem_map.1 hr; exact litsB_small h4 l hl
  ·obtain ⟨l, hl, rfl⟩ := List.mem_map.1 hr; exact litsB_small h6 l hl
 ·exact rowsB_small h5 r hr
theorem varR_lt {a0 : List QSym} {L : List QLit} {T : List (List Int)} {C : List QLit} (h : mayB a0 L T C = true) {x : Int} (hx : VarR (rowsOf L T C) x) : 0 ≤ x ∧ x < 24 := by
 obtain ⟨r, hr, c, hc, h0, rfl⟩ := hx
 have := (may_small h r hr).2 c hc
 omega
abbrev ApR := List QLit × List (List Int) × Bool × List QLit
theorem apart_spec {a0 : List QSym} (hs : SignOk a0) {L : List QLit} {T : List (List Int)} {C : List QLit} {L' : List QLit} {T' : List (List Int)} {C' : List QLit} (h : mayB a0 L T C = true) (h' : mayB a0 L' T' C' = true) :
  ∃ b : Nat, b ≤ 24 ∧ TopV (rowsOf L T C) (b : Int) ∧
   ((resolve_Apart a0 L T C L' T' C' = some ([], [], false, []) ∧ ∃ x, VarR (rowsOf L' T' C') x ∧ 23 < x + (b : Int)) ∨
    (resolve_Apart a0 L T C L' T' C' = some (upLs (b : Int) L', T'.map (List.map (upC (b : Int))), true, upLs (b : Int) C') ∧ ∀ x, VarR (rowsOf L' T' C') x → x + (b : Int) ≤ 23)) := by
 obtain ⟨ws, h1, h2, h3⟩ := clause_Vars_spec hs h
 obtain ⟨ws', h1', h2', h3'⟩ := clause_Vars_spec hs h'
 obtain ⟨-, l1, l2, l3, l4, l5, l6, -⟩ := mayB_spec h'
 have hsh : ∀ b : Nat, b ≤ 24 → clause_Shift L' T' C' (b : Int) = some (upLs (b : Int) L', T'.map (List.map (upC (b : Int))), upLs (b : Int) C') := fun b hb =>
  clause_Shift_eq (by omega) (litsB_near hs l4) (rowsB_near hs l5) (litsB_near hs l6) (by omega) (by omega) (by omega)
 -- the second half
 have second : ∀ b : Nat, b ≤ 24 → ∃ o : Option ApR, ((clause_Vars a0 L' T' C').bind fun r17 =>
   cond (decide (((List.length r17.2 : Nat) : Int) > 0))
   ((inR (IntKind.wrap .i64 (((List.length r17.2 : Nat) : Int) - 1)) (List.length r17.2)).bind fun k18 =>
    (r17.2[k18]?).bind fun x19 =>
    cond (decide ((IntKind.wrap .i64 (x19 + (b : Int))) > 23))
    (some (([] : (List QLit)), ([] : (List (List Int))), false, ([] : (List QLit))))
    ((clause_Shift L' T' C' (b : Int)).bind fun r20 =>
     some (r20.1, r20.2.1, true, r20.2.2)))
   ((clause_Shift L' T' C' (b : Int)).bind fun r21 =>
    some (r21.1, r21.2.1, true, r21.2.2))) = o ∧ ((o = some ([], [], false, []) ∧ ∃ x, VarR (rowsOf L' T' C') x ∧ 23 < x + (b : Int)) ∨
    (o = some (upLs (b : Int) L', T'.map (List.map (upC (b : Int))), true, upLs (b : Int) C') ∧ ∀ x, VarR (rowsOf L' T' C') x → x + (b : Int) ≤ 23)) := by
  intro b hb
  refine ⟨_, rfl, ?_⟩
  rw [h1', Option.bind_some]
  simp only
  rcases top_of h2' h3' with ⟨rfl, h4⟩ | ⟨x, h4, h5, h6, h7⟩
  ·rw [show decide (((List.length ([] : List Int) : Nat) : Int) > 0) = false from rfl, cond_false, hsh b hb]
   refine .inr ⟨rfl, fun x hx => ?_⟩
   have := h4.1 x hx
   have := (varR_lt h' hx).1
   omega
  ·have hvx : VarR (rowsOf L' T' C') x := by
    rcases h7 with h7 | h7
    ·have := (h3' x).1 (List.mem_of_getElem? h4); exact this
    ·rwa [show x + 1 - 1 = x from by omega] at h7
   have hx := varR_lt h' hvx
   have hwl : ws'.length ≤ 1000000 ∨ True := .inr trivial
   have e1 : IntKind.wrap .i64 (((List.length ws' : Nat) : Int) - 1) = ((ws'.length - 1 : Nat) : Int) ∨ ws'.length > 1000000 := by
    rcases Nat.lt_or_ge 1000000 ws'.length with h8 | h8
    ·exact .inr h8
    ·left; rw [wrap64] <;> omega
   have hlen : ws'.length ≤ 24 := by
    -- numbers below 24 that rise
    have key : ∀ (ys : List Int) (m : Int), Rise ys → (∀ y ∈ ys, m ≤ y ∧ y < 24) → (ys.length : Int) ≤ 24 - m ∨ ys = [] := by
     intro ys
     induction ys with
     | nil => intro m _ _; exact .inr rfl
     | cons y ys ih =>
      intro m hr hy
      have hr := List.pairwise_cons.1 hr
      have hy0 := hy y (List.mem_cons_self ..)
      rcases ih (y + 1) hr.2 (fun z hz => ⟨by have := hr.1 z hz; omega, (hy z (List.mem_cons_of_mem _ hz)).2⟩) with h8 | h8
      ·left; rw [List.length_cons]; omega
      ·subst h8; left; simp; omega
    rcases key ws' 0 h2' fun y hy => varR_lt h' ((h3' y).1 hy) with h8 | h8
    ·omega
    ·rw [h8]; simp
   have e1 : IntKind.wrap .i64 (((List.length ws' : Nat) : Int) - 1) = ((ws'.length - 1 : Nat) : Int) := by rw [wrap64] <;> omega
   rw [decide_eq_true (show ((List.length ws' : Nat) : Int) > 0 by omega), cond_true, e1, inR_nat (by omega), Option.bind_some, h4, Option.bind_some]
   have e2 : IntKind.wrap .i64 (x + (b : Int)) = x + (b : Int) := by rw [wrap64] <;> omega
   simp only [e2]
   by_cases hf : x + (b : Int) > 23
   ·rw [decide_eq_true hf, cond_true]
    exact .inl ⟨rfl, x, hvx, by omega⟩
   ·rw [decide_eq_false hf, cond_false, hsh b hb]
    refine .inr ⟨rfl, fun y hy => ?_⟩
    have := h6 y hy
    omega
 unfold resolve_Apart
 rw [h1, Option.bind_some]
 simp only
 rcases top_of h2 h3 with ⟨rfl, h4⟩ | ⟨x, h4, h5, h6⟩
 ·rw [show decide (((List.length ([] : List Int) : Nat) : Int) > 0) = false from rfl, cond_false]
  obtain ⟨o, h8, h9⟩ := second 0 (by omega)
  rw [show ((0 : Nat) : Int) = 0 from rfl] at h8 h9
  refine ⟨0, by omega, h4, ?_⟩
  have h8' := h8
  rw [show ((0 : Nat) : Int) = 0 from rfl]
  refine h9.imp (fun h => ⟨?_, h.2⟩) fun h => ⟨?_, h.2⟩
  ·exact h8.trans h.1
  ·exact h8.trans h.1
 ·have hvx : VarR (rowsOf L T C) x := (h3 x).1 (List.mem_of_getElem? h4)
  have hx := varR_lt h hvx
  have hlen : ws.length ≤ 24 := by
   have key : ∀ (ys : List Int) (m : Int), Rise ys → (∀ y ∈ ys, m ≤ y ∧ y < 24) → (ys.length : Int) ≤ 24 - m ∨ ys = [] := by
    intro ys
    induction ys with
    | nil => intro m _ _; exact .inr rfl
    | cons y ys ih =>
     intro m hr hy
     have hr := List.pairwise_cons.1 hr
     have hy0 := hy y (List.mem_cons_self ..)
     rcases ih (y + 1) hr.2 (fun z hz => ⟨by have := hr.1 z hz; omega, (hy z (List.mem_cons_of_mem _ hz)).2⟩) with h8 | h8
     ·left; rw [List.length_cons]; omega
     ·subst h8; left; simp; omega
   rcases key ws 0 h2 fun y hy => varR_lt h ((h3 y).1 hy) with h8 | h8
   ·omega
   ·rw [h8]; simp
  have e1 : IntKind.wrap .i64 (((List.length ws : Nat) : Int) - 1) = ((ws.length - 1 : Nat) : Int) := by rw [wrap64] <;> omega
  rw [decide_eq_true (show ((List.length ws : Nat) : Int) > 0 by omega), cond_true, e1, inR_nat (by omega), Option.bind_some, h4, Option.bind_some]
  have e2 : IntKind.wrap .i64 (x + 1) = (((x + 1).toNat : Nat) : Int) := by rw [wrap64] <;> omega
  rw [e2]
  obtain ⟨o, h8, h9⟩ := second (x + 1).toNat (by omega)
  refine ⟨(x + 1).toNat, by omega, by rw [Int.toNat_of_nonneg (show (0 : Int) ≤ x + 1 by omega)]; exact h6, ?_⟩
  refine h9.imp (fun h => ⟨?_, h.2⟩) fun h => ⟨?_, h.2⟩
  ·exact h8.trans h.1
  ·exact h8.trans h.1
end
end Go.Abs.Q
namespace Go.Abs.Q
open Go Go.Abs
section
abbrev ResT := List QLit × List (List Int) × Bool × Int × List QLit
def failR (k : Int) : Option ResT := some ([], [], false, k, [])
theorem gx_map {α β : Type} (f : α → β) {xs : List α} {i : Int} {x : α} (h : gx xs i = some x) : gx (xs.map f) i = some (f x) := by
 unfold gx at h ⊢
 cases hd : decide (0 ≤ i) with
 | false => rw [hd] at h; cases h
 | true =>
  rw [hd, cond_true] at h
  rw [cond_true, List.getElem?_map, h]
  rfl
theorem gx_mem {α : Type} {xs : List α} {i : Int} {x : α} (h : gx xs i = some x) : x ∈ xs := by
 unfold gx at h
 cases hd : decide (0 ≤ i) with
 | false => rw [hd] at h; cases h
 | true =>
  rw [hd, cond_true] at h
  exact List.mem_of_getElem? h
def Cds (r : List Int) : Prop := r.length ≤ 1000 ∧ ∀ c ∈ r, -24 ≤ c ∧ c ≤ 1000000
theorem Cds.near {r : List Int} (h : Cds r) : NearR r := ⟨h.1, fun c hc => by have := h.2 c hc; omega⟩
theorem may_cds {a0 : List QSym} (hs : SignOk a0) {L : List QLit} {T : List (List Int)} {C : List QLit} (h : mayB a0 L T C = true) : ∀ r ∈ rowsOf L T C, Cds r := by
 intro r hr
 have h1 := may_small h r hr
 obtain ⟨-, -, -, -, h4, h5, h6, -⟩ := mayB_spec h
 have h2 : NearR r := by
  unfold rowsOf at hr
  rcases List.mem_append.1 hr with hr | hr
  ·rcases List.mem_append.1 hr with hr | hr
   ·obtain ⟨l, hl, rfl⟩ := List.mem_map.1 hr; exact litsB_near hs h4 l hl
   ·obtain ⟨l, hl, rfl⟩ := List.mem_map.1 hr; exact litsB_near hs h6 l hl
  ·exact rowsB_near hs h5 r hr
 exact ⟨h2.1, fun c hc => ⟨h1.2 c hc, (h2.2 c hc).2⟩⟩
theorem up_cds {b : Nat} {r : List Int} (h : Cds r) (hb : ∀ x, VarC r x → x + (b : Int) ≤ 23) : Cds (r.map (upC (b : Int))) := by
 refine ⟨by rw [List.length_map]; exact h.1, fun c hc => ?_⟩
 obtain ⟨d, hd, rfl⟩ := List.mem_map.1 hc
 have h1 := h.2 d hd
 unfold upC
 by_cases h0 : d < 0
 ·have := hb (-1 - d) ⟨d, hd, h0, rfl⟩
  rw [decide_eq_true h0, cond_true]; omega
 ·rw [decide_eq_false h0, cond_false]; omega
theorem up_ok24 {a0 : List QSym} {b : Nat} {ts : List Tm} (h : okR a0 24 ts) (hb : ∀ k : Nat, hasR k ts → k + b < 24) : okR a0 24 (ts.map (Tm.up b)) := by
 have e : ts.map (Tm.up b) = subR (fun n => Tm.v (n + b)) ts := by rw [subR_eq]; rfl
 rw [e]
 exact okR_sub ts h fun x hx => hb x hx
theorem upC_atom (b : Nat) (c : Nat) (ts : List Tm) : ((c : Int) :: codesR ts).map (upC (b : Int)) = (c : Int) :: codesR (ts.map (Tm.up b)) := by
 rw [List.map_cons, up_codes]
 unfold upC
 rw [decide_eq_false (show ¬ ((c : Int) < 0) by omega)]
 rfl
theorem mem_rows_lit {L : List QLit} {T : List (List Int)} {C : List QLit} {l : QLit} (h : l ∈ L) : l.2 ∈ rowsOf L T C := by
 unfold rowsOf
 exact List.mem_append_left _ (List.mem_append_left _ (List.mem_map_of_mem h))
theorem mem_rows_cond {L : List QLit} {T : List (List Int)} {C : List QLit} {l : QLit} (h : l ∈ C) : l.2 ∈ rowsOf L T C := by
 unfold rowsOf
 exact List.mem_append_left _ (List.mem_append_right _ (List.mem_map_of_mem h))
theorem mem_rows_row {L : List QLit} {T : List (List Int)} {C : List QLit} {r : List Int} (h : r ∈ T) : r ∈ rowsOf L T C := by
 unfold rowsOf
 exact List.mem_append_right _ h
theorem On_sub {σ : Sb} (hsh : shortIn σ (List.range 24) = true) {L : List QLit} {T : List (List Int)} {C : List QLit} (hL : ∀ l ∈ L, Cds l.2) (hT : ∀ r ∈ T, Cds r) (hC : ∀ l ∈ C, Cds l.2) (h1 : L.length ≤ 1000) (h2 : T.length ≤ 1000) (h3 : C.length ≤ 1000) :
  clause_On (bindsL σ) L T C = some (subLs σ L, T.map (subCs σ), subLs σ C) := by
 rw [clause_On_eq (binds_ok hsh) (fun l hl => (hL l hl).near) (fun r hr => (hT r hr).near) (fun l hl => (hC l hl).near) h1 h2 h3,
  onLs_sub fun l hl c hc => ((hL l hl).2 c hc).1, onLs_sub fun l hl c hc => ((hC l hl).2 c hc).1, onRs_sub fun r hr c hc => ((hT r hr).2 c hc).1]
def bothL (i j : Int) (b : Nat) (L L' : List QLit) : List QLit := without i L 0 ++ without j (upLs (b : Int) L') 0
def bothT (b : Nat) (T T' : List (List Int)) : List (List Int) := T ++ T'.map (List.map (upC (b : Int)))
def bothC (b : Nat) (C C' : List QLit) : List QLit := C ++ upLs (b : Int) C'
def resOut (a0 : List QSym) (σ : Sb) (L : List QLit) (T : List (List Int)) (C : List QLit) (k : Int) : Option ResT :=
 cond (mayB a0 (subLs σ L) (T.map (subCs σ)) (subLs σ C)) (some ((normC (subLs σ L) (T.map (subCs σ)) (subLs σ C)).1, (normC (subLs σ L) (T.map (subCs σ)) (subLs σ C)).2.1, true, 0, (normC (subLs σ L) (T.map (subCs σ)) (subLs σ C)).2.2)) (failR k)
theorem resolve_one_spec {a0 : List QSym} (hs : SignOk a0) {L : List QLit} {T : List (List Int)} {C : List QLit} {L' : List QLit} {T' : List (List Int)} {C' : List QLit} (h : mayB a0 L T C = true) (h' : mayB a0 L' T' C' = true) {i j : Int} {n n' : Bool} {A A' : List Int}
  (hi : gx L i = some (n, A)) (hj : gx L' j = some (n', A')) :
  ((n = n' ∨ gx A 0 ≠ gx A' 0) ∧ resolve_one a0 L T C i L' T' C' j = failR 0) ∨
  (n ≠ n' ∧ ∃ (b c : Nat) (ts us : List Tm), b ≤ 24 ∧ TopV (rowsOf L T C) (b : Int) ∧ A = (c : Int) :: codesR ts ∧ A' = (c : Int) :: codesR us ∧ okR a0 24 ts ∧ okR a0 24 us ∧ ts.length = us.length ∧
   ((resolve_one a0 L T C i L' T' C' j = failR 1301 ∧ ∃ x, VarR (rowsOf L' T' C') x ∧ 23 < x + (b : Int)) ∨
    ((∀ x, VarR (rowsOf L' T' C') x → x + (b : Int) ≤ 23) ∧
    ((resolve_one a0 L T C i L' T' C' j = failR 0 ∧ ∀ θ, ¬ Sol θ (ts.zip (us.map (Tm.up b)))) ∨
     ∃ σ, Mgu σ (ts.zip (us.map (Tm.up b))) ∧ (∀ x, x < 24 → (σ x).ok a0 24) ∧
      ((shortIn σ (List.range 24) = false ∧ resolve_one a0 L T C i L' T' C' j = failR 1302) ∨
      (shortIn σ (List.range 24) = true ∧ resolve_one a0 L T C i L' T' C' j = resOut a0 σ (bothL i j b L L') (bothT b T T') (bothC b C C') 1302)))))) := by
 obtain ⟨hsb, l1, l2, l3, l4, l5, l6, -⟩ := mayB_spec h
 obtain ⟨-, l1', l2', l3', l4', l5', l6', -⟩ := mayB_spec h'
 have hA := List.all_eq_true.1 l4 (n, A) (gx_mem hi)
 have hA' := List.all_eq_true.1 l4' (n', A') (gx_mem hj)
 obtain ⟨c, ts, e, rfl, ho, he, -, hlen, hl48, -⟩ := atom_tree hA
 obtain ⟨c', us, e', rfl, ho', he', -, hlen', hl48', -⟩ := atom_tree hA'
 unfold resolve_one
 rw [hi, Option.bind_some, hj, Option.bind_some]
 simp only [Option.bind_some]
 by_cases hn : n = n'
 ·subst hn
  rw [show (n == n) = true from by simp, cond_true]
  exact .inl ⟨.inl rfl, rfl⟩
 ·rw [show (n == n') = false from by simp [hn], cond_false]
  simp only [gx_zero, List.getElem?_cons_zero, Option.bind_some]
  by_cases hc : c = c'
  ·subst hc
   rw [show ((c : Int) != (c : Int)) = false from by simp, cond_false]
   have hll : ts.length = us.length := by
    rw [he] at he'; injection he' with he'; subst he'
    omega
   refine .inr ⟨hn, ?_⟩
   obtain ⟨b, hb, htop, hap⟩ := apart_spec hs h h'
   refine ⟨b, c, ts, us, hb, htop, rfl, rfl, ho, ho', hll, ?_⟩
   rcases hap with ⟨hap, hfar⟩ | ⟨hap, hnear⟩
   ·rw [hap]
    exact .inl ⟨rfl, hfar⟩
   ·rw [hap]
    simp only [Option.bind_some, Bool.not_true, cond_false]
    refine .inr ⟨hnear, ?_⟩
    have hj2 : gx (upLs (b : Int) L') j = some (n', ((c : Int) :: codesR us).map (upC (b : Int))) := gx_map _ hj
    rw [hj2]
    simp only [slc_tail, Option.bind_some]
    rw [upC_atom, slc_tail]
    simp only [Option.bind_some]
    have hvar : ∀ k : Nat, hasR k us → k + b < 24 := fun k hk => by
     have := hnear (k : Int) ⟨_, mem_rows_lit (gx_mem hj), by
      obtain ⟨c0, h1, h2, h3⟩ := VarC_codes.2 ⟨k, rfl, hk⟩
      exact ⟨c0, List.mem_cons_of_mem _ h1, h2, h3⟩⟩
     omega
    have hlu : (codesR (us.map (Tm.up b))).length ≤ 48 := by rw [← up_codes, List.length_map]; exact hl48'
    rcases unify_spec hs (xs := codesR ts) (ys := codesR (us.map (Tm.up b))) rfl rfl ho (up_ok24 ho' hvar) hsb hl48 hlu with ⟨hu, hno⟩ | ⟨-, σ, hm, hok, hu⟩
    ·rw [hu]
     refine .inl ⟨rfl, ?_⟩
     rcases hno with hno | hno
     ·rw [List.length_map] at hno; exact absurd hll hno
     ·exact hno
    ·rw [hu]
     refine .inr ⟨σ, hm, hok, ?_⟩
     cases hsh : shortIn σ (List.range 24) with
     | false => exact .inl ⟨rfl, rfl⟩
     | true =>
      refine .inr ⟨rfl, ?_⟩
      simp only [cond_true, Option.bind_some, show ((0 : Int) != 0) = false from rfl, cond_false, Bool.not_true]
      have hul : (upLs (b : Int) L').length = L'.length := by simp [upLs]
      have hucl : (upLs (b : Int) C').length = C'.length := by simp [upLs]
      rw [resolve_Both_eq i j (by omega) (by omega) (by omega) (by omega) (by simp; omega) (by omega), Option.bind_some]
      simp only
      have hcd := may_cds hs h
      have hcd' := may_cds hs h'
      have hwl := without_len i L 0
      have hwl' := without_len j (upLs (b : Int) L') 0
      have hup : ∀ r ∈ rowsOf L' T' C', Cds (r.map (upC (b : Int))) := fun r hr => up_cds (hcd' r hr) fun x hx => hnear x ⟨r, hr, hx⟩
      have hupl : ∀ ls : List QLit, (∀ l ∈ ls, l.2 ∈ rowsOf L' T' C') → ∀ l ∈ upLs (b : Int) ls, Cds l.2 := fun ls hls l hl => by
       obtain ⟨l0, h0, rfl⟩ := List.mem_map.1 hl
       exact hup _ (hls l0 h0)
      rw [On_sub hsh (fun l hl => ?_) (fun r hr => ?_) (fun l hl => ?_) (by rw [List.length_append]; omega) (by rw [List.length_append, List.length_map]; omega) (by rw [List.length_append]; omega), Option.bind_some, clause_Normal_eq, Option.bind_some]
      ·unfold resOut bothL bothT bothC
       cases hmy : mayB a0 (subLs σ (without i L 0 ++ without j (upLs (b : Int) L') 0)) ((T ++ T'.map (List.map (upC (b : Int)))).map (subCs σ)) (subLs σ (C ++ upLs (b : Int) C')) with
       | true => rfl
       | false => rfl
      ·rcases List.mem_append.1 hl with hl | hl
       ·exact hcd _ (mem_rows_lit (without_mem L 0 hl))
       ·exact hupl L' (fun l hl => mem_rows_lit hl) l (without_mem _ 0 hl)
      ·rcases List.mem_append.1 hr with hr | hr
       ·exact hcd _ (mem_rows_row hr)
       ·obtain ⟨r0, h0, rfl⟩ := List.mem_map.1 hr
        exact hup _ (mem_rows_row h0)
      ·rcases List.mem_append.1 hl with hl | hl
       ·exact hcd _ (mem_rows_cond hl)
       ·exact hupl C' (fun l hl => mem_rows_cond hl) l hl
  ·rw [show ((c : Int) != (c' : Int)) = true from by simp; omega, cond_true]
   refine .inl ⟨.inr ?_, rfl⟩
   intro hcc
   injection hcc with hcc
   omega
end
end Go.Abs.Q
namespace Go.Abs.Q
open Go Go.Abs
section
theorem codesR_inj {a0 : List QSym} : ∀ (n : Nat) (ts us : List Tm), sizeR ts ≤ n → okR a0 24 ts → okR a0 24 us → codesR ts = codesR us → ts = us := by
 intro n
 induction n with
 | zero =>
  intro ts us hn _ _ he
  cases ts with
  | cons t ts => have := t.size_pos; simp only [sizeR] at hn; omega
  | nil =>
   cases us with
   | nil => rfl
   | cons u us =>
    have := congrArg List.length he
    rw [codesR_len, codesR_len] at this
    have := u.size_pos
    simp only [sizeR] at *; omega
 | succ n ih =>
  intro ts us hn ho ho' he
  cases ts with
  | nil =>
   cases us with
   | nil => rfl
   | cons u us =>
    have := congrArg List.length he
    rw [codesR_len, codesR_len] at this
    have := u.size_pos
    simp only [sizeR] at *; omega
  | cons t ts =>
   cases us with
   | nil =>
    have := congrArg List.length he
    rw [codesR_len, codesR_len] at this
    have := t.size_pos
    simp only [sizeR] at *; omega
   | cons u us =>
    have he : t.codes ++ codesR ts = u.codes ++ codesR us := he
    cases t with
    | v k =>
     cases u with
     | v k' =>
      have he : (-1 - (k : Int)) :: codesR ts = (-1 - (k' : Int)) :: codesR us := he
      injection he with h1 h2
      have : k = k' := by omega
      rw [this, ih ts us (by simp only [sizeR, Tm.size] at hn; omega) ho.2 ho'.2 h2]
     | f c as =>
      have he : (-1 - (k : Int)) :: codesR ts = (c : Int) :: (codesR as ++ codesR us) := he
      injection he with h1 h2
      omega
    | f c as =>
     cases u with
     | v k' =>
      have he : (c : Int) :: (codesR as ++ codesR ts) = (-1 - (k' : Int)) :: codesR us := he
      injection he with h1 h2
      omega
     | f c' bs =>
      have he : (c : Int) :: (codesR as ++ codesR ts) = (c' : Int) :: (codesR bs ++ codesR us) := he
      injection he with h1 h2
      have hc : c = c' := by omega
      subst hc
      rw [← codesR_app, ← codesR_app] at h2
      have ha := ho.1.1
      have hb := ho'.1.1
      rw [ha] at hb
      injection hb with hb
      have := ih (as ++ ts) (bs ++ us) (by rw [sizeR_app]; simp only [sizeR, Tm.size] at hn; omega)
       (okR_iff.2 fun t ht => (List.mem_append.1 ht).elim (okR_iff.1 ho.1.2 t) (okR_iff.1 ho.2 t))
       (okR_iff.2 fun t ht => (List.mem_append.1 ht).elim (okR_iff.1 ho'.1.2 t) (okR_iff.1 ho'.2 t)) h2
      obtain ⟨h3, h4⟩ := List.append_inj this hb
      rw [h3, h4]
theorem resolve_place_eq (L : List QLit) (T : List (List Int)) (C : List QLit) (i : Int) : resolve_place L T C i = some (placeB L i) := by
 unfold resolve_place placeB
 by_cases h : i ≥ 0
 ·rw [decide_eq_true h, cond_true, Bool.true_and]
 ·rw [decide_eq_false h, cond_false, Bool.false_and]
theorem resolve_One_eq (a0 : List QSym) (L : List QLit) (T : List (List Int)) (C : List QLit) (i : Int) (L' : List QLit) (T' : List (List Int)) (C' : List QLit) (j : Int) :
  resolve_One a0 L T C i L' T' C' j = cond (mayB a0 L T C && mayB a0 L' T' C' && placeB L i && placeB L' j) (resolve_one a0 L T C i L' T' C' j) (failR 1300) := by
 unfold resolve_One
 rw [clause_May_eq, Option.bind_some, clause_May_eq, Option.bind_some, resolve_place_eq, Option.bind_some, resolve_place_eq, Option.bind_some]
 have eta : ∀ o : Option ResT, (o.bind fun r => some (r.1, r.2.1, r.2.2.1, r.2.2.2.1, r.2.2.2.2)) = o := fun o => by cases o <;> rfl
 cases mayB a0 L T C with
 | false => rfl
 | true =>
  cases mayB a0 L' T' C' with
  | false => rfl
  | true =>
   cases placeB L i with
   | false => rfl
   | true =>
    cases placeB L' j with
    | false => rfl
    | true => exact eta _
theorem law13_awake_eq : law13_awake = some true := by kernel_rfl
end
end Go.Abs.Q
namespace Go.Abs.Q
open Go Go.Abs
section
theorem nodup_le {α : Type} [DecidableEq α] : (a b : List α) → a.Nodup → (∀ x ∈ a, x ∈ b) → a.length ≤ b.length
 | [], _, _, _ => Nat.zero_le _
 | x :: a, b, hn, hs => by
  have hn := List.nodup_cons.1 hn
  have hx := hs x (List.mem_cons_self ..)
  have h1 : ∀ y ∈ a, y ∈ b.erase x := fun y hy => by
   have hne : y ≠ x := fun e => hn.1 (e ▸ hy)
   exact (List.mem_erase_of_ne hne).2 (hs y (List.mem_cons_of_mem _ hy))
  have h2 := nodup_le a (b.erase x) hn.2 h1
  rw [List.length_erase_of_mem hx] at h2
  have := List.length_pos_of_mem hx
  simp only [List.length_cons]
  omega
theorem up_eq (b : Nat) (ts : List Tm) : ts.map (Tm.up b) = subR (fun n => Tm.v (n + b)) ts := by rw [subR_eq]; rfl
theorem placeB_gx {L : List QLit} {i : Int} (h : placeB L i = true) : ∃ l, gx L i = some l := by
 unfold placeB at h
 simp only [Bool.and_eq_true, decide_eq_true_eq] at h
 obtain ⟨l, h1, -⟩ := gx_at (xs := L) h.1 h.2
 exact ⟨l, h1⟩
end
end Go.Abs.Q
namespace Go.Abs.Q
open Go Go.Abs
def ref9_Few (a0 : (List Int)) : Option Bool :=
 some (decide (((List.length a0 : Nat) : Int) ≤ 6))
def ref9_New (a0 : Int) (a1 : (List Int)) : Option (Int × (List Int)) :=
 some ((IntKind.wrap .i64 (1 + (IntKind.wrap .i64 (Int.tmod (IntKind.wrap .u64 a0) 3)))), a1)
def ref1_In_L0 (rec : ((List Int) × Int × Int) → Option (Unit ⊕ Bool)) (x : ((List Int) × Int × Int)) : Option (Unit ⊕ Bool) :=
 cond (decide (x.2.2 < ((List.length x.1 : Nat) : Int)))
 ((gx x.1 x.2.2).bind fun e2 =>
  cond (e2 == (IntKind.wrap .i64 ((-1) - x.2.1)))
  (some (Sum.inr true))
  (rec (x.1, x.2.1, (IntKind.wrap .i64 (x.2.2 + 1)))))
 (some (Sum.inl ()))
def ref1_In (a0 : (List Int)) (a1 : Int) : Option Bool :=
 ((lp ref1_In_L0 fuel) (a0, a1, 0)).bind fun r6 =>
 caseS r6
 (fun z7 => some false)
 (fun z8 => some z8)
def ref1_VarsOf_L0 (rec : ((List Int) × Int × (List Int)) → Option (List Int)) (x : ((List Int) × Int × (List Int))) : Option (List Int) :=
 cond (decide (x.2.1 ≤ 23))
 ((ref1_In x.1 x.2.1).bind fun r3 =>
  cond r3
  (cond (room (List.length x.2.2 + List.length ([x.2.1] : List Int)) 8)
   (rec (x.1, (IntKind.wrap .i64 (x.2.1 + 1)), (x.2.2 ++ ([x.2.1] : List Int))))
   (none))
  (rec (x.1, (IntKind.wrap .i64 (x.2.1 + 1)), x.2.2)))
 (some x.2.2)
def ref1_VarsOf (a0 : (List Int)) : Option (List Int) :=
 ((lp ref1_VarsOf_L0 fuel) (a0, 0, ([] : (List Int)))).bind fun r5 =>
 some r5
def ref8_VarsOf_L0 (rec : ((List (List Int)) × Int × (List Int)) → Option (List Int)) (x : ((List (List Int)) × Int × (List Int))) : Option (List Int) :=
 cond (decide (x.2.1 < ((List.length x.1 : Nat) : Int)))
 ((gx x.1 x.2.1).bind fun e4 =>
  cond (room (List.length x.2.2 + List.length e4) 8)
  (rec (x.1, (IntKind.wrap .i64 (x.2.1 + 1)), (x.2.2 ++ e4)))
  (none))
 (some x.2.2)
def ref8_VarsOf (a0 : (List QLit)) (a1 : (List (List Int))) (a2 : (List QLit)) : Option (List Int) :=
 (ref8_rows a0 a1 a2).bind fun r7 =>
 ((lp ref8_VarsOf_L0 fuel) (r7, 0, ([] : (List Int)))).bind fun r8 =>
 (ref1_VarsOf r8).bind fun r9 =>
 some r9
def ref9_Env : Option (List Int) :=
 cond (eqI 24 24)
 (cond (nneg 24)
  (cond (room (Int.toNat 24) 8)
   (some (List.replicate (Int.toNat 24) (0 : Int)))
   (none))
  (none))
 (none)
def ref9_Model_look_L0 (rec : ((List Int) × Int × Int × Int × (List Int)) → Option Int) (x : ((List Int) × Int × Int × Int × (List Int))) : Option Int :=
 cond (decide (x.2.2.1 < ((List.length x.1 : Nat) : Int)))
 ((gx x.1 x.2.2.1).bind fun e2 =>
  rec (x.1, (IntKind.wrap .u64 ((IntKind.wrap .u64 ((IntKind.wrap .u64 (x.2.1 * 5)) + (IntKind.wrap .u64 e2))) + 3)), (IntKind.wrap .i64 (x.2.2.1 + 1)), x.2.2.2.1, x.2.2.2.2))
 (some x.2.1)
def ref9_Model_look (a0 : Int) (a1 : (List Int)) (a2 : Int) (a3 : (List Int)) : Option Int :=
 cond (((List.length a1 : Nat) : Int) == 0)
 (some 0)
 (((lp ref9_Model_look_L0 fuel) (a3, (IntKind.wrap .u64 (IntKind.wrap .i64 ((IntKind.wrap .i64 (a2 * 7)) + 1))), 0, a0, a1)).bind fun r6 =>
  cond (decide ((IntKind.wrap .u64 ((List.length a1 : Nat) : Int)) = 0))
  (none)
  ((gx a1 (IntKind.wrap .i64 (Int.tmod r6 (IntKind.wrap .u64 ((List.length a1 : Nat) : Int))))).bind fun e7 =>
   (bitI .and .i64 e7 255).bind fun b8 =>
   some b8))
def ref9_Model_Value_L0 (rf : ((Int × (List Int) × (List QSym) × (List Int) × Int × (List Int)) → Option (Int × Int))) (rec : ((List QSym) × (List Int) × Int × (List Int) × Int × Int × Int × (List Int) × (List Int)) → Option (Int × (List Int))) (x : ((List QSym) × (List Int) × Int × (List Int) × Int × Int × Int × (List Int) × (List Int))) : Option (Int × (List Int)) :=
 (gx x.1 x.2.2.2.2.1).bind fun e7 =>
 cond (decide (x.2.2.2.2.2.1 < e7.2.2.1))
 ((rf (x.2.2.2.2.2.2.1, x.2.2.2.2.2.2.2.1, x.1, x.2.1, x.2.2.1, x.2.2.2.1)).bind fun r8 =>
  cond (room (List.length x.2.2.2.2.2.2.2.2 + List.length ([r8.1] : List Int)) 8)
  (rec (x.1, x.2.1, r8.2, x.2.2.2.1, x.2.2.2.2.1, (IntKind.wrap .i64 (x.2.2.2.2.2.1 + 1)), x.2.2.2.2.2.2.1, x.2.2.2.2.2.2.2.1, (x.2.2.2.2.2.2.2.2 ++ ([r8.1] : List Int))))
  (none))
 (some (x.2.2.1, x.2.2.2.2.2.2.2.2))
def ref9_Model_Value_S (rf : ((Int × (List Int) × (List QSym) × (List Int) × Int × (List Int)) → Option (Int × Int))) (a0 : Int) (a1 : (List Int)) (a2 : (List QSym)) (a3 : (List Int)) (a4 : Int) (a5 : (List Int)) : Option (Int × Int) :=
 (gx a3 a4).bind fun e11 =>
 cond (decide (e11 < 0))
 ((gx a5 (IntKind.wrap .i64 ((-1) - e11))).bind fun e12 =>
  some (e12, (IntKind.wrap .i64 (a4 + 1))))
 (((lp (ref9_Model_Value_L0 rf) fuel) (a2, a3, (IntKind.wrap .i64 (a4 + 1)), a5, e11, 0, a0, a1, ([] : (List Int)))).bind fun r13 =>
  (ref9_Model_look a0 a1 e11 r13.2).bind fun r14 =>
  cond (decide (a0 = 0))
  (none)
  (some ((Int.tmod r14 a0), r13.1)))
def ref9_Model_Value_R_step (rf : ((Int × (List Int) × (List QSym) × (List Int) × Int × (List Int)) → Option (Int × Int))) : ((Int × (List Int) × (List QSym) × (List Int) × Int × (List Int)) → Option (Int × Int)) :=
 fun (x : (Int × (List Int) × (List QSym) × (List Int) × Int × (List Int))) => ref9_Model_Value_S rf x.1 x.2.1 x.2.2.1 x.2.2.2.1 x.2.2.2.2.1 x.2.2.2.2.2
def ref9_Model_Value_R_base : ((Int × (List Int) × (List QSym) × (List Int) × Int × (List Int)) → Option (Int × Int)) := fun _ => none
def ref9_Model_Value_R (k : Nat) : ((Int × (List Int) × (List QSym) × (List Int) × Int × (List Int)) → Option (Int × Int)) := lpR ref9_Model_Value_R_base ref9_Model_Value_R_step k
def ref9_Model_Value (a0 : Int) (a1 : (List Int)) (a2 : (List QSym)) (a3 : (List Int)) (a4 : Int) (a5 : (List Int)) : Option (Int × Int) := (ref9_Model_Value_R fuel) (a0, a1, a2, a3, a4, a5)
def ref9_Model_Values_L0 (rec : ((List QSym) × (List Int) × (List Int) × Int × Int × (List Int) × (List Int)) → Option (List Int)) (x : ((List QSym) × (List Int) × (List Int) × Int × Int × (List Int) × (List Int))) : Option (List Int) :=
 cond (decide (x.2.2.2.1 < ((List.length x.2.1 : Nat) : Int)))
 ((ref9_Model_Value x.2.2.2.2.1 x.2.2.2.2.2.1 x.1 x.2.1 x.2.2.2.1 x.2.2.1).bind fun r3 =>
  cond (room (List.length x.2.2.2.2.2.2 + List.length ([r3.1] : List Int)) 8)
  (rec (x.1, x.2.1, x.2.2.1, r3.2, x.2.2.2.2.1, x.2.2.2.2.2.1, (x.2.2.2.2.2.2 ++ ([r3.1] : List Int))))
  (none))
 (some x.2.2.2.2.2.2)
def ref9_Model_Values (a0 : Int) (a1 : (List Int)) (a2 : (List QSym)) (a3 : (List Int)) (a4 : (List Int)) : Option (List Int) :=
 ((lp ref9_Model_Values_L0 fuel) (a2, a3, a4, 0, a0, a1, ([] : (List Int)))).bind fun r5 =>
 some r5
def ref9_Model_Atom (a0 : Int) (a1 : (List Int)) (a2 : (List QSym)) (a3 : (List Int)) (a4 : (List Int)) : Option Bool :=
 (slc2 a3 (some 1) none).bind fun y11 =>
 (ref9_Model_Values a0 a1 a2 y11 a4).bind fun r12 =>
 (gx a3 0).bind fun e13 =>
 cond (e13 == 0)
 ((inR 0 (List.length r12)).bind fun k14 =>
  (r12[k14]?).bind fun x15 =>
  (inR 1 (List.length r12)).bind fun k16 =>
  (r12[k16]?).bind fun x17 =>
  some (x15 == x17))
 ((gx a3 0).bind fun e18 =>
  (ref9_Model_look a0 a1 e18 r12).bind fun r19 =>
  (bitI .and .i64 r19 1).bind fun b20 =>
  some (b20 == 1))
def ref9_Model_Lit (a0 : Int) (a1 : (List Int)) (a2 : (List QSym)) (a3 : Bool) (a4 : (List Int)) (a5 : (List Int)) : Option Bool :=
 (ref9_Model_Atom a0 a1 a2 a4 a5).bind fun r2 =>
 some (!(r2 == a3))
def ref9_Model_Tuple (a0 : Int) (a1 : (List Int)) (a2 : (List QSym)) (a3 : (List Int)) (a4 : (List Int)) : Option Bool :=
 (ref9_Model_Values a0 a1 a2 a3 a4).bind fun r4 =>
 (ref9_Model_look a0 a1 101 r4).bind fun r5 =>
 (bitI .and .i64 r5 2).bind fun b6 =>
 some (b6 == 2)
def ref9_Model_Here_L2 (rec : ((List QSym) × (List Int) × Int × Int × (List Int) × (List QLit) × (List (List Int)) × (List QLit)) → Option (Unit ⊕ Bool)) (x : ((List QSym) × (List Int) × Int × Int × (List Int) × (List QLit) × (List (List Int)) × (List QLit))) : Option (Unit ⊕ Bool) :=
 cond (decide (x.2.2.1 < ((List.length x.2.2.2.2.2.2.1 : Nat) : Int)))
 ((gx x.2.2.2.2.2.2.1 x.2.2.1).bind fun e15 =>
  (ref9_Model_Tuple x.2.2.2.1 x.2.2.2.2.1 x.1 e15 x.2.1).bind fun r16 =>
  cond r16
  (some (Sum.inr true))
  (rec (x.1, x.2.1, (IntKind.wrap .i64 (x.2.2.1 + 1)), x.2.2.2.1, x.2.2.2.2.1, x.2.2.2.2.2.1, x.2.2.2.2.2.2.1, x.2.2.2.2.2.2.2)))
 (some (Sum.inl ()))
def ref9_Model_Here_L1 (rec : ((List QSym) × (List Int) × Int × Int × (List Int) × (List QLit) × (List (List Int)) × (List QLit)) → Option (Unit ⊕ Bool)) (x : ((List QSym) × (List Int) × Int × Int × (List Int) × (List QLit) × (List (List Int)) × (List QLit))) : Option (Unit ⊕ Bool) :=
 cond (decide (x.2.2.1 < ((List.length x.2.2.2.2.2.1 : Nat) : Int)))
 ((gx x.2.2.2.2.2.1 x.2.2.1).bind fun e9 =>
  (ref9_Model_Lit x.2.2.2.1 x.2.2.2.2.1 x.1 e9.1 e9.2 x.2.1).bind fun r10 =>
  cond r10
  (some (Sum.inr true))
  (rec (x.1, x.2.1, (IntKind.wrap .i64 (x.2.2.1 + 1)), x.2.2.2.1, x.2.2.2.2.1, x.2.2.2.2.2.1, x.2.2.2.2.2.2.1, x.2.2.2.2.2.2.2)))
 (some (Sum.inl ()))
def ref9_Model_Here_L0 (rec : ((List QSym) × (List Int) × Int × Int × (List Int) × (List QLit) × (List (List Int)) × (List QLit)) → Option (Unit ⊕ Bool)) (x : ((List QSym) × (List Int) × Int × Int × (List Int) × (List QLit) × (List (List Int)) × (List QLit))) : Option (Unit ⊕ Bool) :=
 cond (decide (x.2.2.1 < ((List.length x.2.2.2.2.2.2.2 : Nat) : Int)))
 ((gx x.2.2.2.2.2.2.2 x.2.2.1).bind fun e3 =>
  (ref9_Model_Lit x.2.2.2.1 x.2.2.2.2.1 x.1 e3.1 e3.2 x.2.1).bind fun r4 =>
  cond (!r4)
  (some (Sum.inr true))
  (rec (x.1, x.2.1, (IntKind.wrap .i64 (x.2.2.1 + 1)), x.2.2.2.1, x.2.2.2.2.1, x.2.2.2.2.2.1, x.2.2.2.2.2.2.1, x.2.2.2.2.2.2.2)))
 (some (Sum.inl ()))
def ref9_Model_Here (a0 : Int) (a1 : (List Int)) (a2 : (List QSym)) (a3 : (List QLit)) (a4 : (List (List Int))) (a5 : (List QLit)) (a6 : (List Int)) : Option Bool :=
 ((lp ref9_Model_Here_L0 fuel) (a2, a6, 0, a0, a1, a3, a4, a5)).bind fun r22 =>
 caseS r22
 (fun z23 => ((lp ref9_Model_Here_L1 fuel) (a2, a6, 0, a0, a1, a3, a4, a5)).bind fun r24 =>
  caseS r24
  (fun z25 => ((lp ref9_Model_Here_L2 fuel) (a2, a6, 0, a0, a1, a3, a4, a5)).bind fun r26 =>
   caseS r26
   (fun z27 => some false)
   (fun z28 => some z28))
  (fun z29 => some z29))
 (fun z30 => some z30)
def ref9_Model_Next_L0 (rec : ((List Int) × Int × (List Int) × Int × (List Int)) → Option ((List Int) ⊕ QLit)) (x : ((List Int) × Int × (List Int) × Int × (List Int))) : Option ((List Int) ⊕ QLit) :=
 cond (decide (x.2.1 < ((List.length x.1 : Nat) : Int)))
 ((gx x.1 x.2.1).bind fun e23 =>
  (inR e23 (List.length x.2.2.1)).bind fun k24 =>
  (x.2.2.1[k24]?).bind fun x25 =>
  (inR e23 (List.length x.2.2.1)).bind fun k26 =>
  (x.2.2.1[k26]?).bind fun x27 =>
  (gx x.1 x.2.1).bind fun e28 =>
  (inR e28 (List.length (List.set x.2.2.1 k26 (IntKind.wrap .i64 (x25 + 1))))).bind fun k29 =>
  ((List.set x.2.2.1 k26 (IntKind.wrap .i64 (x25 + 1)))[k29]?).bind fun x30 =>
  cond (decide (x30 < x.2.2.2.1))
  (some (Sum.inr (true, (List.set x.2.2.1 k26 (IntKind.wrap .i64 (x25 + 1))))))
  ((gx x.1 x.2.1).bind fun e31 =>
   (inR e31 (List.length (List.set x.2.2.1 k26 (IntKind.wrap .i64 (x25 + 1))))).bind fun k32 =>
   ((List.set x.2.2.1 k26 (IntKind.wrap .i64 (x25 + 1)))[k32]?).bind fun x33 =>
   rec (x.1, (IntKind.wrap .i64 (x.2.1 + 1)), (List.set (List.set x.2.2.1 k26 (IntKind.wrap .i64 (x25 + 1))) k32 0), x.2.2.2.1, x.2.2.2.2)))
 (some (Sum.inl x.2.2.1))
def ref9_Model_Next (a0 : Int) (a1 : (List Int)) (a2 : (List Int)) (a3 : (List Int)) : Option QLit :=
 ((lp ref9_Model_Next_L0 fuel) (a2, 0, a3, a0, a1)).bind fun r37 =>
 caseS r37
 (fun z38 => cond (!(List.isEmpty a3) && true)
  (cond (Nat.beq (List.length a3) (List.length z38) && true)
   (some (false, z38))
   (none))
  (none))
 (fun z39 => cond (!(List.isEmpty a3) && true)
  (cond (Nat.beq (List.length a3) (List.length z39.2) && true)
   (some (z39.1, z39.2))
   (none))
  (none))
def ref9_Model_Clause_L0 (rec : ((List QSym) × (List Int) × Int × (List Int) × (List QLit) × (List (List Int)) × (List QLit) × (List Int)) → Option Bool) (x : ((List QSym) × (List Int) × Int × (List Int) × (List QLit) × (List (List Int)) × (List QLit) × (List Int))) : Option Bool :=
 (ref9_Model_Here x.2.2.1 x.2.2.2.1 x.1 x.2.2.2.2.1 x.2.2.2.2.2.1 x.2.2.2.2.2.2.1 x.2.2.2.2.2.2.2).bind fun r5 =>
 cond (!r5)
 (some false)
 ((ref9_Model_Next x.2.2.1 x.2.2.2.1 x.2.1 x.2.2.2.2.2.2.2).bind fun r6 =>
  cond (!r6.1)
  (some true)
  (rec (x.1, x.2.1, x.2.2.1, x.2.2.2.1, x.2.2.2.2.1, x.2.2.2.2.2.1, x.2.2.2.2.2.2.1, r6.2)))
def ref9_Model_Clause (a0 : Int) (a1 : (List Int)) (a2 : (List QSym)) (a3 : (List QLit)) (a4 : (List (List Int))) (a5 : (List QLit)) : Option Bool :=
 (ref8_VarsOf a3 a4 a5).bind fun r8 =>
 (ref9_Env).bind fun r9 =>
 ((lp ref9_Model_Clause_L0 fuel) (a2, r8, a0, a1, a3, a4, a5, r9)).bind fun r10 =>
 some r10
def law13_few_L0 (rec : ((List QSym) × (List ((List QLit) × (List (List Int)) × (List QLit))) × Int) → Option (Unit ⊕ Bool)) (x : ((List QSym) × (List ((List QLit) × (List (List Int)) × (List QLit))) × Int)) : Option (Unit ⊕ Bool) :=
 cond (decide (x.2.2 < ((List.length x.2.1 : Nat) : Int)))
 ((gx x.2.1 x.2.2).bind fun e5 =>
  (clause_Vars x.1 e5.1 e5.2.1 e5.2.2).bind fun r6 =>
  (law0_Num r6.1).bind fun r7 =>
  cond (r7 != 0)
  (some (Sum.inr false))
  ((ref9_Few r6.2).bind fun r8 =>
   cond (!r8)
   (some (Sum.inr false))
   (rec (x.1, x.2.1, (IntKind.wrap .i64 (x.2.2 + 1))))))
 (some (Sum.inl ()))
def law13_few (a0 : (List QSym)) (a1 : (List ((List QLit) × (List (List Int)) × (List QLit)))) : Option Bool :=
 ((lp law13_few_L0 fuel) (a0, a1, 0)).bind fun r12 =>
 caseS r12
 (fun z13 => some true)
 (fun z14 => some z14)
def law13_ResolveHolds (a0 : (List QSym)) (a1 : (List QLit)) (a2 : (List (List Int))) (a3 : (List QLit)) (a4 : Int) (a5 : (List QLit)) (a6 : (List (List Int))) (a7 : (List QLit)) (a8 : Int) (a9 : Int) (a10 : (List Int)) : Option Bool :=
 (law13_awake).bind fun r10 =>
 cond (!r10)
 (some false)
 ((resolve_One a0 a1 a2 a3 a4 a5 a6 a7 a8).bind fun r11 =>
  (law0_Num r11.2.2.2.1).bind fun r12 =>
  cond (r12 != 0)
  (some true)
  (cond (!r11.2.2.1)
   (some true)
   (cond (((List.length a10 : Nat) : Int) == 0)
    (some true)
    ((clause_May a0 r11.1 r11.2.1 r11.2.2.2.2).bind fun r13 =>
     cond (!r13)
     (some false)
     ((law13_few a0 ([(a1, a2, a3), (a5, a6, a7), (r11.1, r11.2.1, r11.2.2.2.2)] : List ((List QLit) × (List (List Int)) × (List QLit)))).bind fun r14 =>
      cond (!r14)
      (some true)
      ((ref9_New a9 a10).bind fun r15 =>
       (ref9_Model_Clause r15.1 r15.2 a0 a1 a2 a3).bind fun r16 =>
       cond (!r16)
       (some true)
       ((ref9_Model_Clause r15.1 r15.2 a0 a5 a6 a7).bind fun r17 =>
        cond (!r17)
        (some true)
        ((ref9_Model_Clause r15.1 r15.2 a0 r11.1 r11.2.1 r11.2.2.2.2).bind fun r18 =>
         some r18))))))))
end Go.Abs.Q
namespace Go.Abs.Q
open Go Go.Abs
def ref1_In_L0_go (s1 : Int) : List Int → Option (Unit ⊕ Bool)
 | [] => some (Sum.inl ())
 | e :: es =>
  cond (e == (IntKind.wrap .i64 ((-1) - s1)))
  (some (Sum.inr true))
  (ref1_In_L0_go s1 es)
theorem ref1_In_L0_go_eq (s0 : (List Int)) (s1 : Int) (hl : List.length s0 ≤ maxLen) : ∀ (es : List Int) (i : Nat) (k : Nat), s0.drop i = es → es.length < k → lp ref1_In_L0 k (s0, s1, (i : Int)) = ref1_In_L0_go s1 es := by
 intro es
 induction es with
 | nil =>
  intro i k h hk
  obtain ⟨k, rfl⟩ : ∃ k', k = k' + 1 := ⟨k - 1, by omega⟩
  rw [lp_succ]
  generalize lp ref1_In_L0 k = rec
  unfold ref1_In_L0 ref1_In_L0_go
  simp only [lt_false (drop_nil_le h), cond_false]
 | cons e es ih =>
  intro i k h hk
  obtain ⟨k, rfl⟩ : ∃ k', k = k' + 1 := ⟨k - 1, by omega⟩
  rw [lp_succ]
  have hi := drop_cons_lt h
  have hk2 : es.length < k := Nat.lt_of_succ_lt_succ hk
  have key := fun (_ : Unit) => ih (i + 1) k (drop_cons_next h) hk2
  generalize lp ref1_In_L0 k = rec at key ⊢
  unfold ref1_In_L0 ref1_In_L0_go
  simp only [lt_true hi, cond_true, gx_nat, drop_cons_get h, Option.bind_some, wrap_i1 hi hl, key ()]
theorem ref1_In_L0_go_at0 (s0 : (List Int)) (s1 : Int) (hl : List.length s0 ≤ maxLen) : lp ref1_In_L0 fuel (s0, s1, 0) = ref1_In_L0_go s1 s0 :=
 ref1_In_L0_go_eq s0 s1 hl s0 0 fuel rfl (Nat.lt_of_le_of_lt hl (by decide))
def ref8_VarsOf_L0_go : List (List Int) → (List Int) → Option (List Int)
 | [], s2 => some s2
 | e :: es, s2 =>
  cond (room (List.length s2 + List.length e) 8)
  (ref8_VarsOf_L0_go es (s2 ++ e))
  (none)
theorem ref8_VarsOf_L0_go_eq (s0 : (List (List Int))) (hl : List.length s0 ≤ maxLen) : ∀ (es : List (List Int)) (i : Nat) (k : Nat) (s2 : (List Int)), s0.drop i = es → es.length < k → lp ref8_VarsOf_L0 k (s0, (i : Int), s2) = ref8_VarsOf_L0_go es s2 := by
 intro es
 induction es with
 | nil =>
  intro i k s2 h hk
  obtain ⟨k, rfl⟩ : ∃ k', k = k' + 1 := ⟨k - 1, by omega⟩
  rw [lp_succ]
  generalize lp ref8_VarsOf_L0 k = rec
  unfold ref8_VarsOf_L0 ref8_VarsOf_L0_go
  simp only [lt_false (drop_nil_le h), cond_false]
 | cons e es ih =>
  intro i k s2 h hk
  obtain ⟨k, rfl⟩ : ∃ k', k = k' + 1 := ⟨k - 1, by omega⟩
  rw [lp_succ]
  have hi := drop_cons_lt h
  have hk2 : es.length < k := Nat.lt_of_succ_lt_succ hk
  have key := fun s2 => ih (i + 1) k s2 (drop_cons_next h) hk2
  generalize lp ref8_VarsOf_L0 k = rec at key ⊢
  unfold ref8_VarsOf_L0 ref8_VarsOf_L0_go
  simp only [lt_true hi, cond_true, gx_nat, drop_cons_get h, Option.bind_some, wrap_i1 hi hl, key]
theorem ref8_VarsOf_L0_go_at0 (s0 : (List (List Int))) (s2 : (List Int)) (hl : List.length s0 ≤ maxLen) : lp ref8_VarsOf_L0 fuel (s0, 0, s2) = ref8_VarsOf_L0_go s0 s2 :=
 ref8_VarsOf_L0_go_eq s0 hl s0 0 fuel s2 rfl (Nat.lt_of_le_of_lt hl (by decide))
def ref9_Model_look_L0_go : List Int → Int → Option Int
 | [], s1 => some s1
 | e :: es, s1 =>
  ref9_Model_look_L0_go es (IntKind.wrap .u64 ((IntKind.wrap .u64 ((IntKind.wrap .u64 (s1 * 5)) + (IntKind.wrap .u64 e))) + 3))
theorem ref9_Model_look_L0_go_eq (s0 : (List Int)) (s3 : Int) (s4 : (List Int)) (hl : List.length s0 ≤ maxLen) : ∀ (es : List Int) (i : Nat) (k : Nat) (s1 : Int), s0.drop i = es → es.length < k → lp ref9_Model_look_L0 k (s0, s1, (i : Int), s3, s4) = ref9_Model_look_L0_go es s1 := by
 intro es
 induction es with
 | nil =>
  intro i k s1 h hk
  obtain ⟨k, rfl⟩ : ∃ k', k = k' + 1 := ⟨k - 1, by omega⟩
  rw [lp_succ]
  generalize lp ref9_Model_look_L0 k = rec
  unfold ref9_Model_look_L0 ref9_Model_look_L0_go
  simp only [lt_false (drop_nil_le h), cond_false]
 | cons e es ih =>
  intro i k s1 h hk
  obtain ⟨k, rfl⟩ : ∃ k', k = k' + 1 := ⟨k - 1, by omega⟩
  rw [lp_succ]
  have hi := drop_cons_lt h
  have hk2 : es.length < k := Nat.lt_of_succ_lt_succ hk
  have key := fun s1 => ih (i + 1) k s1 (drop_cons_next h) hk2
  generalize lp ref9_Model_look_L0 k = rec at key ⊢
  unfold ref9_Model_look_L0 ref9_Model_look_L0_go
  simp only [lt_true hi, cond_true, gx_nat, drop_cons_get h, Option.bind_some, wrap_i1 hi hl, key]
theorem ref9_Model_look_L0_go_at0 (s0 : (List Int)) (s3 : Int) (s4 : (List Int)) (s1 : Int) (hl : List.length s0 ≤ maxLen) : lp ref9_Model_look_L0 fuel (s0, s1, 0, s3, s4) = ref9_Model_look_L0_go s0 s1 :=
 ref9_Model_look_L0_go_eq s0 s3 s4 hl s0 0 fuel s1 rfl (Nat.lt_of_le_of_lt hl (by decide))
def ref9_Model_Here_L2_go (s0 : (List QSym)) (s1 : (List Int)) (s3 : Int) (s4 : (List Int)) : List (List Int) → Option (Unit ⊕ Bool)
 | [] => some (Sum.inl ())
 | e :: es =>
  (ref9_Model_Tuple s3 s4 s0 e s1).bind fun r16 =>
  cond r16
  (some (Sum.inr true))
  (ref9_Model_Here_L2_go s0 s1 s3 s4 es)
theorem ref9_Model_Here_L2_go_eq (s0 : (List QSym)) (s1 : (List Int)) (s3 : Int) (s4 : (List Int)) (s5 : (List QLit)) (s6 : (List (List Int))) (s7 : (List QLit)) (hl : List.length s6 ≤ maxLen) : ∀ (es : List (List Int)) (i : Nat) (k : Nat), s6.drop i = es → es.length < k → lp ref9_Model_Here_L2 k (s0, s1, (i : Int), s3, s4, s5, s6, s7) = ref9_Model_Here_L2_go s0 s1 s3 s4 es := by
 intro es
 induction es with
 | nil =>
  intro i k h hk
  obtain ⟨k, rfl⟩ : ∃ k', k = k' + 1 := ⟨k - 1, by omega⟩
  rw [lp_succ]
  generalize lp ref9_Model_Here_L2 k = rec
  unfold ref9_Model_Here_L2 ref9_Model_Here_L2_go
  simp only [lt_false (drop_nil_le h), cond_false]
 | cons e es ih =>
  intro i k h hk
  obtain ⟨k, rfl⟩ : ∃ k', k = k' + 1 := ⟨k - 1, by omega⟩
  rw [lp_succ]
  have hi := drop_cons_lt h
  have hk2 : es.length < k := Nat.lt_of_succ_lt_succ hk
  have key := fun (_ : Unit) => ih (i + 1) k (drop_cons_next h) hk2
  generalize lp ref9_Model_Here_L2 k = rec at key ⊢
  unfold ref9_Model_Here_L2 ref9_Model_Here_L2_go
  simp only [lt_true hi, cond_true, gx_nat, drop_cons_get h, Option.bind_some, wrap_i1 hi hl, key ()]
theorem ref9_Model_Here_L2_go_at0 (s0 : (List QSym)) (s1 : (List Int)) (s3 : Int) (s4 : (List Int)) (s5 : (List QLit)) (s6 : (List (List Int))) (s7 : (List QLit)) (hl : List.length s6 ≤ maxLen) : lp ref9_Model_Here_L2 fuel (s0, s1, 0, s3, s4, s5, s6, s7) = ref9_Model_Here_L2_go s0 s1 s3 s4 s6 :=
 ref9_Model_Here_L2_go_eq s0 s1 s3 s4 s5 s6 s7 hl s6 0 fuel rfl (Nat.lt_of_le_of_lt hl (by decide))
def ref9_Model_Here_L1_go (s0 : (List QSym)) (s1 : (List Int)) (s3 : Int) (s4 : (List Int)) : List QLit → Option (Unit ⊕ Bool)
 | [] => some (Sum.inl ())
 | e :: es =>
  (ref9_Model_Lit s3 s4 s0 e.1 e.2 s1).bind fun r10 =>
  cond r10
  (some (Sum.inr true))
  (ref9_Model_Here_L1_go s0 s1 s3 s4 es)
theorem ref9_Model_Here_L1_go_eq (s0 : (List QSym)) (s1 : (List Int)) (s3 : Int) (s4 : (List Int)) (s5 : (List QLit)) (s6 : (List (List Int))) (s7 : (List QLit)) (hl : List.length s5 ≤ maxLen) : ∀ (es : List QLit) (i : Nat) (k : Nat), s5.drop i = es → es.length < k → lp ref9_Model_Here_L1 k (s0, s1, (i : Int), s3, s4, s5, s6, s7) = ref9_Model_Here_L1_go s0 s1 s3 s4 es := by
 intro es
 induction es with
 | nil =>
  intro i k h hk
  obtain ⟨k, rfl⟩ : ∃ k', k = k' + 1 := ⟨k - 1, by omega⟩
  rw [lp_succ]
  generalize lp ref9_Model_Here_L1 k = rec
  unfold ref9_Model_Here_L1 ref9_Model_Here_L1_go
  simp only [lt_false (drop_nil_le h), cond_false]
 | cons e es ih =>
  intro i k h hk
  obtain ⟨k, rfl⟩ : ∃ k', k = k' + 1 := ⟨k - 1, by omega⟩
  rw [lp_succ]
  have hi := drop_cons_lt h
  have hk2 : es.length < k := Nat.lt_of_succ_lt_succ hk
  have key := fun (_ : Unit) => ih (i + 1) k (drop_cons_next h) hk2
  generalize lp ref9_Model_Here_L1 k = rec at key ⊢
  unfold ref9_Model_Here_L1 ref9_Model_Here_L1_go
  simp only [lt_true hi, cond_true, gx_nat, drop_cons_get h, Option.bind_some, wrap_i1 hi hl, key ()]
theorem ref9_Model_Here_L1_go_at0 (s0 : (List QSym)) (s1 : (List Int)) (s3 : Int) (s4 : (List Int)) (s5 : (List QLit)) (s6 : (List (List Int))) (s7 : (List QLit)) (hl : List.length s5 ≤ maxLen) : lp ref9_Model_Here_L1 fuel (s0, s1, 0, s3, s4, s5, s6, s7) = ref9_Model_Here_L1_go s0 s1 s3 s4 s5 :=
 ref9_Model_Here_L1_go_eq s0 s1 s3 s4 s5 s6 s7 hl s5 0 fuel rfl (Nat.lt_of_le_of_lt hl (by decide))
def ref9_Model_Here_L0_go (s0 : (List QSym)) (s1 : (List Int)) (s3 : Int) (s4 : (List Int)) : List QLit → Option (Unit ⊕ Bool)
 | [] => some (Sum.inl ())
 | e :: es =>
  (ref9_Model_Lit s3 s4 s0 e.1 e.2 s1).bind fun r4 =>
  cond (!r4)
  (some (Sum.inr true))
  (ref9_Model_Here_L0_go s0 s1 s3 s4 es)
theorem ref9_Model_Here_L0_go_eq (s0 : (List QSym)) (s1 : (List Int)) (s3 : Int) (s4 : (List Int)) (s5 : (List QLit)) (s6 : (List (List Int))) (s7 : (List QLit)) (hl : List.length s7 ≤ maxLen) : ∀ (es : List QLit) (i : Nat) (k : Nat), s7.drop i = es → es.length < k → lp ref9_Model_Here_L0 k (s0, s1, (i : Int), s3, s4, s5, s6, s7) = ref9_Model_Here_L0_go s0 s1 s3 s4 es := by
 intro es
 induction es with
 | nil =>
  intro i k h hk
  obtain ⟨k, rfl⟩ : ∃ k', k = k' + 1 := ⟨k - 1, by omega⟩
  rw [lp_succ]
  generalize lp ref9_Model_Here_L0 k = rec
  unfold ref9_Model_Here_L0 ref9_Model_Here_L0_go
  simp only [lt_false (drop_nil_le h), cond_false]
 | cons e es ih =>
  intro i k h hk
  obtain ⟨k, rfl⟩ : ∃ k', k = k' + 1 := ⟨k - 1, by omega⟩
  rw [lp_succ]
  have hi := drop_cons_lt h
  have hk2 : es.length < k := Nat.lt_of_succ_lt_succ hk
  have key := fun (_ : Unit) => ih (i + 1) k (drop_cons_next h) hk2
  generalize lp ref9_Model_Here_L0 k = rec at key ⊢
  unfold ref9_Model_Here_L0 ref9_Model_Here_L0_go
  simp only [lt_true hi, cond_true, gx_nat, drop_cons_get h, Option.bind_some, wrap_i1 hi hl, key ()]
theorem ref9_Model_Here_L0_go_at0 (s0 : (List QSym)) (s1 : (List Int)) (s3 : Int) (s4 : (List Int)) (s5 : (List QLit)) (s6 : (List (List Int))) (s7 : (List QLit)) (hl : List.length s7 ≤ maxLen) : lp ref9_Model_Here_L0 fuel (s0, s1, 0, s3, s4, s5, s6, s7) = ref9_Model_Here_L0_go s0 s1 s3 s4 s7 :=
 ref9_Model_Here_L0_go_eq s0 s1 s3 s4 s5 s6 s7 hl s7 0 fuel rfl (Nat.lt_of_le_of_lt hl (by decide))
def ref9_Model_Next_L0_go (s3 : Int) : List Int → (List Int) → Option ((List Int) ⊕ QLit)
 | [], s2 => some (Sum.inl s2)
 | e :: es, s2 =>
  (inR e (List.length s2)).bind fun k24 =>
  (s2[k24]?).bind fun x25 =>
  (inR e (List.length s2)).bind fun k26 =>
  (s2[k26]?).bind fun x27 =>
  (inR e (List.length (List.set s2 k26 (IntKind.wrap .i64 (x25 + 1))))).bind fun k29 =>
  ((List.set s2 k26 (IntKind.wrap .i64 (x25 + 1)))[k29]?).bind fun x30 =>
  cond (decide (x30 < s3))
  (some (Sum.inr (true, (List.set s2 k26 (IntKind.wrap .i64 (x25 + 1))))))
  ((inR e (List.length (List.set s2 k26 (IntKind.wrap .i64 (x25 + 1))))).bind fun k32 =>
   ((List.set s2 k26 (IntKind.wrap .i64 (x25 + 1)))[k32]?).bind fun x33 =>
   ref9_Model_Next_L0_go s3 es (List.set (List.set s2 k26 (IntKind.wrap .i64 (x25 + 1))) k32 0))
theorem ref9_Model_Next_L0_go_eq (s0 : (List Int)) (s3 : Int) (s4 : (List Int)) (hl : List.length s0 ≤ maxLen) : ∀ (es : List Int) (i : Nat) (k : Nat) (s2 : (List Int)), s0.drop i = es → es.length < k → lp ref9_Model_Next_L0 k (s0, (i : Int), s2, s3, s4) = ref9_Model_Next_L0_go s3 es s2 := by
 intro es
 induction es with
 | nil =>
  intro i k s2 h hk
  obtain ⟨k, rfl⟩ : ∃ k', k = k' + 1 := ⟨k - 1, by omega⟩
  rw [lp_succ]
  generalize lp ref9_Model_Next_L0 k = rec
  unfold ref9_Model_Next_L0 ref9_Model_Next_L0_go
  simp only [lt_false (drop_nil_le h), cond_false]
 | cons e es ih =>
  intro i k s2 h hk
  obtain ⟨k, rfl⟩ : ∃ k', k = k' + 1 := ⟨k - 1, by omega⟩
  rw [lp_succ]
  have hi := drop_cons_lt h
  have hk2 : es.length < k := Nat.lt_of_succ_lt_succ hk
  have key := fun s2 => ih (i + 1) k s2 (drop_cons_next h) hk2
  generalize lp ref9_Model_Next_L0 k = rec at key ⊢
  unfold ref9_Model_Next_L0 ref9_Model_Next_L0_go
  simp only [lt_true hi, cond_true, gx_nat, drop_cons_get h, Option.bind_some, wrap_i1 hi hl, key]
theorem ref9_Model_Next_L0_go_at0 (s0 : (List Int)) (s3 : Int) (s4 : (List Int)) (s2 : (List Int)) (hl : List.length s0 ≤ maxLen) : lp ref9_Model_Next_L0 fuel (s0, 0, s2, s3, s4) = ref9_Model_Next_L0_go s3 s0 s2 :=
 ref9_Model_Next_L0_go_eq s0 s3 s4 hl s0 0 fuel s2 rfl (Nat.lt_of_le_of_lt hl (by decide))
def law13_few_L0_go (s0 : (List QSym)) : List ((List QLit) × (List (List Int)) × (List QLit)) → Option (Unit ⊕ Bool)
 | [] => some (Sum.inl ())
 | e :: es =>
  (clause_Vars s0 e.1 e.2.1 e.2.2).bind fun r6 =>
  (law0_Num r6.1).bind fun r7 =>
  cond (r7 != 0)
  (some (Sum.inr false))
  ((ref9_Few r6.2).bind fun r8 =>
   cond (!r8)
   (some (Sum.inr false))
   (law13_few_L0_go s0 es))
theorem law13_few_L0_go_eq (s0 : (List QSym)) (s1 : (List ((List QLit) × (List (List Int)) × (List QLit)))) (hl : List.length s1 ≤ maxLen) : ∀ (es : List ((List QLit) × (List (List Int)) × (List QLit))) (i : Nat) (k : Nat), s1.drop i = es → es.length < k → lp law13_few_L0 k (s0, s1, (i : Int)) = law13_few_L0_go s0 es := by
 intro es
 induction es with
 | nil =>
  intro i k h hk
  obtain ⟨k, rfl⟩ : ∃ k', k = k' + 1 := ⟨k - 1, by omega⟩
  rw [lp_succ]
  generalize lp law13_few_L0 k = rec
  unfold law13_few_L0 law13_few_L0_go
  simp only [lt_false (drop_nil_le h), cond_false]
 | cons e es ih =>
  intro i k h hk
  obtain ⟨k, rfl⟩ : ∃ k', k = k' + 1 := ⟨k - 1, by omega⟩
  rw [lp_succ]
  have hi := drop_cons_lt h
  have hk2 : es.length < k := Nat.lt_of_succ_lt_succ hk
  have key := fun (_ : Unit) => ih (i + 1) k (drop_cons_next h) hk2
  generalize lp law13_few_L0 k = rec at key ⊢
  unfold law13_few_L0 law13_few_L0_go
  simp only [lt_true hi, cond_true, gx_nat, drop_cons_get h, Option.bind_some, wrap_i1 hi hl, key ()]
theorem law13_few_L0_go_at0 (s0 : (List QSym)) (s1 : (List ((List QLit) × (List (List Int)) × (List QLit)))) (hl : List.length s1 ≤ maxLen) : lp law13_few_L0 fuel (s0, s1, 0) = law13_few_L0_go s0 s1 :=
 law13_few_L0_go_eq s0 s1 hl s1 0 fuel rfl (Nat.lt_of_le_of_lt hl (by decide))
end Go.Abs.Q
namespace Go.Abs.Q
open Go Go.Abs
section
def NumsOk (nums : List Int) : Prop := nums ≠ [] ∧ nums.length ≤ 9223372036854775807
theorem wrap_u64_range (n : Int) : 0 ≤ IntKind.wrap .u64 n ∧ IntKind.wrap .u64 n < 18446744073709551616 := by
 simp [IntKind.wrap, IntKind.signed, IntKind.bits]
 omega
theorem look_go : (es : List Int) → (h : Int) → (0 ≤ h ∧ h < 18446744073709551616) → ∃ h', ref9_Model_look_L0_go es h = some h' ∧ 0 ≤ h' ∧ h' < 18446744073709551616
 | [], h, hh => ⟨h, rfl, hh⟩
 | e :: es, h, _ => look_go es _ (wrap_u64_range _)
theorem bit_and (a : Int) (b : Nat) (hb : b ≤ 255) : ∃ v : Nat, bitI .and .i64 a (b : Int) = some (v : Int) ∧ v ≤ b := by
 refine ⟨(BitVec.ofInt 64 a &&& BitVec.ofInt 64 (b : Int)).toNat, ?_, ?_⟩
 ·unfold bitI
  simp only [Option.some.injEq]
  have h1 : (BitVec.ofInt (IntKind.bits .i64) a &&& BitVec.ofInt (IntKind.bits .i64) (b : Int)).toNat ≤ 255 := by
   rw [BitVec.toNat_and]
   refine Nat.le_trans Nat.and_le_right ?_
   rw [BitVec.toNat_ofInt]
   simp [IntKind.bits]
   omega
  show IntKind.wrap .i64 _ = _
  rw [wrap64 (by omega) (by omega)]
  rfl
 ·rw [BitVec.toNat_and]
  refine Nat.le_trans Nat.and_le_right ?_
  rw [BitVec.toNat_ofInt]
  simp
  omega
theorem look_spec (m : Int) {nums : List Int} (hn : NumsOk nums) (c : Int) {xs : List Int} (hl : xs.length ≤ 1000000) : ∃ v : Nat, ref9_Model_look m nums c xs = some (v : Int) ∧ v ≤ 255 := by
 unfold ref9_Model_look
 have h0 : 0 < nums.length := List.length_pos_iff.2 hn.1
 have hl2 := hn.2
 rw [show (((List.length nums : Nat) : Int) == 0) = false from by simp; exact hn.1, cond_false, ref9_Model_look_L0_go_at0 _ _ _ _ (by unfold maxLen; omega)]
 obtain ⟨h, h1, h2, h3⟩ := look_go xs _ (wrap_u64_range (IntKind.wrap .i64 ((IntKind.wrap .i64 (c * 7)) + 1)))
 rw [h1, Option.bind_some]
 have hw : IntKind.wrap .u64 ((List.length nums : Nat) : Int) = ((nums.length : Nat) : Int) := wrap64u (by omega) (by omega)
 rw [hw, decide_eq_false (show ¬ (((nums.length : Nat) : Int) = 0) by omega), cond_false]
 have r1 : 0 ≤ Int.tmod h ((nums.length : Nat) : Int) := Int.tmod_nonneg _ h2
 have r2 : Int.tmod h ((nums.length : Nat) : Int) < ((nums.length : Nat) : Int) := Int.tmod_lt_of_pos _ (by omega)
 generalize Int.tmod h ((nums.length : Nat) : Int) = q at r1 r2
 rw [wrap64 (n := q) (by omega) (by omega)]
 obtain ⟨x, hx, -⟩ := gx_at (xs := nums) r1 r2
 rw [hx, Option.bind_some]
 obtain ⟨v, hv, hv2⟩ := bit_and x 255 (Nat.le_refl _)
 have hv : bitI .and .i64 x 255 = some (v : Int) := hv
 rw [hv]
 exact ⟨v, rfl, hv2⟩
def lookF (m : Int) (nums : List Int) (c : Int) (xs : List Int) : Int := (ref9_Model_look m nums c xs).getD 0
theorem look_eq (m : Int) {nums : List Int} (hn : NumsOk nums) (c : Int) {xs : List Int} (hl : xs.length ≤ 1000000) : ref9_Model_look m nums c xs = some (lookF m nums c xs) ∧ 0 ≤ lookF m nums c xs ∧ lookF m nums c xs ≤ 255 := by
 obtain ⟨v, h1, h2⟩ := look_spec m hn c hl
 unfold lookF
 rw [h1]
 exact ⟨rfl, by simp, by simp; omega⟩
section
variable (m : Int) (nums : List Int)
mutual
def valT (env : Nat → Int) : Tm → Int
 | .v n => env n
 | .f c ts => Int.tmod (lookF m nums (c : Int) (valR env ts)) m
def valR (env : Nat → Int) : List Tm → List Int
 | [] => []
 | t :: ts => valT env t :: valR env ts
end
theorem valR_len (env : Nat → Int) : (ts : List Tm) → (valR m nums env ts).length = ts.length
 | [] => rfl
 | t :: ts => by simp [valR, valR_len env ts]
mutual
theorem valT_sub (env : Nat → Int) (s : Sb) : (t : Tm) → valT m nums env (t.sub s) = valT m nums (fun n => valT m nums env (s n)) t
 | .v n => rfl
 | .f c ts => by
  show Int.tmod (lookF m nums (c : Int) (valR m nums env (subR s ts))) m = _
  rw [valR_sub env s ts]
  rfl
theorem valR_sub (env : Nat → Int) (s : Sb) : (ts : List Tm) → valR m nums env (subR s ts) = valR m nums (fun n => valT m nums env (s n)) ts
 | [] => rfl
 | t :: ts => by
  show valT m nums env (t.sub s) :: valR m nums env (subR s ts) = _
  rw [valT_sub env s t, valR_sub env s ts]
  rfl
end
mutual
theorem valT_ext {e e' : Nat → Int} : (t : Tm) → (∀ x, t.has x → e x = e' x) → valT m nums e t = valT m nums e' t
 | .v n, h => h n rfl
 | .f c ts, h => by
  show Int.tmod (lookF m nums (c : Int) (valR m nums e ts)) m = Int.tmod (lookF m nums (c : Int) (valR m nums e' ts)) m
  rw [valR_ext ts h]
theorem valR_ext {e e' : Nat → Int} : (ts : List Tm) → (∀ x, hasR x ts → e x = e' x) → valR m nums e ts = valR m nums e' ts
 | [], _ => rfl
 | t :: ts, h => by
  show valT m nums e t :: valR m nums e ts = valT m nums e' t :: valR m nums e' ts
  rw [valT_ext t fun x hx => h x (.inl hx), valR_ext ts fun x hx => h x (.inr hx)]
end
end
structure EnvOk (m : Int) (E : List Int) : Prop where
 len : E.length = 24
 rng : ∀ x ∈ E, 0 ≤ x ∧ x < m
def envF (E : List Int) (n : Nat) : Int := E.getD n 0
theorem EnvOk.get {m : Int} {E : List Int} (h : EnvOk m E) {n : Nat} (hn : n < 24) : E[n]? = some (envF E n) := by
 unfold envF
 rw [List.getD_eq_getElem?_getD, List.getElem?_eq_getElem (by rw [h.len]; exact hn)]
 rfl
theorem EnvOk.val {m : Int} {E : List Int} (h : EnvOk m E) {n : Nat} (hn : n < 24) : 0 ≤ envF E n ∧ envF E n < m := h.rng _ (List.mem_of_getElem? (h.get hn))
theorem valT_range {m : Int} (hm : 0 < m) {nums : List Int} (hn : NumsOk nums) {env : Nat → Int} {a0 : List QSym} (hs : SignOk a0) (t : Tm) (ho : t.ok a0 24) (h : ∀ x, x < 24 → 0 ≤ env x ∧ env x < m) : 0 ≤ valT m nums env t ∧ valT m nums env t < m := by
 cases t with
 | v n => exact h n ho
 | f c ts =>
  have h3 : ts.length ≤ 3 := arity_le hs ho.1
  have h1 := (look_eq m hn (c : Int) (xs := valR m nums env ts) (by rw [valR_len]; omega)).2
  exact ⟨Int.tmod_nonneg _ h1.1, Int.tmod_lt_of_pos _ hm⟩
theorem arity_at {a0 : List QSym} (hs : SignOk a0) {c q : Nat} (h : arity a0 (c : Int) = some q) : ∃ e, gx a0 (c : Int) = some e ∧ e.2.2.1 = (q : Int) := by
 unfold arity at h
 rw [decide_eq_false (show ¬ (c : Int) < 0 by omega), cond_false, Int.toNat_natCast] at h
 cases he : a0[c]? with
 | none => rw [he] at h; cases h
 | some e =>
  rw [he] at h
  simp only at h
  refine ⟨e, by rw [gx_nat, he], ?_⟩
  have := hs.at he
  cases hk : (e.2.1 == 0) with
  | true => rw [hk] at h; cases h
  | false => rw [hk] at h; injection h with h; omega
theorem value_args {m : Int} {nums : List Int} {a0 : List QSym} (rf : (Int × List Int × List QSym × List Int × Int × List Int) → Option (Int × Int)) (r E : List Int) (env : Nat → Int) (c q : Nat) (e : QSym) (he : gx a0 (c : Int) = some e) (hq : e.2.2.1 = (q : Int)) (hr : r.length ≤ 1000) :
  ∀ (us : List Tm) (i k p : Nat) (out rest : List Int), i + us.length = q → q ≤ 3 → us.length < k → out.length = i → r.drop p = codesR us ++ rest →
   (∀ u ∈ us, ∀ p rest, r.drop p = u.codes ++ rest → rf (m, nums, a0, r, (p : Int), E) = some (valT m nums env u, ((p + u.size : Nat) : Int))) →
   lp (ref9_Model_Value_L0 rf) k (a0, r, (p : Int), E, (c : Int), (i : Int), m, nums, out) = some (((p + sizeR us : Nat) : Int), out ++ valR m nums env us)
 | [], i, k, p, out, rest, hi, hq3, hk, ho, hd, hrf => by
  obtain ⟨k, rfl⟩ : ∃ k', k = k' + 1 := ⟨k - 1, by simp at hk; omega⟩
  rw [lp_succ]
  generalize lp (ref9_Model_Value_L0 rf) k = rec
  unfold ref9_Model_Value_L0
  simp only [he, Option.bind_some, hq]
  rw [decide_eq_false (show ¬ ((i : Int) < (q : Int)) by simp at hi; omega), cond_false]
  simp [valR, sizeR]
 | u :: us, i, k, p, out, rest, hi, hq3, hk, ho, hd, hrf => by
  obtain ⟨k, rfl⟩ : ∃ k', k = k' + 1 := ⟨k - 1, by simp at hk; omega⟩
  simp only [List.length_cons] at hi hk
  rw [lp_succ]
  have hd1 : r.drop p = u.codes ++ (codesR us ++ rest) := by rw [hd]; simp [codesR]
  have hd2 : r.drop (p + u.size) = codesR us ++ rest := by
   rw [← List.drop_drop, hd1, ← Tm.codes_len, List.drop_left]
  have key := fun out ho => value_args rf r E env c q e he hq hr us (i + 1) k (p + u.size) out rest (by omega) hq3 (by omega) ho hd2 (fun w hw => hrf w (List.mem_cons_of_mem _ hw))
  generalize lp (ref9_Model_Value_L0 rf) k = rec at key ⊢
  unfold ref9_Model_Value_L0
  have w : IntKind.wrap .i64 ((i : Int) + 1) = ((i + 1 : Nat) : Int) := by rw [wrap64] <;> omega
  simp only [he, Option.bind_some, hq, w]
  rw [decide_eq_true (show ((i : Int) < (q : Int)) by omega), cond_true, hrf u (List.mem_cons_self ..) p _ hd1, Option.bind_some, room_ok (by simp; omega), cond_true, key _ (by simp; omega)]
  simp [valR, sizeR, Nat.add_assoc]
theorem value_run {m : Int} (hm : 0 < m) {nums : List Int} (hn : NumsOk nums) {a0 : List QSym} (hs : SignOk a0) (r : List Int) (hr : r.length ≤ 1000) {E : List Int} (hE : EnvOk m E) : ∀ (k : Nat) (t : Tm) (p : Nat) (rest : List Int), t.size ≤ k → t.ok a0 24 → r.drop p = t.codes ++ rest →
  ref9_Model_Value_R k (m, nums, a0, r, (p : Int), E) = some (valT m nums (envF E) t, ((p + t.size : Nat) : Int)) := by
 intro k
 induction k with
 | zero => intro t p rest h; have := t.size_pos; omega
 | succ k ih =>
  intro t p rest hk ho hd
  show ref9_Model_Value_S (ref9_Model_Value_R k) m nums a0 r (p : Int) E = _
  have hp : p < r.length := by
   have := congrArg List.length hd
   rw [List.length_append, Tm.codes_len, List.length_drop] at this
   have := t.size_pos
   omega
  unfold ref9_Model_Value_S
  have w : IntKind.wrap .i64 ((p : Int) + 1) = ((p + 1 : Nat) : Int) := by rw [wrap64] <;> omega
  cases t with
  | v n =>
   have hn24 : n < 24 := ho
   have hd : r.drop p = (-1 - (n : Int)) :: rest := hd
   rw [gx_nat, drop_cons_get hd, Option.bind_some, decide_eq_true (show -1 - (n : Int) < 0 by omega), cond_true]
   have w2 : IntKind.wrap .i64 ((-1) - (-1 - (n : Int))) = (n : Int) := by rw [wrap64] <;> omega
   rw [w2, gx_nat, hE.get hn24, Option.bind_some, w]
   rfl
  | f c ts =>
   have hd : r.drop p = (c : Int) :: (codesR ts ++ rest) := hd
   have h3 : ts.length ≤ 3 := arity_le hs ho.1
   obtain ⟨e, he, hq⟩ := arity_at hs ho.1
   rw [gx_nat, drop_cons_get hd, Option.bind_some, decide_eq_false (show ¬ (c : Int) < 0 by omega), cond_false, w]
   simp only [Tm.size] at hk
   have := value_args (m := m) (nums := nums) (a0 := a0) (ref9_Model_Value_R k) r E (envF E) c ts.length e he hq hr ts 0 fuel (p + 1) [] rest (by omega) h3 (by unfold fuel; omega) rfl (drop_cons_next hd) (fun u hu p' rest' hd' => by
    refine ih u p' rest' ?_ (okR_iff.1 ho.2 u hu) hd'
    have : u.size ≤ sizeR ts := by
     obtain ⟨l1, l2, rfl⟩ := List.append_of_mem hu
     rw [sizeR_app]; simp only [sizeR]; omega
    omega)
   rw [show ((0 : Nat) : Int) = 0 from rfl] at this
   rw [this, Option.bind_some, List.nil_append]
   simp only
   rw [(look_eq m hn (c : Int) (xs := valR m nums (envF E) ts) (by rw [valR_len]; omega)).1, Option.bind_some, decide_eq_false (show ¬ (m = 0) by omega), cond_false]
   show some (_, _) = some (_, _)
   simp only [Tm.size, valT]
   rw [show p + 1 + sizeR ts = p + (sizeR ts + 1) from by omega]
theorem value_eq {m : Int} (hm : 0 < m) {nums : List Int} (hn : NumsOk nums) {a0 : List QSym} (hs : SignOk a0) {r : List Int} (hr : r.length ≤ 1000) {E : List Int} (hE : EnvOk m E) {t : Tm} {p : Nat} {rest : List Int} (ho : t.ok a0 24) (hd : r.drop p = t.codes ++ rest) :
  ref9_Model_Value m nums a0 r (p : Int) E = some (valT m nums (envF E) t, ((p + t.size : Nat) : Int)) := by
 refine value_run hm hn hs r hr hE fuel t p rest ?_ ho hd
 have := congrArg List.length hd
 rw [List.length_append, Tm.codes_len, List.length_drop] at this
 unfold fuel
 omega
theorem values_run {m : Int} (hm : 0 < m) {nums : List Int} (hn : NumsOk nums) {a0 : List QSym} (hs : SignOk a0) (r : List Int) (hr : r.length ≤ 1000) {E : List Int} (hE : EnvOk m E) : (us : List Tm) → (p k : Nat) → (out : List Int) → r.drop p = codesR us → okR a0 24 us → us.length < k → out.length + us.length ≤ 10000 →
  lp ref9_Model_Values_L0 k (a0, r, E, (p : Int), m, nums, out) = some (out ++ valR m nums (envF E) us)
 | [], p, k, out, hd, _, hk, _ => by
  obtain ⟨k, rfl⟩ : ∃ k', k = k' + 1 := ⟨k - 1, by simp at hk; omega⟩
  rw [lp_succ]
  generalize lp ref9_Model_Values_L0 k = rec
  unfold ref9_Model_Values_L0
  have : r.length ≤ p := by
   have := congrArg List.length hd
   simp [codesR] at this; omega
  rw [decide_eq_false (show ¬ ((p : Int) < ((List.length r : Nat) : Int)) by omega), cond_false]
  simp [valR]
 | u :: us, p, k, out, hd, ho, hk, hl => by
  obtain ⟨k, rfl⟩ : ∃ k', k = k' + 1 := ⟨k - 1, by simp at hk; omega⟩
  simp only [List.length_cons] at hk hl
  rw [lp_succ]
  have hd1 : r.drop p = u.codes ++ codesR us := hd
  have hd2 : r.drop (p + u.size) = codesR us := by
   rw [← List.drop_drop, hd1, ← Tm.codes_len, List.drop_left]
  have key := fun out ho' => values_run hm hn hs r hr hE us (p + u.size) k out hd2 ho.2 (by omega) ho'
  generalize lp ref9_Model_Values_L0 k = rec at key ⊢
  unfold ref9_Model_Values_L0
  have hp : p < r.length := by
   have := congrArg List.length hd1
   rw [List.length_append, Tm.codes_len, List.length_drop] at this
   have := u.size_pos
   omega
  rw [decide_eq_true (show ((p : Int) < ((List.length r : Nat) : Int)) by omega), cond_true, value_eq hm hn hs hr hE ho.1 hd1, Option.bind_some, room_ok (by simp; omega), cond_true, key _ (by simp; omega)]
  simp [valR]
theorem values_eq {m : Int} (hm : 0 < m) {nums : List Int} (hn : NumsOk nums) {a0 : List QSym} (hs : SignOk a0) {E : List Int} (hE : EnvOk m E) {us : List Tm} (ho : okR a0 24 us) (hl : (codesR us).length ≤ 1000) :
  ref9_Model_Values m nums a0 (codesR us) E = some (valR m nums (envF E) us) := by
 have h1 := cuts_len (cuts_codes us ho)
 rw [List.length_map] at h1
 unfold ref9_Model_Values
 have := values_run hm hn hs (codesR us) hl hE us 0 fuel [] rfl ho (by unfold fuel; omega) (by simp; omega)
 rw [show ((0 : Nat) : Int) = 0 from rfl] at this
 rw [this]
 rfl
def atomV (m : Int) (nums : List Int) (env : Nat → Int) (c : Nat) (ts : List Tm) : Bool :=
 cond (c == 0) ((valR m nums env ts)[0]? == (valR m nums env ts)[1]?) ((bitI .and .i64 (lookF m nums (c : Int) (valR m nums env ts)) 1).getD 0 == 1)
def tupleV (m : Int) (nums : List Int) (env : Nat → Int) (ts : List Tm) : Bool := (bitI .and .i64 (lookF m nums 101 (valR m nums env ts)) 2).getD 0 == 2
theorem atom_eq {m : Int} (hm : 0 < m) {nums : List Int} (hn : NumsOk nums) {a0 : List QSym} (hs : SignOk a0) {E : List Int} (hE : EnvOk m E) {c : Nat} {ts : List Tm} {e : QSym} (ho : okR a0 24 ts) (he : a0[c]? = some e) (hlen : ((ts.length : Nat) : Int) = e.2.2.1) (hl : (codesR ts).length ≤ 48) :
  ref9_Model_Atom m nums a0 ((c : Int) :: codesR ts) E = some (atomV m nums (envF E) c ts) := by
 have h1 := cuts_len (cuts_codes ts ho)
 rw [List.length_map] at h1
 unfold ref9_Model_Atom atomV
 rw [slc_tail, Option.bind_some, values_eq hm hn hs hE ho (by omega), Option.bind_some, gx_zero, List.getElem?_cons_zero, Option.bind_some]
 by_cases hc : c = 0
 ·subst hc
  have h2 : ts.length = 2 := by
   rw [hs.eq] at he
   injection he with he
   subst he
   have : ((ts.length : Nat) : Int) = 2 := hlen
   omega
  have hv : (valR m nums (envF E) ts).length = 2 := by rw [valR_len, h2]
  rw [show (((0 : Nat) : Int) == 0) = true from rfl, cond_true, show ((0 : Nat) == 0) = true from rfl, cond_true]
  have i0 : inR 0 (List.length (valR m nums (envF E) ts)) = some 0 := inR_nat (i := 0) (by omega)
  have i1 : inR 1 (List.length (valR m nums (envF E) ts)) = some 1 := inR_nat (i := 1) (by omega)
  rw [i0, i1]
  obtain ⟨v0, g0⟩ : ∃ v, (valR m nums (envF E) ts)[0]? = some v := ⟨_, List.getElem?_eq_getElem (by omega)⟩
  obtain ⟨v1, g1⟩ : ∃ v, (valR m nums (envF E) ts)[1]? = some v := ⟨_, List.getElem?_eq_getElem (by omega)⟩
  simp only [g0, g1, Option.bind_some]
  rfl
 ·rw [show ((c : Int) == 0) = false from by simp; omega, cond_false, show (c == 0) = false from by simp [hc], cond_false]
  simp only [Option.bind_some]
  rw [(look_eq m hn (c : Int) (xs := valR m nums (envF E) ts) (by rw [valR_len]; omega)).1, Option.bind_some]
  obtain ⟨v, hv, -⟩ := bit_and (lookF m nums (c : Int) (valR m nums (envF E) ts)) 1 (by omega)
  have hv : bitI .and .i64 (lookF m nums (c : Int) (valR m nums (envF E) ts)) 1 = some (v : Int) := hv
  rw [hv]
  rfl
theorem tuple_eq {m : Int} (hm : 0 < m) {nums : List Int} (hn : NumsOk nums) {a0 : List QSym} (hs : SignOk a0) {E : List Int} (hE : EnvOk m E) {ts : List Tm} (ho : okR a0 24 ts) (hl : (codesR ts).length ≤ 48) :
  ref9_Model_Tuple m nums a0 (codesR ts) E = some (tupleV m nums (envF E) ts) := by
 have h1 := cuts_len (cuts_codes ts ho)
 rw [List.length_map] at h1
 unfold ref9_Model_Tuple tupleV
 rw [values_eq hm hn hs hE ho (by omega), Option.bind_some, (look_eq m hn 101 (xs := valR m nums (envF E) ts) (by rw [valR_len]; omega)).1, Option.bind_some]
 obtain ⟨v, hv, -⟩ := bit_and (lookF m nums 101 (valR m nums (envF E) ts)) 2 (by omega)
 have hv : bitI .and .i64 (lookF m nums 101 (valR m nums (envF E) ts)) 2 = some (v : Int) := hv
 rw [hv]
 rfl
end
end Go.Abs.Q
namespace Go.Abs.Q
open Go Go.Abs
section
abbrev TLit := Bool × Nat × List Tm
def cl (l : TLit) : QLit := (l.1, (l.2.1 : Int) :: codesR l.2.2)
def WfL (a0 : List QSym) (l : TLit) : Prop := okR a0 24 l.2.2 ∧ (∃ e, a0[l.2.1]? = some e ∧ e.2.1 = 0 ∧ ((l.2.2.length : Nat) : Int) = e.2.2.1) ∧ (codesR l.2.2).length ≤ 48
def WfR (a0 : List QSym) (ts : List Tm) : Prop := okR a0 24 ts ∧ (codesR ts).length ≤ 48
theorem lits_tree {a0 : List QSym} : (ls : List QLit) → litsB a0 ls = true → ∃ lt : List TLit, ls = lt.map cl ∧ ∀ l ∈ lt, WfL a0 l
 | [], _ => ⟨[], rfl, fun _ h => (nomatch h)⟩
 | l :: ls, h => by
  unfold litsB at h
  rw [List.all_cons, Bool.and_eq_true] at h
  obtain ⟨lt, h1, h2⟩ := lits_tree ls h.2
  obtain ⟨c, ts, e, h3, h4, h5, h6, h7, h8, -⟩ := atom_tree h.1
  refine ⟨(l.1, c, ts) :: lt, by rw [List.map_cons, ← h1]; show l :: ls = (l.1, (c : Int) :: codesR ts) :: ls; rw [← h3], fun x hx => ?_⟩
  rcases List.mem_cons.1 hx with rfl | hx
  ·exact ⟨h4, ⟨e, h5, h6, h7⟩, h8⟩
  ·exact h2 x hx
theorem rows_tree {a0 : List QSym} {rs : List (List Int)} (h : rowsB a0 rs = true) : ∃ rt : List (List Tm), rs = rt.map codesR ∧ ∀ r ∈ rt, WfR a0 r := by
 obtain ⟨n, hn⟩ := rowsB_all h
 clear h
 induction rs with
 | nil => exact ⟨[], rfl, fun _ h => (nomatch h)⟩
 | cons r rs ih =>
  obtain ⟨rt, h1, h2⟩ := ih fun q hq => hn q (List.mem_cons_of_mem _ hq)
  obtain ⟨ps, hc, -, hl, -⟩ := rowW_spec (hn r (List.mem_cons_self ..))
  obtain ⟨ts, h3, -, h4⟩ := row_of hc
  refine ⟨ts :: rt, by rw [List.map_cons, ← h1, ← h4], fun x hx => ?_⟩
  rcases List.mem_cons.1 hx with rfl | hx
  ·exact ⟨h3, by rw [← h4]; exact hl⟩
  ·exact h2 x hx
theorem may_tree {a0 : List QSym} {L : List QLit} {T : List (List Int)} {C : List QLit} (h : mayB a0 L T C = true) : ∃ (Lt : List TLit) (Tt : List (List Tm)) (Ct : List TLit), L = Lt.map cl ∧ T = Tt.map codesR ∧ C = Ct.map cl ∧ (∀ l ∈ Lt, WfL a0 l) ∧ (∀ r ∈ Tt, WfR a0 r) ∧ ∀ l ∈ Ct, WfL a0 l := by
 obtain ⟨-, -, -, -, h4, h5, h6, -⟩ := mayB_spec h
 obtain ⟨Lt, a1, a2⟩ := lits_tree L h4
 obtain ⟨Tt, b1, b2⟩ := rows_tree h5
 obtain ⟨Ct, c1, c2⟩ := lits_tree C h6
 exact ⟨Lt, Tt, Ct, a1, b1, c1, a2, b2, c2⟩
def litV (m : Int) (nums : List Int) (env : Nat → Int) (l : TLit) : Bool := !(atomV m nums env l.2.1 l.2.2 == l.1)
def hereT (m : Int) (nums : List Int) (env : Nat → Int) (L : List TLit) (T : List (List Tm)) (C : List TLit) : Bool := !(C.all (litV m nums env)) || (L.any (litV m nums env) || T.any (tupleV m nums env))
section
variable {m : Int} (hm : 0 < m) {nums : List Int} (hn : NumsOk nums) {a0 : List QSym} (hs : SignOk a0) {E : List Int} (hE : EnvOk m E)
include hm hn hs hE
theorem lit_eq {l : TLit} (h : WfL a0 l) : ref9_Model_Lit m nums a0 (cl l).1 (cl l).2 E = some (litV m nums (envF E) l) := by
 obtain ⟨h1, ⟨e, h2, h3, h4⟩, h5⟩ := h
 unfold ref9_Model_Lit
 show (ref9_Model_Atom m nums a0 ((l.2.1 : Int) :: codesR l.2.2) E).bind _ = _
 rw [atom_eq hm hn hs hE h1 h2 h4 h5]
 rfl
theorem here_L0 : (es : List TLit) → (∀ l ∈ es, WfL a0 l) → ref9_Model_Here_L0_go a0 E m nums (es.map cl) = some (cond (es.all (litV m nums (envF E))) (.inl ()) (.inr true))
 | [], _ => rfl
 | e :: es, h => by
  rw [List.map_cons]
  unfold ref9_Model_Here_L0_go
  rw [lit_eq hm hn hs hE (h e (List.mem_cons_self ..)), Option.bind_some, here_L0 es fun l hl => h l (List.mem_cons_of_mem _ hl), List.all_cons]
  cases litV m nums (envF E) e <;> rfl
theorem here_L1 : (es : List TLit) → (∀ l ∈ es, WfL a0 l) → ref9_Model_Here_L1_go a0 E m nums (es.map cl) = some (cond (es.any (litV m nums (envF E))) (.inr true) (.inl ()))
 | [], _ => rfl
 | e :: es, h => by
  rw [List.map_cons]
  unfold ref9_Model_Here_L1_go
  rw [lit_eq hm hn hs hE (h e (List.mem_cons_self ..)), Option.bind_some, here_L1 es fun l hl => h l (List.mem_cons_of_mem _ hl), List.any_cons]
  cases litV m nums (envF E) e <;> rfl
theorem here_L2 : (es : List (List Tm)) → (∀ l ∈ es, WfR a0 l) → ref9_Model_Here_L2_go a0 E m nums (es.map codesR) = some (cond (es.any (tupleV m nums (envF E))) (.inr true) (.inl ()))
 | [], _ => rfl
 | e :: es, h => by
  rw [List.map_cons]
  unfold ref9_Model_Here_L2_go
  have he := h e (List.mem_cons_self ..)
  rw [tuple_eq hm hn hs hE he.1 he.2, Option.bind_some, here_L2 es fun l hl => h l (List.mem_cons_of_mem _ hl), List.any_cons]
  cases tupleV m nums (envF E) e <;> rfl
theorem here_eq {L : List TLit} {T : List (List Tm)} {C : List TLit} (hL : ∀ l ∈ L, WfL a0 l) (hT : ∀ r ∈ T, WfR a0 r) (hC : ∀ l ∈ C, WfL a0 l) (h1 : L.length ≤ 1000) (h2 : T.length ≤ 1000) (h3 : C.length ≤ 1000) :
  ref9_Model_Here m nums a0 (L.map cl) (T.map codesR) (C.map cl) E = some (hereT m nums (envF E) L T C) := by
 unfold ref9_Model_Here hereT
 rw [ref9_Model_Here_L0_go_at0 _ _ _ _ _ _ _ (by rw [List.length_map]; unfold maxLen; omega), here_L0 hm hn hs hE C hC, Option.bind_some]
 cases C.all (litV m nums (envF E)) with
 | false => rfl
 | true =>
  simp only [cond_true, caseS_inl]
  rw [ref9_Model_Here_L1_go_at0 _ _ _ _ _ _ _ (by rw [List.length_map]; unfold maxLen; omega), here_L1 hm hn hs hE L hL, Option.bind_some]
  cases L.any (litV m nums (envF E)) with
  | true => rfl
  | false =>
   simp only [cond_false, caseS_inl]
   rw [ref9_Model_Here_L2_go_at0 _ _ _ _ _ _ _ (by rw [List.length_map]; unfold maxLen; omega), here_L2 hm hn hs hE T hT, Option.bind_some]
   cases T.any (tupleV m nums (envF E)) <;> rfl
end
def cntV (m : Nat) (E : List Int) : List Nat → Nat
 | [] => 0
 | v :: vs => (envF E v).toNat + m * cntV m E vs
theorem cntV_ext {m : Nat} {E E' : List Int} : (vs : List Nat) → (∀ v ∈ vs, envF E v = envF E' v) → cntV m E vs = cntV m E' vs
 | [], _ => rfl
 | v :: vs, h => by
  unfold cntV
  rw [h v (List.mem_cons_self ..), cntV_ext vs fun w hw => h w (List.mem_cons_of_mem _ hw)]
theorem envF_set {E : List Int} {v w : Nat} {x : Int} (hv : v < E.length) : envF (E.set v x) w = if w = v then x else envF E w := by
 unfold envF
 rw [List.getD_eq_getElem?_getD, List.getD_eq_getElem?_getD]
 by_cases h : w = v
 ·subst h; rw [List.getElem?_set_self hv, if_pos rfl]; rfl
 ·rw [List.getElem?_set_ne (Ne.symm h), if_neg h]
theorem EnvOk.set {m : Int} {E : List Int} (h : EnvOk m E) {v : Nat} {x : Int} (hx : 0 ≤ x ∧ x < m) : EnvOk m (E.set v x) where
 len := by rw [List.length_set]; exact h.len
 rng := fun y hy => by
  rcases List.mem_or_eq_of_mem_set hy with hy | hy
  ·exact h.rng y hy
  ·rw [hy]; exact hx
theorem next_go {m : Nat} (hm : 0 < m) (hm3 : m ≤ 1000) : (vs : List Nat) → (E : List Int) → vs.Nodup → (∀ v ∈ vs, v < 24) → EnvOk (m : Int) E →
  (∃ E', ref9_Model_Next_L0_go (m : Int) (vs.map fun v : Nat => (v : Int)) E = some (.inr (true, E')) ∧ EnvOk (m : Int) E' ∧ cntV m E' vs = cntV m E vs + 1 ∧ ∀ w, w ∉ vs → envF E' w = envF E w) ∨
  (∃ E', ref9_Model_Next_L0_go (m : Int) (vs.map fun v : Nat => (v : Int)) E = some (.inl E') ∧ E'.length = 24 ∧ cntV m E vs + 1 = m ^ vs.length)
 | [], E, _, _, hE => .inr ⟨E, rfl, hE.len, rfl⟩
 | v :: vs, E, hnd, h24, hE => by
  have hnd := List.nodup_cons.1 hnd
  have hv := h24 v (List.mem_cons_self ..)
  have hx := hE.val hv
  have hlen := hE.len
  have hwx : IntKind.wrap .i64 (envF E v + 1) = envF E v + 1 := by rw [wrap64] <;> omega
  rw [List.map_cons]
  unfold ref9_Model_Next_L0_go
  have i1 : inR (v : Int) (List.length E) = some v := inR_nat (by omega)
  have i2 : inR (v : Int) (List.length (E.set v (envF E v + 1))) = some v := inR_nat (by rw [List.length_set]; omega)
  have g2 : (E.set v (envF E v + 1))[v]? = some (envF E v + 1) := List.getElem?_set_self (by omega)
  simp only [i1, hE.get hv, Option.bind_some, hwx, i2, g2, List.set_set]
  by_cases hlt : envF E v + 1 < (m : Int)
  ·rw [decide_eq_true hlt, cond_true]
   refine .inl ⟨_, rfl, hE.set ⟨by omega, hlt⟩, ?_, fun w hw => ?_⟩
   ·unfold cntV
    rw [envF_set (by omega), if_pos rfl, cntV_ext (E := E.set v (envF E v + 1)) (E' := E) vs fun w hw => by
     rw [envF_set (by omega), if_neg (show w ≠ v from fun e => hnd.1 (e ▸ hw))]]
    omega
   ·rw [envF_set (by omega), if_neg (show w ≠ v from fun e => hw (by rw [e]; exact List.mem_cons_self ..))]
  ·rw [decide_eq_false hlt, cond_false]
   have hE0 : EnvOk (m : Int) (E.set v 0) := hE.set ⟨by omega, by omega⟩
   have hnum : cntV m (E.set v 0) vs = cntV m E vs := cntV_ext vs fun w hw => by
    rw [envF_set (by omega), if_neg (show w ≠ v from fun e => hnd.1 (e ▸ hw))]
   have hxm : (envF E v).toNat + 1 = m := by omega
   rcases next_go hm hm3 vs (E.set v 0) hnd.2 (fun w hw => h24 w (List.mem_cons_of_mem _ hw)) hE0 with ⟨E', h1, h2, h3, h4⟩ | ⟨E', h1, h2, h3⟩
   ·rw [h1]
    refine .inl ⟨E', rfl, h2, ?_, fun w hw => ?_⟩
    ·unfold cntV
     rw [h3, hnum, h4 v hnd.1, envF_set (by omega), if_pos rfl, Nat.mul_add]
     simp only [Int.toNat_zero]
     omega
    ·rw [h4 w fun h => hw (List.mem_cons_of_mem _ h), envF_set (by omega), if_neg (show w ≠ v from fun e => hw (by rw [e]; exact List.mem_cons_self ..))]
   ·rw [h1]
    refine .inr ⟨E', rfl, h2, ?_⟩
    unfold cntV
    rw [hnum] at h3
    rw [List.length_cons, Nat.pow_succ, ← h3, Nat.add_mul, Nat.mul_comm m]
    omega
theorem next_spec {m : Nat} (hm : 0 < m) (hm3 : m ≤ 1000) (nums : List Int) {vs : List Nat} {E : List Int} (hnd : vs.Nodup) (h24 : ∀ v ∈ vs, v < 24) (hE : EnvOk (m : Int) E) :
  (∃ E', ref9_Model_Next (m : Int) nums (vs.map fun v : Nat => (v : Int)) E = some (true, E') ∧ EnvOk (m : Int) E' ∧ cntV m E' vs = cntV m E vs + 1 ∧ ∀ w, w ∉ vs → envF E' w = envF E w) ∨
  (∃ E', ref9_Model_Next (m : Int) nums (vs.map fun v : Nat => (v : Int)) E = some (false, E') ∧ cntV m E vs + 1 = m ^ vs.length) := by
 have hvl : vs.length ≤ 24 := by
  have := nodup_le vs (List.range 24) hnd fun v hv => List.mem_range.2 (h24 v hv)
  simpa using this
 have hne : List.isEmpty E = false := by
  cases E with
  | nil => have := hE.len; simp at this
  | cons _ _ => rfl
 unfold ref9_Model_Next
 rw [ref9_Model_Next_L0_go_at0 _ _ _ _ (by rw [List.length_map]; unfold maxLen; omega)]
 rcases next_go hm hm3 vs E hnd h24 hE with ⟨E', h1, h2, h3⟩ | ⟨E', h1, h2, h3⟩
 ·rw [h1]
  refine .inl ⟨E', ?_, h2, h3⟩
  simp only [Option.bind_some, caseS_inr, hne, Bool.not_false, Bool.and_self, cond_true, hE.len, h2.len]
  rfl
 ·rw [h1]
  refine .inr ⟨E', ?_, h3⟩
  simp only [Option.bind_some, caseS_inl, hne, Bool.not_false, Bool.and_self, cond_true, hE.len, h2]
  rfl
theorem cntV_lt {m : Nat} (hm : 0 < m) {E : List Int} (hE : EnvOk (m : Int) E) : (vs : List Nat) → (∀ v ∈ vs, v < 24) → cntV m E vs < m ^ vs.length
 | [], _ => by simp [cntV]
 | v :: vs, h => by
  have h1 := hE.val (h v (List.mem_cons_self ..))
  have h2 := cntV_lt hm hE vs fun w hw => h w (List.mem_cons_of_mem _ hw)
  unfold cntV
  rw [List.length_cons, Nat.pow_succ, Nat.mul_comm (m ^ vs.length)]
  have h3 : m * (cntV m E vs + 1) ≤ m * m ^ vs.length := Nat.mul_le_mul_left _ h2
  rw [Nat.mul_add] at h3
  omega
theorem cntV_inj {m : Nat} (hm : 0 < m) {E E' : List Int} (hE : EnvOk (m : Int) E) (hE' : EnvOk (m : Int) E') : (vs : List Nat) → (∀ v ∈ vs, v < 24) → cntV m E vs = cntV m E' vs → ∀ v ∈ vs, envF E v = envF E' v
 | [], _, _, v, hv => nomatch hv
 | v :: vs, h, he, w, hw => by
  have h1 := hE.val (h v (List.mem_cons_self ..))
  have h2 := hE'.val (h v (List.mem_cons_self ..))
  unfold cntV at he
  have e1 : ((envF E v).toNat + m * cntV m E vs) % m = (envF E v).toNat := by rw [Nat.add_mul_mod_self_left]; exact Nat.mod_eq_of_lt (by omega)
  have e2 : ((envF E' v).toNat + m * cntV m E' vs) % m = (envF E' v).toNat := by rw [Nat.add_mul_mod_self_left]; exact Nat.mod_eq_of_lt (by omega)
  have e3 : (envF E v).toNat = (envF E' v).toNat := by rw [← e1, ← e2, he]
  have e4 : cntV m E vs = cntV m E' vs := by
   have : m * cntV m E vs = m * cntV m E' vs := by omega
   exact Nat.eq_of_mul_eq_mul_left hm this
  rcases List.mem_cons.1 hw with rfl | hw
  ·omega
  ·exact cntV_inj hm hE hE' vs (fun w hw => h w (List.mem_cons_of_mem _ hw)) e4 w hw
theorem clause_rounds {m : Nat} (hm : 0 < m) (hm3 : m ≤ 1000) {nums : List Int} {a0 : List QSym} {L : List QLit} {T : List (List Int)} {C : List QLit} {vs : List Nat} (hnd : vs.Nodup) (h24 : ∀ v ∈ vs, v < 24)
  (here : List Int → Bool) (hh : ∀ E, EnvOk (m : Int) E → ref9_Model_Here (m : Int) nums a0 L T C E = some (here E)) (hext : ∀ E E', EnvOk (m : Int) E → EnvOk (m : Int) E' → (∀ v ∈ vs, envF E v = envF E' v) → here E = here E') :
  ∀ (d k : Nat) (E : List Int), EnvOk (m : Int) E → m ^ vs.length - cntV m E vs ≤ d → d < k →
   ∃ b, lp ref9_Model_Clause_L0 k (a0, vs.map (fun v : Nat => (v : Int)), (m : Int), nums, L, T, C, E) = some b ∧ (b = true ↔ ∀ E', EnvOk (m : Int) E' → cntV m E vs ≤ cntV m E' vs → here E' = true) := by
 intro d
 induction d with
 | zero =>
  intro k E hE hd
  have := cntV_lt hm hE vs h24
  omega
 | succ d ih =>
  intro k E hE hd hk
  obtain ⟨k, rfl⟩ : ∃ k', k = k' + 1 := ⟨k - 1, by omega⟩
  rw [lp_succ]
  have key := fun E hE h => ih k E hE h (by omega)
  generalize lp ref9_Model_Clause_L0 k = rec at key ⊢
  unfold ref9_Model_Clause_L0
  simp only
  rw [hh E hE, Option.bind_some]
  cases hb : here E with
  | false =>
   refine ⟨false, rfl, ?_⟩
   constructor
   ·intro h; cases h
   ·intro h; have := h E hE (Nat.le_refl _); rw [hb] at this; cases this
  | true =>
   simp only [Bool.not_true, cond_false]
   have self : ∀ E', EnvOk (m : Int) E' → cntV m E' vs = cntV m E vs → here E' = true := fun E' hE' he => by
    rw [hext E' E hE' hE (cntV_inj hm hE' hE vs h24 he), hb]
   rcases next_spec hm hm3 nums hnd h24 hE with ⟨E1, h1, h2, h3, h4⟩ | ⟨E1, h1, h2⟩
   ·rw [h1]
    simp only [Option.bind_some, Bool.not_true, cond_false]
    obtain ⟨b, g1, g2⟩ := key E1 h2 (by rw [h3]; omega)
    refine ⟨b, g1, g2.trans ⟨fun h E' hE' hle => ?_, fun h E' hE' hle => h E' hE' (by omega)⟩⟩
    rcases Nat.eq_or_lt_of_le hle with he | hlt
    ·exact self E' hE' he.symm
    ·exact h E' hE' (by omega)
   ·rw [h1]
    refine ⟨true, rfl, ⟨fun _ E' hE' hle => ?_, fun _ => rfl⟩⟩
    have := cntV_lt hm hE' vs h24
    exact self E' hE' (by omega)
end
end Go.Abs.Q
namespace Go.Abs.Q
open Go Go.Abs
section
theorem In_go (v : Nat) (hv : v < 24) : (es : List Int) → ref1_In_L0_go (v : Int) es = some (cond (decide (-1 - (v : Int) ∈ es)) (.inr true) (.inl ()))
 | [] => rfl
 | e :: es => by
  unfold ref1_In_L0_go
  have w : IntKind.wrap .i64 ((-1) - (v : Int)) = -1 - (v : Int) := by rw [wrap64] <;> omega
  rw [w, In_go v hv es]
  by_cases he : e = -1 - (v : Int)
  ·rw [show (e == -1 - (v : Int)) = true from by simp [he], decide_eq_true (show -1 - (v : Int) ∈ e :: es by rw [he]; exact List.mem_cons_self ..)]
   rfl
  ·rw [show (e == -1 - (v : Int)) = false from by simp [he], cond_false]
   by_cases hm : (-1 - (v : Int)) ∈ es
   ·rw [decide_eq_true hm, decide_eq_true (List.mem_cons_of_mem _ hm)]
   ·rw [decide_eq_false hm, decide_eq_false fun h => (List.mem_cons.1 h).elim (fun h => he h.symm) hm]
theorem ref1_In_eq {v : Nat} (hv : v < 24) {r : List Int} (hl : r.length ≤ 1000000) : ref1_In r (v : Int) = some (decide (-1 - (v : Int) ∈ r)) := by
 unfold ref1_In
 rw [ref1_In_L0_go_at0 _ _ (by unfold maxLen; omega), In_go v hv, Option.bind_some]
 cases decide (-1 - (v : Int) ∈ r) <;> rfl
def inR_ (r : List Int) (v : Nat) : Bool := decide (-1 - (v : Int) ∈ r)
theorem VarsOf_round {r : List Int} (hl : r.length ≤ 1000000) : ∀ (d v k : Nat) (out : List Int), 24 - v = d → v ≤ 24 → d < k → out.length ≤ v →
  lp ref1_VarsOf_L0 k (r, (v : Int), out) = some (out ++ (((List.range 24).drop v).filter (inR_ r)).map fun v : Nat => (v : Int)) := by
 intro d
 induction d with
 | zero =>
  intro v k out hd hv hk ho
  obtain ⟨k, rfl⟩ : ∃ k', k = k' + 1 := ⟨k - 1, by omega⟩
  rw [lp_succ]
  generalize lp ref1_VarsOf_L0 k = rec
  unfold ref1_VarsOf_L0
  have : v = 24 := by omega
  subst this
  rw [show (List.range 24).drop 24 = [] from rfl]
  simp
 | succ d ih =>
  intro v k out hd hv hk ho
  obtain ⟨k, rfl⟩ : ∃ k', k = k' + 1 := ⟨k - 1, by omega⟩
  rw [lp_succ]
  have key := fun out ho => ih (v + 1) k out (by omega) (by omega) (by omega) ho
  generalize lp ref1_VarsOf_L0 k = rec at key ⊢
  unfold ref1_VarsOf_L0
  have w : IntKind.wrap .i64 ((v : Int) + 1) = ((v + 1 : Nat) : Int) := by rw [wrap64] <;> omega
  have hdr : (List.range 24).drop v = v :: (List.range 24).drop (v + 1) := by
   rw [List.drop_eq_getElem_cons (by simp; omega)]
   simp
  simp only [decide_eq_true (show (v : Int) ≤ 23 by omega), cond_true, ref1_In_eq (show v < 24 by omega) hl, Option.bind_some, w]
  rw [hdr]
  by_cases hm : (-1 - (v : Int)) ∈ r
  ·rw [decide_eq_true hm, cond_true, room_ok (by simp; omega), cond_true, key _ (by simp; omega)]
   have : inR_ r v = true := decide_eq_true hm
   rw [List.filter_cons_of_pos this]
   simp
  ·rw [decide_eq_false hm, cond_false, key _ (by omega)]
   have : ¬ (inR_ r v = true) := by unfold inR_; rw [decide_eq_false hm]; simp
   rw [List.filter_cons_of_neg this]
theorem flat_go : (es : List (List Int)) → (out : List Int) → out.length + sumLen es ≤ 1000000 → ref8_VarsOf_L0_go es out = some (out ++ es.flatten)
 | [], out, _ => by simp [ref8_VarsOf_L0_go]
 | e :: es, out, h => by
  rw [sumLen_cons] at h
  unfold ref8_VarsOf_L0_go
  rw [room_ok (by omega), cond_true, flat_go es _ (by rw [List.length_append]; omega)]
  simp
def varsN (L : List QLit) (T : List (List Int)) (C : List QLit) : List Nat := (List.range 24).filter (inR_ (L.map (·.2) ++ T ++ C.map (·.2)).flatten)
theorem varsN_nodup (L : List QLit) (T : List (List Int)) (C : List QLit) : (varsN L T C).Nodup := List.nodup_range.sublist List.filter_sublist
theorem varsN_lt {L : List QLit} {T : List (List Int)} {C : List QLit} : ∀ v ∈ varsN L T C, v < 24 := fun v hv => List.mem_range.1 (List.mem_filter.1 hv).1
theorem varsN_mem {L : List QLit} {T : List (List Int)} {C : List QLit} {v : Nat} (hv : v < 24) : v ∈ varsN L T C ↔ VarR (rowsOf L T C) (v : Int) := by
 unfold varsN inR_
 rw [List.mem_filter]
 simp only [List.mem_range, hv, true_and, decide_eq_true_eq, List.mem_flatten]
 constructor
 ·rintro ⟨r, hr, hc⟩
  refine ⟨r, ?_, _, hc, by omega, by omega⟩
  unfold rowsOf
  simp only [List.mem_append] at hr ⊢
  rcases hr with (hr | hr) | hr
  ·exact .inl (.inl hr)
  ·exact .inr hr
  ·exact .inl (.inr hr)
 ·rintro ⟨r, hr, c, hc, h0, he⟩
  refine ⟨r, ?_, by rw [show -1 - (v : Int) = c from by omega]; exact hc⟩
  unfold rowsOf at hr
  simp only [List.mem_append] at hr ⊢
  rcases hr with (hr | hr) | hr
  ·exact .inl (.inl hr)
  ·exact .inr hr
  ·exact .inl (.inr hr)
theorem ref8_VarsOf_eq {L : List QLit} {T : List (List Int)} {C : List QLit} (h1 : L.length ≤ 1000) (h2 : T.length ≤ 1000) (h3 : C.length ≤ 1000) (hl : sumLen (L.map (·.2)) + sumLen T + sumLen (C.map (·.2)) ≤ 1000000) :
  ref8_VarsOf L T C = some ((varsN L T C).map fun v : Nat => (v : Int)) := by
 unfold ref8_VarsOf
 rw [ref8_rows_eq L T C h1 h2 h3, Option.bind_some, ref8_VarsOf_L0_go_at0 _ _ (by simp; unfold maxLen; omega), flat_go _ _ (by rw [sumLen_append, sumLen_append]; simp; omega), Option.bind_some]
 unfold ref1_VarsOf
 have hf : ((L.map (·.2) ++ T ++ C.map (·.2)).flatten).length ≤ 1000000 := by
  rw [← sum_flat, sumLen_append, sumLen_append]; omega
 have := VarsOf_round hf 24 0 fuel [] rfl (by omega) (by unfold fuel; omega) (by simp)
 rw [show ((0 : Nat) : Int) = 0 from rfl, List.drop_zero] at this
 simp only [List.nil_append] at this ⊢
 rw [this]
 rfl
def VarT (L : List TLit) (T : List (List Tm)) (C : List TLit) (x : Nat) : Prop := (∃ l ∈ L, hasR x l.2.2) ∨ (∃ r ∈ T, hasR x r) ∨ ∃ l ∈ C, hasR x l.2.2
theorem VarC_cl {l : TLit} {x : Nat} : VarC (cl l).2 (x : Int) ↔ hasR x l.2.2 := by
 constructor
 ·rintro ⟨c, hc, h0, he⟩
  rcases List.mem_cons.1 hc with rfl | hc
  ·omega
  ·obtain ⟨k, h1, h2⟩ := VarC_codes.1 ⟨c, hc, h0, he⟩
   have : x = k := by omega
   rw [this]; exact h2
 ·intro h
  obtain ⟨c, hc, h0, he⟩ := VarC_codes.2 ⟨x, rfl, h⟩
  exact ⟨c, List.mem_cons_of_mem _ hc, h0, he⟩
theorem VarR_tree {L : List TLit} {T : List (List Tm)} {C : List TLit} {x : Nat} : VarR (rowsOf (L.map cl) (T.map codesR) (C.map cl)) (x : Int) ↔ VarT L T C x := by
 unfold rowsOf VarT
 rw [VarR_append, VarR_append]
 constructor
 ·rintro ((⟨r, hr, h⟩ | ⟨r, hr, h⟩) | ⟨r, hr, h⟩)
  ·obtain ⟨q, hq, rfl⟩ := List.mem_map.1 hr
   obtain ⟨l, hl, rfl⟩ := List.mem_map.1 hq
   exact .inl ⟨l, hl, VarC_cl.1 h⟩
  ·obtain ⟨q, hq, rfl⟩ := List.mem_map.1 hr
   obtain ⟨l, hl, rfl⟩ := List.mem_map.1 hq
   exact .inr (.inr ⟨l, hl, VarC_cl.1 h⟩)
  ·obtain ⟨l, hl, rfl⟩ := List.mem_map.1 hr
   obtain ⟨k, h1, h2⟩ := VarC_codes.1 h
   have : x = k := by omega
   exact .inr (.inl ⟨l, hl, by rw [this]; exact h2⟩)
 ·rintro (⟨l, hl, h⟩ | ⟨r, hr, h⟩ | ⟨l, hl, h⟩)
  ·exact .inl (.inl ⟨_, List.mem_map_of_mem (List.mem_map_of_mem hl), VarC_cl.2 h⟩)
  ·exact .inr ⟨_, List.mem_map_of_mem hr, VarC_codes.2 ⟨x, rfl, h⟩⟩
  ·exact .inl (.inr ⟨_, List.mem_map_of_mem (List.mem_map_of_mem hl), VarC_cl.2 h⟩)
theorem litV_ext {m : Int} {nums : List Int} {e e' : Nat → Int} {l : TLit} (h : ∀ x, hasR x l.2.2 → e x = e' x) : litV m nums e l = litV m nums e' l := by
 unfold litV atomV
 rw [valR_ext m nums l.2.2 h]
theorem tupleV_ext {m : Int} {nums : List Int} {e e' : Nat → Int} {r : List Tm} (h : ∀ x, hasR x r → e x = e' x) : tupleV m nums e r = tupleV m nums e' r := by
 unfold tupleV
 rw [valR_ext m nums r h]
theorem all_congr {α : Type} {p q : α → Bool} {l : List α} (h : ∀ x ∈ l, p x = q x) : l.all p = l.all q := by
 induction l with
 | nil => rfl
 | cons a l ih => rw [List.all_cons, List.all_cons, h a (List.mem_cons_self ..), ih fun x hx => h x (List.mem_cons_of_mem _ hx)]
theorem any_congr {α : Type} {p q : α → Bool} {l : List α} (h : ∀ x ∈ l, p x = q x) : l.any p = l.any q := by
 induction l with
 | nil => rfl
 | cons a l ih => rw [List.any_cons, List.any_cons, h a (List.mem_cons_self ..), ih fun x hx => h x (List.mem_cons_of_mem _ hx)]
theorem hereT_ext {m : Int} {nums : List Int} {e e' : Nat → Int} {L : List TLit} {T : List (List Tm)} {C : List TLit} (h : ∀ x, VarT L T C x → e x = e' x) : hereT m nums e L T C = hereT m nums e' L T C := by
 unfold hereT
 rw [all_congr (l := C) fun l hl => litV_ext fun x hx => h x (.inr (.inr ⟨l, hl, hx⟩)), any_congr (l := L) fun l hl => litV_ext fun x hx => h x (.inl ⟨l, hl, hx⟩),
  any_congr (l := T) fun r hr => tupleV_ext fun x hx => h x (.inr (.inl ⟨r, hr, hx⟩))]
theorem Clause_spec {m : Nat} (hm : 0 < m) (hm3 : m ≤ 3) {nums : List Int} (hn : NumsOk nums) {a0 : List QSym} (hs : SignOk a0) {L : List TLit} {T : List (List Tm)} {C : List TLit} (hmay : mayB a0 (L.map cl) (T.map codesR) (C.map cl) = true) (hL : ∀ l ∈ L, WfL a0 l) (hT : ∀ r ∈ T, WfR a0 r) (hC : ∀ l ∈ C, WfL a0 l) :
  ∃ b, ref9_Model_Clause (m : Int) nums a0 (L.map cl) (T.map codesR) (C.map cl) = some b ∧ (b = true ↔ ∀ E, EnvOk (m : Int) E → hereT (m : Int) nums (envF E) L T C = true) := by
 obtain ⟨-, h1, h2, h3, -, -, -, h7⟩ := mayB_spec hmay
 simp only [List.length_map] at h1 h2 h3
 have hE0 : EnvOk (m : Int) (List.replicate 24 (0 : Int)) := ⟨by simp, fun x hx => by have := List.eq_of_mem_replicate hx; omega⟩
 have h0 : cntV m (List.replicate 24 (0 : Int)) (varsN (L.map cl) (T.map codesR) (C.map cl)) = 0 := by
  generalize varsN (L.map cl) (T.map codesR) (C.map cl) = vs
  induction vs with
  | nil => rfl
  | cons v vs ih =>
   unfold cntV
   rw [ih]
   have : envF (List.replicate 24 (0 : Int)) v = 0 := by
    unfold envF
    rw [List.getD_eq_getElem?_getD, List.getElem?_replicate]
    split <;> rfl
   rw [this]
   simp
 have hvar : ∀ x, VarT L T C x → x ∈ varsN (L.map cl) (T.map codesR) (C.map cl) := fun x hx => by
  have hx := VarR_tree.2 hx
  have := varR_lt hmay hx
  exact (varsN_mem (by omega)).2 hx
 have hvl : (varsN (L.map cl) (T.map codesR) (C.map cl)).length ≤ 24 := by
  have := nodup_le _ (List.range 24) (varsN_nodup (L.map cl) (T.map codesR) (C.map cl)) fun v hv => List.mem_range.2 (varsN_lt v hv)
  simpa using this
 obtain ⟨b, g1, g2⟩ := clause_rounds hm (by omega) (nums := nums) (a0 := a0) (L := L.map cl) (T := T.map codesR) (C := C.map cl) (varsN_nodup (L.map cl) (T.map codesR) (C.map cl)) varsN_lt
  (fun E => hereT (m : Int) nums (envF E) L T C) (fun E hE => here_eq (by omega) hn hs hE hL hT hC (by omega) (by omega) (by omega))
  (fun E E' _ _ h => hereT_ext fun x hx => h x (hvar x hx)) (m ^ (varsN (L.map cl) (T.map codesR) (C.map cl)).length) fuel (List.replicate 24 (0 : Int)) hE0 (by omega) (by
   have e1 : m ^ (varsN (L.map cl) (T.map codesR) (C.map cl)).length ≤ 3 ^ (varsN (L.map cl) (T.map codesR) (C.map cl)).length := Nat.pow_le_pow_left hm3 _
   have e2 : 3 ^ (varsN (L.map cl) (T.map codesR) (C.map cl)).length ≤ 3 ^ 24 := Nat.pow_le_pow_right (by omega) hvl
   have e3 : (3 : Nat) ^ 24 = 282429536481 := by decide
   unfold fuel
   omega)
 refine ⟨b, ?_, g2.trans ⟨fun h E hE => h E hE (by rw [h0]; omega), fun h E hE _ => h E hE⟩⟩
 unfold ref9_Model_Clause
 rw [ref8_VarsOf_eq (by rw [List.length_map]; omega) (by rw [List.length_map]; omega) (by rw [List.length_map]; omega) (by omega), Option.bind_some]
 have he : ref9_Env = some (List.replicate 24 (0 : Int)) := rfl
 rw [he, Option.bind_some, g1]
 rfl
end
end Go.Abs.Q
namespace Go.Abs.Q
open Go Go.Abs
section
abbrev RenS := List Int × Int
def rho (s : RenS) (v : Nat) : Nat := (s.1.getD v 0).toNat - 1
structure RenI (s : RenS) : Prop where
 len : s.1.length = 24
 rng : ∀ v, 0 ≤ s.1.getD v 0 ∧ s.1.getD v 0 ≤ s.2
 inj : ∀ v w, s.1.getD v 0 = s.1.getD w 0 → s.1.getD v 0 ≠ 0 → v = w
 cnt : ((s.1.countP (fun x => x != 0) : Nat) : Int) = s.2
def ExtS (s s' : RenS) : Prop := ∀ v, s.1.getD v 0 ≠ 0 → s'.1.getD v 0 = s.1.getD v 0
theorem ExtS.refl (s : RenS) : ExtS s s := fun _ _ => rfl
theorem ExtS.trans {s t u : RenS} (h : ExtS s t) (h' : ExtS t u) : ExtS s u := fun v hv => (h' v (by rw [h v hv]; exact hv)).trans (h v hv)
theorem RenI.next {s : RenS} (h : RenI s) : 0 ≤ s.2 ∧ s.2 ≤ 24 := by
 have h1 := h.cnt
 have h2 : s.1.countP (fun x => x != 0) ≤ s.1.length := List.countP_le_length
 rw [h.len] at h2
 omega
theorem RenI.rho_lt {s : RenS} (h : RenI s) {v : Nat} (hv : s.1.getD v 0 ≠ 0) : rho s v < 24 := by
 have h1 := h.rng v
 have h2 := h.next
 unfold rho
 omega
theorem RenI.rho_inj {s : RenS} (h : RenI s) {v w : Nat} (hv : s.1.getD v 0 ≠ 0) (hw : s.1.getD w 0 ≠ 0) (he : rho s v = rho s w) : v = w := by
 have h1 := h.rng v
 have h2 := h.rng w
 unfold rho at he
 exact h.inj v w (by omega) hv
theorem ren0 : RenI (List.replicate 24 (0 : Int), 0) where
 len := by simp
 rng := fun v => by
  rw [List.getD_eq_getElem?_getD, List.getElem?_replicate]
  split <;> simp
 inj := fun v w _ h => by
  exfalso
  apply h
  rw [List.getD_eq_getElem?_getD, List.getElem?_replicate]
  split <;> rfl
 cnt := by decide
theorem countP_set {xs : List Int} {v : Nat} {y : Int} (hv : xs[v]? = some 0) (hy : y ≠ 0) : (xs.set v y).countP (fun x => x != 0) = xs.countP (fun x => x != 0) + 1 := by
 obtain ⟨hx, he⟩ := List.getElem?_eq_some_iff.1 hv
 have h1 := List.take_append_drop v xs
 have h2 : xs.drop v = 0 :: xs.drop (v + 1) := by rw [List.drop_eq_getElem_cons hx, he]
 have h3 : xs.set v y = xs.take v ++ y :: xs.drop (v + 1) := by rw [List.set_eq_take_append_cons_drop, if_pos hx]
 conv => rhs; rw [← h1, h2]
 rw [h3]
 simp [List.countP_append, List.countP_cons, hy]
 omega
theorem getD_set {xs : List Int} {v w : Nat} {y : Int} (hv : v < xs.length) : (xs.set v y).getD w 0 = if w = v then y else xs.getD w 0 := by
 rw [List.getD_eq_getElem?_getD, List.getD_eq_getElem?_getD]
 by_cases h : w = v
 ·subst h; rw [List.getElem?_set_self hv, if_pos rfl]; rfl
 ·rw [List.getElem?_set_ne (Ne.symm h), if_neg h]
theorem ren1_spec {s : RenS} (h : RenI s) {c : Int} (hc : -24 ≤ c) : RenI (ren1 s c).2 ∧ ExtS s (ren1 s c).2 ∧ (c < 0 → (ren1 s c).2.1.getD (-1 - c).toNat 0 ≠ 0) ∧ ∀ f, ExtS (ren1 s c).2 f → [(ren1 s c).1] = expC (fun v => .v (rho f v)) c := by
 unfold ren1
 by_cases h0 : c ≥ 0
 ·rw [decide_eq_true h0, cond_true]
  refine ⟨h, ExtS.refl s, fun h1 => by omega, fun f _ => ?_⟩
  unfold expC
  rw [if_neg (by omega)]
 ·rw [decide_eq_false h0, cond_false]
  have hv : (-1 - c).toNat < s.1.length := by rw [h.len]; omega
  have hexp : ∀ f : RenS, expC (fun v => .v (rho f v)) c = [-1 - ((rho f (-1 - c).toNat : Nat) : Int)] := fun f => by
   unfold expC
   rw [if_pos (by omega)]
   rfl
  by_cases hz : s.1.getD (-1 - c).toNat 0 = 0
  ·rw [show (s.1.getD (-1 - c).toNat 0 == 0) = true from by rw [hz]; rfl, cond_true]
   have hn := h.next
   have hget : s.1[(-1 - c).toNat]? = some 0 := by
    rw [List.getD_eq_getElem?_getD, List.getElem?_eq_getElem hv] at hz
    rw [List.getElem?_eq_getElem hv]
    exact congrArg some hz
   refine ⟨⟨by simpa using h.len, fun v => ?_, fun v w he hnz => ?_, ?_⟩, fun v hvz => ?_, fun _ => ?_, fun f hf => ?_⟩
   ·show 0 ≤ (s.1.set _ _).getD v 0 ∧ (s.1.set _ _).getD v 0 ≤ s.2 + 1
    rw [getD_set hv]
    have := h.rng v
    split <;> omega
   ·have he : (s.1.set (-1 - c).toNat (s.2 + 1)).getD v 0 = (s.1.set (-1 - c).toNat (s.2 + 1)).getD w 0 := he
    have hnz : (s.1.set (-1 - c).toNat (s.2 + 1)).getD v 0 ≠ 0 := hnz
    rw [getD_set hv] at he hnz
    rw [getD_set hv] at he
    have h1 := h.rng v
    have h2 := h.rng w
    by_cases e1 : v = (-1 - c).toNat
    ·rw [if_pos e1] at he hnz
     by_cases e2 : w = (-1 - c).toNat
     ·rw [e1, e2]
     ·rw [if_neg e2] at he; omega
    ·rw [if_neg e1] at he hnz
     by_cases e2 : w = (-1 - c).toNat
     ·rw [if_pos e2] at he; omega
     ·rw [if_neg e2] at he
      exact h.inj v w he hnz
   ·show (((s.1.set (-1 - c).toNat (s.2 + 1)).countP (fun x => x != 0) : Nat) : Int) = s.2 + 1
    rw [countP_set hget (by omega), ← h.cnt]
    omega
   ·show (s.1.set _ _).getD v 0 = _
    rw [getD_set hv]
    split
    ·rename_i e; rw [e, hz] at hvz; exact absurd rfl hvz
    ·rfl
   ·show (s.1.set _ _).getD _ 0 ≠ 0
    rw [getD_set hv, if_pos rfl]
    omega
   ·rw [hexp]
    have hf2 := hf (-1 - c).toNat (by
     show (s.1.set _ _).getD _ 0 ≠ 0
     rw [getD_set hv, if_pos rfl]
     omega)
    have hf2 : f.1.getD (-1 - c).toNat 0 = (s.1.set (-1 - c).toNat (s.2 + 1)).getD (-1 - c).toNat 0 := hf2
    rw [getD_set hv, if_pos rfl] at hf2
    unfold rho
    rw [hf2]
    show [-(s.2 + 1)] = _
    congr 1
    omega
  ·rw [show (s.1.getD (-1 - c).toNat 0 == 0) = false from by simpa using hz, cond_false]
   refine ⟨h, ExtS.refl s, fun _ => hz, fun f hf => ?_⟩
   rw [hexp]
   have hf2 : f.1.getD (-1 - c).toNat 0 = s.1.getD (-1 - c).toNat 0 := hf _ hz
   have := h.rng (-1 - c).toNat
   unfold rho
   rw [hf2]
   show [-(s.1.getD (-1 - c).toNat 0)] = _
   congr 1
   omega
theorem renR_spec : (r : List Int) → {s : RenS} → RenI s → (∀ c ∈ r, -24 ≤ c) → RenI (renR s r).2 ∧ ExtS s (renR s r).2 ∧ (∀ x, VarC r x → (renR s r).2.1.getD x.toNat 0 ≠ 0) ∧ ∀ f, ExtS (renR s r).2 f → (renR s r).1 = subCs (fun v => .v (rho f v)) r
 | [], s, h, _ => ⟨h, ExtS.refl s, fun x ⟨c, hc, _⟩ => (nomatch hc), fun _ _ => rfl⟩
 | c :: r, s, h, hc => by
  obtain ⟨h1, h2, h3, h4⟩ := ren1_spec h (hc c (List.mem_cons_self ..))
  obtain ⟨g1, g2, g3, g4⟩ := renR_spec r h1 fun d hd => hc d (List.mem_cons_of_mem _ hd)
  refine ⟨g1, h2.trans g2, fun x ⟨d, hd, hd0, hx⟩ => ?_, fun f hf => ?_⟩
  ·rcases List.mem_cons.1 hd with rfl | hd
   ·subst hx
    show (renR (ren1 s d).2 r).2.1.getD (-1 - d).toNat 0 ≠ 0
    rw [g2 _ (h3 hd0)]
    exact h3 hd0
   ·exact g3 x ⟨d, hd, hd0, hx⟩
  ·have hf : ExtS (renR (ren1 s c).2 r).2 f := hf
   show (ren1 s c).1 :: (renR (ren1 s c).2 r).1 = _
   unfold subCs
   rw [List.flatMap_cons, ← h4 f (g2.trans hf), g4 f hf]
   rfl
theorem renLs_spec : (ls : List QLit) → {s : RenS} → RenI s → (∀ l ∈ ls, ∀ c ∈ l.2, -24 ≤ c) → RenI (renLs s ls).2 ∧ ExtS s (renLs s ls).2 ∧ (∀ x, VarR (ls.map (·.2)) x → (renLs s ls).2.1.getD x.toNat 0 ≠ 0) ∧ ∀ f, ExtS (renLs s ls).2 f → (renLs s ls).1 = subLs (fun v => .v (rho f v)) ls
 | [], s, h, _ => ⟨h, ExtS.refl s, fun x ⟨c, hc, _⟩ => (nomatch hc), fun _ _ => rfl⟩
 | l :: ls, s, h, hc => by
  obtain ⟨h1, h2, h3, h4⟩ := renR_spec l.2 h (hc l (List.mem_cons_self ..))
  obtain ⟨g1, g2, g3, g4⟩ := renLs_spec ls h1 fun d hd => hc d (List.mem_cons_of_mem _ hd)
  refine ⟨g1, h2.trans g2, fun x hx => ?_, fun f hf => ?_⟩
  ·rw [List.map_cons, VarR_cons] at hx
   rcases hx with hx | hx
   ·show (renLs (renR s l.2).2 ls).2.1.getD x.toNat 0 ≠ 0
    rw [g2 _ (h3 x hx)]
    exact h3 x hx
   ·exact g3 x hx
  ·have hf : ExtS (renLs (renR s l.2).2 ls).2 f := hf
   show (l.1, (renR s l.2).1) :: (renLs (renR s l.2).2 ls).1 = _
   rw [h4 f (g2.trans hf), g4 f hf]
   rfl
theorem renRs_spec : (ls : List (List Int)) → {s : RenS} → RenI s → (∀ l ∈ ls, ∀ c ∈ l, -24 ≤ c) → RenI (renRs s ls).2 ∧ ExtS s (renRs s ls).2 ∧ (∀ x, VarR ls x → (renRs s ls).2.1.getD x.toNat 0 ≠ 0) ∧ ∀ f, ExtS (renRs s ls).2 f → (renRs s ls).1 = ls.map (subCs (fun v => .v (rho f v)))
 | [], s, h, _ => ⟨h, ExtS.refl s, fun x ⟨c, hc, _⟩ => (nomatch hc), fun _ _ => rfl⟩
 | l :: ls, s, h, hc => by
  obtain ⟨h1, h2, h3, h4⟩ := renR_spec l h (hc l (List.mem_cons_self ..))
  obtain ⟨g1, g2, g3, g4⟩ := renRs_spec ls h1 fun d hd => hc d (List.mem_cons_of_mem _ hd)
  refine ⟨g1, h2.trans g2, fun x hx => ?_, fun f hf => ?_⟩
  ·rw [VarR_cons] at hx
   rcases hx with hx | hx
   ·show (renRs (renR s l).2 ls).2.1.getD x.toNat 0 ≠ 0
    rw [g2 _ (h3 x hx)]
    exact h3 x hx
   ·exact g3 x hx
  ·have hf : ExtS (renRs (renR s l).2 ls).2 f := hf
   show (renR s l).1 :: (renRs (renR s l).2 ls).1 = _
   rw [h4 f (g2.trans hf), g4 f hf]
   rfl
theorem normC_ren {L : List QLit} {T : List (List Int)} {C : List QLit} (hc : ∀ r ∈ rowsOf L T C, ∀ c ∈ r, -24 ≤ c) : ∃ ρ : Nat → Nat,
  normC L T C = (subLs (fun v => .v (ρ v)) (onceL L []), (onceL T []).map (subCs (fun v => .v (ρ v))), subLs (fun v => .v (ρ v)) (onceL C [])) ∧
  (∀ x, VarR (rowsOf L T C) x → ρ x.toNat < 24) ∧ ∀ x y, VarR (rowsOf L T C) x → VarR (rowsOf L T C) y → ρ x.toNat = ρ y.toNat → x.toNat = y.toNat := by
 have mL : ∀ l, l ∈ onceL L [] ↔ l ∈ L := fun l => by simpa using onceL_mem (x := l) L []
 have mT : ∀ l, l ∈ onceL T [] ↔ l ∈ T := fun l => by simpa using onceL_mem (x := l) T []
 have mC : ∀ l, l ∈ onceL C [] ↔ l ∈ C := fun l => by simpa using onceL_mem (x := l) C []
 obtain ⟨a1, a2, a3, a4⟩ := renLs_spec (onceL L []) ren0 fun l hl => hc _ (mem_rows_lit ((mL l).1 hl))
 obtain ⟨b1, b2, b3, b4⟩ := renRs_spec (onceL T []) a1 fun l hl => hc _ (mem_rows_row ((mT l).1 hl))
 obtain ⟨c1, c2, c3, c4⟩ := renLs_spec (onceL C []) b1 fun l hl => hc _ (mem_rows_cond ((mC l).1 hl))
 have nz : ∀ x, VarR (rowsOf L T C) x → (renLs (renRs (renLs (List.replicate 24 0, 0) (onceL L [])).2 (onceL T [])).2 (onceL C [])).2.1.getD x.toNat 0 ≠ 0 := by
  intro x hx
  unfold rowsOf at hx
  rw [VarR_append, VarR_append] at hx
  rcases hx with (⟨r, hr, hx⟩ | ⟨r, hr, hx⟩) | ⟨r, hr, hx⟩
  ·obtain ⟨l, hl, rfl⟩ := List.mem_map.1 hr
   have := a3 x ⟨_, List.mem_map_of_mem ((mL l).2 hl), hx⟩
   rw [c2 _ (by rw [b2 _ this]; exact this), b2 _ this]
   exact this
  ·obtain ⟨l, hl, rfl⟩ := List.mem_map.1 hr
   exact c3 x ⟨_, List.mem_map_of_mem ((mC l).2 hl), hx⟩
  ·have := b3 x ⟨_, (mT r).2 hr, hx⟩
   rw [c2 _ this]
   exact this
 refine ⟨rho (renLs (renRs (renLs (List.replicate 24 0, 0) (onceL L [])).2 (onceL T [])).2 (onceL C [])).2, ?_, fun x hx => c1.rho_lt (nz x hx), fun x y hx hy he => c1.rho_inj (nz x hx) (nz y hy) he⟩
 unfold normC renC
 rw [a4 _ (b2.trans c2), b4 _ c2, c4 _ (ExtS.refl _)]
def subTL (s : Sb) (l : TLit) : TLit := (l.1, l.2.1, subR s l.2.2)
theorem subLs_cl (s : Sb) (ls : List TLit) : subLs s (ls.map cl) = (ls.map (subTL s)).map cl := by
 unfold subLs
 rw [List.map_map, List.map_map]
 refine List.map_congr_left fun l _ => ?_
 show (l.1, subCs s ((l.2.1 : Int) :: codesR l.2.2)) = (l.1, (l.2.1 : Int) :: codesR (subR s l.2.2))
 rw [codesR_sub]
 unfold subCs
 rw [List.flatMap_cons]
 have : expC s (l.2.1 : Int) = [(l.2.1 : Int)] := by unfold expC; rw [if_neg (by omega)]
 rw [this]
 rfl
theorem subRs_codes (s : Sb) (rs : List (List Tm)) : (rs.map codesR).map (subCs s) = (rs.map (subR s)).map codesR := by
 rw [List.map_map, List.map_map]
 refine List.map_congr_left fun r _ => ?_
 show subCs s (codesR r) = codesR (subR s r)
 rw [codesR_sub]
 rfl
theorem litV_sub {m : Int} {nums : List Int} {env : Nat → Int} (s : Sb) (l : TLit) : litV m nums env (subTL s l) = litV m nums (fun n => valT m nums env (s n)) l := by
 unfold litV atomV subTL
 rw [valR_sub]
theorem tupleV_sub {m : Int} {nums : List Int} {env : Nat → Int} (s : Sb) (r : List Tm) : tupleV m nums env (subR s r) = tupleV m nums (fun n => valT m nums env (s n)) r := by
 unfold tupleV
 rw [valR_sub]
theorem hereT_sub {m : Int} {nums : List Int} {env : Nat → Int} (s : Sb) (L : List TLit) (T : List (List Tm)) (C : List TLit) : hereT m nums env (L.map (subTL s)) (T.map (subR s)) (C.map (subTL s)) = hereT m nums (fun n => valT m nums env (s n)) L T C := by
 unfold hereT
 rw [List.all_map, List.any_map, List.any_map, all_congr (l := C) (p := litV m nums env ∘ subTL s) (q := litV m nums fun n => valT m nums env (s n)) fun l _ => litV_sub s l,
  any_congr (l := L) (p := litV m nums env ∘ subTL s) (q := litV m nums fun n => valT m nums env (s n)) fun l _ => litV_sub s l, any_congr (l := T) (p := tupleV m nums env ∘ subR s) (q := tupleV m nums fun n => valT m nums env (s n)) fun r _ => tupleV_sub s r]
end
end Go.Abs.Q
namespace Go.Abs.Q
open Go Go.Abs
section
theorem rowW_codes {a0 : List QSym} (hb : signB a0 = true) {ts : List Tm} (h : WfR a0 ts) : rowW a0 (codesR ts) = some ts.length := by
 unfold rowW beginsB
 rw [hb, decide_eq_true h.2, cuts_codes ts h.1]
 simp
theorem rowsB_of {a0 : List QSym} {rs : List (List Int)} {n : Nat} (h : ∀ r ∈ rs, rowW a0 r = some n) : rowsB a0 rs = true := by
 cases rs with
 | nil => rfl
 | cons r rs =>
  unfold rowsB
  show (match rowW a0 r with | none => false | some n => rs.all fun q => rowW a0 q == some n) = true
  rw [h r (List.mem_cons_self ..)]
  exact List.all_eq_true.2 fun q hq => by rw [h q (List.mem_cons_of_mem _ hq)]; simp
theorem atom_of_wf {a0 : List QSym} (hb : signB a0 = true) {l : TLit} (h : WfL a0 l) : atomB a0 (cl l).2 = true := by
 obtain ⟨h1, ⟨e, h2, h3, h4⟩, h5⟩ := h
 exact atomT_mk h1 h2 h3 h4 h5 hb
theorem cl_inj {a0 : List QSym} {l k : TLit} (hl : WfL a0 l) (hk : WfL a0 k) (h : cl l = cl k) : l = k := by
 obtain ⟨n, c, ts⟩ := l
 obtain ⟨n', c', us⟩ := k
 have h : ((n, (c : Int) :: codesR ts) : QLit) = (n', (c' : Int) :: codesR us) := h
 injection h with h1 h2
 injection h2 with h2 h3
 have h3 := codesR_inj _ ts us (Nat.le_refl _) hl.1 hk.1 h3
 have : c = c' := by omega
 rw [h1, this, h3]
theorem pick_tree {α β : Type} (f : α → β) {as : List α} : (bs : List β) → (∀ b ∈ bs, b ∈ as.map f) → ∃ as' : List α, bs = as'.map f ∧ ∀ a ∈ as', a ∈ as
 | [], _ => ⟨[], rfl, fun _ h => (nomatch h)⟩
 | b :: bs, h => by
  obtain ⟨as', h1, h2⟩ := pick_tree f bs fun x hx => h x (List.mem_cons_of_mem _ hx)
  obtain ⟨a, ha, rfl⟩ := List.mem_map.1 (h b (List.mem_cons_self ..))
  refine ⟨a :: as', by rw [List.map_cons, ← h1], fun x hx => ?_⟩
  rcases List.mem_cons.1 hx with rfl | hx
  ·exact ha
  ·exact h2 x hx
theorem any_mem {α : Type} {p : α → Bool} {a b : List α} (h : ∀ x, x ∈ a ↔ x ∈ b) : a.any p = b.any p := by
 rw [Bool.eq_iff_iff, List.any_eq_true, List.any_eq_true]
 exact ⟨fun ⟨x, hx, hp⟩ => ⟨x, (h x).1 hx, hp⟩, fun ⟨x, hx, hp⟩ => ⟨x, (h x).2 hx, hp⟩⟩
theorem all_mem {α : Type} {p : α → Bool} {a b : List α} (h : ∀ x, x ∈ a ↔ x ∈ b) : a.all p = b.all p := by
 rw [Bool.eq_iff_iff, List.all_eq_true, List.all_eq_true]
 exact ⟨fun H x hx => H x ((h x).2 hx), fun H x hx => H x ((h x).1 hx)⟩
theorem once_sum {α : Type} [DecidableEq α] (f : α → Nat) : (es out : List α) → ((onceL es out).map f).sum ≤ (out.map f).sum + (es.map f).sum
 | [], out => by simp [onceL]
 | e :: es, out => by
  unfold onceL
  by_cases h : e ∈ out
  ·rw [decide_eq_true h, cond_true]
   have := once_sum f es out
   simp only [List.map_cons, List.sum_cons]
   omega
  ·rw [decide_eq_false h, cond_false]
   have := once_sum f es (out ++ [e])
   simp only [List.map_cons, List.sum_cons, List.map_append, List.sum_append, List.map_nil, List.sum_nil] at this ⊢
   omega
abbrev vS (ρ : Nat → Nat) : Sb := fun v => .v (ρ v)
theorem vS_len (ρ : Nat → Nat) (r : List Int) : (subCs (vS ρ) r).length = r.length := by
 unfold subCs
 induction r with
 | nil => rfl
 | cons c r ih =>
  rw [List.flatMap_cons, List.length_append, ih, List.length_cons]
  unfold expC
  split
  ·simp [Tm.codes]; omega
  ·simp; omega
theorem wfR_vS {a0 : List QSym} {ρ : Nat → Nat} {ts : List Tm} (h : WfR a0 ts) (hρ : ∀ x, hasR x ts → ρ x < 24) : WfR a0 (subR (vS ρ) ts) := by
 refine ⟨okR_sub ts h.1 fun x hx => hρ x hx, ?_⟩
 rw [codesR_sub]
 have := vS_len ρ (codesR ts)
 unfold subCs at this
 rw [this]
 exact h.2
theorem wfL_vS {a0 : List QSym} {ρ : Nat → Nat} {l : TLit} (h : WfL a0 l) (hρ : ∀ x, hasR x l.2.2 → ρ x < 24) : WfL a0 (subTL (vS ρ) l) := by
 obtain ⟨h1, ⟨e, h2, h3, h4⟩, h5⟩ := h
 have := wfR_vS (a0 := a0) ⟨h1, h5⟩ hρ
 exact ⟨this.1, ⟨e, h2, h3, by show (((subR (vS ρ) l.2.2).length : Nat) : Int) = _; rw [subR_length]; exact h4⟩, this.2⟩
theorem normal_spec {a0 : List QSym} {L : List TLit} {T : List (List Tm)} {C : List TLit} (hmay : mayB a0 (L.map cl) (T.map codesR) (C.map cl) = true) (hL : ∀ l ∈ L, WfL a0 l) (hT : ∀ r ∈ T, WfR a0 r) (hC : ∀ l ∈ C, WfL a0 l) :
  ∃ (Ln : List TLit) (Tn : List (List Tm)) (Cn : List TLit) (ρ : Nat → Nat), normC (L.map cl) (T.map codesR) (C.map cl) = (Ln.map cl, Tn.map codesR, Cn.map cl) ∧ (∀ l ∈ Ln, WfL a0 l) ∧ (∀ r ∈ Tn, WfR a0 r) ∧ (∀ l ∈ Cn, WfL a0 l) ∧
   mayB a0 (Ln.map cl) (Tn.map codesR) (Cn.map cl) = true ∧ (∀ x, VarT L T C x → ρ x < 24) ∧ (∀ x y, VarT L T C x → VarT L T C y → ρ x = ρ y → x = y) ∧ (∀ x, VarT Ln Tn Cn x ↔ ∃ y, VarT L T C y ∧ ρ y = x) ∧
   ∀ m nums env, hereT m nums env Ln Tn Cn = hereT m nums (fun v => env (ρ v)) L T C := by
 obtain ⟨hsb, g1, g2, g3, g4, g5, g6, g7⟩ := mayB_spec hmay
 obtain ⟨ρ, hn, hr1, hr2⟩ := normC_ren (L := L.map cl) (T := T.map codesR) (C := C.map cl) fun r hr c hc => (may_small hmay r hr).2 c hc
 have hρ : ∀ x, VarT L T C x → ρ x < 24 := fun x hx => by
  have := hr1 x (VarR_tree.2 hx)
  rwa [Int.toNat_natCast] at this
 have mL : ∀ l, l ∈ onceL (L.map cl) [] ↔ l ∈ L.map cl := fun l => by simpa using onceL_mem (x := l) (L.map cl) []
 have mT : ∀ l, l ∈ onceL (T.map codesR) [] ↔ l ∈ T.map codesR := fun l => by simpa using onceL_mem (x := l) (T.map codesR) []
 have mC : ∀ l, l ∈ onceL (C.map cl) [] ↔ l ∈ C.map cl := fun l => by simpa using onceL_mem (x := l) (C.map cl) []
 obtain ⟨L1, eL, sL⟩ := pick_tree cl (onceL (L.map cl) []) fun b hb => (mL b).1 hb
 obtain ⟨T1, eT, sT⟩ := pick_tree codesR (onceL (T.map codesR) []) fun b hb => (mT b).1 hb
 obtain ⟨C1, eC, sC⟩ := pick_tree cl (onceL (C.map cl) []) fun b hb => (mC b).1 hb
 have bL : ∀ l, l ∈ L1 ↔ l ∈ L := fun l => ⟨sL l, fun hl => by
  have h1 := (mL (cl l)).2 (List.mem_map_of_mem hl)
  rw [eL] at h1
  obtain ⟨k, hk, he⟩ := List.mem_map.1 h1
  rw [← cl_inj (hL k (sL k hk)) (hL l hl) he]
  exact hk⟩
 have bC : ∀ l, l ∈ C1 ↔ l ∈ C := fun l => ⟨sC l, fun hl => by
  have h1 := (mC (cl l)).2 (List.mem_map_of_mem hl)
  rw [eC] at h1
  obtain ⟨k, hk, he⟩ := List.mem_map.1 h1
  rw [← cl_inj (hC k (sC k hk)) (hC l hl) he]
  exact hk⟩
 have bT : ∀ l, l ∈ T1 ↔ l ∈ T := fun l => ⟨sT l, fun hl => by
  have h1 := (mT (codesR l)).2 (List.mem_map_of_mem hl)
  rw [eT] at h1
  obtain ⟨k, hk, he⟩ := List.mem_map.1 h1
  rw [← codesR_inj _ k l (Nat.le_refl _) (hT k (sT k hk)).1 (hT l hl).1 he]
  exact hk⟩
 have wL : ∀ l ∈ L1.map (subTL (vS ρ)), WfL a0 l := fun l hl => by
  obtain ⟨k, hk, rfl⟩ := List.mem_map.1 hl
  exact wfL_vS (hL k (sL k hk)) fun x hx => hρ x (.inl ⟨k, sL k hk, hx⟩)
 have wC : ∀ l ∈ C1.map (subTL (vS ρ)), WfL a0 l := fun l hl => by
  obtain ⟨k, hk, rfl⟩ := List.mem_map.1 hl
  exact wfL_vS (hC k (sC k hk)) fun x hx => hρ x (.inr (.inr ⟨k, sC k hk, hx⟩))
 have wT : ∀ l ∈ T1.map (subR (vS ρ)), WfR a0 l := fun l hl => by
  obtain ⟨k, hk, rfl⟩ := List.mem_map.1 hl
  exact wfR_vS (hT k (sT k hk)) fun x hx => hρ x (.inr (.inl ⟨k, sT k hk, hx⟩))
 have lL : L1.length ≤ 5 := by
  have h1 := congrArg List.length eL
  have h2 := onceL_len (L.map cl) []
  rw [List.length_map] at h1 h2 g1
  simp at h2; omega
 have lT : T1.length ≤ 3 := by
  have h1 := congrArg List.length eT
  have h2 := onceL_len (T.map codesR) []
  rw [List.length_map] at h1 h2 g2
  simp at h2; omega
 have lC : C1.length ≤ 3 := by
  have h1 := congrArg List.length eC
  have h2 := onceL_len (C.map cl) []
  rw [List.length_map] at h1 h2 g3
  simp at h2; omega
 refine ⟨L1.map (subTL (vS ρ)), T1.map (subR (vS ρ)), C1.map (subTL (vS ρ)), ρ, ?_, wL, wT, wC, ?_, hρ, fun x y hx hy he => ?_, fun x => ?_, fun m nums env => ?_⟩
 ·rw [hn, eL, eT, eC, subLs_cl, subRs_codes, subLs_cl]
 ·refine mayB_mk hsb (by simpa using lL) (by simpa using lT) (by simpa using lC) ?_ ?_ ?_ ?_
  ·refine List.all_eq_true.2 fun l hl => ?_
   obtain ⟨k, hk, rfl⟩ := List.mem_map.1 hl
   exact atom_of_wf hsb (wL k hk)
  ·obtain ⟨n, hw⟩ := rowsB_all g5
   refine rowsB_of (n := n) fun r hr => ?_
   obtain ⟨k, hk, rfl⟩ := List.mem_map.1 hr
   rw [rowW_codes hsb (wT k hk)]
   obtain ⟨j, hj, rfl⟩ := List.mem_map.1 hk
   rw [subR_length]
   have := hw (codesR j) (List.mem_map_of_mem (sT j hj))
   rwa [rowW_codes hsb (hT j (sT j hj))] at this
  ·refine List.all_eq_true.2 fun l hl => ?_
   obtain ⟨k, hk, rfl⟩ := List.mem_map.1 hl
   exact atom_of_wf hsb (wC k hk)
  ·have sumL : ∀ (X X1 : List TLit), onceL (X.map cl) [] = X1.map cl → sumLen (((X1.map (subTL (vS ρ))).map cl).map (·.2)) ≤ sumLen ((X.map cl).map (·.2)) := by
    intro X X1 he
    rw [← subLs_cl]
    have h1 : (subLs (vS ρ) (X1.map cl)).map (·.2.length) = (X1.map cl).map (·.2.length) := by
     unfold subLs
     rw [List.map_map]
     exact List.map_congr_left fun l _ => vS_len ρ l.2
    unfold sumLen
    rw [List.map_map, List.map_map]
    have h2 := once_sum (fun l : QLit => l.2.length) (X.map cl) []
    rw [he] at h2
    have h3 : List.map (List.length ∘ fun x => x.2) (subLs (vS ρ) (X1.map cl)) = (X1.map cl).map (·.2.length) := h1
    rw [h3]
    have h4 : (([] : List QLit).map (fun l : QLit => l.2.length)).sum = 0 := rfl
    have h5 : List.map (List.length ∘ fun x => x.2) (X.map cl) = (X.map cl).map (fun l : QLit => l.2.length) := rfl
    rw [h4, Nat.zero_add] at h2
    exact h2
   have sumT : sumLen ((T1.map (subR (vS ρ))).map codesR) ≤ sumLen (T.map codesR) := by
    rw [← subRs_codes]
    have h2 := once_sum List.length (T.map codesR) []
    rw [eT] at h2
    unfold sumLen
    rw [List.map_map]
    have h3 : List.map (List.length ∘ subCs (vS ρ)) (T1.map codesR) = (T1.map codesR).map List.length := List.map_congr_left fun r _ => vS_len ρ r
    rw [h3]
    simpa using h2
   have h1 := sumL L L1 eL
   have h2 := sumL C C1 eC
   omega
 ·have := hr2 x y (VarR_tree.2 hx) (VarR_tree.2 hy) (by rw [Int.toNat_natCast, Int.toNat_natCast]; exact he)
  rwa [Int.toNat_natCast, Int.toNat_natCast] at this
 ·constructor
  ·rintro (⟨l, hl, hx⟩ | ⟨r, hr, hx⟩ | ⟨l, hl, hx⟩)
   ·obtain ⟨k, hk, rfl⟩ := List.mem_map.1 hl
    obtain ⟨y, hy, he⟩ := (hasR_sub k.2.2).1 hx
    exact ⟨y, .inl ⟨k, sL k hk, hy⟩, he⟩
   ·obtain ⟨k, hk, rfl⟩ := List.mem_map.1 hr
    obtain ⟨y, hy, he⟩ := (hasR_sub k).1 hx
    exact ⟨y, .inr (.inl ⟨k, sT k hk, hy⟩), he⟩
   ·obtain ⟨k, hk, rfl⟩ := List.mem_map.1 hl
    obtain ⟨y, hy, he⟩ := (hasR_sub k.2.2).1 hx
    exact ⟨y, .inr (.inr ⟨k, sC k hk, hy⟩), he⟩
  ·rintro ⟨y, ⟨l, hl, hy⟩ | ⟨r, hr, hy⟩ | ⟨l, hl, hy⟩, he⟩
   ·exact .inl ⟨_, List.mem_map_of_mem ((bL l).2 hl), (hasR_sub l.2.2).2 ⟨y, hy, he⟩⟩
   ·exact .inr (.inl ⟨_, List.mem_map_of_mem ((bT r).2 hr), (hasR_sub r).2 ⟨y, hy, he⟩⟩)
   ·exact .inr (.inr ⟨_, List.mem_map_of_mem ((bC l).2 hl), (hasR_sub l.2.2).2 ⟨y, hy, he⟩⟩)
 ·rw [hereT_sub]
  unfold hereT
  rw [all_mem bC, any_mem bL, any_mem bT]
  rfl
theorem env_inst {m : Nat} (hm : 0 < m) {nums : List Int} (hn : NumsOk nums) {a0 : List QSym} (hs : SignOk a0) {env : Nat → Int} (he : ∀ x, x < 24 → 0 ≤ env x ∧ env x < (m : Int)) {σ : Sb} (hσ : ∀ x, x < 24 → (σ x).ok a0 24) :
  ∃ E, EnvOk (m : Int) E ∧ ∀ x, x < 24 → envF E x = valT (m : Int) nums env (σ x) := by
 refine ⟨(List.range 24).map fun x => valT (m : Int) nums env (σ x), ⟨by simp, fun y hy => ?_⟩, fun x hx => ?_⟩
 ·obtain ⟨x, hx, rfl⟩ := List.mem_map.1 hy
  exact valT_range (by omega) hn hs _ (hσ x (List.mem_range.1 hx)) he
 ·unfold envF
  rw [List.getD_eq_getElem?_getD, List.getElem?_map, List.getElem?_range hx]
  rfl
theorem new_spec (a : Int) (nums : List Int) : ∃ m : Nat, 0 < m ∧ m ≤ 3 ∧ ref9_New a nums = some ((m : Int), nums) := by
 unfold ref9_New
 have h0 := (wrap_u64_range a).1
 have r1 : 0 ≤ Int.tmod (IntKind.wrap .u64 a) 3 := Int.tmod_nonneg _ h0
 have r2 : Int.tmod (IntKind.wrap .u64 a) 3 < 3 := Int.tmod_lt_of_pos _ (by omega)
 generalize Int.tmod (IntKind.wrap .u64 a) 3 = q at r1 r2
 refine ⟨(1 + q).toNat, by omega, by omega, ?_⟩
 have w : IntKind.wrap .i64 (1 + IntKind.wrap .i64 q) = ((((1 + q).toNat : Nat)) : Int) := by
  rw [wrap64 (n := q) (by omega) (by omega), wrap64 (by omega) (by omega), Int.toNat_of_nonneg (by omega)]
 rw [w]
theorem mem_without {α : Type} {s : Int} {x : α} : (es : List α) → (i : Nat) → (x ∈ without s es i ↔ ∃ k : Nat, es[k]? = some x ∧ ((i + k : Nat) : Int) ≠ s)
 | [], i => by simp [without]
 | e :: es, i => by
  have ih := mem_without (s := s) (x := x) es (i + 1)
  have shift : (∃ k : Nat, (e :: es)[k]? = some x ∧ ((i + k : Nat) : Int) ≠ s) ↔ (e = x ∧ (i : Int) ≠ s) ∨ ∃ k : Nat, es[k]? = some x ∧ ((i + 1 + k : Nat) : Int) ≠ s := by
   constructor
   ·rintro ⟨k, h1, h2⟩
    cases k with
    | zero => exact .inl ⟨by simpa using h1, by simpa using h2⟩
    | succ k => exact .inr ⟨k, by simpa using h1, by rw [show i + 1 + k = i + (k + 1) from by omega]; exact h2⟩
   ·rintro (⟨h1, h2⟩ | ⟨k, h1, h2⟩)
    ·exact ⟨0, by simp [h1], by simpa using h2⟩
    ·exact ⟨k + 1, by simpa using h1, by rw [show i + (k + 1) = i + 1 + k from by omega]; exact h2⟩
  rw [shift, ← ih]
  show (x ∈ cond ((i : Int) != s) (e :: without s es (i + 1)) (without s es (i + 1))) ↔ _
  by_cases hi : (i : Int) = s
  ·rw [show ((i : Int) != s) = false from by simp [hi], cond_false]
   simp [hi]
  ·rw [show ((i : Int) != s) = true from by simp [hi], cond_true, List.mem_cons]
   constructor
   ·rintro (h | h)
    ·exact .inl ⟨h.symm, hi⟩
    ·exact .inr h
   ·rintro (h | h)
    ·exact .inl h.1.symm
    ·exact .inr h
theorem without_map {α β : Type} (f : α → β) (s : Int) : (es : List α) → (i : Nat) → without s (es.map f) i = (without s es i).map f
 | [], _ => rfl
 | e :: es, i => by
  have ih := without_map f s es (i + 1)
  show cond ((i : Int) != s) (f e :: without s (es.map f) (i + 1)) (without s (es.map f) (i + 1)) = (cond ((i : Int) != s) (e :: without s es (i + 1)) (without s es (i + 1))).map f
  cases ((i : Int) != s) with
  | true => rw [cond_true, cond_true, ih]; rfl
  | false => rw [cond_false, cond_false, ih]
end
end Go.Abs.Q
namespace Go.Abs.Q
open Go Go.Abs
section
theorem wfL_may {a0 : List QSym} {L : List TLit} (h : litsB a0 (L.map cl) = true) (ho : ∀ l ∈ L, okR a0 24 l.2.2) : ∀ l ∈ L, WfL a0 l := fun l hl => by
 have h1 : atomB a0 (cl l).2 = true := List.all_eq_true.1 h (cl l) (List.mem_map_of_mem hl)
 obtain ⟨c, ts, e, h2, h3, h4, h5, h6, h7, -⟩ := atom_tree h1
 have h2 : ((l.2.1 : Int) :: codesR l.2.2) = (c : Int) :: codesR ts := h2
 injection h2 with h8 h9
 have h9 := codesR_inj _ l.2.2 ts (Nat.le_refl _) (ho l hl) h3 h9
 have h8 : l.2.1 = c := by omega
 refine ⟨ho l hl, ⟨e, by rw [h8]; exact h4, h5, by rw [h9]; exact h6⟩, by rw [h9]; exact h7⟩
theorem wfR_may {a0 : List QSym} {T : List (List Tm)} (h : rowsB a0 (T.map codesR) = true) (ho : ∀ r ∈ T, okR a0 24 r) : ∀ r ∈ T, WfR a0 r := fun r hr => by
 obtain ⟨n, hn⟩ := rowsB_all h
 obtain ⟨ps, -, -, hl, -⟩ := rowW_spec (hn (codesR r) (List.mem_map_of_mem hr))
 exact ⟨ho r hr, hl⟩
def Holds (m : Nat) (nums : List Int) (L : List TLit) (T : List (List Tm)) (C : List TLit) : Prop := ∀ E, EnvOk (m : Int) E → hereT (m : Int) nums (envF E) L T C = true
theorem inst_holds {m : Nat} (hm : 0 < m) (hm3 : m ≤ 3) {nums : List Int} (hn : NumsOk nums) {a0 : List QSym} (hs : SignOk a0) {σ : Sb} (hσ : ∀ x, x < 24 → (σ x).ok a0 24) {L : List TLit} {T : List (List Tm)} {C : List TLit}
  (hL : ∀ l ∈ L, okR a0 24 l.2.2) (hT : ∀ r ∈ T, okR a0 24 r) (hC : ∀ l ∈ C, okR a0 24 l.2.2)
  (hmay : mayB a0 (subLs σ (L.map cl)) ((T.map codesR).map (subCs σ)) (subLs σ (C.map cl)) = true) :
  mayB a0 (normC (subLs σ (L.map cl)) ((T.map codesR).map (subCs σ)) (subLs σ (C.map cl))).1 (normC (subLs σ (L.map cl)) ((T.map codesR).map (subCs σ)) (subLs σ (C.map cl))).2.1 (normC (subLs σ (L.map cl)) ((T.map codesR).map (subCs σ)) (subLs σ (C.map cl))).2.2 = true ∧
  ((∀ E, EnvOk (m : Int) E → hereT (m : Int) nums (fun n => valT (m : Int) nums (envF E) (σ n)) L T C = true) →
   ref9_Model_Clause (m : Int) nums a0 (normC (subLs σ (L.map cl)) ((T.map codesR).map (subCs σ)) (subLs σ (C.map cl))).1 (normC (subLs σ (L.map cl)) ((T.map codesR).map (subCs σ)) (subLs σ (C.map cl))).2.1 (normC (subLs σ (L.map cl)) ((T.map codesR).map (subCs σ)) (subLs σ (C.map cl))).2.2 = some true) := by
 rw [subLs_cl, subRs_codes, subLs_cl] at hmay ⊢
 have okS : ∀ {ts : List Tm}, okR a0 24 ts → okR a0 24 (subR σ ts) := fun {ts} h => okR_sub ts h fun x hx => hσ x (okR_has ts h hx)
 have oL : ∀ l ∈ L.map (subTL σ), okR a0 24 l.2.2 := fun l hl => by
  obtain ⟨k, hk, rfl⟩ := List.mem_map.1 hl
  exact okS (hL k hk)
 have oC : ∀ l ∈ C.map (subTL σ), okR a0 24 l.2.2 := fun l hl => by
  obtain ⟨k, hk, rfl⟩ := List.mem_map.1 hl
  exact okS (hC k hk)
 have oT : ∀ l ∈ T.map (subR σ), okR a0 24 l := fun l hl => by
  obtain ⟨k, hk, rfl⟩ := List.mem_map.1 hl
  exact okS (hT k hk)
 obtain ⟨-, -, -, -, g4, g5, g6, -⟩ := mayB_spec hmay
 obtain ⟨Ln, Tn, Cn, ρ, e1, w1, w2, w3, w4, w5, w6, w7, w8⟩ := normal_spec hmay (wfL_may g4 oL) (wfR_may g5 oT) (wfL_may g6 oC)
 rw [e1]
 refine ⟨w4, fun H => ?_⟩
 obtain ⟨b, c1, c2⟩ := Clause_spec hm hm3 hn hs w4 w1 w2 w3
 simp only
 rw [c1, c2.2 fun E hE => ?_]
 rw [w8]
 obtain ⟨E', hE', he'⟩ := env_inst hm hn hs (env := envF E) (fun x hx => hE.val hx) (σ := fun x => .v (if ρ x < 24 then ρ x else 0)) (fun x _ => by
  show (if ρ x < 24 then ρ x else 0) < 24
  split <;> omega)
 rw [← H E' hE', ← hereT_sub]
 refine hereT_ext fun x hx => ?_
 have h24 := w5 x hx
 have hx24 : x < 24 := by
  rcases hx with ⟨l, hl, hx⟩ | ⟨l, hl, hx⟩ | ⟨l, hl, hx⟩
  ·exact okR_has _ (oL l hl) hx
  ·exact okR_has _ (oT l hl) hx
  ·exact okR_has _ (oC l hl) hx
 rw [he' x hx24]
 show envF E (ρ x) = envF E (if ρ x < 24 then ρ x else 0)
 rw [if_pos h24]
theorem Holds.inst {m : Nat} (hm : 0 < m) {nums : List Int} (hn : NumsOk nums) {a0 : List QSym} (hs : SignOk a0) {σ : Sb} (hσ : ∀ x, x < 24 → (σ x).ok a0 24) {L : List TLit} {T : List (List Tm)} {C : List TLit}
  (hv : ∀ x, VarT L T C x → x < 24) (h : Holds m nums L T C) {E : List Int} (hE : EnvOk (m : Int) E) : hereT (m : Int) nums (fun n => valT (m : Int) nums (envF E) (σ n)) L T C = true := by
 obtain ⟨E', hE', he'⟩ := env_inst hm hn hs (env := envF E) (fun x hx => hE.val hx) hσ
 rw [← h E' hE']
 exact hereT_ext fun x hx => (he' x (hv x hx)).symm
theorem hereT_iff {m : Int} {nums : List Int} {env : Nat → Int} {L : List TLit} {T : List (List Tm)} {C : List TLit} : hereT m nums env L T C = true ↔ (∃ l ∈ C, litV m nums env l = false) ∨ (∃ l ∈ L, litV m nums env l = true) ∨ ∃ r ∈ T, tupleV m nums env r = true := by
 unfold hereT
 rw [Bool.or_eq_true, Bool.or_eq_true, List.any_eq_true, List.any_eq_true, Bool.not_eq_true', List.all_eq_false]
 simp
mutual
theorem Tm.sub_id : (t : Tm) → t.sub (fun n => Tm.v n) = t
 | .v n => rfl
 | .f c as => by rw [Tm.sub, subR_id as]
theorem subR_id : (ts : List Tm) → subR (fun n => Tm.v n) ts = ts
 | [] => rfl
 | t :: ts => by rw [subR, Tm.sub_id t, subR_id ts]
end
theorem gx_cl {L : List TLit} {i : Int} {x : QLit} (h : gx (L.map cl) i = some x) : 0 ≤ i ∧ ∃ l, L[i.toNat]? = some l ∧ x = cl l := by
 unfold gx at h
 cases hd : decide (0 ≤ i) with
 | false => rw [hd] at h; cases h
 | true =>
  rw [hd, cond_true, List.getElem?_map] at h
  refine ⟨of_decide_eq_true hd, ?_⟩
  cases hl : L[i.toNat]? with
  | none => rw [hl] at h; cases h
  | some l => rw [hl] at h; injection h with h; exact ⟨l, rfl, h.symm⟩
theorem resOut_cases {a0 : List QSym} {σ : Sb} {L : List QLit} {T : List (List Int)} {C : List QLit} {k : Int} (hk : k ≠ 0) : ∃ r, resOut a0 σ L T C k = some r ∧ (r.2.2.2.1 = 0 → mayB a0 (subLs σ L) (T.map (subCs σ)) (subLs σ C) = true ∧ (r.1, r.2.1, r.2.2.2.2) = normC (subLs σ L) (T.map (subCs σ)) (subLs σ C)) := by
 unfold resOut
 cases hm : mayB a0 (subLs σ L) (T.map (subCs σ)) (subLs σ C) with
 | true => exact ⟨_, rfl, fun _ => ⟨rfl, rfl⟩⟩
 | false => exact ⟨_, rfl, fun h => absurd h hk⟩
section
variable {m : Nat} (hm : 0 < m) (hm3 : m ≤ 3) {nums : List Int} (hn : NumsOk nums) {a0 : List QSym} (hs : SignOk a0)
include hm hm3 hn hs
end
end
end Go.Abs.Q
namespace Go.Abs.Q
open Go Go.Abs
section
abbrev upS (b : Nat) : Sb := fun n => .v (n + b)
theorem upLs_cl (b : Nat) (ls : List TLit) : upLs (b : Int) (ls.map cl) = (ls.map (subTL (upS b))).map cl := by
 unfold upLs
 rw [List.map_map, List.map_map]
 refine List.map_congr_left fun l _ => ?_
 show (l.1, ((l.2.1 : Int) :: codesR l.2.2).map (upC (b : Int))) = (l.1, (l.2.1 : Int) :: codesR (subR (upS b) l.2.2))
 rw [upC_atom, up_eq]
theorem upRs_codes (b : Nat) (rs : List (List Tm)) : (rs.map codesR).map (List.map (upC (b : Int))) = (rs.map (subR (upS b))).map codesR := by
 rw [List.map_map, List.map_map]
 refine List.map_congr_left fun r _ => ?_
 show (codesR r).map (upC (b : Int)) = codesR (subR (upS b) r)
 rw [up_codes, up_eq]
section
variable {m : Nat} (hm : 0 < m) (hm3 : m ≤ 3) {nums : List Int} (hn : NumsOk nums) {a0 : List QSym} (hs : SignOk a0)
include hm hm3 hn hs
theorem resolve_holds {L : List TLit} {T : List (List Tm)} {C : List TLit} (hmay : mayB a0 (L.map cl) (T.map codesR) (C.map cl) = true) (hL : ∀ l ∈ L, WfL a0 l) (hT : ∀ r ∈ T, WfR a0 r) (hC : ∀ l ∈ C, WfL a0 l)
  {L' : List TLit} {T' : List (List Tm)} {C' : List TLit} (hmay' : mayB a0 (L'.map cl) (T'.map codesR) (C'.map cl) = true) (hL' : ∀ l ∈ L', WfL a0 l) (hT' : ∀ r ∈ T', WfR a0 r) (hC' : ∀ l ∈ C', WfL a0 l) (i j : Int) :
  ∃ r, resolve_One a0 (L.map cl) (T.map codesR) (C.map cl) i (L'.map cl) (T'.map codesR) (C'.map cl) j = some r ∧ (r.2.2.2.1 = 0 → r.2.2.1 = true → mayB a0 r.1 r.2.1 r.2.2.2.2 = true ∧ (Holds m nums L T C → Holds m nums L' T' C' → ref9_Model_Clause (m : Int) nums a0 r.1 r.2.1 r.2.2.2.2 = some true)) := by
 have fails : ∀ {k : Int} {o : Option ResT} {P : ResT → Prop}, o = failR k → ∃ r, o = some r ∧ (r.2.2.2.1 = 0 → r.2.2.1 = true → P r) := fun h => ⟨_, h, fun _ h => (nomatch h)⟩
 rw [resolve_One_eq, hmay, hmay', Bool.true_and, Bool.true_and]
 cases hpi : placeB (L.map cl) i with
 | false => exact fails (k := 1300) rfl
 | true =>
  rw [Bool.true_and]
  cases hpj : placeB (L'.map cl) j with
  | false => exact fails (k := 1300) rfl
  | true =>
   rw [cond_true]
   obtain ⟨⟨n, A⟩, hi⟩ := placeB_gx hpi
   obtain ⟨⟨n', A'⟩, hj⟩ := placeB_gx hpj
   rcases resolve_one_spec hs hmay hmay' hi hj with ⟨-, r1⟩ | ⟨hnn, b, c, ts, us, hb, -, rfl, rfl, ho, ho', hll, ⟨r1, -⟩ | ⟨hnear, ⟨r1, -⟩ | ⟨σ, hmgu, hok, ⟨-, r1⟩ | ⟨-, r1⟩⟩⟩⟩
   ·exact fails r1
   ·exact fails r1
   ·exact fails r1
   ·exact fails r1
   have eL : bothL i j b (L.map cl) (L'.map cl) = (without i L 0 ++ without j (L'.map (subTL (upS b))) 0).map cl := by
    unfold bothL
    rw [upLs_cl, without_map, without_map, List.map_append]
   have eT : bothT b (T.map codesR) (T'.map codesR) = (T ++ T'.map (subR (upS b))).map codesR := by
    unfold bothT
    rw [upRs_codes, List.map_append]
   have eC : bothC b (C.map cl) (C'.map cl) = (C ++ C'.map (subTL (upS b))).map cl := by
    unfold bothC
    rw [upLs_cl, List.map_append]
   rw [r1, eL, eT, eC]
   obtain ⟨r, g1, g2⟩ := resOut_cases (a0 := a0) (σ := σ) (L := (without i L 0 ++ without j (L'.map (subTL (upS b))) 0).map cl) (T := (T ++ T'.map (subR (upS b))).map codesR) (C := (C ++ C'.map (subTL (upS b))).map cl) (k := 1302) (by omega)
   refine ⟨r, g1, fun h0 _ => ?_⟩
   obtain ⟨g3, g4⟩ := g2 h0
   have near : ∀ x, VarT L' T' C' x → x + b < 24 := fun x hx => by
    have := hnear (x : Int) (VarR_tree.2 hx)
    omega
   have okU : ∀ {ts : List Tm}, okR a0 24 ts → (∀ x, hasR x ts → x + b < 24) → okR a0 24 (subR (upS b) ts) := fun {ts} h h2 => okR_sub ts h h2
   have oL : ∀ l ∈ without i L 0 ++ without j (L'.map (subTL (upS b))) 0, okR a0 24 l.2.2 := fun l hl => by
    rcases List.mem_append.1 hl with hl | hl
    ·exact (hL l (without_mem L 0 hl)).1
    ·obtain ⟨k, hk, rfl⟩ := List.mem_map.1 (without_mem _ 0 hl)
     exact okU (hL' k hk).1 fun x hx => near x (.inl ⟨k, hk, hx⟩)
   have oT : ∀ r ∈ T ++ T'.map (subR (upS b)), okR a0 24 r := fun l hl => by
    rcases List.mem_append.1 hl with hl | hl
    ·exact (hT l hl).1
    ·obtain ⟨k, hk, rfl⟩ := List.mem_map.1 hl
     exact okU (hT' k hk).1 fun x hx => near x (.inr (.inl ⟨k, hk, hx⟩))
   have oC : ∀ l ∈ C ++ C'.map (subTL (upS b)), okR a0 24 l.2.2 := fun l hl => by
    rcases List.mem_append.1 hl with hl | hl
    ·exact (hC l hl).1
    ·obtain ⟨k, hk, rfl⟩ := List.mem_map.1 hl
     exact okU (hC' k hk).1 fun x hx => near x (.inr (.inr ⟨k, hk, hx⟩))
   obtain ⟨k1, k2⟩ := inst_holds hm hm3 hn hs hok oL oT oC g3
   rw [← g4] at k1 k2
   refine ⟨k1, fun H H' => k2 fun E hE => ?_⟩
   have hv : ∀ x, VarT L T C x → x < 24 := fun x hx => by
    rcases hx with ⟨l, hl, hx⟩ | ⟨l, hl, hx⟩ | ⟨l, hl, hx⟩
    ·exact okR_has _ (hL l hl).1 hx
    ·exact okR_has _ (hT l hl).1 hx
    ·exact okR_has _ (hC l hl).1 hx
   have H1 := H.inst hm hn hs hok hv hE
   have H2 : hereT (m : Int) nums (fun n => valT (m : Int) nums (envF E) (σ n)) (L'.map (subTL (upS b))) (T'.map (subR (upS b))) (C'.map (subTL (upS b))) = true := by
    rw [hereT_sub]
    obtain ⟨E', hE', he'⟩ := env_inst hm hn hs (env := envF E) (fun x hx => hE.val hx) (σ := fun x => σ (if x + b < 24 then x + b else 0)) (fun x _ => hok _ (by split <;> omega))
    rw [← H' E' hE']
    refine hereT_ext fun x hx => ?_
    have := near x hx
    rw [he' x (by omega), if_pos this]
    rfl
   have clash : ∀ li ∈ L, ∀ lj ∈ L', (n, (c : Int) :: codesR ts) = cl li → (n', (c : Int) :: codesR us) = cl lj → litV (m : Int) nums (fun n => valT (m : Int) nums (envF E) (σ n)) li = true → litV (m : Int) nums (fun n => valT (m : Int) nums (envF E) (σ n)) (subTL (upS b) lj) = true → False := by
    intro li hli lj hlj ei ej h1 h2
    injection ei with a1 a2
    injection a2 with a2 a3
    injection ej with b1 b2
    injection b2 with b2 b3
    have a3 := codesR_inj _ ts li.2.2 (Nat.le_refl _) ho (hL li hli).1 a3
    have b3 := codesR_inj _ us lj.2.2 (Nat.le_refl _) ho' (hL' lj hlj).1 b3
    have hsol := (Sol.zip (by rw [List.length_map]; exact hll)).1 hmgu.sol
    rw [up_eq] at hsol
    have hval : valR (m : Int) nums (fun n => valT (m : Int) nums (envF E) (σ n)) ts = valR (m : Int) nums (fun n => valT (m : Int) nums (envF E) (σ n)) (subR (upS b) us) := by
     rw [← valR_sub, ← valR_sub, hsol]
    unfold litV atomV at h1 h2
    unfold subTL at h2
    have hc : lj.2.1 = li.2.1 := by omega
    simp only at h1 h2
    rw [← a3, ← a1, hval] at h1
    rw [← b3, ← b1, hc] at h2
    revert h1 h2 hnn
    generalize (cond (li.2.1 == 0) _ _ : Bool) = z
    cases z <;> cases n <;> cases n' <;> simp
   rcases hereT_iff.1 H1 with ⟨k, hk, hkv⟩ | ⟨li, hk, hkv⟩ | ⟨k, hk, hkv⟩
   ·exact hereT_iff.2 (.inl ⟨k, List.mem_append_left _ hk, hkv⟩)
   ·obtain ⟨q, hq, he⟩ := List.mem_iff_getElem.1 hk
    have hg : L[q]? = some li := by rw [List.getElem?_eq_getElem hq, he]
    by_cases hqi : (q : Int) = i
    ·rcases hereT_iff.1 H2 with ⟨k', hk', hkv'⟩ | ⟨lj', hk', hkv'⟩ | ⟨k', hk', hkv'⟩
     ·exact hereT_iff.2 (.inl ⟨k', List.mem_append_right _ hk', hkv'⟩)
     ·obtain ⟨q', hq', he'⟩ := List.mem_iff_getElem.1 hk'
      have hg' : (L'.map (subTL (upS b)))[q']? = some lj' := by rw [List.getElem?_eq_getElem hq', he']
      by_cases hqj : (q' : Int) = j
      ·exfalso
       obtain ⟨hi0, l1, h1, e1⟩ := gx_cl hi
       obtain ⟨hj0, l2, h2, e2⟩ := gx_cl hj
       have x1 : q = i.toNat := by omega
       have x2 : q' = j.toNat := by omega
       rw [x1, h1] at hg
       injection hg with hg
       rw [x2, List.getElem?_map, h2] at hg'
       injection hg' with hg'
       have hg' : subTL (upS b) l2 = lj' := hg'
       refine clash l1 (List.mem_of_getElem? h1) l2 (List.mem_of_getElem? h2) e1 e2 (by rw [hg]; exact hkv) (by rw [hg']; exact hkv')
      ·exact hereT_iff.2 (.inr (.inl ⟨lj', List.mem_append_right _ ((mem_without _ 0).2 ⟨q', hg', by simpa using hqj⟩), hkv'⟩))
     ·exact hereT_iff.2 (.inr (.inr ⟨k', List.mem_append_right _ hk', hkv'⟩))
    ·exact hereT_iff.2 (.inr (.inl ⟨li, List.mem_append_left _ ((mem_without _ 0).2 ⟨q, hg, by simpa using hqi⟩), hkv⟩))
   ·exact hereT_iff.2 (.inr (.inr ⟨k, List.mem_append_left _ hk, hkv⟩))
end
theorem clause_Vars_total (a0 : List QSym) (L : List QLit) (T : List (List Int)) (C : List QLit) : ∃ x, clause_Vars a0 L T C = some x := by
 cases hmay : mayB a0 L T C with
 | false =>
  refine ⟨(800, []), ?_⟩
  unfold clause_Vars
  rw [clause_May_eq, hmay]
  rfl
 | true =>
  obtain ⟨ws, hv, -, -⟩ := clause_Vars_spec (signB_ok (mayB_spec hmay).1) hmay
  exact ⟨_, hv⟩
theorem few_total (a0 : List QSym) : (es : List (List QLit × List (List Int) × List QLit)) → ∃ z, law13_few_L0_go a0 es = some z
 | [] => ⟨_, rfl⟩
 | e :: es => by
  obtain ⟨z, hz⟩ := few_total a0 es
  obtain ⟨x, hx⟩ := clause_Vars_total a0 e.1 e.2.1 e.2.2
  unfold law13_few_L0_go
  rw [hx, Option.bind_some, show law0_Num x.1 = some x.1 from rfl, Option.bind_some]
  cases (x.1 != 0) with
  | true => exact ⟨_, rfl⟩
  | false =>
   rw [cond_false]
   show ∃ z, cond (!decide (((List.length x.2 : Nat) : Int) ≤ 6)) _ _ = some z
   cases decide (((List.length x.2 : Nat) : Int) ≤ 6) with
   | false => exact ⟨_, rfl⟩
   | true => exact ⟨z, hz⟩
theorem few_some (a0 : List QSym) (es : List (List QLit × List (List Int) × List QLit)) (hl : es.length ≤ 1000) : ∃ b, law13_few a0 es = some b := by
 obtain ⟨z, hz⟩ := few_total a0 es
 unfold law13_few
 rw [law13_few_L0_go_at0 _ _ (by unfold maxLen; omega), hz, Option.bind_some]
 cases z with
 | inl _ => exact ⟨_, rfl⟩
 | inr b => exact ⟨b, rfl⟩
theorem law13_ResolveHolds_true (a0 : List QSym) (L : List QLit) (T : List (List Int)) (C : List QLit) (i : Int) (L' : List QLit) (T' : List (List Int)) (C' : List QLit) (j k : Int) (nums : List Int) (hl : nums.length ≤ 9223372036854775807) : law13_ResolveHolds a0 L T C i L' T' C' j k nums = some true := by
 unfold law13_ResolveHolds
 have hnum : ∀ k : Int, law0_Num k = some k := fun k => rfl
 rw [law13_awake_eq, Option.bind_some]
 simp only [Bool.not_true, cond_false]
 have bad : resolve_One a0 L T C i L' T' C' j = failR 1300 → ((resolve_One a0 L T C i L' T' C' j).bind fun r11 => (law0_Num r11.2.2.2.1).bind fun r12 => cond (r12 != 0) (some true) (cond (!r11.2.2.1) (some true) (cond (((List.length nums : Nat) : Int) == 0) (some true) ((clause_May a0 r11.1 r11.2.1 r11.2.2.2.2).bind fun r13 => cond (!r13) (some false)
   ((law13_few a0 [(L, T, C), (L', T', C'), (r11.1, r11.2.1, r11.2.2.2.2)]).bind fun r14 => cond (!r14) (some true) ((ref9_New k nums).bind fun r15 => (ref9_Model_Clause r15.1 r15.2 a0 L T C).bind fun r16 => cond (!r16) (some true) ((ref9_Model_Clause r15.1 r15.2 a0 L' T' C').bind fun r17 => cond (!r17) (some true) ((ref9_Model_Clause r15.1 r15.2 a0 r11.1 r11.2.1 r11.2.2.2.2).bind fun r18 => some r18)))))))) = some true := fun h => by rw [h]; rfl
 cases hmay : mayB a0 L T C with
 | false => exact bad (by rw [resolve_One_eq, hmay]; rfl)
 | true =>
  cases hmay' : mayB a0 L' T' C' with
  | false => exact bad (by rw [resolve_One_eq, hmay']; simp)
  | true =>
   have hs := signB_ok (mayB_spec hmay).1
   obtain ⟨Lt, Tt, Ct, rfl, rfl, rfl, hL, hT, hC⟩ := may_tree hmay
   obtain ⟨Lt', Tt', Ct', rfl, rfl, rfl, hL', hT', hC'⟩ := may_tree hmay'
   by_cases he : nums = []
   ·subst he
    obtain ⟨r, h1, -⟩ := resolve_holds (m := 1) (by omega) (by omega) (nums := [0]) ⟨by simp, by simp⟩ hs hmay hL hT hC hmay' hL' hT' hC' i j
    rw [h1, Option.bind_some, hnum, Option.bind_some]
    cases (r.2.2.2.1 != 0) with
    | true => rfl
    | false =>
     cases r.2.2.1 with
     | false => rfl
     | true => rfl
   ·have hn : NumsOk nums := ⟨he, hl⟩
    obtain ⟨m, hm, hm3, hnew⟩ := new_spec k nums
    obtain ⟨r, h1, h2⟩ := resolve_holds hm hm3 hn hs hmay hL hT hC hmay' hL' hT' hC' i j
    rw [h1, Option.bind_some, hnum, Option.bind_some]
    by_cases z : r.2.2.2.1 = 0
    ·rw [show (r.2.2.2.1 != 0) = false from by simp [z], cond_false]
     cases hb : r.2.2.1 with
     | false => rfl
     | true =>
      obtain ⟨g1, g2⟩ := h2 z hb
      rw [Bool.not_true, cond_false, show (((List.length nums : Nat) : Int) == 0) = false from by simp; exact he, cond_false, clause_May_eq, Option.bind_some, g1, Bool.not_true, cond_false]
      obtain ⟨f, hf⟩ := few_some a0 [(Lt.map cl, Tt.map codesR, Ct.map cl), (Lt'.map cl, Tt'.map codesR, Ct'.map cl), (r.1, r.2.1, r.2.2.2.2)] (by simp)
      rw [hf, Option.bind_some]
      cases f with
      | false => rfl
      | true =>
       rw [Bool.not_true, cond_false, hnew, Option.bind_some]
       obtain ⟨b1, c1, d1⟩ := Clause_spec hm hm3 hn hs hmay hL hT hC
       obtain ⟨b2, c2, d2⟩ := Clause_spec hm hm3 hn hs hmay' hL' hT' hC'
       simp only
       rw [c1, Option.bind_some]
       cases b1 with
       | false => rfl
       | true =>
        rw [Bool.not_true, cond_false, c2, Option.bind_some]
        cases b2 with
        | false => rfl
        | true =>
         rw [Bool.not_true, cond_false, g2 (d1.1 rfl) (d2.1 rfl)]
         rfl
    ·rw [show (r.2.2.2.1 != 0) = true from by simp [z], cond_true]
end
end Go.Abs.Q
