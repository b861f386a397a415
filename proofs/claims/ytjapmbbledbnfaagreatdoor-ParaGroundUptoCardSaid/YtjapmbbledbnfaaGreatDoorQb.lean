import Derived.Test.YtjapmbbledbnfaaGreatDoorQa
/-
  What the functions make of plain values, and what the law says of that.
-/
namespace Go.Abs.Q
open Go Go.Abs
section
abbrev Bd:=Nat→Option Tm
def SolB (θ:Sb) (B:Bd):Prop:=∀ x t,B x=some t→θ x=t.sub θ
def Sol (θ:Sb) (E:List (Tm×Tm)):Prop:=∀ p∈E,p.1.sub θ=p.2.sub θ
theorem Sol.nil {θ:Sb}:Sol θ []:=fun _ h=>nomatch h
theorem Sol.cons {θ:Sb} {p:Tm×Tm} {E:List (Tm×Tm)}:Sol θ (p::E)↔p.1.sub θ=p.2.sub θ∧Sol θ E:=by simp [Sol]
theorem Sol.append {θ:Sb} {E F:List (Tm×Tm)}:Sol θ (E++F)↔Sol θ E∧Sol θ F:=by
 simp only[Sol,List.mem_append]
 exact ⟨fun h=>⟨fun p hp=>h p (.inl hp),fun p hp=>h p (.inr hp)⟩,fun h p hp=>hp.elim (h.1 p) (h.2 p)⟩
theorem Sol.zip {θ:Sb}:{ts us:List Tm}→ts.length=us.length→(Sol θ (ts.zip us)↔subR θ ts=subR θ us)
 | [],[],_=>by simp [Sol,subR]
 | [],_::_,h=>by simp at h
 | _::_,[],h=>by simp at h
 | t::ts,u::us,h=>by
  rw[List.zip_cons_cons,Sol.cons,Sol.zip (by simpa using h)]
  simp [subR]
structure Good (B:Bd) (σ:Sb):Prop where
 free:∀ x,B x=none→σ x = .v x
 bound:∀ x t,B x=some t→σ x=t.sub σ
 down:∀ x y,B x=some (.v y)→y<x
theorem Good.empty:Good (fun _=>none) .v:=⟨fun _ _=>rfl,fun _ _ h=>(nomatch h),fun _ _ h=>(nomatch h)⟩
theorem Good.ind {B:Bd} {σ:Sb} (h:Good B σ) {P:Nat→Prop} (hf:∀ x,B x=none→P x) (hb:∀ x t,B x=some t→(∀ y,t.has y→P y)→P x):∀ x,P x:=by
 have key:∀ n x,(σ x).size=n→P x:=by
  intro n
  induction n using Nat.strongRecOn with
  | _ n ihn =>
   intro x
   induction x using Nat.strongRecOn with
   | _ x ihx =>
    intro hn
    cases hx:B x with
    | none=>exact hf x hx
    | some t =>
     refine hb x t hx fun y hy => ?_
     have hs:=h.bound x t hx
     cases t with
     | v z =>
      have hz:z=y:=hy
      subst hz
      exact ihx z (h.down x z hx) (by rw[← hn,hs]; rfl)
     | f c as =>
      have:=sizeR_has (s:=σ) as hy
      refine ihn (σ y).size ?_ y rfl
      rw[← hn,hs]
      show _<sizeR (subR σ as)+1
      omega
 exact fun x=>key _ x rfl
theorem Good.fac {B:Bd} {σ θ:Sb} (h:Good B σ) (hθ:SolB θ B):∀ x,(σ x).sub θ=θ x:=by
 refine h.ind (fun x hx=>by rw[h.free x hx]; rfl) fun x t hx ih => ?_
 rw[h.bound x t hx,Tm.sub_sub,hθ x t hx]
 exact Tm.sub_ext t fun y hy=>ih y hy
theorem Good.facT {B:Bd} {σ θ:Sb} (h:Good B σ) (hθ:SolB θ B) (t:Tm):(t.sub σ).sub θ=t.sub θ:=by
 rw[Tm.sub_sub]
 exact Tm.sub_ext t fun y _=>h.fac hθ y
theorem Good.root {B:Bd} {σ:Sb} (h:Good B σ):∀ x y,(σ x).has y→B y=none:=by
 refine h.ind (fun x hx y hy => ?_) fun x t hx ih y hy => ?_
 ·rw[h.free x hx] at hy
  have hy:x=y:=hy
  exact hy▸hx
 ·rw[h.bound x t hx] at hy
  obtain⟨z,h1,h2⟩:=(Tm.has_sub t).1 hy
  exact ih z h1 y h2
theorem Good.idem {B:Bd} {σ:Sb} (h:Good B σ) (t:Tm):(t.sub σ).sub σ=t.sub σ:=h.facT h.bound t
theorem Good.le {B:Bd} {σ:Sb} (h:Good B σ):∀ x y,σ x = .v y→y≤x:=by
 refine h.ind (fun x hx y hy => ?_) fun x t hx ih y hy => ?_
 ·rw[h.free x hx] at hy; injection hy with hy; omega
 ·rw[h.bound x t hx] at hy
  cases t with
  | v z =>
   have h1:=h.down x z hx
   have h2:=ih z rfl y hy
   omega
  | f c as=>cases hy
theorem Good.moved {B:Bd} {σ:Sb} (h:Good B σ) {x:Nat}:B x≠none↔σ x ≠ .v x:=by
 constructor
 ·intro hb he
  cases hx:B x with
  | none=>exact hb hx
  | some t =>
   have h1:=h.bound x t hx
   rw[he] at h1
   cases t with
   | v z =>
    have h2:=h.down x z hx
    have h3:=h.le z x h1.symm
    omega
   | f c as=>cases h1
 ·intro hs hb
  exact hs (h.free x hb)
theorem Good.unique {B B':Bd} {σ σ':Sb} (h:Good B σ) (h':Good B' σ') (hs:∀ θ,SolB θ B↔SolB θ B'):σ=σ':=by
 have f1:∀ x,(σ x).sub σ'=σ' x:=h.fac ((hs σ').2 h'.bound)
 have f2:∀ x,(σ' x).sub σ=σ x:=h'.fac ((hs σ).1 h.bound)
 have root:∀ y,B y=none→σ' y = .v y:=by
  intro y hy
  have h1:(σ' y).sub σ = .v y:=by rw[f2,h.free y hy]
  cases hz:σ' y with
  | f c as=>rw[hz] at h1; cases h1
  | v z =>
   rw[hz] at h1
   have h2:=h'.le y z hz
   have h3:=h.le z y h1
   have:z=y:=by omega
   rw[this]
 funext x
 rw[← f1 x]
 conv=>lhs; rw[← Tm.sub_v (σ x)]
 exact Tm.sub_ext _ fun y hy=>(root y (h.root x y hy)).symm
def one (x:Nat) (u:Tm):Sb:=fun y=>if y=x then u else .v y
def updB (B:Bd) (x:Nat) (t:Tm):Bd:=fun y=>if y=x then some t else B y
theorem updB_same (B:Bd) (x:Nat) (t:Tm):updB B x t x=some t:=by simp [updB]
theorem updB_ne (B:Bd) {x y:Nat} (t:Tm) (h:y≠x):updB B x t y=B y:=by simp [updB,h]
theorem SolB.upd {B:Bd} {x:Nat} {t:Tm} {θ:Sb} (hx:B x=none):SolB θ (updB B x t)↔SolB θ B∧θ x=t.sub θ:=by
 constructor
 ·intro h
  refine ⟨fun y u hy=>h y u ?_,h x t (updB_same ..)⟩
  rw[updB_ne _ _ fun e=>by rw[e,hx] at hy; cases hy]
  exact hy
 ·rintro⟨h1,h2⟩ y u hy
  by_cases he:y=x
  ·subst he
   rw[updB_same] at hy
   injection hy with hy
   subst hy
   exact h2
  ·rw[updB_ne _ _ he] at hy
   exact h1 y u hy
theorem one_off {x:Nat} {u t:Tm} (h:¬ t.has x):t.sub (one x u)=t:=by
 conv=>rhs; rw[← Tm.sub_v t]
 refine Tm.sub_ext t fun y hy => ?_
 have hne:y≠x:=fun e=>h (e▸hy)
 unfold one
 rw[if_neg hne]
theorem Good.bind {B:Bd} {σ:Sb} (h:Good B σ) {x:Nat} {t:Tm} (hx:B x=none) (hn:¬(t.sub σ).has x) (hd:∀ y,t = .v y→y<x):Good (updB B x t) fun y=>(σ y).sub (one x (t.sub σ)) where
 free:=fun y hy=>by
  have hne:y≠x:=fun e=>by rw[e,updB_same] at hy; cases hy
  rw[updB_ne _ _ hne] at hy
  rw[h.free y hy]
  show one x _ y=_
  simp [one,hne]
 bound:=fun y u hy=>by
  by_cases he:y=x
  ·subst he
   rw[updB_same] at hy
   injection hy with hy
   subst hy
   rw[h.free y hx,← Tm.sub_sub,one_off hn]
   show one y _ y=_
   simp [one]
  ·rw[updB_ne _ _ he] at hy
   rw[h.bound y u hy,Tm.sub_sub]
 down:=fun y z hy=>by
  by_cases he:y=x
  ·subst he
   rw[updB_same] at hy
   injection hy with hy
   exact hd z hy
  ·rw[updB_ne _ _ he] at hy
   exact h.down y z hy
theorem Good.occurs {B:Bd} {σ θ:Sb} (h:Good B σ) {x c:Nat} {as:List Tm} (hh:((Tm.f c as).sub σ).has x) (hθ:SolB θ B) (he:θ x=(Tm.f c as).sub θ):False:=by
 have h1:=h.facT hθ (.f c as)
 rw[← he] at h1
 have h2:=sizeR_has (s:=θ) (subR σ as) hh
 have h3:(((Tm.f c as).sub σ).sub θ).size=(θ x).size:=by rw[h1]
 have h4:sizeR (subR θ (subR σ as))+1=(θ x).size:=h3
 omega
def Small (B:Bd):Prop:=∀ x t,B x=some t→x<48∧t.size≤48
def Good.less (σ:Sb) (y x:Nat):Bool:=decide ((σ y).size<(σ x).size)||(decide ((σ y).size=(σ x).size)&&decide (y<x))
def Good.rank (σ:Sb) (x:Nat):Nat:=(List.range 48).countP fun y=>Good.less σ y x
theorem countP_lt {α:Type} {p q:α→Bool} {a:α}:{l:List α}→a∈l→(∀ x∈l,p x=true→q x=true)→p a=false→q a=true→l.countP p<l.countP q
 | [],h,_,_,_=>nomatch h
 | b::l,hm,hi,hp,hq=>by
  have h2:l.countP p≤l.countP q:=List.countP_mono_left fun x hx h=>hi x (List.mem_cons_of_mem _ hx) h
  rcases List.mem_cons.1 hm with rfl | hm
  ·rw[List.countP_cons_of_neg (by simp [hp]),List.countP_cons_of_pos hq]
   omega
  ·have h1:=countP_lt hm (fun x hx=>hi x (List.mem_cons_of_mem _ hx)) hp hq
   cases hb:p b with
   | true=>rw[List.countP_cons_of_pos hb,List.countP_cons_of_pos (hi b (List.mem_cons_self ..) hb)]; omega
   | false =>
    rw[List.countP_cons_of_neg (by simp [hb])]
    cases hc:q b with
    | true=>rw[List.countP_cons_of_pos hc]; omega
    | false=>rw[List.countP_cons_of_neg (by simp [hc])]; exact h1
theorem Good.small {B:Bd} {σ:Sb} (h:Good B σ) (hb:Small B):∀ x,(σ x).size≤48 ^ 49:=by
 have key:∀ x,B x≠none→(σ x).size≤48 ^ (Good.rank σ x+1):=by
  refine h.ind (fun x hx hn=>absurd hx hn) fun x t hx ih _ => ?_
  obtain⟨hx48,ht⟩:=hb x t hx
  rw[h.bound x t hx]
  have h1:1≤48 ^ Good.rank σ x:=Nat.pow_pos (by omega)
  refine Nat.le_trans (Tm.size_sub t h1 fun y hy => ?_) ?_
  ·cases hy0:B y with
   | none=>rw[h.free y hy0]; exact h1
   | some u =>
    refine Nat.le_trans (ih y hy (by rw[hy0]; simp)) (Nat.pow_le_pow_right (by omega) ?_)
    have hlt:Good.less σ y x=true:=by
     unfold Good.less
     have hs:=h.bound x t hx
     cases t with
     | v z =>
      have hz:z=y:=hy
      subst hz
      have h2:=h.down x z hx
      have h3:(σ z).size=(σ x).size:=by rw[hs]; rfl
      simp [h3,h2]
     | f c as =>
      have h2:=sizeR_has (s:=σ) as hy
      have h3:(σ x).size=sizeR (subR σ as)+1:=by rw[hs]; rfl
      rw[decide_eq_true (show (σ y).size<(σ x).size by omega)]
      rfl
    refine countP_lt (a:=y) (List.mem_range.2 (hb y u hy0).1) (fun z _ hz => ?_) (by simp [Good.less]) hlt
    simp only[Good.less,Bool.or_eq_true,Bool.and_eq_true,decide_eq_true_eq] at hz hlt ⊢
    omega
  ·rw[Nat.pow_succ,Nat.mul_comm]
   exact Nat.mul_le_mul_left _ ht
 intro x
 by_cases hx:B x=none
 ·rw[h.free x hx]
  exact Nat.pow_pos (by omega)
 ·refine Nat.le_trans (key x hx) (Nat.pow_le_pow_right (by omega) ?_)
  have:Good.rank σ x≤(List.range 48).length:=List.countP_le_length
  rw[List.length_range] at this
  omega
theorem Good.small_sub {B:Bd} {σ:Sb} (h:Good B σ) (hb:Small B) (t:Tm):(t.sub σ).size≤t.size*48 ^ 49 :=
 Tm.size_sub t (Nat.pow_pos (by omega)) fun x _=>h.small hb x
def Out (B:Bd) (E:List (Tm×Tm)):Option Bd→Prop
 | none=>∀ θ,SolB θ B→Sol θ E→False
 | some B'=>(∃ σ,Good B' σ)∧Small B'∧∀ θ,SolB θ B'↔SolB θ B∧Sol θ E
theorem Out.via {B B1:Bd} {E E1:List (Tm×Tm)} (h:∀ θ,(SolB θ B1∧Sol θ E1)↔(SolB θ B∧Sol θ E)) {o:Option Bd} (ho:Out B1 E1 o):Out B E o:=by
 cases o with
 | none=>exact fun θ h1 h2=>ho θ ((h θ).2 ⟨h1,h2⟩).1 ((h θ).2 ⟨h1,h2⟩).2
 | some B'=>exact ⟨ho.1,ho.2.1,fun θ=>(ho.2.2 θ).trans (h θ)⟩
theorem Out.done {B:Bd} {σ:Sb} (h:Good B σ) (hs:Small B):Out B [] (some B):=⟨⟨σ,h⟩,hs,fun _=>⟨fun h=>⟨h,Sol.nil⟩,fun h=>h.1⟩⟩
theorem f_eq {θ:Sb} {c d:Nat} {as bs:List Tm}:(Tm.f c as).sub θ=(Tm.f d bs).sub θ↔c=d∧subR θ as=subR θ bs:=by
 simp [Tm.sub]
end
end Go.Abs.Q
namespace Go.Abs.Q
open Go Go.Abs
section
abbrev PI:=List Int×Int
abbrev PO:=Option (List Int)×Int
def Pc (a0:List QSym) (N:Nat) (p:List Int) (d:Int) (t:Tm):Prop:=∃ u n,Tm.ok a0 24 u∧p=u.codes∧d=((n:Nat):Int)∧n≤N∧t=u.up n∧p.length≤48
def Pr (a0:List QSym) (N:Nat) (p:List Int) (d:Int) (ts:List Tm):Prop:=∃ us n,okR a0 24 us∧p=codesR us∧d=((n:Nat):Int)∧n≤N∧ts=us.map (Tm.up n)∧p.length≤48
theorem Pc.size {a0:List QSym} {N:Nat} {p:List Int} {d:Int} {t:Tm} (h:Pc a0 N p d t):t.size=p.length∧t.size≤48:=by
 obtain⟨u,n,h1,rfl,h2,h3,rfl,h4⟩:=h
 rw[Tm.up_size,Tm.codes_len]
 rw[Tm.codes_len] at h4
 exact ⟨rfl,h4⟩
theorem Pc.lt {a0:List QSym} {N:Nat} (hN:N≤24) {p:List Int} {d:Int} {t:Tm} (h:Pc a0 N p d t) {x:Nat} (hx:t.has x):x<48:=by
 obtain⟨u,n,h1,rfl,h2,h3,rfl,h4⟩:=h
 have:=Tm.ok_has _ (Tm.up_ok (d:=n) h1) hx
 omega
theorem Pc.cases {a0:List QSym} {N:Nat} {p:List Int} {d:Int} {t:Tm} (h:Pc a0 N p d t) :
  (∃ k n:Nat,p=[-1 - (k:Int)]∧d=(n:Int)∧k<24∧n≤N∧t = .v (k+n))∨∃ c r ts,p=((c:Nat):Int)::r∧t = .f c ts∧arity a0 (c:Int)=some ts.length∧Pr a0 N r d ts:=by
 obtain⟨u,n,h1,rfl,h2,h3,rfl,h4⟩:=h
 cases u with
 | v k=>exact .inl ⟨k,n,rfl,h2,h1,h3,rfl⟩
 | f c as =>
  have h4:(codesR as).length+1≤48:=h4
  refine .inr ⟨c,codesR as,as.map (Tm.up n),rfl,?_,by rw[List.length_map]; exact h1.1,as,n,h1.2,rfl,h2,h3,rfl,by omega⟩
  show Tm.f c (subR _ as)=_
  rw[subR_eq]
  rfl
def Pq (a0:List QSym) (N:Nat) (q:List Int×Int×List Int×Int) (e:Tm×Tm):Prop:=Pc a0 N q.1 q.2.1 e.1∧Pc a0 N q.2.2.1 q.2.2.2 e.2
def PqL (a0:List QSym) (N:Nat):List (List Int×Int×List Int×Int)→List (Tm×Tm)→Prop
 | [],es=>es=[]
 | q::qs,es=>∃ e es',es=e::es'∧Pq a0 N q e∧PqL a0 N qs es'
theorem PqL.append {a0:List QSym} {N:Nat}:{qs:List (List Int×Int×List Int×Int)}→{es:List (Tm×Tm)}→{qs':List (List Int×Int×List Int×Int)}→{es':List (Tm×Tm)}→PqL a0 N qs es→PqL a0 N qs' es'→PqL a0 N (qs++qs') (es++es')
 | [],_,_,_,h,h'=>by have h:_=[]:=h; subst h; exact h'
 | q::qs,_,_,_,h,h'=>by
  obtain⟨e,es,rfl,h1,h2⟩:=h
  exact ⟨e,_,rfl,h1,PqL.append h2 h'⟩
theorem PqL.length {a0:List QSym} {N:Nat}:{qs:List (List Int×Int×List Int×Int)}→{es:List (Tm×Tm)}→PqL a0 N qs es→es.length=qs.length
 | [],_,h=>by have h:_=[]:=h; subst h; rfl
 | q::qs,_,h=>by
  obtain⟨e,es,rfl,h1,h2⟩:=h
  simp [PqL.length h2]
theorem PqL.split {a0:List QSym} {N:Nat}:{qs:List (List Int×Int×List Int×Int)}→{qs':List (List Int×Int×List Int×Int)}→{es:List (Tm×Tm)}→PqL a0 N (qs++qs') es→∃ e1 e2,es=e1++e2∧PqL a0 N qs e1∧PqL a0 N qs' e2
 | [],_,es,h=>⟨[],es,rfl,rfl,h⟩
 | q::qs,_,_,h=>by
  obtain⟨e,es,rfl,h1,h2⟩:=h
  obtain⟨e1,e2,rfl,h3,h4⟩:=PqL.split h2
  exact ⟨e::e1,e2,rfl,⟨e,e1,rfl,h1,h3⟩,h4⟩
def PcO (a0:List QSym) (N:Nat) (e:PO) (o:Option Tm):Prop:=match e.1 with
 | none=>o=none
 | some p=>∃ t,o=some t∧Pc a0 N p e.2 t
structure RepT (a0:List QSym) (N:Nat) (to:List PO) (B:Bd):Prop where
 len:to.length=48
 at_:∀ x e,to[x]? = some e→PcO a0 N e (B x)
 out:∀ x,48≤x→B x=none
theorem RepT.small {a0:List QSym} {N:Nat} {to:List PO} {B:Bd} (h:RepT a0 N to B):Small B:=by
 intro x t hx
 have hlt:x<48:=by
  rcases Nat.lt_or_ge x 48 with h' | h'
  ·exact h'
  ·rw[h.out x h'] at hx; cases hx
 refine ⟨hlt,?_⟩
 have hl:x<to.length:=by rw[h.len]; exact hlt
 have hg:to[x]? = some to[x]:=List.getElem?_eq_getElem hl
 have:=h.at_ x _ hg
 unfold PcO at this
 split at this
 ·rw[hx] at this; cases this
 ·obtain⟨u,h1,h2⟩:=this
  rw[hx] at h1; injection h1 with h1; subst h1
  exact h2.size.2
theorem RepT.get {a0:List QSym} {N:Nat} {to:List PO} {B:Bd} (h:RepT a0 N to B) {x:Nat} (hx:x<48):∃ e,to[x]? = some e∧PcO a0 N e (B x):=by
 have hl:x<to.length:=by rw[h.len]; exact hx
 have hg:to[x]? = some to[x]:=List.getElem?_eq_getElem hl
 exact ⟨_,hg,h.at_ x _ hg⟩
theorem RepT.set {a0:List QSym} {N:Nat} {to:List PO} {B:Bd} (h:RepT a0 N to B) {x:Nat} (hx:x<48) {p:List Int} {d:Int} {t:Tm} (hp:Pc a0 N p d t):RepT a0 N (to.set x (some p,d)) (updB B x t) where
 len:=by rw[List.length_set]; exact h.len
 at_:=fun y e hy=>by
  by_cases he:y=x
  ·subst he
   rw[List.getElem?_set_self (by rw[h.len]; exact hx)] at hy
   injection hy with hy
   subst hy
   rw[updB_same]
   exact ⟨t,rfl,hp⟩
  ·rw[List.getElem?_set_ne (Ne.symm he)] at hy
   rw[updB_ne _ _ he]
   exact h.at_ y e hy
 out:=fun y hy=>by
  rw[updB_ne _ _ (by omega)]
  exact h.out y hy
theorem number_eq {N:Nat} (hN:N≤24) {k n:Nat} (hk:k<24) (hn:n≤N) (p:List Int):unify_piece_number p (n:Int) (-1 - (k:Int))=some ((k+n:Nat):Int):=by
 unfold unify_piece_number
 rw[term_Number_eq (by omega) (by omega),Option.bind_some]
 congr 1
 rw[wrap64]<;>omega
def mWhat:Tm→Nat
 | .v x=>x+2
 | .f _ _=>1
theorem what_run {a0:List QSym} {N:Nat} (hN:N≤24) {to:List PO} {B:Bd} {σ:Sb} (hT:RepT a0 N to B) (hG:Good B σ):∀(m k:Nat) (p:List Int) (d:Int) (t:Tm) (z:Int),mWhat t≤m→m≤k→Pc a0 N p d t →
  ∃ p' d' t',lp unify_run_what_L0 k (a0,to,p,d,z)=some (p',d')∧Pc a0 N p' d' t'∧(∀ θ,SolB θ B→t.sub θ=t'.sub θ)∧∀ y,t' = .v y→B y=none:=by
 intro m
 induction m with
 | zero=>intro k p d t z hm; cases t<;>simp [mWhat] at hm
 | succ m ih =>
  intro k p d t z hm hk hp
  obtain⟨k,rfl⟩:∃ k',k=k'+1:=⟨k - 1,by omega⟩
  rw[lp_succ]
  have key:=fun p d t (h1:mWhat t≤m) h2=>ih k p d t z h1 (by omega) h2
  generalize lp unify_run_what_L0 k=rec at key ⊢
  unfold unify_run_what_L0
  rcases hp.cases with ⟨x,n,rfl,rfl,hx,hn,rfl⟩ | ⟨c,r,ts,rfl,rfl,hc,hr⟩
  ·simp only[gx_zero,List.getElem?_cons_zero,Option.bind_some]
   rw[decide_eq_true (show -1 - (x:Int)<0 by omega),cond_true,number_eq hN hx hn,Option.bind_some,inR_nat (by omega),Option.bind_some]
   obtain⟨e,he,hpe⟩:=hT.get (x:=x+n) (by omega)
   rw[he,Option.bind_some]
   unfold PcO at hpe
   split at hpe
   ·rename_i h1
    rw[h1]
    exact ⟨_,_,_,rfl,hp,fun θ _=>rfl,fun y hy=>by injection hy with hy; rw[← hy]; exact hpe⟩
   ·rename_i q h1
    obtain⟨u,hu,hq⟩:=hpe
    rw[h1]
    simp only[Option.isNone_some,cond_false,Option.getD_some]
    obtain⟨p',d',t',h2,h3,h4,h5⟩:=key q e.2 u (by
     cases u with
     | v y=>have:=hG.down _ y hu; simp only[mWhat] at hm ⊢; omega
     | f c as=>simp only[mWhat] at hm ⊢; omega) hq
    exact ⟨p',d',t',h2,h3,fun θ hθ=>(hθ _ u hu).trans (h4 θ hθ),h5⟩
  ·simp only[gx_zero,List.getElem?_cons_zero,Option.bind_some]
   rw[decide_eq_false (show ¬(c:Int)<0 by omega),cond_false]
   exact ⟨_,_,_,rfl,hp,fun θ _=>rfl,fun y hy=>by cases hy⟩
theorem what_spec {a0:List QSym} {N:Nat} (hN:N≤24) {to:List PO} {B:Bd} {σ:Sb} (hT:RepT a0 N to B) (hG:Good B σ) {p:List Int} {d:Int} {t:Tm} (hp:Pc a0 N p d t) :
  ∃ p' d' t',unify_run_what p d a0 to=some (p',d')∧Pc a0 N p' d' t'∧(∀ θ,SolB θ B→t.sub θ=t'.sub θ)∧∀ y,t' = .v y→B y=none:=by
 obtain⟨p',d',t',h1,h2⟩:=what_run hN hT hG (mWhat t) fuel p d t 0 (Nat.le_refl _) (by
  cases t with
  | v x=>have:=hp.lt hN (x:=x) rfl; simp only[mWhat]; unfold fuel; omega
  | f c as=>simp only[mWhat]; unfold fuel; omega) hp
 refine ⟨p',d',t',?_,h2⟩
 unfold unify_run_what
 rw[h1]
 rfl
section
variable {a0:List QSym} {N:Nat} {to:List PO} {B:Bd} {σ:Sb} {v:Nat}
def DoneV (B:Bd) (v:Nat) (seen:List Bool) (y:Nat):Prop:=y≠v∧(B y≠none→seen[y]? = some true)
def PcL (a0:List QSym) (N:Nat):List PI→List Tm→Prop
 | [],ts=>ts=[]
 | p::ps,ts=>∃ t ts',ts=t::ts'∧Pc a0 N p.1 p.2 t∧PcL a0 N ps ts'
theorem PcL.append:{ps:List PI}→{ts:List Tm}→{ps':List PI}→{ts':List Tm}→PcL a0 N ps ts→PcL a0 N ps' ts'→PcL a0 N (ps++ps') (ts++ts')
 | [],_,_,_,h,h'=>by have h:_=[]:=h; subst h; exact h'
 | q::qs,_,_,_,h,h'=>by
  obtain⟨e,es,rfl,h1,h2⟩:=h
  exact ⟨e,_,rfl,h1,PcL.append h2 h'⟩
theorem PcL.split:{ps:List PI}→{ps':List PI}→{ts:List Tm}→PcL a0 N (ps++ps') ts→∃ t1 t2,ts=t1++t2∧PcL a0 N ps t1∧PcL a0 N ps' t2
 | [],_,ts,h=>⟨[],ts,rfl,rfl,h⟩
 | q::qs,_,_,h=>by
  obtain⟨e,es,rfl,h1,h2⟩:=h
  obtain⟨e1,e2,rfl,h3,h4⟩:=PcL.split h2
  exact ⟨e::e1,e2,rfl,⟨e,e1,rfl,h1,h3⟩,h4⟩
theorem PcL.length:{ps:List PI}→{ts:List Tm}→PcL a0 N ps ts→ts.length=ps.length
 | [],_,h=>by have h:_=[]:=h; subst h; rfl
 | q::qs,_,h=>by
  obtain⟨e,es,rfl,h1,h2⟩:=h
  simp [PcL.length h2]
def unseen (seen:List Bool):Nat:=seen.countP fun b => !b
theorem unseen_set {seen:List Bool} {x:Nat} (h:seen[x]? = some false):unseen (seen.set x true)+1=unseen seen:=by
 unfold unseen
 obtain⟨hx,he⟩:=List.getElem?_eq_some_iff.1 h
 have h1:=List.take_append_drop x seen
 have h2:seen.drop x=false::seen.drop (x+1):=by rw[List.drop_eq_getElem_cons hx,he]
 have h3:seen.set x true=seen.take x++true::seen.drop (x+1):=by rw[List.set_eq_take_append_cons_drop,if_pos hx]
 conv=>rhs; rw[← h1,h2]
 rw[h3]
 simp [List.countP_append]
 omega
theorem within_go (hN:N≤24) (hT:RepT a0 N to B) {n:Nat} (hn:n≤N) (p0:List Int):∀(es:List Int) (seen:List Bool) (todo:List PI) (ts:List Tm),(∀ c∈es,-24≤c)→seen.length=48→todo.length+unseen seen≤1000→PcL a0 N todo ts →
  (unify_run_within_L0_go (v:Int) to p0 (n:Int) es seen todo=some (.inr true)∧∃ c∈es,c<0∧(-1 - c).toNat+n=v) ∨
  ∃ seen' more us,unify_run_within_L0_go (v:Int) to p0 (n:Int) es seen todo=some (.inl (seen',todo++more))∧seen'.length=48∧more.length+unseen seen'=unseen seen∧PcL a0 N more us ∧
   (∀ y:Nat,seen[y]? = some true→seen'[y]? = some true)∧(∀ c∈es,c<0→DoneV B v seen' ((-1 - c).toNat+n))∧(∀ y:Nat,seen'[y]? = some true→seen[y]? = some true∨∃ u,B y=some u∧u∈us) ∧
   (∀ u∈us,∃ c∈es,c<0∧B ((-1 - c).toNat+n)=some u)
 | [],seen,todo,ts,_,hs,_,_=>.inr ⟨seen,[],[],by rw[List.append_nil]; rfl,hs,by simp,rfl,fun _ h=>h,fun c h=>(nomatch h),fun y h=>.inl h,fun u h=>(nomatch h)⟩
 | e::es,seen,todo,ts,hc,hs,hl,hp=>by
  have he:=hc e (List.mem_cons_self ..)
  have hc':∀ c∈es,-24≤c:=fun c h=>hc c (List.mem_cons_of_mem _ h)
  -- the variable is passed over
  have pass:∀ f:List Bool→List PI→Option ((List Bool×List PI)⊕Bool),f seen todo=unify_run_within_L0_go (v:Int) to p0 (n:Int) es seen todo→(e<0→DoneV B v seen ((-1 - e).toNat+n)) →
    ((f seen todo=some (.inr true)∧∃ c∈e::es,c<0∧(-1 - c).toNat+n=v) ∨
    ∃ seen' more us,f seen todo=some (.inl (seen',todo++more))∧seen'.length=48∧more.length+unseen seen'=unseen seen∧PcL a0 N more us ∧
     (∀ y:Nat,seen[y]? = some true→seen'[y]? = some true)∧(∀ c∈e::es,c<0→DoneV B v seen' ((-1 - c).toNat+n))∧(∀ y:Nat,seen'[y]? = some true→seen[y]? = some true∨∃ u,B y=some u∧u∈us) ∧
     (∀ u∈us,∃ c∈e::es,c<0∧B ((-1 - c).toNat+n)=some u)):=by
   intro f hf hd
   rw[hf]
   rcases within_go hN hT hn p0 es seen todo ts hc' hs hl hp with ⟨h1,c,h2,h3⟩ | ⟨seen',more,us,h1,h2,h3,h4,h5,h6,h7,h8⟩
   ·exact .inl ⟨h1,c,List.mem_cons_of_mem _ h2,h3⟩
   ·refine .inr ⟨seen',more,us,h1,h2,h3,h4,h5,fun c hcm hc0 => ?_,h7,fun u hu => ?_⟩
    ·rcases List.mem_cons.1 hcm with rfl | hcm
     ·exact ⟨(hd hc0).1,fun hb=>h5 _ ((hd hc0).2 hb)⟩
     ·exact h6 c hcm hc0
    ·obtain⟨c,h9,h10⟩:=h8 u hu
     exact ⟨c,List.mem_cons_of_mem _ h9,h10⟩
  unfold unify_run_within_L0_go
  by_cases h0:e≥0
  ·rw[decide_eq_true h0,cond_true]
   exact pass (fun seen todo=>unify_run_within_L0_go (v:Int) to p0 (n:Int) es seen todo) rfl fun h=>by omega
  ·rw[decide_eq_false h0,cond_false]
   obtain⟨k,hk,rfl⟩:∃ k:Nat,k<24∧e = -1 - (k:Int):=⟨(-1 - e).toNat,by omega,by omega⟩
   have hk2:(-1 - (-1 - (k:Int))).toNat=k:=by omega
   rw[number_eq hN hk hn,Option.bind_some]
   by_cases hv:k+n=v
   ·rw[hv,show (((v:Nat):Int)==(v:Int))=true from by simp,cond_true]
    exact .inl ⟨rfl,_,List.mem_cons_self ..,by omega,by rw[hk2]; exact hv⟩
   ·rw[show (((k+n:Nat):Int)==(v:Int))=false from by simp; omega,cond_false,inR_nat (show k+n<48 by omega),Option.bind_some]
    obtain⟨b,hb⟩:∃ b,seen[k+n]? = some b:=⟨seen[k+n]'(by omega),List.getElem?_eq_getElem (by omega)⟩
    rw[hb,Option.bind_some]
    obtain⟨q,hq,hpq⟩:=hT.get (x:=k+n) (by omega)
    cases b with
    | true =>
     simp only[Bool.not_true,cond_false]
     exact pass (fun seen todo=>unify_run_within_L0_go (v:Int) to p0 (n:Int) es seen todo) rfl fun _=>by rw[hk2]; exact ⟨hv,fun _=>hb⟩
    | false =>
     simp only[Bool.not_false,cond_true,Option.bind_some,hq]
     unfold PcO at hpq
     split at hpq
     ·rename_i h1
      rw[h1]
      simp only[Option.isNone_none,Bool.not_true,cond_false]
      exact pass (fun seen todo=>unify_run_within_L0_go (v:Int) to p0 (n:Int) es seen todo) rfl fun _=>by rw[hk2]; exact ⟨hv,fun hn=>absurd hpq hn⟩
     ·rename_i q1 h1
      obtain⟨u,hu,hpu⟩:=hpq
      rw[h1]
      simp only[Option.isNone_some,Bool.not_false,cond_true,Option.getD_some,hb,Option.bind_some]
      have hun:=unseen_set hb
      rw[room_ok (show (todo.length+([(q1,q.2)]:List PI).length)*32≤140737488351232 by simp; omega),cond_true]
      have hset:(seen.set (k+n) true)[k+n]? = some true:=List.getElem?_set_self (by omega)
      have hmono:∀ y:Nat,seen[y]? = some true→(seen.set (k+n) true)[y]? = some true:=fun y hy=>by
       by_cases hyk:y=k+n
       ·subst hyk; exact hset
       ·rw[List.getElem?_set_ne (Ne.symm hyk)]; exact hy
      have hbk:∀ y:Nat,(seen.set (k+n) true)[y]? = some true→seen[y]? = some true∨y=k+n:=fun y hy=>by
       by_cases hyk:y=k+n
       ·exact .inr hyk
       ·rw[List.getElem?_set_ne (Ne.symm hyk)] at hy; exact .inl hy
      rcases within_go hN hT hn p0 es (seen.set (k+n) true) (todo++[(q1,q.2)]) (ts++[u]) hc' (by rw[List.length_set]; exact hs) (by simp; omega) (hp.append ⟨u,[],rfl,hpu,rfl⟩) with ⟨h2,c,h3,h4⟩ | ⟨seen',more,us,h2,h3,h4,h5,h6,h7,h8,h9⟩
      ·exact .inl ⟨h2,c,List.mem_cons_of_mem _ h3,h4⟩
      ·refine .inr ⟨seen',(q1,q.2)::more,u::us,by rw[h2,List.append_assoc]; rfl,h3,by simp; omega,⟨u,us,rfl,hpu,h5⟩,fun y hy=>h6 y (hmono y hy),fun c hcm hc0 => ?_,fun y hy => ?_,fun w hw => ?_⟩
       ·rcases List.mem_cons.1 hcm with rfl | hcm
        ·rw[hk2]; exact ⟨hv,fun _=>h6 _ hset⟩
        ·exact h7 c hcm hc0
       ·rcases h8 y hy with h10 | ⟨w,h10,h11⟩
        ·rcases hbk y h10 with h12 | rfl
         ·exact .inl h12
         ·exact .inr ⟨u,hu,List.mem_cons_self ..⟩
        ·exact .inr ⟨w,h10,List.mem_cons_of_mem _ h11⟩
       ·rcases List.mem_cons.1 hw with rfl | hw
        ·exact ⟨_,List.mem_cons_self ..,by omega,by rw[hk2]; exact hu⟩
        ·obtain⟨c,h10,h11⟩:=h9 w hw
         exact ⟨c,List.mem_cons_of_mem _ h10,h11⟩
theorem Pc.vars {p:List Int} {d:Int} {t:Tm} (h:Pc a0 N p d t):∃ n:Nat,d=(n:Int)∧n≤N∧(∀ c∈p,-24≤c)∧∀ y,t.has y↔∃ c∈p,c<0∧(-1 - c).toNat+n=y:=by
 obtain⟨u,n,h1,rfl,h2,h3,rfl,h4⟩:=h
 refine ⟨n,h2,h3,fun c hc => ?_,fun y => ?_⟩
 ·by_cases h0:c<0
  ·have:=Tm.ok_has u h1 ((Tm.mem_codes h0 u).1 hc); omega
  ·omega
 ·rw[Tm.up_has]
  constructor
  ·rintro⟨x,hx,rfl⟩
   have hc:(-1 - (x:Int))<0:=by omega
   refine ⟨-1 - (x:Int),(Tm.mem_codes hc u).2 (by rw[show (-1 - (-1 - (x:Int))).toNat=x from by omega]; exact hx),hc,by omega⟩
  ·rintro⟨c,hc,h0,rfl⟩
   exact ⟨_,(Tm.mem_codes h0 u).1 hc,rfl⟩
structure WInv (B:Bd) (σ:Sb) (v:Nat) (t:Tm) (seen:List Bool) (ts:List Tm):Prop where
 snd:∀ u∈ts,(u.sub σ).has v→(t.sub σ).has v
 top:t∈ts∨∀ y,t.has y→DoneV B v seen y
 cls:∀ x u,seen[x]? = some true→B x=some u→u∈ts∨∀ y,u.has y→DoneV B v seen y
theorem DoneV.mono {seen seen':List Bool} (h:∀ y:Nat,seen[y]? = some true→seen'[y]? = some true) {y:Nat} (hd:DoneV B v seen y):DoneV B v seen' y:=⟨hd.1,fun hb=>h y (hd.2 hb)⟩
theorem within_run (hN:N≤24) (hT:RepT a0 N to B) (hG:Good B σ) (hv:B v=none) (t:Tm):∀(m k:Nat) (seen:List Bool) (todo:List PI) (ts:List Tm) (z:List Int) (z2:Int),todo.length+unseen seen=m→m<k→m≤100→seen.length=48→PcL a0 N todo ts→WInv B σ v t seen ts →
  ∃ r,lp unify_run_within_L1 k ((v:Int),a0,to,z,z2,seen,todo)=some r∧((r = .inr true∧(t.sub σ).has v)∨(r = .inl ()∧¬(t.sub σ).has v)):=by
 intro m
 induction m using Nat.strongRecOn with
 | _ m ih =>
  intro k seen todo ts z z2 hm hk hm1 hs hp hI
  obtain⟨k,rfl⟩:∃ k',k=k'+1:=⟨k - 1,by omega⟩
  rw[lp_succ]
  have key:=fun (m':Nat) (h:m'<m) seen todo ts z z2 h1 h2 h3 h4=>ih m' h k seen todo ts z z2 h1 (by omega) (by omega) h2 h3 h4
  generalize lp unify_run_within_L1 k=rec at key ⊢
  unfold unify_run_within_L1
  rcases List.eq_nil_or_concat todo with rfl | ⟨todo',p,rfl⟩
  ·have hts:ts=[]:=hp
   subst hts
   refine ⟨_,rfl,.inr ⟨rfl,?_⟩⟩
   have hcl:∀ x u,seen[x]? = some true→B x=some u→∀ y,u.has y→DoneV B v seen y:=fun x u h1 h2=>(hI.cls x u h1 h2).resolve_left (fun h=>nomatch h)
   have hno:∀ x,DoneV B v seen x→¬(σ x).has v:=by
    refine hG.ind (fun x hx hd hh => ?_) fun x u hx ihx hd hh => ?_
    ·rw[hG.free x hx] at hh
     exact hd.1 hh
    ·rw[hG.bound x u hx] at hh
     obtain⟨y,h1,h2⟩:=(Tm.has_sub u).1 hh
     exact ihx y h1 (hcl x u (hd.2 (by rw[hx]; simp)) hx y h1) h2
   intro hh
   obtain⟨y,h1,h2⟩:=(Tm.has_sub t).1 hh
   exact hno y ((hI.top.resolve_left fun h=>nomatch h) y h1) h2
  ·rw[List.concat_eq_append] at *
   obtain⟨ts',us0,rfl,hp1,hp2⟩:=PcL.split hp
   obtain⟨u0,us1,rfl,hu0,hus1⟩:=hp2
   have hus1:us1=[]:=hus1
   subst hus1
   simp only[List.length_append,List.length_singleton] at hm
   obtain⟨q,d⟩:=p
   obtain⟨n,rfl,hn,hcs,hvars⟩:=hu0.vars
   have e1:IntKind.wrap .i64 (((List.length (todo'++[(q,(n:Int))]):Nat):Int) - 1)=((todo'.length:Nat):Int):=by
    rw[List.length_append,List.length_singleton,wrap64]<;>omega
   have e2:inR ((todo'.length:Nat):Int) (List.length (todo'++[(q,(n:Int))]))=some todo'.length:=inR_nat (by simp)
   have e3:(todo'++[(q,(n:Int))])[todo'.length]? = some (q,(n:Int)):=get_mid _ [] _
   have e4:decide (((List.length (todo'++[(q,(n:Int))]):Nat):Int)>0)=true:=decide_eq_true (by rw[List.length_append,List.length_singleton]; omega)
   simp only[e1,e2,e3,e4,Option.bind_some,cond_true,slc_last]
   have hsz:u0.size=q.length∧u0.size≤48:=hu0.size
   rw[unify_run_within_L0_go_at0 _ _ _ _ _ _ _ _ (by unfold maxLen; omega)]
   rcases within_go (v:=v) hN hT hn q q seen todo' ts' hcs hs (by omega) hp1 with ⟨h1,c,h2,h3,h4⟩ | ⟨seen',more,us,h1,h2,h3,h4,h5,h6,h7,h8⟩
   ·rw[h1]
    refine ⟨_,rfl,.inl ⟨rfl,hI.snd u0 (by simp) ?_⟩⟩
    refine (Tm.has_sub u0).2 ⟨v,(hvars v).2 ⟨c,h2,h3,h4⟩,?_⟩
    rw[hG.free v hv]
    rfl
   ·rw[h1]
    simp only[Option.bind_some,caseS_inl]
    refine key (todo'.length+more.length+unseen seen') (by omega) seen' (todo'++more) (ts'++us) q (n:Int) (by simp) h2 (hp1.append h4) ⟨fun w hw hh => ?_,?_,fun x w hx hw => ?_⟩
    ·rcases List.mem_append.1 hw with hw | hw
     ·exact hI.snd w (by simp [hw]) hh
     ·obtain⟨c,h9,h10,h11⟩:=h8 w hw
      refine hI.snd u0 (by simp) ((Tm.has_sub u0).2 ⟨_,(hvars _).2 ⟨c,h9,h10,rfl⟩,?_⟩)
      rw[hG.bound _ w h11]
      exact hh
    ·have hdone:∀ y,u0.has y→DoneV B v seen' y:=fun y hy=>by
      obtain⟨c,h9,h10,rfl⟩:=(hvars y).1 hy
      exact h6 c h9 h10
     rcases hI.top with ht | ht
     ·rcases List.mem_append.1 ht with ht | ht
      ·exact .inl (by simp [ht])
      ·rw[List.mem_singleton.1 ht]; exact .inr hdone
     ·exact .inr fun y hy=>(ht y hy).mono h5
    ·have hdone:∀ y,u0.has y→DoneV B v seen' y:=fun y hy=>by
      obtain⟨c,h9,h10,rfl⟩:=(hvars y).1 hy
      exact h6 c h9 h10
     rcases h7 x hx with h9 | ⟨w',h9,h10⟩
     ·rcases hI.cls x w h9 hw with ht | ht
      ·rcases List.mem_append.1 ht with ht | ht
       ·exact .inl (by simp [ht])
       ·rw[List.mem_singleton.1 ht]; exact .inr hdone
      ·exact .inr fun y hy=>(ht y hy).mono h5
     ·rw[hw] at h9; injection h9 with h9; subst h9
      exact .inl (by simp [h10])
theorem within_spec (hN:N≤24) (hT:RepT a0 N to B) (hG:Good B σ) (hv:B v=none) {p:List Int} {d:Int} {t:Tm} (hp:Pc a0 N p d t) :
  ∃ r,unify_run_within (v:Int) p d a0 to=some r∧(r=true↔(t.sub σ).has v):=by
 have hun:unseen (List.replicate 48 false)=48:=by decide
 obtain⟨r,h1,h2⟩:=within_run hN hT hG hv t 49 fuel (List.replicate 48 false) [(p,d)] [t] p d (by rw[hun]; rfl) (by unfold fuel; omega) (by omega) (by simp) ⟨t,[],rfl,hp,rfl⟩
  ⟨fun u hu h=>by rw[List.mem_singleton.1 hu] at h; exact h,.inl (by simp),fun x u hx _=>by
   rw[List.getElem?_replicate] at hx
   split at hx<;>simp at hx⟩
 unfold unify_run_within
 rw[h1]
 rcases h2 with ⟨rfl,h2⟩ | ⟨rfl,h2⟩
 ·exact ⟨true,rfl,by simp [h2]⟩
 ·exact ⟨false,rfl,by simp [h2]⟩
end
end
end Go.Abs.Q
namespace Go.Abs.Q
open Go Go.Abs
section
mutual
def Tm.ht:Tm→Nat
 | .v _=>1
 | .f _ as=>htR as+1
def htR:List Tm→Nat
 | []=>0
 | t::ts=>max t.ht (htR ts)
end
mutual
theorem Tm.ht_size:(t:Tm)→t.ht≤t.size
 | .v _=>Nat.le_refl _
 | .f _ as=>by have:=htR_size as; simp only[Tm.ht,Tm.size]; omega
theorem htR_size:(ts:List Tm)→htR ts≤sizeR ts
 | []=>Nat.le_refl _
 | t::ts=>by have:=t.ht_size; have:=htR_size ts; simp only[htR,sizeR]; omega
end
mutual
theorem Tm.ht_sub {s:Sb} {M:Nat}:(t:Tm)→(∀ x,t.has x→(s x).ht≤M)→(t.sub s).ht≤t.ht+M
 | .v n,h=>by have:=h n rfl; simp only[Tm.sub,Tm.ht]; omega
 | .f _ as,h=>by have:=htR_sub as h; simp only[Tm.sub,Tm.ht]; omega
theorem htR_sub {s:Sb} {M:Nat}:(ts:List Tm)→(∀ x,hasR x ts→(s x).ht≤M)→htR (subR s ts)≤htR ts+M
 | [],_=>by simp [subR,htR]
 | t::ts,h=>by
  have h1:=Tm.ht_sub t fun x hx=>h x (.inl hx)
  have h2:=htR_sub ts fun x hx=>h x (.inr hx)
  simp only[subR,htR]; omega
end
theorem htR_mem:{ts:List Tm}→{t:Tm}→t∈ts→t.ht≤htR ts
 | u::us,t,h=>by
  rcases List.mem_cons.1 h with rfl | h
  ·simp only[htR]; omega
  ·have:=htR_mem h; simp only[htR]; omega
theorem Good.rank_lt {B:Bd} {σ:Sb} (h:Good B σ) {x y:Nat} {t:Tm} (hx:B x=some t) (hy:t.has y) (h48:y<48):Good.rank σ y<Good.rank σ x:=by
 have hlt:Good.less σ y x=true:=by
  unfold Good.less
  have hs:=h.bound x t hx
  cases t with
  | v z =>
   have hz:z=y:=hy
   subst hz
   have h2:=h.down x z hx
   have h3:(σ z).size=(σ x).size:=by rw[hs]; rfl
   simp [h3,h2]
  | f c as =>
   have h2:=sizeR_has (s:=σ) as hy
   have h3:(σ x).size=sizeR (subR σ as)+1:=by rw[hs]; rfl
   rw[decide_eq_true (show (σ y).size<(σ x).size by omega)]
   rfl
 refine countP_lt (a:=y) (List.mem_range.2 h48) (fun z _ hz => ?_) (by simp [Good.less]) hlt
 simp only[Good.less,Bool.or_eq_true,Bool.and_eq_true,decide_eq_true_eq] at hz hlt ⊢
 omega
theorem Good.rank_le (σ:Sb) (x:Nat):Good.rank σ x≤48:=by
 have:Good.rank σ x≤(List.range 48).length:=List.countP_le_length
 rwa [List.length_range] at this
theorem Good.low {B:Bd} {σ:Sb} (h:Good B σ) (hb:Small B):∀ x,(σ x).ht≤49*49:=by
 have key:∀ x,B x≠none→(σ x).ht≤49*(Good.rank σ x+1):=by
  refine h.ind (fun x hx hn=>absurd hx hn) fun x t hx ih _ => ?_
  obtain⟨hx48,ht⟩:=hb x t hx
  rw[h.bound x t hx]
  have h0:=t.ht_size
  have:=Tm.ht_sub (s:=σ) (M:=49*Good.rank σ x+1) t fun y hy=>(by
   cases hy0:B y with
   | none=>rw[h.free y hy0]; simp only[Tm.ht]; omega
   | some u =>
    have h1:=ih y hy (by rw[hy0]; simp)
    have h2:=h.rank_lt hx hy (hb y u hy0).1
    have:49*(Good.rank σ y+1)≤49*Good.rank σ x:=Nat.mul_le_mul_left _ (by omega)
    omega)
  omega
 intro x
 by_cases hx:B x=none
 ·rw[h.free x hx]; simp [Tm.ht]
 ·have h1:=key x hx
  have h2:=Good.rank_le σ x
  have:49*(Good.rank σ x+1)≤49*49:=Nat.mul_le_mul_left _ (by omega)
  omega
def zipC (n m:Nat) (us ws:List Tm):List (List Int×Int×List Int×Int):=List.zipWith (fun a b=>(a.codes,(n:Int),b.codes,(m:Int))) us ws
theorem codes_le {ts:List Tm} {t:Tm} (h:t∈ts):t.codes.length≤(codesR ts).length:=by
 obtain⟨l1,l2,rfl⟩:=List.append_of_mem h
 rw[codesR_app]
 simp [codesR]
 omega
theorem zipC_rel {a0:List QSym} {N n m:Nat} (hn:n≤N) (hm:m≤N):{us ws:List Tm}→okR a0 24 us→okR a0 24 ws→(∀ t∈us,t.codes.length≤48)→(∀ t∈ws,t.codes.length≤48) →
  PqL a0 N (zipC n m us ws) ((us.map (Tm.up n)).zip (ws.map (Tm.up m)))
 | [],_,_,_,_,_=>rfl
 | _::_,[],_,_,_,_=>rfl
 | u::_us,w::_ws,hu,hw,hlu,hlw =>
  ⟨(u.up n,w.up m),_,rfl,⟨⟨u,n,hu.1,rfl,rfl,hn,rfl,hlu u (List.mem_cons_self ..)⟩,⟨w,m,hw.1,rfl,rfl,hm,rfl,hlw w (List.mem_cons_self ..)⟩⟩,
   zipC_rel hn hm hu.2 hw.2 (fun t h=>hlu t (List.mem_cons_of_mem _ h)) fun t h=>hlw t (List.mem_cons_of_mem _ h)⟩
theorem pairs_go2 (ps2:List (List Int)) (n m:Nat):(us ws:List Tm)→(i:Nat)→(out:List (List Int×Int×List Int×Int))→ps2.drop i=ws.map Tm.codes→us.length=ws.length→out.length+us.length≤1000000 →
  unify_run_pairs_1_L0_go ps2 (n:Int) (m:Int) (us.map Tm.codes) i out=some (out++zipC n m us ws)
 | [],ws,i,out,_,_,_=>by simp [unify_run_pairs_1_L0_go,zipC]
 | u::us,[],i,out,_,h,_=>by simp at h
 | u::us,w::ws,i,out,h,hl,hr=>by
  simp only[List.length_cons] at hl hr
  rw[List.map_cons] at h
  rw[List.map_cons]
  unfold unify_run_pairs_1_L0_go
  rw[gx_nat,drop_cons_get h,Option.bind_some,room_ok (by simp only[List.length_singleton]; omega),cond_true,pairs_go2 ps2 n m us ws (i+1) _ (drop_cons_next h) (by omega) (by simp only[List.length_append,List.length_singleton]; omega)]
  simp [zipC]
theorem pairs_spec {a0:List QSym} (h:SignOk a0) {N:Nat} {p q:List Int} {d e:Int} {ts us:List Tm} (hp:Pr a0 N p d ts) (hq:Pr a0 N q e us) (hl:ts.length=us.length) (to:List PO) {out:List (List Int×Int×List Int×Int)} (ho:out.length≤100000) :
  ∃ more,unify_run_pairs_1 p d q e a0 to out=some (out++more)∧PqL a0 N more (ts.zip us):=by
 obtain⟨us0,n,h1,rfl,rfl,h2,rfl,h3⟩:=hp
 obtain⟨ws0,m,h4,rfl,rfl,h5,rfl,h6⟩:=hq
 simp only[List.length_map] at hl
 have hls:us0.length≤48:=by
  have:=cuts_len (cuts_codes us0 h1)
  rw[List.length_map] at this
  omega
 refine ⟨zipC n m us0 ws0,?_,zipC_rel h2 h5 h1 h4 (fun t ht=>Nat.le_trans (codes_le ht) h3) fun t ht=>Nat.le_trans (codes_le ht) h6⟩
 unfold unify_run_pairs_1
 rw[term_Pieces_eq h (by omega) (cuts_codes us0 h1),Option.bind_some,term_Pieces_eq h (by omega) (cuts_codes ws0 h4),Option.bind_some,
  unify_run_pairs_1_L0_go_at0 _ _ _ _ _ _ _ (by rw[List.length_map]; unfold maxLen; omega),pairs_go2 _ n m us0 ws0 0 out rfl hl (by omega)]
 rfl
theorem nn_codes {a0:List QSym} {N:Nat} {p:List Int} {d:Int} {t:Tm} (h:Pc a0 N p d t):nn p=some p:=by
 have h1:=h.size
 have h2:=t.size_pos
 cases p with
 | nil=>simp at h1; omega
 | cons x r=>rfl
theorem put_spec {a0:List QSym} {N:Nat} (hN:N≤24) {to:List PO} {B:Bd} {σ:Sb} (hT:RepT a0 N to B) (hG:Good B σ) {p q:List Int} {d e:Int} {v:Nat} {u:Tm} (hp:Pc a0 N p d (.v v)) (hq:Pc a0 N q e u) (hv:B v=none) (hu:∀ y,u = .v y→B y=none) :
  ∃ r to',unify_run_put_1 p d q e a0 to=some (r,a0,to')∧((r=false∧∀ θ,SolB θ B→θ v=u.sub θ→False)∨(r=true∧∃ B' σ',RepT a0 N to' B'∧Good B' σ'∧∀ θ,SolB θ B'↔SolB θ B∧θ v=u.sub θ)):=by
 have hv48:v<48:=hp.lt hN rfl
 rcases hp.cases with ⟨k,n,rfl,rfl,hk,hn,he⟩ | ⟨_,_,_,_,he,_⟩
 case inr=>cases he
 injection he with he
 subst he
 unfold unify_run_put_1
 simp only[gx_zero,List.getElem?_cons_zero,Option.bind_some,number_eq hN hk hn]
 rcases hq.cases with ⟨k2,n2,rfl,rfl,hk2,hn2,rfl⟩ | ⟨c,r,ts,rfl,rfl,hc,hr⟩
 ·simp only[List.getElem?_cons_zero,Option.bind_some,number_eq hN hk2 hn2]
  rw[decide_eq_false (show ¬(-1 - (k2:Int)≥0) by omega),cond_false]
  have hw:=hu _ rfl
  by_cases h1:k2+n2>k+n
  ·rw[decide_eq_true (show ((k2+n2:Nat):Int)>((k+n:Nat):Int) by omega),cond_true,inR_nat (by omega),Option.bind_some]
   obtain⟨x,hx,-⟩:=hT.get (x:=k2+n2) (by omega)
   rw[hx,Option.bind_some,nn_codes hp,Option.bind_some]
   refine ⟨true,_,rfl,.inr ⟨rfl,_,_,hT.set (by omega) hp,hG.bind hw ?_ ?_,fun θ=>(SolB.upd hw).trans ?_⟩⟩
   ·show ¬(σ (k+n)).has (k2+n2)
    rw[hG.free _ hv]
    show ¬(k+n=k2+n2)
    omega
   ·intro y hy
    injection hy with hy
    omega
   ·show _∧θ (k2+n2)=θ (k+n)↔_∧θ (k+n)=θ (k2+n2)
    exact ⟨fun h=>⟨h.1,h.2.symm⟩,fun h=>⟨h.1,h.2.symm⟩⟩
  ·rw[decide_eq_false (show ¬(((k2+n2:Nat):Int)>((k+n:Nat):Int)) by omega),cond_false]
   by_cases h2:k2+n2<k+n
   ·rw[decide_eq_true (show ((k2+n2:Nat):Int)<((k+n:Nat):Int) by omega),cond_true,inR_nat (by omega),Option.bind_some]
    obtain⟨x,hx,-⟩:=hT.get (x:=k+n) (by omega)
    rw[hx,Option.bind_some,nn_codes hq,Option.bind_some]
    refine ⟨true,_,rfl,.inr ⟨rfl,_,_,hT.set (by omega) hq,hG.bind hv ?_ ?_,fun θ=>SolB.upd hv⟩⟩
    ·show ¬(σ (k2+n2)).has (k+n)
     rw[hG.free _ hw]
     show ¬(k2+n2=k+n)
     omega
    ·intro y hy
     injection hy with hy
     omega
   ·rw[decide_eq_false (show ¬(((k2+n2:Nat):Int)<((k+n:Nat):Int)) by omega),cond_false]
    have:k2+n2=k+n:=by omega
    refine ⟨true,_,rfl,.inr ⟨rfl,B,σ,hT,hG,fun θ=>⟨fun h=>⟨h,?_⟩,fun h=>h.1⟩⟩⟩
    show θ (k+n)=θ (k2+n2)
    rw[this]
 ·simp only[List.getElem?_cons_zero,Option.bind_some]
  rw[decide_eq_true (show (c:Int)≥0 by omega),cond_true]
  obtain⟨w,hw1,hw2⟩:=within_spec hN hT hG hv hq
  rw[hw1,Option.bind_some]
  cases w with
  | true =>
   refine ⟨false,_,rfl,.inl ⟨rfl,fun θ h1 h2=>hG.occurs (hw2.1 rfl) h1 h2⟩⟩
  | false =>
   rw[cond_false,inR_nat (by omega),Option.bind_some]
   obtain⟨x,hx,-⟩:=hT.get (x:=k+n) (by omega)
   rw[hx,Option.bind_some,nn_codes hq,Option.bind_some]
   refine ⟨true,_,rfl,.inr ⟨rfl,_,_,hT.set (by omega) hq,hG.bind hv (fun h=>by have:=hw2.2 h; cases this) (fun y hy=>by cases hy),fun θ=>SolB.upd hv⟩⟩
end
end Go.Abs.Q
namespace Go.Abs.Q
open Go Go.Abs
section
def wt (σ:Sb) (E:List (Tm×Tm)):Nat:=(E.map fun e=>(e.1.sub σ).size).sum
theorem wt_append (σ:Sb) (E F:List (Tm×Tm)):wt σ (E++F)=wt σ E+wt σ F:=by simp [wt]
theorem wt_one (σ:Sb) (e:Tm×Tm):wt σ [e]=(e.1.sub σ).size:=by simp [wt]
theorem wt_zip (σ:Sb):{ts us:List Tm}→ts.length=us.length→wt σ (ts.zip us)=sizeR (subR σ ts)
 | [],_,_=>rfl
 | _::_,[],h=>by simp at h
 | t::ts,u::us,h=>by
  have:=wt_zip σ (ts:=ts) (us:=us) (by simpa using h)
  simp only[wt] at this ⊢
  simp only[List.zip_cons_cons,List.map_cons,List.sum_cons,subR,sizeR,this]
def HtOk (R:List Tm) (B:Bd) (i:Nat) (t:Tm):Prop:=∃ δ:Nat,i≤47+3*δ∧∀ θ,SolB θ B→∃ c∈R,δ+(t.sub θ).ht≤(c.sub θ).ht
def StkOk (R:List Tm) (B:Bd) (E:List (Tm×Tm)):Prop:=∀(i:Nat) e,E[i]? = some e→HtOk R B i e.1
theorem HtOk.mono {R:List Tm} {B B':Bd} {i:Nat} {t:Tm} (h:HtOk R B i t) (hB:∀ θ,SolB θ B'→SolB θ B):HtOk R B' i t:=by
 obtain⟨δ,h1,h2⟩:=h
 exact ⟨δ,h1,fun θ hθ=>h2 θ (hB θ hθ)⟩
theorem StkOk.mono {R:List Tm} {B B':Bd} {E:List (Tm×Tm)} (h:StkOk R B E) (hB:∀ θ,SolB θ B'→SolB θ B):StkOk R B' E:=fun i e he=>(h i e he).mono hB
theorem StkOk.left {R:List Tm} {B:Bd} {E F:List (Tm×Tm)} (h:StkOk R B (E++F)):StkOk R B E:=fun i e he=>h i e (by
 rw[List.getElem?_append_left (List.getElem?_eq_some_iff.1 he).1]; exact he)
theorem StkOk.len {R:List Tm} {B:Bd} {σ:Sb} {E:List (Tm×Tm)} (h:StkOk R B E) (hG:Good B σ) (hS:Small B) (hR:∀ c∈R,c.size≤48):E.length≤8000:=by
 rcases Nat.eq_zero_or_pos E.length with h0 | h0
 ·omega
 ·obtain⟨δ,h1,h2⟩:=h (E.length - 1) E[E.length - 1] (List.getElem?_eq_getElem (by omega))
  obtain⟨c,hc,h3⟩:=h2 σ hG.bound
  have h4:=Tm.ht_sub (s:=σ) c fun x _=>hG.low hS x
  have h5:=c.ht_size
  have h6:=hR c hc
  omega
theorem ht_pos (t:Tm):0<t.ht:=by cases t<;>simp [Tm.ht]
def SameR (a0:List QSym) (N:Nat) (B:Bd) (E:List (Tm×Tm)) (r:Bool×List QSym×List PO):Prop :=
 r.2.1=a0∧((r.1=false∧Out B E none)∨(r.1=true∧∃ B',RepT a0 N r.2.2 B'∧Out B E (some B')))
theorem SameR.via {a0:List QSym} {N:Nat} {B B1:Bd} {E E1:List (Tm×Tm)} (h:∀ θ,(SolB θ B1∧Sol θ E1)↔(SolB θ B∧Sol θ E)) {r:Bool×List QSym×List PO} (hr:SameR a0 N B1 E1 r):SameR a0 N B E r :=
 ⟨hr.1,hr.2.imp (fun h1=>⟨h1.1,Out.via h h1.2⟩) fun ⟨h1,B',h2,h3⟩=>⟨h1,B',h2,Out.via h h3⟩⟩
theorem same_run {a0:List QSym} (hs:SignOk a0) {N:Nat} (hN:N≤24) (R:List Tm) (hR:∀ c∈R,c.size≤48):∀(n:Nat) (to:List PO) (B:Bd) (σ:Sb) (todo:List (List Int×Int×List Int×Int)) (E:List (Tm×Tm)),
  RepT a0 N to B→Good B σ→PqL a0 N todo E→StkOk R B E →
  (∃ r,(∀ k,lp unify_run_same_1_L0 (k+n) (a0,to,todo)=some r)∧SameR a0 N B E r)∨∃ B' σ',Good B' σ'∧Small B'∧(∀ θ,SolB θ B'→SolB θ B)∧n≤wt σ' E:=by
 intro n
 induction n with
 | zero=>intro to B σ todo E hT hG _ _; exact .inr ⟨B,σ,hG,hT.small,fun _ h=>h,Nat.zero_le _⟩
 | succ n ih =>
  intro to B σ todo E hT hG hP hK
  have hlen:=hK.len hG hT.small hR
  have hpl:=hP.length
  -- one round, and what is left
  have go:∀(to1:List PO) (B1:Bd) (σ1:Sb) (todo1:List (List Int×Int×List Int×Int)) (E1:List (Tm×Tm)),RepT a0 N to1 B1→Good B1 σ1→PqL a0 N todo1 E1→StkOk R B1 E1 →
    (∀ θ,(SolB θ B1∧Sol θ E1)↔(SolB θ B∧Sol θ E))→(∀ θ,SolB θ B1→SolB θ B)→(∀ σ',SolB σ' B1→wt σ' E1+1≤wt σ' E)→(∀ rec,unify_run_same_1_L0 rec (a0,to,todo)=rec (a0,to1,todo1)) →
    ((∃ r,(∀ k,lp unify_run_same_1_L0 (k+(n+1)) (a0,to,todo)=some r)∧SameR a0 N B E r)∨∃ B' σ',Good B' σ'∧Small B'∧(∀ θ,SolB θ B'→SolB θ B)∧n+1≤wt σ' E):=by
   intro to1 B1 σ1 todo1 E1 h1 h2 h3 h4 h5 h6 h7 h8
   rcases ih to1 B1 σ1 todo1 E1 h1 h2 h3 h4 with ⟨r,h9,h10⟩ | ⟨B',σ',h9,h10,h11,h12⟩
   ·refine .inl ⟨r,fun k => ?_,h10.via h5⟩
    rw[← Nat.add_assoc,lp_succ,h8]
    exact h9 k
   ·have:=h7 σ' (h11 _ h9.bound)
    exact .inr ⟨B',σ',h9,h10,fun θ hθ=>h6 θ (h11 θ hθ),by omega⟩
  have stop:∀ r,SameR a0 N B E r→(∀ rec,unify_run_same_1_L0 rec (a0,to,todo)=some r) →
    ((∃ r,(∀ k,lp unify_run_same_1_L0 (k+(n+1)) (a0,to,todo)=some r)∧SameR a0 N B E r)∨∃ B' σ',Good B' σ'∧Small B'∧(∀ θ,SolB θ B'→SolB θ B)∧n+1≤wt σ' E) :=
   fun r h1 h2=>.inl ⟨r,fun k=>by rw[← Nat.add_assoc,lp_succ,h2],h1⟩
  rcases List.eq_nil_or_concat todo with rfl | ⟨todo',t,rfl⟩
  ·have hE:E=[]:=hP
   subst hE
   exact stop (true,a0,to) ⟨rfl,.inr ⟨rfl,B,hT,Out.done hG hT.small⟩⟩ fun rec=>rfl
  ·rw[List.concat_eq_append] at *
   obtain⟨p,d,q,e⟩:=t
   obtain⟨E',F,rfl,hP',hF⟩:=PqL.split hP
   obtain⟨⟨s,u⟩,F',rfl,⟨hps,hqu⟩,hF'⟩:=hF
   have hF':F'=[]:=hF'
   subst hF'
   have hps:Pc a0 N p d s:=hps
   have hqu:Pc a0 N q e u:=hqu
   obtain⟨p1,d1,s1,hw1,hp1,hs1,hb1⟩:=what_spec hN hT hG hps
   obtain⟨q1,e1,u1,hw2,hq1,hu1,hb2⟩:=what_spec hN hT hG hqu
   simp only[List.length_append,List.length_singleton] at hlen hpl
   have x1:IntKind.wrap .i64 (((List.length (todo'++[(p,d,q,e)]):Nat):Int) - 1)=((todo'.length:Nat):Int):=by
    rw[List.length_append,List.length_singleton,wrap64]<;>omega
   have x2:inR ((todo'.length:Nat):Int) (List.length (todo'++[(p,d,q,e)]))=some todo'.length:=inR_nat (by simp)
   have x3:(todo'++[(p,d,q,e)])[todo'.length]? = some (p,d,q,e):=get_mid _ [] _
   have x4:(((List.length (todo'++[(p,d,q,e)]):Nat):Int)==0)=false:=by simp; omega
   have hsol:∀ θ,SolB θ B→(Sol θ (E'++[(s,u)])↔Sol θ E'∧s1.sub θ=u1.sub θ):=fun θ hθ=>by
    rw[Sol.append,Sol.cons,hs1 θ hθ,hu1 θ hθ]
    exact ⟨fun h=>⟨h.1,h.2.1⟩,fun h=>⟨h.1,h.2,Sol.nil⟩⟩
   -- one round
   have round:∀ rec,unify_run_same_1_L0 rec (a0,to,todo'++[(p,d,q,e)])=(gx p1 0).bind fun e34=>cond (decide (e34<0))
     ((unify_run_put_1 p1 d1 q1 e1 a0 to).bind fun r35=>cond r35.1 (rec (r35.2.1,r35.2.2,todo')) (some (false,r35.2.1,r35.2.2)))
     ((gx q1 0).bind fun e36=>cond (decide (e36<0))
      ((unify_run_put_1 q1 e1 p1 d1 a0 to).bind fun r37=>cond r37.1 (rec (r37.2.1,r37.2.2,todo')) (some (false,r37.2.1,r37.2.2)))
      ((gx p1 0).bind fun e38=>(gx q1 0).bind fun e39=>cond (e38 != e39) (some (false,a0,to))
       ((slc2 p1 (some 1) none).bind fun y40=>(slc2 q1 (some 1) none).bind fun y41=>(unify_run_pairs_1 y40 d1 y41 e1 a0 to todo').bind fun r42=>rec (a0,to,r42)))):=by
    intro rec
    unfold unify_run_same_1_L0
    simp only[x1,x2,x3,x4,Option.bind_some,cond_false,slc_last,hw1,hw2]
   have hbind:∀{B1:Bd} {v:Nat} {w:Tm},(∀ θ,SolB θ B1↔SolB θ B∧θ v=w.sub θ)→(∀ θ,SolB θ B→(s1.sub θ=u1.sub θ↔θ v=w.sub θ))→∀ θ,(SolB θ B1∧Sol θ E')↔(SolB θ B∧Sol θ (E'++[(s,u)])):=by
    intro B1 v w h1 h2 θ
    rw[h1 θ]
    constructor
    ·rintro⟨⟨h3,h4⟩,h5⟩
     exact ⟨h3,(hsol θ h3).2 ⟨h5,(h2 θ h3).2 h4⟩⟩
    ·rintro⟨h3,h4⟩
     have h6:=(hsol θ h3).1 h4
     exact ⟨⟨h3,(h2 θ h3).1 h6.2⟩,h6.1⟩
   have hwt:∀ σ',wt σ' E'+1≤wt σ' (E'++[(s,u)]):=fun σ'=>by
    rw[wt_append,wt_one]
    have:=(s.sub σ').size_pos
    show wt σ' E'+1≤wt σ' E'+(s.sub σ').size
    omega
   rcases hp1.cases with ⟨k1,n1,rfl,rfl,hk1,hn1,rfl⟩ | ⟨c1,r1,ts1,rfl,rfl,hc1,hr1⟩
   ·-- a variable on the left
    obtain⟨r,to1,hput,hres⟩:=put_spec hN hT hG hp1 hq1 (hb1 _ rfl) hb2
    rcases hres with ⟨rfl,hno⟩ | ⟨rfl,B1,σ1,hT1,hG1,hB1⟩
    ·refine stop (false,a0,to1) ⟨rfl,.inl ⟨rfl,fun θ h1 h2=>hno θ h1 ((hsol θ h1).1 h2).2⟩⟩ fun rec => ?_
     rw[round,gx_zero,List.getElem?_cons_zero,Option.bind_some,decide_eq_true (show -1 - (k1:Int)<0 by omega),cond_true,hput]
     rfl
    ·refine go to1 B1 σ1 todo' E' hT1 hG1 hP' (hK.left.mono fun θ h=>((hB1 θ).1 h).1) (hbind hB1 fun θ _=>Iff.rfl) (fun θ h=>((hB1 θ).1 h).1) (fun σ' _=>hwt σ') fun rec => ?_
     rw[round,gx_zero,List.getElem?_cons_zero,Option.bind_some,decide_eq_true (show -1 - (k1:Int)<0 by omega),cond_true,hput]
     rfl
   ·rcases hq1.cases with ⟨k2,n2,rfl,rfl,hk2,hn2,rfl⟩ | ⟨c2,r2,ts2,rfl,rfl,hc2,hr2⟩
    ·obtain⟨r,to1,hput,hres⟩:=put_spec hN hT hG hq1 hp1 (hb2 _ rfl) hb1
     rcases hres with ⟨rfl,hno⟩ | ⟨rfl,B1,σ1,hT1,hG1,hB1⟩
     ·refine stop (false,a0,to1) ⟨rfl,.inl ⟨rfl,fun θ h1 h2=>hno θ h1 ((hsol θ h1).1 h2).2.symm⟩⟩ fun rec => ?_
      rw[round]
      simp only[gx_zero,List.getElem?_cons_zero,Option.bind_some]
      rw[decide_eq_false (show ¬(c1:Int)<0 by omega),cond_false,decide_eq_true (show -1 - (k2:Int)<0 by omega),cond_true,hput]
      rfl
     ·refine go to1 B1 σ1 todo' E' hT1 hG1 hP' (hK.left.mono fun θ h=>((hB1 θ).1 h).1) (hbind hB1 fun θ _=>⟨fun h=>h.symm,fun h=>h.symm⟩) (fun θ h=>((hB1 θ).1 h).1) (fun σ' _=>hwt σ') fun rec => ?_
      rw[round]
      simp only[gx_zero,List.getElem?_cons_zero,Option.bind_some]
      rw[decide_eq_false (show ¬(c1:Int)<0 by omega),cond_false,decide_eq_true (show -1 - (k2:Int)<0 by omega),cond_true,hput]
      rfl
    ·by_cases hcc:c1=c2
     ·subst hcc
      have hl:ts1.length=ts2.length:=by rw[hc1] at hc2; injection hc2
      have hl3:ts1.length≤3:=arity_le hs hc1
      obtain⟨more,hm1,hm2⟩:=pairs_spec hs hr1 hr2 hl to (out:=todo') (by omega)
      refine go to B σ (todo'++more) (E'++ts1.zip ts2) hT hG (hP'.append hm2) ?_ ?_ (fun _ h=>h) ?_ fun rec => ?_
      ·intro i e hi
       rcases Nat.lt_or_ge i E'.length with hlt | hge
       ·rw[List.getElem?_append_left hlt] at hi
        exact hK.left i e hi
       ·rw[List.getElem?_append_right hge] at hi
        have hi3:i - E'.length<3:=by
         have:=(List.getElem?_eq_some_iff.1 hi).1
         rw[List.length_zip] at this
         omega
        obtain⟨δ,h1,h2⟩:=hK E'.length (s,u) (by rw[List.getElem?_append_right (Nat.le_refl _),Nat.sub_self]; rfl)
        refine ⟨δ+1,by omega,fun θ hθ => ?_⟩
        obtain⟨c,hc,h3⟩:=h2 θ hθ
        refine ⟨c,hc,?_⟩
        have h3:δ+(s.sub θ).ht≤(c.sub θ).ht:=h3
        rw[hs1 θ hθ] at h3
        have h4:e.1∈ts1:=(List.of_mem_zip (a:=e.1) (b:=e.2) (List.mem_of_getElem? hi)).1
        have h5:(e.1.sub θ).ht≤htR (subR θ ts1):=htR_mem (by rw[subR_eq]; exact List.mem_map_of_mem h4)
        have h6:((Tm.f c1 ts1).sub θ).ht=htR (subR θ ts1)+1:=rfl
        omega
      ·intro θ
       rw[Sol.append,Sol.zip hl]
       constructor
       ·rintro⟨h1,h2,h3⟩
        exact ⟨h1,(hsol θ h1).2 ⟨h2,f_eq.2 ⟨rfl,h3⟩⟩⟩
       ·rintro⟨h1,h2⟩
        have h3:=(hsol θ h1).1 h2
        exact ⟨h1,h3.1,(f_eq.1 h3.2).2⟩
      ·intro σ' hσ'
       rw[wt_append,wt_append,wt_one,wt_zip σ' hl]
       show _≤wt σ' E'+(s.sub σ').size
       rw[hs1 σ' hσ']
       show _≤wt σ' E'+(sizeR (subR σ' ts1)+1)
       omega
      ·rw[round]
       simp only[gx_zero,List.getElem?_cons_zero,Option.bind_some]
       rw[decide_eq_false (show ¬(c1:Int)<0 by omega),cond_false,cond_false,show ((c1:Int) != (c1:Int))=false from by simp,cond_false,slc_tail,Option.bind_some,slc_tail,Option.bind_some,hm1]
       rfl
     ·refine stop (false,a0,to) ⟨rfl,.inl ⟨rfl,fun θ h1 h2=>hcc (f_eq.1 ((hsol θ h1).1 h2).2).1⟩⟩ fun rec => ?_
      rw[round]
      simp only[gx_zero,List.getElem?_cons_zero,Option.bind_some]
      rw[decide_eq_false (show ¬(c1:Int)<0 by omega),cond_false,decide_eq_false (show ¬(c2:Int)<0 by omega),cond_false,show ((c1:Int) != (c2:Int))=true from by simp; omega,cond_true]
theorem same_spec {a0:List QSym} (hs:SignOk a0) {N:Nat} (hN:N≤24) {to:List PO} {B:Bd} {σ:Sb} (hT:RepT a0 N to B) (hG:Good B σ) {p q:List Int} {d e:Int} {ts us:List Tm} (hp:Pr a0 N p d ts) (hq:Pr a0 N q e us) (hl:ts.length=us.length) :
  ∃ r,unify_run_same_1 p d q e a0 to=some r∧SameR a0 N B (ts.zip us) r:=by
 have eta:∀ o:Option (Bool×List QSym×List PO),(o.bind fun r=>some (r.1,r.2.1,r.2.2))=o:=fun o=>by cases o<;>rfl
 obtain⟨more,hm1,hm2⟩:=pairs_spec hs hp hq hl to (out:=[]) (by simp)
 have e0:unify_run_same_1 p d q e a0 to=lp unify_run_same_1_L0 (fuel+1) (a0,to,more):=by
  unfold unify_run_same_1
  rw[hm1,Option.bind_some,lp_succ,List.nil_append]
  generalize lp unify_run_same_1_L0 fuel=rec
  unfold unify_run_same_1_L0
  simp only[eta]
 have hsz:∀ c∈ts,c.size≤48:=fun c hc=>by
  obtain⟨us0,n,h1,rfl,h2,h3,rfl,h4⟩:=hp
  obtain⟨c0,h5,rfl⟩:=List.mem_map.1 hc
  rw[Tm.up_size,← Tm.codes_len]
  exact Nat.le_trans (codes_le h5) h4
 have hlen:ts.length≤48:=by
  obtain⟨us0,n,h1,rfl,h2,h3,rfl,h4⟩:=hp
  have:=cuts_len (cuts_codes us0 h1)
  rw[List.length_map] at this ⊢
  omega
 have hK:StkOk ts B (ts.zip us):=fun i x hi=>by
  have hi0:=(List.getElem?_eq_some_iff.1 hi).1
  rw[List.length_zip] at hi0
  exact ⟨0,by omega,fun θ _=>⟨x.1,(List.of_mem_zip (a:=x.1) (b:=x.2) (List.mem_of_getElem? hi)).1,by omega⟩⟩
 rw[e0]
 rcases same_run hs hN ts hsz (48*(48*48 ^ 49)+1) to B σ more (ts.zip us) hT hG hm2 hK with ⟨r,h1,h2⟩ | ⟨B',σ',h1,h2,h3,h4⟩
 ·have:=h1 (fuel+1 - (48*(48*48 ^ 49)+1))
  rw[show fuel+1 - (48*(48*48 ^ 49)+1)+(48*(48*48 ^ 49)+1)=fuel+1 from by unfold fuel; omega] at this
  exact ⟨r,this,h2⟩
 ·exfalso
  rw[wt_zip σ' hl,subR_eq,sizeR_eq,List.map_map] at h4
  have h5:∀ l:List Tm,(∀ c∈l,c.size≤48)→(l.map (Tm.size ∘ Tm.sub σ')).sum≤l.length*(48*48 ^ 49):=by
   intro l
   induction l with
   | nil=>intro _; simp
   | cons c l ih =>
    intro h
    have h6:=ih fun c hc=>h c (List.mem_cons_of_mem _ hc)
    have h7:=h1.small_sub h2 c
    have h8:=h c (List.mem_cons_self ..)
    have h9:c.size*48 ^ 49≤48*48 ^ 49:=Nat.mul_le_mul_right _ h8
    simp only[List.map_cons,List.sum_cons,List.length_cons,Function.comp_apply]
    rw[Nat.add_mul,Nat.one_mul]
    omega
  have h6:=h5 ts hsz
  have h7:ts.length*(48*48 ^ 49)≤48*(48*48 ^ 49):=Nat.mul_le_mul_right _ hlen
  omega
end
end Go.Abs.Q
namespace Go.Abs.Q
open Go Go.Abs
section
def expC (s:Sb) (c:Int):List Int:=if c<0 then (s (-1 - c).toNat).codes else [c]
mutual
theorem Tm.codes_sub (s:Sb):(t:Tm)→(t.sub s).codes=t.codes.flatMap (expC s)
 | .v n=>by
  show (s n).codes=[-1 - (n:Int)].flatMap (expC s)
  simp only[List.flatMap_cons,List.flatMap_nil,List.append_nil,expC]
  rw[if_pos (by omega),show (-1 - (-1 - (n:Int))).toNat=n from by omega]
 | .f c as=>by
  show (c:Int)::codesR (subR s as)=((c:Int)::codesR as).flatMap (expC s)
  rw[List.flatMap_cons,codesR_sub s as]
  unfold expC
  rw[if_neg (by omega)]
  rfl
theorem codesR_sub (s:Sb):(ts:List Tm)→codesR (subR s ts)=(codesR ts).flatMap (expC s)
 | []=>rfl
 | t::ts=>by
  show (t.sub s).codes++codesR (subR s ts)=(t.codes++codesR ts).flatMap (expC s)
  rw[Tm.codes_sub s t,codesR_sub s ts,List.flatMap_append]
end
theorem number1_eq {k:Nat} (hk:k<24) (p:Option (List Int)):unify_piece_number_1 p 0 (-1 - (k:Int))=some (k:Int):=by
 unfold unify_piece_number_1
 rw[term_Number_eq (by omega) (by omega),Option.bind_some]
 congr 1
 rw[wrap64]<;>omega
section
variable {a0:List QSym} {to:List PO} {B:Bd} {σ:Sb}
def cutW (o:List Int):Option (List Int):=if o.length≤48 then some o else none
theorem whole_round (hT:RepT a0 0 to B) (hG:Good B σ) (p:List Int) (hp48:p.length≤48) (rf:((Option (List Int))×Int×(List QSym)×(List PO))→Option (Option (List Int)))
  (hrf:∀(y:Nat) q d u,(-1 - (y:Int))∈p→to[y]? = some (some q,d)→B y=some u→rf (some q,d,a0,to)=some (cutW (u.sub σ).codes)):∀(es:List Int) (i k:Nat) (out:List Int),p.drop i=es→es.length<k→(∀ c∈es,-24≤c)→out.length≤48 →
  lp (unify_run_whole_L0 rf) k (some p,((p.length:Nat):Int),(i:Int),a0,to,some p,0,out)=some (if out.length+(es.flatMap (expC σ)).length≤48 then .inl (out++es.flatMap (expC σ)) else .inr ()):=by
 intro es
 induction es with
 | nil =>
  intro i k out h hk _ ho
  obtain⟨k,rfl⟩:∃ k',k=k'+1:=⟨k - 1,by simp at hk; omega⟩
  rw[lp_succ]
  generalize lp (unify_run_whole_L0 rf) k=rec
  unfold unify_run_whole_L0
  have hi:p.length≤i:=by
   have:=congrArg List.length h
   simp at this; omega
  rw[decide_eq_false (show ¬((i:Int)<((p.length:Nat):Int)) by omega),cond_false]
  simp [ho]
 | cons c es ih =>
  intro i k out h hk hc ho
  obtain⟨k,rfl⟩:∃ k',k=k'+1:=⟨k - 1,by simp at hk; omega⟩
  rw[lp_succ]
  have key:=fun out' ho'=>ih (i+1) k out' (drop_cons_next h) (by simp at hk; omega) (fun c h=>hc c (List.mem_cons_of_mem _ h)) ho'
  generalize lp (unify_run_whole_L0 rf) k=rec at key ⊢
  unfold unify_run_whole_L0
  have hget:=drop_cons_get h
  have hi:i<p.length:=(List.getElem?_eq_some_iff.1 hget).1
  have hmem:c∈p:=List.mem_of_getElem? hget
  have hw:IntKind.wrap .i64 ((i:Int)+1)=((i+1:Nat):Int):=by rw[wrap64]<;>omega
  rw[decide_eq_true (show ((i:Int)<((p.length:Nat):Int)) by omega),cond_true]
  simp only[Option.getD_some,gx_nat,hget,Option.bind_some,hw]
  -- one code that stays
  have stay:expC σ c=[c]→(((nn ([c]:List Int)).bind fun _=>some false).bind fun z=>cond z (some (Sum.inr ()))
    (cond (decide ((IntKind.wrap .i64 (((List.length out:Nat):Int)+((List.length ([c]:List Int):Nat):Int)))>48)) (some (Sum.inr ()))
     (cond (room (List.length out+List.length ([c]:List Int)) 8) (rec (some p,((p.length:Nat):Int),((i+1:Nat):Int),a0,to,some p,0,(out++([c]:List Int)))) none))) =
    some (if out.length+((c::es).flatMap (expC σ)).length≤48 then .inl (out++(c::es).flatMap (expC σ)) else .inr ()):=by
   intro he
   have e1:(nn ([c]:List Int))=some [c]:=rfl
   rw[e1,List.flatMap_cons,he]
   have w2:IntKind.wrap .i64 (((List.length out:Nat):Int)+((List.length ([c]:List Int):Nat):Int))=((out.length+1:Nat):Int):=by
    rw[wrap64]<;>simp only[List.length_singleton]<;>omega
   simp only[Option.bind_some,cond_false,w2]
   simp only[List.length_append,List.length_singleton]
   by_cases h48:out.length+1≤48
   ·rw[decide_eq_false (show ¬(((out.length+1:Nat):Int)>48) by omega),cond_false,room_ok (by omega),cond_true,key _ (by simp; omega)]
    simp only[List.length_append,List.length_singleton,List.append_assoc]
    have:out.length+1+(es.flatMap (expC σ)).length=out.length+(1+(es.flatMap (expC σ)).length):=by omega
    rw[this]
   ·rw[decide_eq_true (show (((out.length+1:Nat):Int)>48) by omega),cond_true,if_neg (by omega)]
  by_cases h0:c<0
  ·obtain⟨y,hy,rfl⟩:∃ y:Nat,y<24∧c = -1 - (y:Int):=⟨(-1 - c).toNat,by have:=hc c (List.mem_cons_self ..); omega,by omega⟩
   rw[decide_eq_true h0,cond_true,number1_eq hy,Option.bind_some,inR_nat (show y<48 by omega),Option.bind_some]
   obtain⟨e,he,hpe⟩:=hT.get (x:=y) (by omega)
   rw[he,Option.bind_some]
   have hexp:expC σ (-1 - (y:Int))=(σ y).codes:=by
    unfold expC
    rw[if_pos h0,show (-1 - (-1 - (y:Int))).toNat=y from by omega]
   unfold PcO at hpe
   split at hpe
   ·rename_i h1
    rw[h1]
    simp only[Option.isNone_none,Bool.not_true,cond_false]
    exact stay (by rw[hexp,hG.free y hpe]; rfl)
   ·rename_i q h1
    obtain⟨u,hu,hq⟩:=hpe
    rw[h1]
    simp only[Option.isNone_some,Bool.not_false,cond_true,Option.bind_some,inR_nat (show y<48 by omega),he]
    rw[h1,hrf y q e.2 u hmem (by rw[he,← h1]) hu,Option.bind_some]
    rw[List.flatMap_cons,hexp,hG.bound y u hu]
    unfold cutW
    by_cases hsz:(u.sub σ).codes.length≤48
    ·rw[if_pos hsz]
     have w2:IntKind.wrap .i64 (((List.length out:Nat):Int)+(((u.sub σ).codes.length:Nat):Int))=((out.length+(u.sub σ).codes.length:Nat):Int):=by
      rw[wrap64]<;>omega
     simp only[Option.isNone_some,cond_false,Option.getD_some,w2]
     simp only[List.length_append]
     by_cases h48:out.length+(u.sub σ).codes.length≤48
     ·rw[decide_eq_false (show ¬(((out.length+(u.sub σ).codes.length:Nat):Int)>48) by omega),cond_false,room_ok (by omega),cond_true,key _ (by simp; omega)]
      simp only[List.length_append,List.append_assoc]
      rw[Nat.add_assoc]
     ·rw[decide_eq_true (show (((out.length+(u.sub σ).codes.length:Nat):Int)>48) by omega),cond_true,if_neg (by omega)]
    ·rw[if_neg hsz]
     simp only[Option.isNone_none,cond_true,List.length_append]
     rw[if_neg (by omega)]
  ·rw[decide_eq_false h0,cond_false]
   exact stay (by unfold expC; rw[if_neg h0])
theorem whole_run (hT:RepT a0 0 to B) (hG:Good B σ):∀(k m:Nat) (p:List Int) (d:Int) (t:Tm),Pc a0 0 p d t→(∀ y,t.has y→B y≠none→Good.rank σ y<m)→m<k →
  unify_run_whole_R k (some p,d,a0,to)=some (cutW (t.sub σ).codes):=by
 intro k
 induction k with
 | zero=>intro m p d t _ _ h; omega
 | succ k ih =>
  intro m p d t hp hm hk
  obtain⟨u,n,h1,rfl,rfl,h2,rfl,h3⟩:=hp
  have hn:n=0:=by omega
  subst hn
  rw[Tm.up_zero] at hm ⊢
  have hsmall:∀ c∈u.codes,-24≤c:=fun c hc=>by
   by_cases h0:c<0
   ·have:=Tm.ok_has u h1 ((Tm.mem_codes h0 u).1 hc); omega
   ·omega
  show unify_run_whole_S (unify_run_whole_R k) (some u.codes) ((0:Nat):Int) a0 to=_
  unfold unify_run_whole_S
  have hr:=whole_round hT hG u.codes h3 (unify_run_whole_R k) (fun y q d w hy hto hw=>by
   have hyu:u.has y:=by
    have:=(Tm.mem_codes (by omega) u).1 hy
    rwa [show (-1 - (-1 - (y:Int))).toNat=y from by omega] at this
   have hpc:Pc a0 0 q d w:=by
    have:=hT.at_ y _ hto
    obtain⟨t',h5,h6⟩:=(show ∃ t,B y=some t∧Pc a0 0 q d t from this)
    rw[hw] at h5; injection h5 with h5; subst h5
    exact h6
   have hlt:=hm y hyu (by rw[hw]; simp)
   exact ih (Good.rank σ y) q d w hpc (fun z hz hb=>hG.rank_lt hw hz (by
    cases hbz:B z with
    | none=>exact absurd hbz hb
    | some x=>exact (hT.small z x hbz).1)) (by omega)) u.codes 0 fuel [] rfl (by unfold fuel; omega) hsmall (by simp)
  simp only[Option.getD_some]
  have hr:lp (unify_run_whole_L0 (unify_run_whole_R k)) fuel (some u.codes,((u.codes.length:Nat):Int),0,a0,to,some u.codes,((0:Nat):Int),[])=_:=hr
  rw[hr,← Tm.codes_sub]
  unfold cutW
  have hne:nn (u.sub σ).codes=some (u.sub σ).codes:=nn_some fun e=>by
   have:=congrArg List.length e
   rw[Tm.codes_len] at this
   have:=(u.sub σ).size_pos
   simp at *; omega
  by_cases h48:(u.sub σ).codes.length≤48
  ·simp only[List.length_nil,Nat.zero_add,List.nil_append]
   rw[if_pos h48,if_pos h48]
   simp only[Option.bind_some,caseS_inl,hne]
  ·simp only[List.length_nil,Nat.zero_add]
   rw[if_neg h48,if_neg h48]
   rfl
theorem whole_spec (hT:RepT a0 0 to B) (hG:Good B σ) {p:List Int} {d:Int} {t:Tm} (hp:Pc a0 0 p d t):unify_run_whole (some p) d a0 to=some (cutW (t.sub σ).codes):=by
 refine whole_run hT hG fuel 49 p d t hp (fun y _ _ => ?_) (by unfold fuel; omega)
 have:=Good.rank_le σ y
 omega
def isBd (B:Bd) (v:Nat):Bool:=(B v).isSome
def bindsFrom (B:Bd) (σ:Sb) (vs:List Nat):List (Int×List Int):=(vs.filter (isBd B)).map fun v:Nat=>((v:Int),(σ v).codes)
def shortIn (σ:Sb) (vs:List Nat):Bool:=vs.all fun x=>decide ((σ x).size≤48)
theorem unify_round (hT:RepT a0 0 to B) (hG:Good B σ):∀(m v k:Nat) (out:List (Int×List Int)),24 - v=m→v≤24→m<k→out.length≤v →
  lp unify_Unify_L0 k ((v:Int),a0,to,out)=some (cond (shortIn σ ((List.range 24).drop v)) (.inl (out++bindsFrom B σ ((List.range 24).drop v))) (.inr (false,401))):=by
 intro m
 induction m with
 | zero =>
  intro v k out hm hv hk ho
  obtain⟨k,rfl⟩:∃ k',k=k'+1:=⟨k - 1,by omega⟩
  rw[lp_succ]
  generalize lp unify_Unify_L0 k=rec
  unfold unify_Unify_L0
  have:v=24:=by omega
  subst this
  rw[show (List.range 24).drop 24=[] from rfl]
  simp [bindsFrom,shortIn]
 | succ m ih =>
  intro v k out hm hv hk ho
  obtain⟨k,rfl⟩:∃ k',k=k'+1:=⟨k - 1,by omega⟩
  rw[lp_succ]
  have key:=fun out' ho'=>ih (v+1) k out' (by omega) (by omega) (by omega) ho'
  generalize lp unify_Unify_L0 k=rec at key ⊢
  unfold unify_Unify_L0
  have w:IntKind.wrap .i64 ((v:Int)+1)=((v+1:Nat):Int):=by rw[wrap64]<;>omega
  obtain⟨e,he,hpe⟩:=hT.get (x:=v) (by omega)
  have hdr:(List.range 24).drop v=v::(List.range 24).drop (v+1):=by
   rw[List.drop_eq_getElem_cons (by simp; omega)]
   simp
  simp only[decide_eq_true (show (v:Int)<24 by omega),cond_true,inR_nat (show v<48 by omega),Option.bind_some,he,w]
  rw[hdr]
  unfold PcO at hpe
  split at hpe
  ·rename_i h1
   rw[h1]
   simp only[Option.isNone_none,cond_true]
   rw[key out (by omega)]
   have hs:(σ v).size≤48:=by rw[hG.free v hpe]; simp [Tm.size]
   have hb:isBd B v=false:=by simp [isBd,hpe]
   simp [bindsFrom,shortIn,hb,hs]
  ·rename_i q h1
   obtain⟨u,hu,hq⟩:=hpe
   rw[h1]
   simp only[Option.isNone_some,cond_false]
   rw[whole_spec hT hG hq,Option.bind_some,← hG.bound v u hu]
   unfold cutW
   rw[Tm.codes_len]
   by_cases hs:(σ v).size≤48
   ·rw[if_pos hs]
    simp only[Option.isNone_some,cond_false,Option.getD_some]
    rw[slices_CloneN_eq (by rw[Tm.codes_len]; omega),Option.bind_some,room_ok (by simp only[List.length_singleton]; omega),cond_true,key _ (by simp only[List.length_append,List.length_singleton]; omega)]
    have hb:isBd B v=true:=by simp [isBd,hu]
    simp [bindsFrom,shortIn,hb,hs]
   ·rw[if_neg hs]
    simp only[Option.isNone_none,cond_true]
    simp [shortIn,hs]
end
structure Mgu (σ:Sb) (E:List (Tm×Tm)):Prop where
 sol:Sol σ E
 gen:∀ θ,Sol θ E→∀ x,(σ x).sub θ=θ x
 le:∀ x y,σ x = .v y→y≤x
 idem:∀ x,(σ x).sub σ=σ x
theorem Mgu.of {B:Bd} {σ:Sb} {E:List (Tm×Tm)} (hG:Good B σ) (h:∀ θ,SolB θ B↔SolB θ (fun _=>none)∧Sol θ E):Mgu σ E where
 sol:=((h σ).1 hG.bound).2
 gen:=fun θ hθ=>hG.fac ((h θ).2 ⟨fun _ _ h=>(nomatch h),hθ⟩)
 le:=hG.le
 idem:=fun x=>by rw[← hG.fac hG.bound x]; exact hG.idem _
theorem Mgu.unique {σ σ':Sb} {E:List (Tm×Tm)} (h:Mgu σ E) (h':Mgu σ' E):σ=σ':=by
 have f1:∀ x,(σ x).sub σ'=σ' x:=h.gen σ' h'.sol
 have f2:∀ x,(σ' x).sub σ=σ x:=h'.gen σ h.sol
 have root:∀ y,σ y = .v y→σ' y = .v y:=by
  intro y hy
  have h1:(σ' y).sub σ = .v y:=by rw[f2,hy]
  cases hz:σ' y with
  | f c as=>rw[hz] at h1; cases h1
  | v z =>
   rw[hz] at h1
   have h2:=h'.le y z hz
   have h3:=h.le z y h1
   have:z=y:=by omega
   rw[this]
 have fix:∀ t:Tm,t.sub σ=t→∀ y,t.has y→σ y = .v y:=by
  intro t
  have key:∀ n,(∀ t:Tm,t.size≤n→t.sub σ=t→∀ y,t.has y→σ y = .v y)∧∀ ts:List Tm,sizeR ts≤n→subR σ ts=ts→∀ y,hasR y ts→σ y = .v y:=by
   intro n
   induction n with
   | zero =>
    refine ⟨fun t ht=>absurd t.size_pos (by omega),fun ts hts he y hy => ?_⟩
    cases ts with
    | nil=>exact hy.elim
    | cons t ts=>have:=t.size_pos; simp only[sizeR] at hts; omega
   | succ n ih =>
    have h1:∀ t:Tm,t.size≤n+1→t.sub σ=t→∀ y,t.has y→σ y = .v y:=by
     intro t ht he y hy
     cases t with
     | v z =>
      have hy:z=y:=hy
      subst hy
      exact he
     | f c as =>
      have he:Tm.f c (subR σ as)=Tm.f c as:=he
      injection he with _ he
      simp only[Tm.size] at ht
      exact ih.2 as (by omega) he y hy
    refine ⟨h1,fun ts => ?_⟩
    induction ts with
    | nil=>intro _ _ y hy; exact hy.elim
    | cons t ts iht =>
     intro hts he y hy
     have he:t.sub σ::subR σ ts=t::ts:=he
     injection he with he1 he2
     simp only[sizeR] at hts
     have:=t.size_pos
     rcases hy with hy | hy
     ·exact h1 t (by omega) he1 y hy
     ·exact ih.2 ts (by omega) he2 y hy
  exact (key t.size).1 t (Nat.le_refl _)
 funext x
 rw[← f1 x]
 conv=>lhs; rw[← Tm.sub_v (σ x)]
 exact Tm.sub_ext _ fun y hy=>(root y (fix _ (h.idem x) y hy)).symm
def moved (σ:Sb) (v:Nat):Bool:=match σ v with
 | .v y => !(y==v)
 | .f _ _=>true
theorem isBd_eq {B:Bd} {σ:Sb} (h:Good B σ) (v:Nat):isBd B v=moved σ v:=by
 have:=h.moved (x:=v)
 unfold isBd moved
 cases hb:B v with
 | none =>
  rw[h.free v hb]
  simp
 | some t =>
  have h1:=this.1 (by rw[hb]; simp)
  cases hs:σ v with
  | f c as=>rfl
  | v y =>
   rw[hs] at h1
   have:y≠v:=fun e=>h1 (by rw[e])
   simp [this]
def bindsL (σ:Sb):List (Int×List Int):=((List.range 24).filter (moved σ)).map fun v:Nat=>((v:Int),(σ v).codes)
theorem rep0 (a0:List QSym) (N:Nat):RepT a0 N to0 (fun _=>none) where
 len:=by simp [to0]
 at_:=fun x e h=>by
  have hx:x<48:=by
   have:=(List.getElem?_eq_some_iff.1 h).1
   simpa[to0] using this
  rw[to0_get hx] at h
  injection h with h
  rw[← h]
  rfl
 out:=fun _ _=>rfl
theorem unify_spec {a0:List QSym} {xs ys:List Int} {ts us:List Tm} (hs:SignOk a0) (hx:xs=codesR ts) (hy:ys=codesR us) (ht:okR a0 24 ts) (hu:okR a0 24 us) (hb:signB a0=true) (hlx:xs.length≤48) (hly:ys.length≤48) :
  (unify_Unify a0 xs ys=some (false,0,[])∧(ts.length≠us.length∨∀ θ,¬ Sol θ (ts.zip us))) ∨
  (ts.length=us.length∧∃ σ,Mgu σ (ts.zip us)∧(∀ x,x<24→(σ x).ok a0 24)∧unify_Unify a0 xs ys=some (cond (shortIn σ (List.range 24)) (true,0,bindsL σ) (false,401,[]))):=by
 have hr:∀{zs:List Int} {ws:List Tm},zs=codesR ws→okR a0 24 ws→zs.length≤48→rowW a0 zs=some ws.length:=by
  intro zs ws h1 h2 h3
  unfold rowW beginsB
  rw[hb,decide_eq_true h3,h1,cuts_codes ws h2]
  simp
 unfold unify_Unify
 rw[term_Row_eq,hr hx ht hlx,Option.bind_some,term_Row_eq,hr hy hu hly,Option.bind_some]
 simp only
 rw[show ((0:Int) != 0)=false from rfl,cond_false,cond_false]
 by_cases hl:ts.length=us.length
 ·rw[hl,show (((us.length:Nat):Int) != ((us.length:Nat):Int))=false from by simp,cond_false]
  obtain⟨r,h1,h2,h3⟩:=same_spec hs (N:=0) (by omega) (rep0 a0 0) Good.empty (p:=xs) (q:=ys) (d:=0) (e:=0) (ts:=ts) (us:=us)
   ⟨ts,0,ht,hx,rfl,Nat.le_refl _,by rw[show Tm.up 0=id from funext Tm.up_zero,List.map_id],hlx⟩ ⟨us,0,hu,hy,rfl,Nat.le_refl _,by rw[show Tm.up 0=id from funext Tm.up_zero,List.map_id],hly⟩ hl
  have h1:unify_run_same_1 xs 0 ys 0 a0 (List.replicate 48 ((none:Option (List Int)),(0:Int)))=some r:=h1
  rw[h1,Option.bind_some]
  rcases h3 with ⟨h3,h4⟩ | ⟨h3,B',h4,⟨σ,h5⟩,-,h6⟩
  ·rw[h3]
   exact .inl ⟨rfl,.inr fun θ h=>h4 θ (fun _ _ h=>(nomatch h)) h⟩
  ·rw[h3]
   have hok:∀ x,x<24→(σ x).ok a0 24:=by
    refine h5.ind (fun x hx hlt=>by rw[h5.free x hx]; exact hlt) fun x t hx ih _ => ?_
    have hto:Pc a0 0 t.codes 0 t:=by
     obtain⟨e,he,hpe⟩:=h4.get (x:=x) (h4.small x t hx).1
     unfold PcO at hpe
     split at hpe
     ·rw[hx] at hpe; cases hpe
     ·obtain⟨u,hu,hq⟩:=hpe
      rw[hx] at hu; injection hu with hu; subst hu
      obtain⟨u0,n,g1,g2,g3,g4,g5,g6⟩:=hq
      have:n=0:=by omega
      subst this
      rw[Tm.up_zero] at g5
      subst g5
      exact ⟨t,0,g1,rfl,rfl,Nat.le_refl _,(Tm.up_zero t).symm,by rw[← g2]; exact g6⟩
    obtain⟨u0,n,g1,g2,g3,g4,g5,g6⟩:=hto
    have:n=0:=by omega
    subst this
    rw[Tm.up_zero] at g5
    subst g5
    rw[h5.bound x t hx]
    exact Tm.ok_sub t g1 fun y hy=>ih y hy (Tm.ok_has t g1 hy)
   refine .inr ⟨rfl,σ,Mgu.of h5 h6,hok,?_⟩
   simp only[Bool.not_true,cond_false]
   have:=unify_round (a0:=r.2.1) (by rw[h2]; exact h4) h5 24 0 fuel [] rfl (by omega) (by unfold fuel; omega) (by simp)
   rw[show ((0:Nat):Int)=0 from rfl] at this
   rw[this,List.drop_zero]
   have he:bindsFrom B' σ (List.range 24)=bindsL σ:=by
    unfold bindsFrom bindsL
    rw[show isBd B'=moved σ from funext (isBd_eq h5)]
   cases shortIn σ (List.range 24) with
   | true=>simp only[cond_true,Option.bind_some,caseS_inl,List.nil_append,he]
   | false=>rfl
 ·rw[show (((ts.length:Nat):Int) != ((us.length:Nat):Int))=true from by simp; omega,cond_true]
  exact .inl ⟨rfl,.inl hl⟩
end
end Go.Abs.Q
namespace Go.Abs.Q
open Go Go.Abs
section
theorem wrap64u {n:Int} (h1:0≤n) (h2:n≤9223372036854775807):IntKind.wrap .u64 n=n:=by
 simp [IntKind.wrap,IntKind.signed,IntKind.bits]
 omega
theorem mid_eq {l h:Nat} (hl:l+h≤1000000000):IntKind.wrap .i64 (Int.fdiv (IntKind.wrap .u64 (IntKind.wrap .i64 ((l:Int)+(h:Int)))) (2 ^ min (Int.toNat 1) (IntKind.bits .u64)))=(((l+h) / 2:Nat):Int):=by
 rw[wrap64 (n:=(l:Int)+(h:Int)) (by omega) (by omega),wrap64u (by omega) (by omega)]
 have:(2:Int) ^ min (Int.toNat 1) (IntKind.bits .u64)=2:=by decide
 rw[this,Int.fdiv_eq_ediv_of_nonneg _ (by omega)]
 rw[wrap64]<;>omega
theorem cmp_Less_eq (a b:Int):cmp_Less a b=some (decide (a<b)):=by
 unfold cmp_Less cmp_isNaN
 simp
abbrev Rise (xs:List Int):Prop:=xs.Pairwise (· < ·)
theorem Rise.lt {xs:List Int} (h:Rise xs) {i j:Nat} {x y:Int} (hi:xs[i]? = some x) (hj:xs[j]? = some y) (hij:i<j):x<y:=by
 obtain⟨h1,rfl⟩:=List.getElem?_eq_some_iff.1 hi
 obtain⟨h2,rfl⟩:=List.getElem?_eq_some_iff.1 hj
 exact List.pairwise_iff_getElem.1 h i j h1 h2 hij
theorem bs_round {xs:List Int} (h:Rise xs) (hl:xs.length≤1000000) (t:Int) (z:Int):∀(m l r k:Nat),r - l=m→l≤r→r≤xs.length→m<k→(∀(i:Nat) x,xs[i]? = some x→i<l→x<t)→(∀(i:Nat) x,xs[i]? = some x→r≤i→t≤x) →
  ∃ q:Nat,lp slices_BinarySearch_L0 k (xs,t,z,(l:Int),(r:Int))=some (q:Int)∧q≤xs.length∧(∀(i:Nat) x,xs[i]? = some x→i<q→x<t)∧∀(i:Nat) x,xs[i]? = some x→q≤i→t≤x:=by
 intro m
 induction m using Nat.strongRecOn with
 | _ m ih =>
  intro l r k hm hlr hr hk h1 h2
  obtain⟨k,rfl⟩:∃ k',k=k'+1:=⟨k - 1,by omega⟩
  rw[lp_succ]
  have key:=fun l r (h3:r - l<m) h4 h5 h6 h7=>ih (r - l) h3 l r k rfl h4 h5 (by omega) h6 h7
  generalize lp slices_BinarySearch_L0 k=rec at key ⊢
  unfold slices_BinarySearch_L0
  by_cases hlt:l<r
  ·have hml:(l+r) / 2<xs.length:=by omega
   simp only[decide_eq_true (show (l:Int)<(r:Int) by omega),cond_true,mid_eq (show l+r≤1000000000 by omega),gx_nat,List.getElem?_eq_getElem hml,Option.bind_some,cmp_Less_eq]
   have hget:=List.getElem?_eq_getElem hml
   have w:IntKind.wrap .i64 ((((l+r) / 2:Nat):Int)+1)=(((l+r) / 2+1:Nat):Int):=by rw[wrap64]<;>omega
   by_cases hc:xs[(l+r) / 2]<t
   ·rw[decide_eq_true hc,cond_true,w]
    refine key ((l+r) / 2+1) r (by omega) (by omega) hr (fun i x hi hil => ?_) h2
    rcases Nat.lt_or_ge i ((l+r) / 2) with hi2 | hi2
    ·have:=h.lt hi hget hi2; omega
    ·have:i=(l+r) / 2:=by omega
     subst this
     rw[hget] at hi; injection hi with hi; omega
   ·rw[decide_eq_false hc,cond_false]
    refine key l ((l+r) / 2) (by omega) (by omega) (by omega) h1 (fun i x hi hil => ?_)
    rcases Nat.lt_or_ge ((l+r) / 2) i with hi2 | hi2
    ·have:=h.lt hget hi hi2; omega
    ·have:i=(l+r) / 2:=by omega
     subst this
     rw[hget] at hi; injection hi with hi; omega
  ·rw[decide_eq_false (show ¬((l:Int)<(r:Int)) by omega),cond_false]
   have:l=r:=by omega
   subst this
   exact ⟨l,rfl,hr,h1,h2⟩
theorem bs_spec {xs:List Int} (h:Rise xs) (hl:xs.length≤1000000) (t:Int):∃(q:Nat) (b:Bool),slices_BinarySearch xs t=some ((q:Int),b)∧q≤xs.length∧(∀(i:Nat) x,xs[i]? = some x→i<q→x<t)∧(∀(i:Nat) x,xs[i]? = some x→q≤i→t≤x)∧(b=true↔t∈xs):=by
 obtain⟨q,h1,h2,h3,h4⟩:=bs_round h hl t ((xs.length:Nat):Int) xs.length 0 xs.length fuel rfl (Nat.zero_le _) (Nat.le_refl _) (by unfold fuel; omega) (fun i x _ h=>by omega) (fun i x hi h=>by
  have:=(List.getElem?_eq_some_iff.1 hi).1; omega)
 have h1:lp slices_BinarySearch_L0 fuel (xs,t,((xs.length:Nat):Int),0,((xs.length:Nat):Int))=some (q:Int):=h1
 unfold slices_BinarySearch
 rw[h1,Option.bind_some]
 by_cases hq:q<xs.length
 ·rw[decide_eq_true (show ((q:Int)<((xs.length:Nat):Int)) by omega),cond_true,gx_nat,List.getElem?_eq_getElem hq,Option.bind_some]
  have hget:=List.getElem?_eq_getElem hq
  by_cases he:xs[q]=t
  ·rw[show (xs[q]==t)=true from by simp [he],cond_true]
   exact ⟨q,true,rfl,h2,h3,h4,by simp only[true_iff]; rw[← he]; exact List.getElem_mem hq⟩
  ·rw[show (xs[q]==t)=false from by simp [he],cond_false,Option.bind_some]
   have hn:slices_isNaN xs[q]=some false:=by unfold slices_isNaN; simp
   rw[hn,Option.bind_some,cond_false]
   refine ⟨q,false,rfl,h2,h3,h4,?_⟩
   constructor
   ·intro h; cases h
   ·intro hm
    exfalso
    obtain⟨i,hi⟩:=List.mem_iff_getElem?.1 hm
    rcases Nat.lt_trichotomy i q with h5 | h5 | h5
    ·have:=h3 i t hi h5; omega
    ·subst h5; rw[hget] at hi; injection hi with hi; exact he hi
    ·have:=h.lt hget hi h5
     have:=h4 q _ hget (Nat.le_refl _)
     omega
 ·rw[decide_eq_false (show ¬((q:Int)<((xs.length:Nat):Int)) by omega),cond_false]
  refine ⟨q,false,rfl,h2,h3,h4,?_⟩
  constructor
  ·intro h; cases h
  ·intro hm
   exfalso
   obtain⟨i,hi⟩:=List.mem_iff_getElem?.1 hm
   have:=h3 i t hi (by have:=(List.getElem?_eq_some_iff.1 hi).1; omega)
   omega
theorem insert_rise {xs:List Int} (h:Rise xs) {q:Nat} {t:Int} (_hq:q≤xs.length) (h1:∀(i:Nat) x,xs[i]? = some x→i<q→x<t) (h2:∀(i:Nat) x,xs[i]? = some x→q≤i→t≤x) (h3:t∉xs):Rise (insAt xs q [t]):=by
 unfold insAt Rise
 have ht:∀ x∈xs.take q,x<t:=fun x hx=>by
  obtain⟨i,hi⟩:=List.mem_iff_getElem?.1 hx
  rw[List.getElem?_take] at hi
  split at hi
  ·exact h1 i x hi (by assumption)
  ·cases hi
 have hd:∀ x∈xs.drop q,t<x:=fun x hx=>by
  obtain⟨i,hi⟩:=List.mem_iff_getElem?.1 hx
  rw[List.getElem?_drop] at hi
  have h4:=h2 _ x hi (by omega)
  have:x≠t:=fun e=>h3 (e▸List.mem_of_getElem? hi)
  omega
 rw[List.pairwise_append]
 refine ⟨h.sublist (List.take_sublist ..),?_,fun x hx y hy => ?_⟩
 ·rw[List.singleton_append,List.pairwise_cons]
  exact ⟨hd,h.sublist (List.drop_sublist ..)⟩
 ·have h5:=ht x hx
  rcases List.mem_append.1 hy with hy | hy
  ·rw[List.mem_singleton.1 hy]; exact h5
  ·have:=hd y hy; omega
theorem mem_insAt {xs:List Int} {q:Nat} {t x:Int}:x∈insAt xs q [t]↔x∈xs∨x=t:=by
 unfold insAt
 simp only[List.mem_append,List.mem_singleton]
 constructor
 ·rintro (h | h | h)
  ·exact .inl (List.mem_of_mem_take h)
  ·exact .inr h
  ·exact .inl (List.mem_of_mem_drop h)
 ·rintro (h | h)
  ·rw[← List.take_append_drop q xs] at h
   rcases List.mem_append.1 h with h | h
   ·exact .inl h
   ·exact .inr (.inr h)
  ·exact .inr (.inl h)
def VarC (r:List Int) (x:Int):Prop:=∃ c∈r,c<0∧x = -1 - c
theorem seen_go:(es vs:List Int)→Rise vs→vs.length+es.length≤1000000→(∀ c∈es,-1000000≤c∧c≤1000000)→∃ ws,term_Seen_1_L0_go es vs=some ws∧Rise ws∧(∀ x,x∈ws↔x∈vs∨VarC es x)∧ws.length≤vs.length+es.length
 | [],vs,h,_,_=>⟨vs,rfl,h,fun x=>⟨.inl,fun h=>h.elim (fun h=>h) fun ⟨c,hc,_⟩=>(nomatch hc)⟩,Nat.le_refl _⟩
 | e::es,vs,h,hl,hc=>by
  rw[List.length_cons] at hl
  have he:=hc e (List.mem_cons_self ..)
  have hc':∀ c∈es,-1000000≤c∧c≤1000000:=fun c h=>hc c (List.mem_cons_of_mem _ h)
  unfold term_Seen_1_L0_go
  by_cases h0:e≥0
  ·rw[decide_eq_true h0,cond_true]
   obtain⟨ws,h1,h2,h3,h4⟩:=seen_go es vs h (by omega) hc'
   refine ⟨ws,h1,h2,fun x=>(h3 x).trans ?_,by rw[List.length_cons]; omega⟩
   constructor
   ·rintro (h5 | ⟨c,h5,h6⟩)
    ·exact .inl h5
    ·exact .inr ⟨c,List.mem_cons_of_mem _ h5,h6⟩
   ·rintro (h5 | ⟨c,h5,h6,h7⟩)
    ·exact .inl h5
    ·rcases List.mem_cons.1 h5 with rfl | h5
     ·omega
     ·exact .inr ⟨c,h5,h6,h7⟩
  ·rw[decide_eq_false h0,cond_false,term_Number_eq (by omega) (by omega),Option.bind_some]
   obtain⟨q,b,h1,h2,h3,h4,h5⟩:=bs_spec h (by omega) (-1 - e)
   rw[h1,Option.bind_some]
   have fin:∀{vs':List Int},(∀ x,x∈vs'↔x∈vs∨x = -1 - e)→∀ x,(x∈vs'∨VarC es x)↔(x∈vs∨VarC (e::es) x):=by
    intro vs' hv x
    rw[hv x]
    constructor
    ·rintro ((h6 | h6) | ⟨c,h6,h7⟩)
     ·exact .inl h6
     ·exact .inr ⟨e,List.mem_cons_self ..,by omega,h6⟩
     ·exact .inr ⟨c,List.mem_cons_of_mem _ h6,h7⟩
    ·rintro (h6 | ⟨c,h6,h7,h8⟩)
     ·exact .inl (.inl h6)
     ·rcases List.mem_cons.1 h6 with rfl | h6
      ·exact .inl (.inr h8)
      ·exact .inr ⟨c,h6,h7,h8⟩
   cases b with
   | true =>
    simp only[Bool.not_true,cond_false]
    obtain⟨ws,h6,h7,h8,h9⟩:=seen_go es vs h (by omega) hc'
    refine ⟨ws,h6,h7,fun x=>(h8 x).trans (fin (fun x=>⟨.inl,fun h=>h.elim (fun h=>h) fun h => ?_⟩) x),by rw[List.length_cons]; omega⟩
    rw[h]
    exact h5.1 rfl
   | false =>
    simp only[Bool.not_false,cond_true,Option.bind_some]
    have hn : -1 - e∉vs:=fun h=>by have:=h5.2 h; cases this
    have hi:slices_Insert (q:Int) vs [-1 - e]=some (insAt vs q [-1 - e]):=by
     unfold slices_Insert insF
     rw[room_ok (by simp; omega)]
     have e1:nneg (q:Int)=true:=by simp [nneg]
     have e2:decide ((q:Int)≤(List.length vs:Int))=true:=by simp; omega
     have e3:posI ((List.length [-1 - e]:Nat):Int)=true:=by simp [posI]
     rw[e1,e2,e3,Int.toNat_natCast]
     rfl
    rw[hi,Option.bind_some]
    have hlen:(insAt vs q [-1 - e]).length=vs.length+1:=insAt_length vs _ h2
    obtain⟨ws,h6,h7,h8,h9⟩:=seen_go es (insAt vs q [-1 - e]) (insert_rise h h2 h3 h4 hn) (by omega) hc'
    exact ⟨ws,h6,h7,fun x=>(h8 x).trans (fin (fun x=>mem_insAt) x),by rw[List.length_cons]; omega⟩
theorem seen_spec {r vs:List Int} (h:Rise vs) (hl:vs.length+r.length≤1000000) (hc:∀ c∈r,-1000000≤c∧c≤1000000):∃ ws,term_Seen_1 r vs=some ws∧Rise ws∧(∀ x,x∈ws↔x∈vs∨VarC r x)∧ws.length≤vs.length+r.length:=by
 obtain⟨ws,h1,h2⟩:=seen_go r vs h hl hc
 refine ⟨ws,?_,h2⟩
 unfold term_Seen_1
 rw[term_Seen_1_L0_go_at0 _ _ (by unfold maxLen; omega),h1]
 rfl
def VarR (rs:List (List Int)) (x:Int):Prop:=∃ r∈rs,VarC r x
theorem VarR_cons {r:List Int} {rs:List (List Int)} {x:Int}:VarR (r::rs) x↔VarC r x∨VarR rs x:=by simp [VarR]
theorem VarR_append {rs ss:List (List Int)} {x:Int}:VarR (rs++ss) x↔VarR rs x∨VarR ss x:=by
 simp only[VarR,List.mem_append]
 constructor
 ·rintro⟨r,h | h,h2⟩
  ·exact .inl ⟨r,h,h2⟩
  ·exact .inr ⟨r,h,h2⟩
 ·rintro (⟨r,h,h2⟩ | ⟨r,h,h2⟩)
  ·exact ⟨r,.inl h,h2⟩
  ·exact ⟨r,.inr h,h2⟩
theorem sumLen_cons (r:List Int) (rs:List (List Int)):sumLen (r::rs)=r.length+sumLen rs:=by simp [sumLen]
theorem sumLen_append (rs ss:List (List Int)):sumLen (rs++ss)=sumLen rs+sumLen ss:=by simp [sumLen]
theorem vars_L0:(es:List QLit)→(vs:List Int)→Rise vs→vs.length+sumLen (es.map (·.2))≤1000000→(∀ l∈es,NearR l.2) →
  ∃ ws,clause_Vars_L0_go es vs=some ws∧Rise ws∧(∀ x,x∈ws↔x∈vs∨VarR (es.map (·.2)) x)∧ws.length≤vs.length+sumLen (es.map (·.2))
 | [],vs,h,_,_=>⟨vs,rfl,h,fun x=>⟨.inl,fun h=>h.elim (fun h=>h) fun ⟨c,hc,_⟩=>(nomatch hc)⟩,by simp [sumLen]⟩
 | e::es,vs,h,hl,hn=>by
  rw[List.map_cons,sumLen_cons] at hl
  unfold clause_Vars_L0_go
  obtain⟨ws,h1,h2,h3,h4⟩:=seen_spec h (r:=e.2) (by omega) (hn e (List.mem_cons_self ..)).2
  rw[h1,Option.bind_some]
  obtain⟨xs,h5,h6,h7,h8⟩:=vars_L0 es ws h2 (by omega) fun l hl=>hn l (List.mem_cons_of_mem _ hl)
  refine ⟨xs,h5,h6,fun x => ?_,by rw[List.map_cons,sumLen_cons]; omega⟩
  rw[h7 x,h3 x,List.map_cons,VarR_cons,or_assoc]
theorem vars_L1:(es:List (List Int))→(vs:List Int)→Rise vs→vs.length+sumLen es≤1000000→(∀ l∈es,NearR l) →
  ∃ ws,clause_Vars_L1_go es vs=some ws∧Rise ws∧(∀ x,x∈ws↔x∈vs∨VarR es x)∧ws.length≤vs.length+sumLen es
 | [],vs,h,_,_=>⟨vs,rfl,h,fun x=>⟨.inl,fun h=>h.elim (fun h=>h) fun ⟨c,hc,_⟩=>(nomatch hc)⟩,by simp [sumLen]⟩
 | e::es,vs,h,hl,hn=>by
  rw[sumLen_cons] at hl
  unfold clause_Vars_L1_go
  obtain⟨ws,h1,h2,h3,h4⟩:=seen_spec h (r:=e) (by omega) (hn e (List.mem_cons_self ..)).2
  rw[h1,Option.bind_some]
  obtain⟨xs,h5,h6,h7,h8⟩:=vars_L1 es ws h2 (by omega) fun l hl=>hn l (List.mem_cons_of_mem _ hl)
  refine ⟨xs,h5,h6,fun x => ?_,by rw[sumLen_cons]; omega⟩
  rw[h7 x,h3 x,VarR_cons,or_assoc]
def rowsOf (L:List QLit) (T:List (List Int)) (C:List QLit):List (List Int):=L.map (·.2)++C.map (·.2)++T
theorem clause_Vars_spec {a0:List QSym} (hs:SignOk a0) {L:List QLit} {T:List (List Int)} {C:List QLit} (h:mayB a0 L T C=true):∃ ws,clause_Vars a0 L T C=some (0,ws)∧Rise ws∧∀ x,x∈ws↔VarR (rowsOf L T C) x:=by
 obtain⟨-,h1,h2,h3,h4,h5,h6,h7⟩:=mayB_spec h
 have n1:=litsB_near hs h4
 have n2:=rowsB_near hs h5
 have n3:=litsB_near hs h6
 unfold clause_Vars
 rw[clause_May_eq,Option.bind_some,h]
 simp only[Bool.not_true,cond_false]
 rw[slices_Concat2L_eq (by omega),Option.bind_some,clause_Vars_L0_go_at0 _ _ _ _ _ (by unfold maxLen; simp; omega)]
 obtain⟨ws,h8,h9,h10,h11⟩:=vars_L0 (L++C) [] List.Pairwise.nil (by rw[List.map_append,sumLen_append]; simp; omega) (fun l hl=>(List.mem_append.1 hl).elim (n1 l) (n3 l))
 rw[h8,Option.bind_some,clause_Vars_L1_go_at0 _ _ (by unfold maxLen; omega)]
 rw[List.map_append,sumLen_append] at h11
 obtain⟨xs,h12,h13,h14,-⟩:=vars_L1 T ws h9 (by simp at h11; omega) n2
 rw[h12]
 refine ⟨xs,rfl,h13,fun x => ?_⟩
 rw[h14 x,h10 x,List.map_append]
 unfold rowsOf
 rw[VarR_append,VarR_append,VarR_append]
 simp
def upC (by_:Int) (c:Int):Int:=cond (decide (c<0)) (c - by_) c
def upLs (b:Int) (ls:List QLit):List QLit:=ls.map fun l=>(l.1,l.2.map (upC b))
theorem shift_round (b:Int) (hb:0≤b∧b≤1000):(es done:List Int)→(k:Nat)→es.length<k→done.length+es.length≤1000000→(∀ c∈es,-1000000≤c∧c≤1000000) →
  lp clause_Shift_c1_L0 k (((done.length+es.length:Nat):Int),(done.length:Int),b,done++es)=some (done++es.map (upC b))
 | [],done,k,hk,hl,hc=>by
  obtain⟨k,rfl⟩:∃ k',k=k'+1:=⟨k - 1,by omega⟩
  rw[lp_succ]
  generalize lp clause_Shift_c1_L0 k=rec
  unfold clause_Shift_c1_L0
  simp
 | e::es,done,k,hk,hl,hc=>by
  obtain⟨k,rfl⟩:∃ k',k=k'+1:=⟨k - 1,by omega⟩
  rw[lp_succ]
  have he:=hc e (List.mem_cons_self ..)
  have hl':done.length+(es.length+1)≤1000000:=hl
  have key:=fun e'=>shift_round b hb es (done++[e']) k (Nat.lt_of_succ_lt_succ hk) (by simp; omega) (fun c hx=>hc c (List.mem_cons_of_mem _ hx))
  generalize lp clause_Shift_c1_L0 k=rec at key ⊢
  unfold clause_Shift_c1_L0
  have e1:decide (((done.length:Nat):Int)<((done.length+(e::es).length:Nat):Int))=true:=by rw[decide_eq_true_eq,List.length_cons]; omega
  have e2:inR ((done.length:Nat):Int) (List.length (done++e::es))=some done.length:=inR_nat (by simp)
  have e3:IntKind.wrap .i64 (((done.length:Nat):Int)+1)=((done.length+1:Nat):Int):=by rw[wrap64]<;>omega
  have key2:=fun e'=>by
   have:=key e'
   rw[List.append_assoc,List.length_append,List.length_singleton,Nat.add_assoc,Nat.add_comm 1 es.length] at this
   exact this
  simp only[e1,cond_true,e2,Option.bind_some,get_mid,e3]
  by_cases h0:e<0
  ·have hu:upC b e=e - b:=by unfold upC; rw[decide_eq_true h0]; rfl
   have w:IntKind.wrap .i64 (e - b)=e - b:=by rw[wrap64]<;>omega
   rw[decide_eq_true h0,cond_true,w]
   have hset:(done++e::es).set done.length (e - b)=done++(e - b)::es:=by
    rw[List.set_append_right _ _ (Nat.le_refl _),Nat.sub_self]; rfl
   rw[hset,List.map_cons,hu]
   have:=key2 (e - b)
   exact this.trans (by simp)
  ·have hu:upC b e=e:=by unfold upC; rw[decide_eq_false h0]; rfl
   rw[decide_eq_false h0,cond_false,List.map_cons,hu]
   have:=key2 e
   exact this.trans (by simp)
theorem shift_eq {b:Int} (hb:0≤b∧b≤1000) {r:List Int} (hn:NearR r):clause_Shift_c1 r b=some (r.map (upC b)):=by
 unfold clause_Shift_c1
 rw[slices_CloneN_eq (by have:=hn.1; omega),Option.bind_some]
 have:=shift_round b hb r [] fuel (by have:=hn.1; unfold fuel; omega) (by have:=hn.1; simp; omega) hn.2
 simp only[List.length_nil,Nat.zero_add,List.nil_append] at this
 have h0:((0:Nat):Int)=0:=rfl
 rw[h0] at this
 rw[this]
 rfl
theorem eachUp_L0 {b:Int} (hb:0≤b∧b≤1000):(es out:List QLit)→(∀ l∈es,NearR l.2)→out.length+es.length≤1000000→clause_each_2_L0_go b es out=some (out++upLs b es)
 | [],out,_,_=>by simp [clause_each_2_L0_go,upLs]
 | e::es,out,hn,hl=>by
  rw[List.length_cons] at hl
  unfold clause_each_2_L0_go
  rw[shift_eq hb (hn e (List.mem_cons_self ..)),Option.bind_some,room_ok (show (out.length+([(e.1,e.2.map (upC b))]:List QLit).length)*32≤140737488351232 by simp; omega),cond_true,
   eachUp_L0 hb es _ (fun l hl=>hn l (List.mem_cons_of_mem _ hl)) (by simp; omega)]
  simp [upLs]
theorem eachUp_L1 {b:Int} (hb:0≤b∧b≤1000) (s7:List QLit):(es out:List (List Int))→(∀ l∈es,NearR l)→out.length+es.length≤1000000→clause_each_2_L1_go b s7 es out=some (s7,out++es.map (List.map (upC b)))
 | [],out,_,_=>by simp [clause_each_2_L1_go]
 | e::es,out,hn,hl=>by
  rw[List.length_cons] at hl
  unfold clause_each_2_L1_go
  rw[shift_eq hb (hn e (List.mem_cons_self ..)),Option.bind_some,room_ok (show (out.length+([e.map (upC b)]:List (List Int)).length)*24≤140737488351232 by simp; omega),cond_true,
   eachUp_L1 hb s7 es _ (fun l hl=>hn l (List.mem_cons_of_mem _ hl)) (by simp; omega)]
  simp
theorem eachUp_L2 {b:Int} (hb:0≤b∧b≤1000) (s4:List QLit) (s5:List (List Int)):(es out:List QLit)→(∀ l∈es,NearR l.2)→out.length+es.length≤1000000→clause_each_2_L2_go b s4 s5 es out=some (s4,s5,out++upLs b es)
 | [],out,_,_=>by simp [clause_each_2_L2_go,upLs]
 | e::es,out,hn,hl=>by
  rw[List.length_cons] at hl
  unfold clause_each_2_L2_go
  rw[shift_eq hb (hn e (List.mem_cons_self ..)),Option.bind_some,room_ok (show (out.length+([(e.1,e.2.map (upC b))]:List QLit).length)*32≤140737488351232 by simp; omega),cond_true,
   eachUp_L2 hb s4 s5 es _ (fun l hl=>hn l (List.mem_cons_of_mem _ hl)) (by simp; omega)]
  simp [upLs]
theorem clause_Shift_eq {b:Int} (hb:0≤b∧b≤1000) {L:List QLit} {T:List (List Int)} {C:List QLit} (hL:∀ l∈L,NearR l.2) (hT:∀ l∈T,NearR l) (hC:∀ l∈C,NearR l.2) (h1:L.length≤1000) (h2:T.length≤1000) (h3:C.length≤1000) :
  clause_Shift L T C b=some (upLs b L,T.map (List.map (upC b)),upLs b C):=by
 unfold clause_Shift clause_each_2
 rw[clause_each_2_L0_go_at0 _ _ _ _ _ _ (by unfold maxLen; omega),eachUp_L0 hb L [] hL (by simp; omega),Option.bind_some,
  clause_each_2_L1_go_at0 _ _ _ _ _ _ _ (by unfold maxLen; omega),eachUp_L1 hb _ T [] hT (by simp; omega),Option.bind_some,
  clause_each_2_L2_go_at0 _ _ _ _ _ (by unfold maxLen; omega),eachUp_L2 hb _ _ C [] hC (by simp; omega),Option.bind_some]
 simp
def TopV (rs:List (List Int)) (m:Int):Prop:=(∀ x,VarR rs x→x<m)∧(m=0∨VarR rs (m - 1))
theorem top_of {ws:List Int} {rs:List (List Int)} (h:Rise ws) (hm:∀ x,x∈ws↔VarR rs x):(ws=[]∧TopV rs 0)∨∃ x,ws[ws.length - 1]? = some x∧0<ws.length∧TopV rs (x+1):=by
 cases hw:ws with
 | nil=>exact .inl ⟨rfl,⟨fun x hx=>(by have:=(hm x).2 hx; rw[hw] at this; cases this),.inl rfl⟩⟩
 | cons w ws' =>
  rw[← hw]
  have hl:0<ws.length:=by rw[hw]; simp
  refine .inr ⟨ws[ws.length - 1],List.getElem?_eq_getElem (by omega),hl,⟨fun x hx => ?_,.inr ?_⟩⟩
  ·obtain⟨i,hi⟩:=List.mem_iff_getElem?.1 ((hm x).2 hx)
   have hil:=(List.getElem?_eq_some_iff.1 hi).1
   rcases Nat.lt_or_ge i (ws.length - 1) with h1 | h1
   ·have:=h.lt hi (List.getElem?_eq_getElem (show ws.length - 1<ws.length by omega)) h1; omega
   ·have:i=ws.length - 1:=by omega
    subst this
    rw[List.getElem?_eq_getElem (by omega)] at hi
    injection hi with hi; omega
  ·rw[show ws[ws.length - 1]+1 - 1=ws[ws.length - 1] from by omega]
   exact (hm _).1 (List.getElem_mem _)
end
end Go.Abs.Q
namespace Go.Abs.Q
open Go Go.Abs
section
def subCs (s:Sb) (r:List Int):List Int:=r.flatMap (expC s)
theorem look_binds (σ:Sb) (v:Nat):(vs:List Nat)→lookB ((vs.filter (moved σ)).map fun v:Nat=>((v:Int),(σ v).codes)) (v:Int)=if v∈vs∧moved σ v=true then some (σ v).codes else none
 | []=>by simp [lookB]
 | w::vs=>by
  have ih:=look_binds σ v vs
  cases hm:moved σ w with
  | false =>
   rw[List.filter_cons_of_neg (by simp [hm]),ih]
   by_cases hv:v=w
   ·subst hv
    simp [hm]
   ·simp [hv]
  | true =>
   rw[List.filter_cons_of_pos hm,List.map_cons]
   unfold lookB at ih ⊢
   rw[List.find?_cons]
   by_cases hv:v=w
   ·subst hv
    simp [hm]
   ·rw[show (((w:Nat):Int)==(v:Int))=false from by simp; omega,ih]
    simp [hv]
theorem onB_sub {σ:Sb} {r:List Int} (h:∀ c∈r,-24≤c):onB (bindsL σ) r=subCs σ r:=by
 unfold onB subCs
 induction r with
 | nil=>rfl
 | cons c r ih =>
  rw[List.flatMap_cons,List.flatMap_cons,ih fun c hc=>h c (List.mem_cons_of_mem _ hc)]
  congr 1
  have hc:=h c (List.mem_cons_self ..)
  unfold onC expC
  by_cases h0:c≥0
  ·rw[decide_eq_true h0,cond_true,if_neg (by omega)]
  ·rw[decide_eq_false h0,cond_false,if_pos (by omega)]
   obtain⟨k,hk,rfl⟩:∃ k:Nat,k<24∧c = -1 - (k:Int):=⟨(-1 - c).toNat,by omega,by omega⟩
   have e1:(-1:Int) - (-1 - (k:Int))=(k:Int):=by omega
   rw[e1,Int.toNat_natCast]
   unfold bindsL
   rw[look_binds σ k]
   cases hm:moved σ k with
   | true=>simp [hk]
   | false =>
    have:σ k = .v k:=by
     unfold moved at hm
     split at hm
     ·rename_i y hy
      have:y=k:=by simpa using hm
      rw[hy,this]
     ·cases hm
    rw[this]
    simp [Tm.codes]
theorem binds_ok {σ:Sb} (h:shortIn σ (List.range 24)=true):BindsOk (bindsL σ) where
 len:=by
  unfold bindsL
  rw[List.length_map]
  have:=List.length_filter_le (moved σ) (List.range 24)
  simp at this
  omega
 all:=fun b hb=>by
  unfold bindsL at hb
  obtain⟨v,hv,rfl⟩:=List.mem_map.1 hb
  have hv:=(List.mem_filter.1 hv).1
  have h1:=List.all_eq_true.1 h v hv
  have h2:=(σ v).size_pos
  have h3:=(σ v).codes_len
  have h4:(σ v).size≤48:=of_decide_eq_true h1
  refine ⟨fun e => ?_,?_⟩
  ·have:=congrArg List.length e
   simp only[List.length_nil] at this
   omega
  ·show (σ v).codes.length≤1000
   omega
def subLs (s:Sb) (ls:List QLit):List QLit:=ls.map fun l=>(l.1,subCs s l.2)
theorem onLs_sub {σ:Sb} {ls:List QLit} (h:∀ l∈ls,∀ c∈l.2,-24≤c):onLs (bindsL σ) ls=subLs σ ls:=by
 unfold onLs subLs
 exact List.map_congr_left fun l hl=>by rw[onB_sub (h l hl)]
theorem onRs_sub {σ:Sb} {rs:List (List Int)} (h:∀ r∈rs,∀ c∈r,-24≤c):onRs (bindsL σ) rs=rs.map (subCs σ):=by
 unfold onRs
 exact List.map_congr_left fun r hr=>onB_sub (h r hr)
theorem atom_tree {a0:List QSym} {xs:List Int} (h:atomB a0 xs=true):∃(c:Nat) (ts:List Tm) (e:QSym),xs=(c:Int)::codesR ts∧okR a0 24 ts∧a0[c]? = some e∧e.2.1=0∧((ts.length:Nat):Int)=e.2.2.1∧(codesR ts).length≤48∧signB a0=true:=by
 obtain⟨x,r,e,ps,rfl,h0,h1,-,h2,h3,h4,h5,h6⟩:=atomB_spec h
 obtain⟨ts,h7,h8,h9⟩:=row_of h5
 refine ⟨x.toNat,ts,e,by rw[← h9,Int.toNat_of_nonneg h0],h7,h1,h2,?_,by rw[← h9]; exact h4,h3⟩
 rw[← h6,h8,List.length_map]
theorem atomT_mk {a0:List QSym} {c:Nat} {ts:List Tm} {e:QSym} (h1:okR a0 24 ts) (h2:a0[c]? = some e) (h3:e.2.1=0) (h4:((ts.length:Nat):Int)=e.2.2.1) (h5:(codesR ts).length≤48) (h6:signB a0=true):atomB a0 ((c:Int)::codesR ts)=true:=by
 unfold atomB
 simp only[Int.toNat_natCast,h2]
 unfold beginsB
 rw[h6,decide_eq_true h5]
 simp [h3,cuts_codes ts h1,h4]
theorem up_codes (b:Nat):(ts:List Tm)→(codesR ts).map (upC (b:Int))=codesR (ts.map (Tm.up b)):=by
 intro ts
 have h:=codesR_sub (fun n=>Tm.v (n+b)) ts
 have e:ts.map (Tm.up b)=subR (fun n=>Tm.v (n+b)) ts:=by rw[subR_eq]; rfl
 rw[e,h]
 generalize codesR ts=r
 induction r with
 | nil=>rfl
 | cons c r ih =>
  rw[List.map_cons,List.flatMap_cons,ih]
  congr 1
  unfold upC expC
  by_cases h0:c<0
  ·rw[decide_eq_true h0,cond_true,if_pos h0]
   show [c - (b:Int)]++_=[-1 - (((-1 - c).toNat+b:Nat):Int)]++_
   rw[show -1 - (((-1 - c).toNat+b:Nat):Int)=c - (b:Int) from by omega]
   rfl
  ·rw[decide_eq_false h0,cond_false,if_neg h0]
   rfl
theorem VarC_codes {ts:List Tm} {x:Int}:VarC (codesR ts) x↔∃ k:Nat,x=(k:Int)∧hasR k ts:=by
 constructor
 ·rintro⟨c,h1,h2,rfl⟩
  exact ⟨(-1 - c).toNat,by omega,(mem_codesR h2 ts).1 h1⟩
 ·rintro⟨k,rfl,hk⟩
  refine ⟨-1 - (k:Int),(mem_codesR (by omega) ts).2 (by rwa [show (-1 - (-1 - (k:Int))).toNat=k from by omega]),by omega,by omega⟩
end
end Go.Abs.Q
namespace Go.Abs.Q
open Go Go.Abs
section
theorem may_small {a0:List QSym} {L:List QLit} {T:List (List Int)} {C:List QLit} (h:mayB a0 L T C=true):∀ r∈rowsOf L T C,SmallR r:=by
 obtain⟨-,-,-,-,h4,h5,h6,-⟩:=mayB_spec h
 intro r hr
 unfold rowsOf at hr
 rcases List.mem_append.1 hr with hr | hr
 ·rcases List.mem_append.1 hr with hr | hr
  ·obtain⟨l,hl,rfl⟩:=List.mem_map.1 hr; exact litsB_small h4 l hl
  ·obtain⟨l,hl,rfl⟩:=List.mem_map.1 hr; exact litsB_small h6 l hl
 ·exact rowsB_small h5 r hr
theorem varR_lt {a0:List QSym} {L:List QLit} {T:List (List Int)} {C:List QLit} (h:mayB a0 L T C=true) {x:Int} (hx:VarR (rowsOf L T C) x):0≤x∧x<24:=by
 obtain⟨r,hr,c,hc,h0,rfl⟩:=hx
 have:=(may_small h r hr).2 c hc
 omega
abbrev ApR:=List QLit×List (List Int)×Bool×List QLit
theorem apart_spec {a0:List QSym} (hs:SignOk a0) {L:List QLit} {T:List (List Int)} {C:List QLit} {L':List QLit} {T':List (List Int)} {C':List QLit} (h:mayB a0 L T C=true) (h':mayB a0 L' T' C'=true) :
  ∃ b:Nat,b≤24∧TopV (rowsOf L T C) (b:Int) ∧
   ((resolve_Apart a0 L T C L' T' C'=some ([],[],false,[])∧∃ x,VarR (rowsOf L' T' C') x∧23<x+(b:Int)) ∨
    (resolve_Apart a0 L T C L' T' C'=some (upLs (b:Int) L',T'.map (List.map (upC (b:Int))),true,upLs (b:Int) C')∧∀ x,VarR (rowsOf L' T' C') x→x+(b:Int)≤23)):=by
 obtain⟨ws,h1,h2,h3⟩:=clause_Vars_spec hs h
 obtain⟨ws',h1',h2',h3'⟩:=clause_Vars_spec hs h'
 obtain⟨-,l1,l2,l3,l4,l5,l6,-⟩:=mayB_spec h'
 have hsh:∀ b:Nat,b≤24→clause_Shift L' T' C' (b:Int)=some (upLs (b:Int) L',T'.map (List.map (upC (b:Int))),upLs (b:Int) C'):=fun b hb =>
  clause_Shift_eq (by omega) (litsB_near hs l4) (rowsB_near hs l5) (litsB_near hs l6) (by omega) (by omega) (by omega)
 -- the second half
 have second:∀ b:Nat,b≤24→∃ o:Option ApR,((clause_Vars a0 L' T' C').bind fun r17 =>
   cond (decide (((List.length r17.2:Nat):Int)>0))
   ((inR (IntKind.wrap .i64 (((List.length r17.2:Nat):Int) - 1)) (List.length r17.2)).bind fun k18 =>
    (r17.2[k18]?).bind fun x19 =>
    cond (decide ((IntKind.wrap .i64 (x19+(b:Int)))>23))
    (some (([]:(List QLit)),([]:(List (List Int))),false,([]:(List QLit))))
    ((clause_Shift L' T' C' (b:Int)).bind fun r20 =>
     some (r20.1,r20.2.1,true,r20.2.2)))
   ((clause_Shift L' T' C' (b:Int)).bind fun r21 =>
    some (r21.1,r21.2.1,true,r21.2.2)))=o∧((o=some ([],[],false,[])∧∃ x,VarR (rowsOf L' T' C') x∧23<x+(b:Int)) ∨
    (o=some (upLs (b:Int) L',T'.map (List.map (upC (b:Int))),true,upLs (b:Int) C')∧∀ x,VarR (rowsOf L' T' C') x→x+(b:Int)≤23)):=by
  intro b hb
  refine ⟨_,rfl,?_⟩
  rw[h1',Option.bind_some]
  simp only
  rcases top_of h2' h3' with ⟨rfl,h4⟩ | ⟨x,h4,h5,h6,h7⟩
  ·rw[show decide (((List.length ([]:List Int):Nat):Int)>0)=false from rfl,cond_false,hsh b hb]
   refine .inr ⟨rfl,fun x hx => ?_⟩
   have:=h4.1 x hx
   have:=(varR_lt h' hx).1
   omega
  ·have hvx:VarR (rowsOf L' T' C') x:=by
    rcases h7 with h7 | h7
    ·have:=(h3' x).1 (List.mem_of_getElem? h4); exact this
    ·rwa [show x+1 - 1=x from by omega] at h7
   have hx:=varR_lt h' hvx
   have hwl:ws'.length≤1000000∨True:=.inr trivial
   have e1:IntKind.wrap .i64 (((List.length ws':Nat):Int) - 1)=((ws'.length - 1:Nat):Int)∨ws'.length>1000000:=by
    rcases Nat.lt_or_ge 1000000 ws'.length with h8 | h8
    ·exact .inr h8
    ·left; rw[wrap64]<;>omega
   have hlen:ws'.length≤24:=by
    -- numbers below 24 that rise
    have key:∀(ys:List Int) (m:Int),Rise ys→(∀ y∈ys,m≤y∧y<24)→(ys.length:Int)≤24 - m∨ys=[]:=by
     intro ys
     induction ys with
     | nil=>intro m _ _; exact .inr rfl
     | cons y ys ih =>
      intro m hr hy
      have hr:=List.pairwise_cons.1 hr
      have hy0:=hy y (List.mem_cons_self ..)
      rcases ih (y+1) hr.2 (fun z hz=>⟨by have:=hr.1 z hz; omega,(hy z (List.mem_cons_of_mem _ hz)).2⟩) with h8 | h8
      ·left; rw[List.length_cons]; omega
      ·subst h8; left; simp; omega
    rcases key ws' 0 h2' fun y hy=>varR_lt h' ((h3' y).1 hy) with h8 | h8
    ·omega
    ·rw[h8]; simp
   have e1:IntKind.wrap .i64 (((List.length ws':Nat):Int) - 1)=((ws'.length - 1:Nat):Int):=by rw[wrap64]<;>omega
   rw[decide_eq_true (show ((List.length ws':Nat):Int)>0 by omega),cond_true,e1,inR_nat (by omega),Option.bind_some,h4,Option.bind_some]
   have e2:IntKind.wrap .i64 (x+(b:Int))=x+(b:Int):=by rw[wrap64]<;>omega
   simp only[e2]
   by_cases hf:x+(b:Int)>23
   ·rw[decide_eq_true hf,cond_true]
    exact .inl ⟨rfl,x,hvx,by omega⟩
   ·rw[decide_eq_false hf,cond_false,hsh b hb]
    refine .inr ⟨rfl,fun y hy => ?_⟩
    have:=h6 y hy
    omega
 unfold resolve_Apart
 rw[h1,Option.bind_some]
 simp only
 rcases top_of h2 h3 with ⟨rfl,h4⟩ | ⟨x,h4,h5,h6⟩
 ·rw[show decide (((List.length ([]:List Int):Nat):Int)>0)=false from rfl,cond_false]
  obtain⟨o,h8,h9⟩:=second 0 (by omega)
  rw[show ((0:Nat):Int)=0 from rfl] at h8 h9
  refine ⟨0,by omega,h4,?_⟩
  have h8':=h8
  rw[show ((0:Nat):Int)=0 from rfl]
  refine h9.imp (fun h=>⟨?_,h.2⟩) fun h=>⟨?_,h.2⟩
  ·exact h8.trans h.1
  ·exact h8.trans h.1
 ·have hvx:VarR (rowsOf L T C) x:=(h3 x).1 (List.mem_of_getElem? h4)
  have hx:=varR_lt h hvx
  have hlen:ws.length≤24:=by
   have key:∀(ys:List Int) (m:Int),Rise ys→(∀ y∈ys,m≤y∧y<24)→(ys.length:Int)≤24 - m∨ys=[]:=by
    intro ys
    induction ys with
    | nil=>intro m _ _; exact .inr rfl
    | cons y ys ih =>
     intro m hr hy
     have hr:=List.pairwise_cons.1 hr
     have hy0:=hy y (List.mem_cons_self ..)
     rcases ih (y+1) hr.2 (fun z hz=>⟨by have:=hr.1 z hz; omega,(hy z (List.mem_cons_of_mem _ hz)).2⟩) with h8 | h8
     ·left; rw[List.length_cons]; omega
     ·subst h8; left; simp; omega
   rcases key ws 0 h2 fun y hy=>varR_lt h ((h3 y).1 hy) with h8 | h8
   ·omega
   ·rw[h8]; simp
  have e1:IntKind.wrap .i64 (((List.length ws:Nat):Int) - 1)=((ws.length - 1:Nat):Int):=by rw[wrap64]<;>omega
  rw[decide_eq_true (show ((List.length ws:Nat):Int)>0 by omega),cond_true,e1,inR_nat (by omega),Option.bind_some,h4,Option.bind_some]
  have e2:IntKind.wrap .i64 (x+1)=(((x+1).toNat:Nat):Int):=by rw[wrap64]<;>omega
  rw[e2]
  obtain⟨o,h8,h9⟩:=second (x+1).toNat (by omega)
  refine ⟨(x+1).toNat,by omega,by rw[Int.toNat_of_nonneg (show (0:Int)≤x+1 by omega)]; exact h6,?_⟩
  refine h9.imp (fun h=>⟨?_,h.2⟩) fun h=>⟨?_,h.2⟩
  ·exact h8.trans h.1
  ·exact h8.trans h.1
end
end Go.Abs.Q
namespace Go.Abs.Q
open Go Go.Abs
section
abbrev ResT:=List QLit×List (List Int)×Bool×Int×List QLit
def failR (k:Int):Option ResT:=some ([],[],false,k,[])
theorem gx_map {α β:Type} (f:α→β) {xs:List α} {i:Int} {x:α} (h:gx xs i=some x):gx (xs.map f) i=some (f x):=by
 unfold gx at h ⊢
 cases hd:decide (0≤i) with
 | false=>rw[hd] at h; cases h
 | true =>
  rw[hd,cond_true] at h
  rw[cond_true,List.getElem?_map,h]
  rfl
theorem gx_mem {α:Type} {xs:List α} {i:Int} {x:α} (h:gx xs i=some x):x∈xs:=by
 unfold gx at h
 cases hd:decide (0≤i) with
 | false=>rw[hd] at h; cases h
 | true =>
  rw[hd,cond_true] at h
  exact List.mem_of_getElem? h
def Cds (r:List Int):Prop:=r.length≤1000∧∀ c∈r,-24≤c∧c≤1000000
theorem Cds.near {r:List Int} (h:Cds r):NearR r:=⟨h.1,fun c hc=>by have:=h.2 c hc; omega⟩
theorem may_cds {a0:List QSym} (hs:SignOk a0) {L:List QLit} {T:List (List Int)} {C:List QLit} (h:mayB a0 L T C=true):∀ r∈rowsOf L T C,Cds r:=by
 intro r hr
 have h1:=may_small h r hr
 obtain⟨-,-,-,-,h4,h5,h6,-⟩:=mayB_spec h
 have h2:NearR r:=by
  unfold rowsOf at hr
  rcases List.mem_append.1 hr with hr | hr
  ·rcases List.mem_append.1 hr with hr | hr
   ·obtain⟨l,hl,rfl⟩:=List.mem_map.1 hr; exact litsB_near hs h4 l hl
   ·obtain⟨l,hl,rfl⟩:=List.mem_map.1 hr; exact litsB_near hs h6 l hl
  ·exact rowsB_near hs h5 r hr
 exact ⟨h2.1,fun c hc=>⟨h1.2 c hc,(h2.2 c hc).2⟩⟩
theorem up_cds {b:Nat} {r:List Int} (h:Cds r) (hb:∀ x,VarC r x→x+(b:Int)≤23):Cds (r.map (upC (b:Int))):=by
 refine ⟨by rw[List.length_map]; exact h.1,fun c hc => ?_⟩
 obtain⟨d,hd,rfl⟩:=List.mem_map.1 hc
 have h1:=h.2 d hd
 unfold upC
 by_cases h0:d<0
 ·have:=hb (-1 - d) ⟨d,hd,h0,rfl⟩
  rw[decide_eq_true h0,cond_true]; omega
 ·rw[decide_eq_false h0,cond_false]; omega
theorem up_ok24 {a0:List QSym} {b:Nat} {ts:List Tm} (h:okR a0 24 ts) (hb:∀ k:Nat,hasR k ts→k+b<24):okR a0 24 (ts.map (Tm.up b)):=by
 have e:ts.map (Tm.up b)=subR (fun n=>Tm.v (n+b)) ts:=by rw[subR_eq]; rfl
 rw[e]
 exact okR_sub ts h fun x hx=>hb x hx
theorem upC_atom (b:Nat) (c:Nat) (ts:List Tm):((c:Int)::codesR ts).map (upC (b:Int))=(c:Int)::codesR (ts.map (Tm.up b)):=by
 rw[List.map_cons,up_codes]
 unfold upC
 rw[decide_eq_false (show ¬((c:Int)<0) by omega)]
 rfl
theorem mem_rows_lit {L:List QLit} {T:List (List Int)} {C:List QLit} {l:QLit} (h:l∈L):l.2∈rowsOf L T C:=by
 unfold rowsOf
 exact List.mem_append_left _ (List.mem_append_left _ (List.mem_map_of_mem h))
theorem mem_rows_cond {L:List QLit} {T:List (List Int)} {C:List QLit} {l:QLit} (h:l∈C):l.2∈rowsOf L T C:=by
 unfold rowsOf
 exact List.mem_append_left _ (List.mem_append_right _ (List.mem_map_of_mem h))
theorem mem_rows_row {L:List QLit} {T:List (List Int)} {C:List QLit} {r:List Int} (h:r∈T):r∈rowsOf L T C:=by
 unfold rowsOf
 exact List.mem_append_right _ h
theorem On_sub {σ:Sb} (hsh:shortIn σ (List.range 24)=true) {L:List QLit} {T:List (List Int)} {C:List QLit} (hL:∀ l∈L,Cds l.2) (hT:∀ r∈T,Cds r) (hC:∀ l∈C,Cds l.2) (h1:L.length≤1000) (h2:T.length≤1000) (h3:C.length≤1000) :
  clause_On (bindsL σ) L T C=some (subLs σ L,T.map (subCs σ),subLs σ C):=by
 rw[clause_On_eq (binds_ok hsh) (fun l hl=>(hL l hl).near) (fun r hr=>(hT r hr).near) (fun l hl=>(hC l hl).near) h1 h2 h3,
  onLs_sub fun l hl c hc=>((hL l hl).2 c hc).1,onLs_sub fun l hl c hc=>((hC l hl).2 c hc).1,onRs_sub fun r hr c hc=>((hT r hr).2 c hc).1]
def bothT (b:Nat) (T T':List (List Int)):List (List Int):=T++T'.map (List.map (upC (b:Int)))
def bothC (b:Nat) (C C':List QLit):List QLit:=C++upLs (b:Int) C'
def resOut (a0:List QSym) (σ:Sb) (L:List QLit) (T:List (List Int)) (C:List QLit) (k:Int):Option ResT :=
 cond (mayB a0 (subLs σ L) (T.map (subCs σ)) (subLs σ C)) (some ((normC (subLs σ L) (T.map (subCs σ)) (subLs σ C)).1,(normC (subLs σ L) (T.map (subCs σ)) (subLs σ C)).2.1,true,0,(normC (subLs σ L) (T.map (subCs σ)) (subLs σ C)).2.2)) (failR k)
end
end Go.Abs.Q
namespace Go.Abs.Q
open Go Go.Abs
section
theorem codesR_inj {a0:List QSym}:∀(n:Nat) (ts us:List Tm),sizeR ts≤n→okR a0 24 ts→okR a0 24 us→codesR ts=codesR us→ts=us:=by
 intro n
 induction n with
 | zero =>
  intro ts us hn _ _ he
  cases ts with
  | cons t ts=>have:=t.size_pos; simp only[sizeR] at hn; omega
  | nil =>
   cases us with
   | nil=>rfl
   | cons u us =>
    have:=congrArg List.length he
    rw[codesR_len,codesR_len] at this
    have:=u.size_pos
    simp only[sizeR] at *; omega
 | succ n ih =>
  intro ts us hn ho ho' he
  cases ts with
  | nil =>
   cases us with
   | nil=>rfl
   | cons u us =>
    have:=congrArg List.length he
    rw[codesR_len,codesR_len] at this
    have:=u.size_pos
    simp only[sizeR] at *; omega
  | cons t ts =>
   cases us with
   | nil =>
    have:=congrArg List.length he
    rw[codesR_len,codesR_len] at this
    have:=t.size_pos
    simp only[sizeR] at *; omega
   | cons u us =>
    have he:t.codes++codesR ts=u.codes++codesR us:=he
    cases t with
    | v k =>
     cases u with
     | v k' =>
      have he:(-1 - (k:Int))::codesR ts=(-1 - (k':Int))::codesR us:=he
      injection he with h1 h2
      have:k=k':=by omega
      rw[this,ih ts us (by simp only[sizeR,Tm.size] at hn; omega) ho.2 ho'.2 h2]
     | f c as =>
      have he:(-1 - (k:Int))::codesR ts=(c:Int)::(codesR as++codesR us):=he
      injection he with h1 h2
      omega
    | f c as =>
     cases u with
     | v k' =>
      have he:(c:Int)::(codesR as++codesR ts)=(-1 - (k':Int))::codesR us:=he
      injection he with h1 h2
      omega
     | f c' bs =>
      have he:(c:Int)::(codesR as++codesR ts)=(c':Int)::(codesR bs++codesR us):=he
      injection he with h1 h2
      have hc:c=c':=by omega
      subst hc
      rw[← codesR_app,← codesR_app] at h2
      have ha:=ho.1.1
      have hb:=ho'.1.1
      rw[ha] at hb
      injection hb with hb
      have:=ih (as++ts) (bs++us) (by rw[sizeR_app]; simp only[sizeR,Tm.size] at hn; omega)
       (okR_iff.2 fun t ht=>(List.mem_append.1 ht).elim (okR_iff.1 ho.1.2 t) (okR_iff.1 ho.2 t))
       (okR_iff.2 fun t ht=>(List.mem_append.1 ht).elim (okR_iff.1 ho'.1.2 t) (okR_iff.1 ho'.2 t)) h2
      obtain⟨h3,h4⟩:=List.append_inj this hb
      rw[h3,h4]
end
end Go.Abs.Q
namespace Go.Abs.Q
open Go Go.Abs
section
theorem nodup_le {α:Type} [DecidableEq α]:(a b:List α)→a.Nodup→(∀ x∈a,x∈b)→a.length≤b.length
 | [],_,_,_=>Nat.zero_le _
 | x::a,b,hn,hs=>by
  have hn:=List.nodup_cons.1 hn
  have hx:=hs x (List.mem_cons_self ..)
  have h1:∀ y∈a,y∈b.erase x:=fun y hy=>by
   have hne:y≠x:=fun e=>hn.1 (e▸hy)
   exact (List.mem_erase_of_ne hne).2 (hs y (List.mem_cons_of_mem _ hy))
  have h2:=nodup_le a (b.erase x) hn.2 h1
  rw[List.length_erase_of_mem hx] at h2
  have:=List.length_pos_of_mem hx
  simp only[List.length_cons]
  omega
theorem placeB_gx {L:List QLit} {i:Int} (h:placeB L i=true):∃ l,gx L i=some l:=by
 unfold placeB at h
 simp only[Bool.and_eq_true,decide_eq_true_eq] at h
 obtain⟨l,h1,-⟩:=gx_at (xs:=L) h.1 h.2
 exact ⟨l,h1⟩
end
end Go.Abs.Q
namespace Go.Abs.Q
open Go Go.Abs
def ref1_In_L0 (rec:((List Int)×Int×Int)→Option (Unit⊕Bool)) (x:((List Int)×Int×Int)):Option (Unit⊕Bool) :=
 cond (decide (x.2.2<((List.length x.1:Nat):Int)))
 ((gx x.1 x.2.2).bind fun e2 =>
  cond (e2==(IntKind.wrap .i64 ((-1) - x.2.1)))
  (some (Sum.inr true))
  (rec (x.1,x.2.1,(IntKind.wrap .i64 (x.2.2+1)))))
 (some (Sum.inl ()))
def ref1_In (a0:(List Int)) (a1:Int):Option Bool :=
 ((lp ref1_In_L0 fuel) (a0,a1,0)).bind fun r6 =>
 caseS r6
 (fun _z7=>some false)
 (fun z8=>some z8)
def ref1_VarsOf_L0 (rec:((List Int)×Int×(List Int))→Option (List Int)) (x:((List Int)×Int×(List Int))):Option (List Int) :=
 cond (decide (x.2.1≤23))
 ((ref1_In x.1 x.2.1).bind fun r3 =>
  cond r3
  (cond (room (List.length x.2.2+List.length ([x.2.1]:List Int)) 8)
   (rec (x.1,(IntKind.wrap .i64 (x.2.1+1)),(x.2.2++([x.2.1]:List Int))))
   (none))
  (rec (x.1,(IntKind.wrap .i64 (x.2.1+1)),x.2.2)))
 (some x.2.2)
def ref1_VarsOf (a0:(List Int)):Option (List Int) :=
 ((lp ref1_VarsOf_L0 fuel) (a0,0,([]:(List Int)))).bind fun r5 =>
 some r5
def ref8_VarsOf_L0 (rec:((List (List Int))×Int×(List Int))→Option (List Int)) (x:((List (List Int))×Int×(List Int))):Option (List Int) :=
 cond (decide (x.2.1<((List.length x.1:Nat):Int)))
 ((gx x.1 x.2.1).bind fun e4 =>
  cond (room (List.length x.2.2+List.length e4) 8)
  (rec (x.1,(IntKind.wrap .i64 (x.2.1+1)),(x.2.2++e4)))
  (none))
 (some x.2.2)
def ref8_VarsOf (a0:(List QLit)) (a1:(List (List Int))) (a2:(List QLit)):Option (List Int) :=
 (ref8_rows a0 a1 a2).bind fun r7 =>
 ((lp ref8_VarsOf_L0 fuel) (r7,0,([]:(List Int)))).bind fun r8 =>
 (ref1_VarsOf r8).bind fun r9 =>
 some r9
def ref9_Model_look_L0 (rec:((List Int)×Int×Int×Int×(List Int))→Option Int) (x:((List Int)×Int×Int×Int×(List Int))):Option Int :=
 cond (decide (x.2.2.1<((List.length x.1:Nat):Int)))
 ((gx x.1 x.2.2.1).bind fun e2 =>
  rec (x.1,(IntKind.wrap .u64 ((IntKind.wrap .u64 ((IntKind.wrap .u64 (x.2.1*5))+(IntKind.wrap .u64 e2)))+3)),(IntKind.wrap .i64 (x.2.2.1+1)),x.2.2.2.1,x.2.2.2.2))
 (some x.2.1)
def ref9_Model_look (a0:Int) (a1:(List Int)) (a2:Int) (a3:(List Int)):Option Int :=
 cond (((List.length a1:Nat):Int)==0)
 (some 0)
 (((lp ref9_Model_look_L0 fuel) (a3,(IntKind.wrap .u64 (IntKind.wrap .i64 ((IntKind.wrap .i64 (a2*7))+1))),0,a0,a1)).bind fun r6 =>
  cond (decide ((IntKind.wrap .u64 ((List.length a1:Nat):Int))=0))
  (none)
  ((gx a1 (IntKind.wrap .i64 (Int.tmod r6 (IntKind.wrap .u64 ((List.length a1:Nat):Int))))).bind fun e7 =>
   (bitI .and .i64 e7 255).bind fun b8 =>
   some b8))
end Go.Abs.Q
namespace Go.Abs.Q
open Go Go.Abs
def ref1_In_L0_go (s1:Int):List Int→Option (Unit⊕Bool)
 | []=>some (Sum.inl ())
 | e::es =>
  cond (e==(IntKind.wrap .i64 ((-1) - s1)))
  (some (Sum.inr true))
  (ref1_In_L0_go s1 es)
theorem ref1_In_L0_go_at0 (s0:(List Int)) (s1:Int) (hl:List.length s0≤maxLen):lp ref1_In_L0 fuel (s0,s1,0)=ref1_In_L0_go s1 s0:=rngl0 ref1_In_L0 (fun i=>(s0,s1,i)) (fun es i=>ref1_In_L0_go s1 es) hl (fun r i h=>by unfold ref1_In_L0 ref1_In_L0_go; simp only[h,cond_false]) (fun r i e es h g w k=>by unfold ref1_In_L0 ref1_In_L0_go; simp only[h,cond_true,g,Option.bind_some,w,k])
def ref8_VarsOf_L0_go:List (List Int)→(List Int)→Option (List Int)
 | [],s2=>some s2
 | e::es,s2 =>
  cond (room (List.length s2+List.length e) 8)
  (ref8_VarsOf_L0_go es (s2++e))
  (none)
theorem ref8_VarsOf_L0_go_at0 (s0:(List (List Int))) (s2:(List Int)) (hl:List.length s0≤maxLen):lp ref8_VarsOf_L0 fuel (s0,0,s2)=ref8_VarsOf_L0_go s0 s2:=rngl1 ref8_VarsOf_L0 (fun i s2=>(s0,i,s2)) (fun es i s2=>ref8_VarsOf_L0_go es s2) hl (fun r i s2 h=>by unfold ref8_VarsOf_L0 ref8_VarsOf_L0_go; simp only[h,cond_false]) (fun r i s2 e es h g w k=>by unfold ref8_VarsOf_L0 ref8_VarsOf_L0_go; simp only[h,cond_true,g,Option.bind_some,w,k]) s2
end Go.Abs.Q
namespace Go.Abs.Q
open Go Go.Abs
section
def NumsOk (nums:List Int):Prop:=nums≠[]∧nums.length≤9223372036854775807
def lookF (m:Int) (nums:List Int) (c:Int) (xs:List Int):Int:=(ref9_Model_look m nums c xs).getD 0
section
variable (m:Int) (nums:List Int)
mutual
def valT (env:Nat→Int):Tm→Int
 | .v n=>env n
 | .f c ts=>Int.tmod (lookF m nums (c:Int) (valR env ts)) m
def valR (env:Nat→Int):List Tm→List Int
 | []=>[]
 | t::ts=>valT env t::valR env ts
end
mutual
theorem valT_sub (env:Nat→Int) (s:Sb):(t:Tm)→valT m nums env (t.sub s)=valT m nums (fun n=>valT m nums env (s n)) t
 | .v n=>rfl
 | .f c ts=>by
  show Int.tmod (lookF m nums (c:Int) (valR m nums env (subR s ts))) m=_
  rw[valR_sub env s ts]
  rfl
theorem valR_sub (env:Nat→Int) (s:Sb):(ts:List Tm)→valR m nums env (subR s ts)=valR m nums (fun n=>valT m nums env (s n)) ts
 | []=>rfl
 | t::ts=>by
  show valT m nums env (t.sub s)::valR m nums env (subR s ts)=_
  rw[valT_sub env s t,valR_sub env s ts]
  rfl
end
mutual
theorem valT_ext {e e':Nat→Int}:(t:Tm)→(∀ x,t.has x→e x=e' x)→valT m nums e t=valT m nums e' t
 | .v n,h=>h n rfl
 | .f c ts,h=>by
  show Int.tmod (lookF m nums (c:Int) (valR m nums e ts)) m=Int.tmod (lookF m nums (c:Int) (valR m nums e' ts)) m
  rw[valR_ext ts h]
theorem valR_ext {e e':Nat→Int}:(ts:List Tm)→(∀ x,hasR x ts→e x=e' x)→valR m nums e ts=valR m nums e' ts
 | [],_=>rfl
 | t::ts,h=>by
  show valT m nums e t::valR m nums e ts=valT m nums e' t::valR m nums e' ts
  rw[valT_ext t fun x hx=>h x (.inl hx),valR_ext ts fun x hx=>h x (.inr hx)]
end
end
structure EnvOk (m:Int) (E:List Int):Prop where
 len:E.length=24
 rng:∀ x∈E,0≤x∧x<m
def envF (E:List Int) (n:Nat):Int:=E.getD n 0
theorem EnvOk.get {m:Int} {E:List Int} (h:EnvOk m E) {n:Nat} (hn:n<24):E[n]? = some (envF E n):=by
 unfold envF
 rw[List.getD_eq_getElem?_getD,List.getElem?_eq_getElem (by rw[h.len]; exact hn)]
 rfl
theorem EnvOk.val {m:Int} {E:List Int} (h:EnvOk m E) {n:Nat} (hn:n<24):0≤envF E n∧envF E n<m:=h.rng _ (List.mem_of_getElem? (h.get hn))
theorem arity_at {a0:List QSym} (hs:SignOk a0) {c q:Nat} (h:arity a0 (c:Int)=some q):∃ e,gx a0 (c:Int)=some e∧e.2.2.1=(q:Int):=by
 unfold arity at h
 rw[decide_eq_false (show ¬(c:Int)<0 by omega),cond_false,Int.toNat_natCast] at h
 cases he:a0[c]? with
 | none=>rw[he] at h; cases h
 | some e =>
  rw[he] at h
  simp only at h
  refine ⟨e,by rw[gx_nat,he],?_⟩
  have:=hs.at he
  cases hk:(e.2.1==0) with
  | true=>rw[hk] at h; cases h
  | false=>rw[hk] at h; injection h with h; omega
end
end Go.Abs.Q
namespace Go.Abs.Q
open Go Go.Abs
section
section
variable {m:Int} (hm:0<m) {nums:List Int} (hn:NumsOk nums) {a0:List QSym} (hs:SignOk a0) {E:List Int} (hE:EnvOk m E)
include hm hn hs hE
end
theorem EnvOk.set {m:Int} {E:List Int} (h:EnvOk m E) {v:Nat} {x:Int} (hx:0≤x∧x<m):EnvOk m (E.set v x) where
 len:=by rw[List.length_set]; exact h.len
 rng:=fun y hy=>by
  rcases List.mem_or_eq_of_mem_set hy with hy | hy
  ·exact h.rng y hy
  ·rw[hy]; exact hx
end
end Go.Abs.Q
namespace Go.Abs.Q
open Go Go.Abs
section
theorem In_go (v:Nat) (hv:v<24):(es:List Int)→ref1_In_L0_go (v:Int) es=some (cond (decide (-1 - (v:Int)∈es)) (.inr true) (.inl ()))
 | []=>rfl
 | e::es=>by
  unfold ref1_In_L0_go
  have w:IntKind.wrap .i64 ((-1) - (v:Int)) = -1 - (v:Int):=by rw[wrap64]<;>omega
  rw[w,In_go v hv es]
  by_cases he:e = -1 - (v:Int)
  ·rw[show (e == -1 - (v:Int))=true from by simp [he],decide_eq_true (show -1 - (v:Int)∈e::es by rw[he]; exact List.mem_cons_self ..)]
   rfl
  ·rw[show (e == -1 - (v:Int))=false from by simp [he],cond_false]
   by_cases hm:(-1 - (v:Int))∈es
   ·rw[decide_eq_true hm,decide_eq_true (List.mem_cons_of_mem _ hm)]
   ·rw[decide_eq_false hm,decide_eq_false fun h=>(List.mem_cons.1 h).elim (fun h=>he h.symm) hm]
theorem ref1_In_eq {v:Nat} (hv:v<24) {r:List Int} (hl:r.length≤1000000):ref1_In r (v:Int)=some (decide (-1 - (v:Int)∈r)):=by
 unfold ref1_In
 rw[ref1_In_L0_go_at0 _ _ (by unfold maxLen; omega),In_go v hv,Option.bind_some]
 cases decide (-1 - (v:Int)∈r)<;>rfl
def inR_ (r:List Int) (v:Nat):Bool:=decide (-1 - (v:Int)∈r)
theorem VarsOf_round {r:List Int} (hl:r.length≤1000000):∀(d v k:Nat) (out:List Int),24 - v=d→v≤24→d<k→out.length≤v →
  lp ref1_VarsOf_L0 k (r,(v:Int),out)=some (out++(((List.range 24).drop v).filter (inR_ r)).map fun v:Nat=>(v:Int)):=by
 intro d
 induction d with
 | zero =>
  intro v k out hd hv hk ho
  obtain⟨k,rfl⟩:∃ k',k=k'+1:=⟨k - 1,by omega⟩
  rw[lp_succ]
  generalize lp ref1_VarsOf_L0 k=rec
  unfold ref1_VarsOf_L0
  have:v=24:=by omega
  subst this
  rw[show (List.range 24).drop 24=[] from rfl]
  simp
 | succ d ih =>
  intro v k out hd hv hk ho
  obtain⟨k,rfl⟩:∃ k',k=k'+1:=⟨k - 1,by omega⟩
  rw[lp_succ]
  have key:=fun out ho=>ih (v+1) k out (by omega) (by omega) (by omega) ho
  generalize lp ref1_VarsOf_L0 k=rec at key ⊢
  unfold ref1_VarsOf_L0
  have w:IntKind.wrap .i64 ((v:Int)+1)=((v+1:Nat):Int):=by rw[wrap64]<;>omega
  have hdr:(List.range 24).drop v=v::(List.range 24).drop (v+1):=by
   rw[List.drop_eq_getElem_cons (by simp; omega)]
   simp
  simp only[decide_eq_true (show (v:Int)≤23 by omega),cond_true,ref1_In_eq (show v<24 by omega) hl,Option.bind_some,w]
  rw[hdr]
  by_cases hm:(-1 - (v:Int))∈r
  ·rw[decide_eq_true hm,cond_true,room_ok (by simp; omega),cond_true,key _ (by simp; omega)]
   have:inR_ r v=true:=decide_eq_true hm
   rw[List.filter_cons_of_pos this]
   simp
  ·rw[decide_eq_false hm,cond_false,key _ (by omega)]
   have:¬(inR_ r v=true):=by unfold inR_; rw[decide_eq_false hm]; simp
   rw[List.filter_cons_of_neg this]
theorem flat_go:(es:List (List Int))→(out:List Int)→out.length+sumLen es≤1000000→ref8_VarsOf_L0_go es out=some (out++es.flatten)
 | [],out,_=>by simp [ref8_VarsOf_L0_go]
 | e::es,out,h=>by
  rw[sumLen_cons] at h
  unfold ref8_VarsOf_L0_go
  rw[room_ok (by omega),cond_true,flat_go es _ (by rw[List.length_append]; omega)]
  simp
def varsN (L:List QLit) (T:List (List Int)) (C:List QLit):List Nat:=(List.range 24).filter (inR_ (L.map (·.2)++T++C.map (·.2)).flatten)
theorem varsN_nodup (L:List QLit) (T:List (List Int)) (C:List QLit):(varsN L T C).Nodup:=List.nodup_range.sublist List.filter_sublist
theorem varsN_lt {L:List QLit} {T:List (List Int)} {C:List QLit}:∀ v∈varsN L T C,v<24:=fun _v hv=>List.mem_range.1 (List.mem_filter.1 hv).1
theorem varsN_mem {L:List QLit} {T:List (List Int)} {C:List QLit} {v:Nat} (hv:v<24):v∈varsN L T C↔VarR (rowsOf L T C) (v:Int):=by
 unfold varsN inR_
 rw[List.mem_filter]
 simp only[List.mem_range,hv,true_and,decide_eq_true_eq,List.mem_flatten]
 constructor
 ·rintro⟨r,hr,hc⟩
  refine ⟨r,?_,_,hc,by omega,by omega⟩
  unfold rowsOf
  simp only[List.mem_append] at hr ⊢
  rcases hr with (hr | hr) | hr
  ·exact .inl (.inl hr)
  ·exact .inr hr
  ·exact .inl (.inr hr)
 ·rintro⟨r,hr,c,hc,h0,he⟩
  refine ⟨r,?_,by rw[show -1 - (v:Int)=c from by omega]; exact hc⟩
  unfold rowsOf at hr
  simp only[List.mem_append] at hr ⊢
  rcases hr with (hr | hr) | hr
  ·exact .inl (.inl hr)
  ·exact .inr hr
  ·exact .inl (.inr hr)
theorem ref8_VarsOf_eq {L:List QLit} {T:List (List Int)} {C:List QLit} (h1:L.length≤1000) (h2:T.length≤1000) (h3:C.length≤1000) (hl:sumLen (L.map (·.2))+sumLen T+sumLen (C.map (·.2))≤1000000) :
  ref8_VarsOf L T C=some ((varsN L T C).map fun v:Nat=>(v:Int)):=by
 unfold ref8_VarsOf
 rw[ref8_rows_eq L T C h1 h2 h3,Option.bind_some,ref8_VarsOf_L0_go_at0 _ _ (by simp; unfold maxLen; omega),flat_go _ _ (by rw[sumLen_append,sumLen_append]; simp; omega),Option.bind_some]
 unfold ref1_VarsOf
 have hf:((L.map (·.2)++T++C.map (·.2)).flatten).length≤1000000:=by
  rw[← sum_flat,sumLen_append,sumLen_append]; omega
 have:=VarsOf_round hf 24 0 fuel [] rfl (by omega) (by unfold fuel; omega) (by simp)
 rw[show ((0:Nat):Int)=0 from rfl,List.drop_zero] at this
 simp only[List.nil_append] at this ⊢
 rw[this]
 rfl
end
end Go.Abs.Q
namespace Go.Abs.Q
open Go Go.Abs
section
abbrev RenS:=List Int×Int
def rho (s:RenS) (v:Nat):Nat:=(s.1.getD v 0).toNat - 1
structure RenI (s:RenS):Prop where
 len:s.1.length=24
 rng:∀ v,0≤s.1.getD v 0∧s.1.getD v 0≤s.2
 inj:∀ v w,s.1.getD v 0=s.1.getD w 0→s.1.getD v 0≠0→v=w
 cnt:((s.1.countP (fun x=>x != 0):Nat):Int)=s.2
def ExtS (s s':RenS):Prop:=∀ v,s.1.getD v 0≠0→s'.1.getD v 0=s.1.getD v 0
theorem ExtS.refl (s:RenS):ExtS s s:=fun _ _=>rfl
theorem ExtS.trans {s t u:RenS} (h:ExtS s t) (h':ExtS t u):ExtS s u:=fun v hv=>(h' v (by rw[h v hv]; exact hv)).trans (h v hv)
theorem RenI.next {s:RenS} (h:RenI s):0≤s.2∧s.2≤24:=by
 have h1:=h.cnt
 have h2:s.1.countP (fun x=>x != 0)≤s.1.length:=List.countP_le_length
 rw[h.len] at h2
 omega
theorem ren0:RenI (List.replicate 24 (0:Int),0) where
 len:=by simp
 rng:=fun v=>by
  rw[List.getD_eq_getElem?_getD,List.getElem?_replicate]
  split<;>simp
 inj:=fun v w _ h=>by
  exfalso
  apply h
  rw[List.getD_eq_getElem?_getD,List.getElem?_replicate]
  split<;>rfl
 cnt:=by decide
theorem countP_set {xs:List Int} {v:Nat} {y:Int} (hv:xs[v]? = some 0) (hy:y≠0):(xs.set v y).countP (fun x=>x != 0)=xs.countP (fun x=>x != 0)+1:=by
 obtain⟨hx,he⟩:=List.getElem?_eq_some_iff.1 hv
 have h1:=List.take_append_drop v xs
 have h2:xs.drop v=0::xs.drop (v+1):=by rw[List.drop_eq_getElem_cons hx,he]
 have h3:xs.set v y=xs.take v++y::xs.drop (v+1):=by rw[List.set_eq_take_append_cons_drop,if_pos hx]
 conv=>rhs; rw[← h1,h2]
 rw[h3]
 simp [List.countP_append,hy]
 omega
theorem getD_set {xs:List Int} {v w:Nat} {y:Int} (hv:v<xs.length):(xs.set v y).getD w 0=if w=v then y else xs.getD w 0:=by
 rw[List.getD_eq_getElem?_getD,List.getD_eq_getElem?_getD]
 by_cases h:w=v
 ·subst h; rw[List.getElem?_set_self hv,if_pos rfl]; rfl
 ·rw[List.getElem?_set_ne (Ne.symm h),if_neg h]
theorem ren1_spec {s:RenS} (h:RenI s) {c:Int} (hc : -24≤c):RenI (ren1 s c).2∧ExtS s (ren1 s c).2∧(c<0→(ren1 s c).2.1.getD (-1 - c).toNat 0≠0)∧∀ f,ExtS (ren1 s c).2 f→[(ren1 s c).1]=expC (fun v=>.v (rho f v)) c:=by
 unfold ren1
 by_cases h0:c≥0
 ·rw[decide_eq_true h0,cond_true]
  refine ⟨h,ExtS.refl s,fun h1=>by omega,fun f _ => ?_⟩
  unfold expC
  rw[if_neg (by omega)]
 ·rw[decide_eq_false h0,cond_false]
  have hv:(-1 - c).toNat<s.1.length:=by rw[h.len]; omega
  have hexp:∀ f:RenS,expC (fun v=>.v (rho f v)) c=[-1 - ((rho f (-1 - c).toNat:Nat):Int)]:=fun f=>by
   unfold expC
   rw[if_pos (by omega)]
   rfl
  by_cases hz:s.1.getD (-1 - c).toNat 0=0
  ·rw[show (s.1.getD (-1 - c).toNat 0==0)=true from by rw[hz]; rfl,cond_true]
   have hn:=h.next
   have hget:s.1[(-1 - c).toNat]? = some 0:=by
    rw[List.getD_eq_getElem?_getD,List.getElem?_eq_getElem hv] at hz
    rw[List.getElem?_eq_getElem hv]
    exact congrArg some hz
   refine ⟨⟨by simpa using h.len,fun v => ?_,fun v w he hnz => ?_,?_⟩,fun v hvz => ?_,fun _ => ?_,fun f hf => ?_⟩
   ·show 0≤(s.1.set _ _).getD v 0∧(s.1.set _ _).getD v 0≤s.2+1
    rw[getD_set hv]
    have:=h.rng v
    split<;>omega
   ·have he:(s.1.set (-1 - c).toNat (s.2+1)).getD v 0=(s.1.set (-1 - c).toNat (s.2+1)).getD w 0:=he
    have hnz:(s.1.set (-1 - c).toNat (s.2+1)).getD v 0≠0:=hnz
    rw[getD_set hv] at he hnz
    rw[getD_set hv] at he
    have h1:=h.rng v
    have h2:=h.rng w
    by_cases e1:v=(-1 - c).toNat
    ·rw[if_pos e1] at he hnz
     by_cases e2:w=(-1 - c).toNat
     ·rw[e1,e2]
     ·rw[if_neg e2] at he; omega
    ·rw[if_neg e1] at he hnz
     by_cases e2:w=(-1 - c).toNat
     ·rw[if_pos e2] at he; omega
     ·rw[if_neg e2] at he
      exact h.inj v w he hnz
   ·show (((s.1.set (-1 - c).toNat (s.2+1)).countP (fun x=>x != 0):Nat):Int)=s.2+1
    rw[countP_set hget (by omega),← h.cnt]
    omega
   ·show (s.1.set _ _).getD v 0=_
    rw[getD_set hv]
    split
    ·rename_i e; rw[e,hz] at hvz; exact absurd rfl hvz
    ·rfl
   ·show (s.1.set _ _).getD _ 0≠0
    rw[getD_set hv,if_pos rfl]
    omega
   ·rw[hexp]
    have hf2:=hf (-1 - c).toNat (by
     show (s.1.set _ _).getD _ 0≠0
     rw[getD_set hv,if_pos rfl]
     omega)
    have hf2:f.1.getD (-1 - c).toNat 0=(s.1.set (-1 - c).toNat (s.2+1)).getD (-1 - c).toNat 0:=hf2
    rw[getD_set hv,if_pos rfl] at hf2
    unfold rho
    rw[hf2]
    show [-(s.2+1)]=_
    congr 1
    omega
  ·rw[show (s.1.getD (-1 - c).toNat 0==0)=false from by simpa using hz,cond_false]
   refine ⟨h,ExtS.refl s,fun _=>hz,fun f hf => ?_⟩
   rw[hexp]
   have hf2:f.1.getD (-1 - c).toNat 0=s.1.getD (-1 - c).toNat 0:=hf _ hz
   have:=h.rng (-1 - c).toNat
   unfold rho
   rw[hf2]
   show [-(s.1.getD (-1 - c).toNat 0)]=_
   congr 1
   omega
theorem renR_spec:(r:List Int)→{s:RenS}→RenI s→(∀ c∈r,-24≤c)→RenI (renR s r).2∧ExtS s (renR s r).2∧(∀ x,VarC r x→(renR s r).2.1.getD x.toNat 0≠0)∧∀ f,ExtS (renR s r).2 f→(renR s r).1=subCs (fun v=>.v (rho f v)) r
 | [],s,h,_=>⟨h,ExtS.refl s,fun x ⟨c,hc,_⟩=>(nomatch hc),fun _ _=>rfl⟩
 | c::r,s,h,hc=>by
  obtain⟨h1,h2,h3,h4⟩:=ren1_spec h (hc c (List.mem_cons_self ..))
  obtain⟨g1,g2,g3,g4⟩:=renR_spec r h1 fun d hd=>hc d (List.mem_cons_of_mem _ hd)
  refine ⟨g1,h2.trans g2,fun x ⟨d,hd,hd0,hx⟩ => ?_,fun f hf => ?_⟩
  ·rcases List.mem_cons.1 hd with rfl | hd
   ·subst hx
    show (renR (ren1 s d).2 r).2.1.getD (-1 - d).toNat 0≠0
    rw[g2 _ (h3 hd0)]
    exact h3 hd0
   ·exact g3 x ⟨d,hd,hd0,hx⟩
  ·have hf:ExtS (renR (ren1 s c).2 r).2 f:=hf
   show (ren1 s c).1::(renR (ren1 s c).2 r).1=_
   unfold subCs
   rw[List.flatMap_cons,← h4 f (g2.trans hf),g4 f hf]
   rfl
theorem renLs_spec:(ls:List QLit)→{s:RenS}→RenI s→(∀ l∈ls,∀ c∈l.2,-24≤c)→RenI (renLs s ls).2∧ExtS s (renLs s ls).2∧(∀ x,VarR (ls.map (·.2)) x→(renLs s ls).2.1.getD x.toNat 0≠0)∧∀ f,ExtS (renLs s ls).2 f→(renLs s ls).1=subLs (fun v=>.v (rho f v)) ls
 | [],s,h,_=>⟨h,ExtS.refl s,fun x ⟨c,hc,_⟩=>(nomatch hc),fun _ _=>rfl⟩
 | l::ls,s,h,hc=>by
  obtain⟨h1,h2,h3,h4⟩:=renR_spec l.2 h (hc l (List.mem_cons_self ..))
  obtain⟨g1,g2,g3,g4⟩:=renLs_spec ls h1 fun d hd=>hc d (List.mem_cons_of_mem _ hd)
  refine ⟨g1,h2.trans g2,fun x hx => ?_,fun f hf => ?_⟩
  ·rw[List.map_cons,VarR_cons] at hx
   rcases hx with hx | hx
   ·show (renLs (renR s l.2).2 ls).2.1.getD x.toNat 0≠0
    rw[g2 _ (h3 x hx)]
    exact h3 x hx
   ·exact g3 x hx
  ·have hf:ExtS (renLs (renR s l.2).2 ls).2 f:=hf
   show (l.1,(renR s l.2).1)::(renLs (renR s l.2).2 ls).1=_
   rw[h4 f (g2.trans hf),g4 f hf]
   rfl
theorem renRs_spec:(ls:List (List Int))→{s:RenS}→RenI s→(∀ l∈ls,∀ c∈l,-24≤c)→RenI (renRs s ls).2∧ExtS s (renRs s ls).2∧(∀ x,VarR ls x→(renRs s ls).2.1.getD x.toNat 0≠0)∧∀ f,ExtS (renRs s ls).2 f→(renRs s ls).1=ls.map (subCs (fun v=>.v (rho f v)))
 | [],s,h,_=>⟨h,ExtS.refl s,fun x ⟨c,hc,_⟩=>(nomatch hc),fun _ _=>rfl⟩
 | l::ls,s,h,hc=>by
  obtain⟨h1,h2,h3,h4⟩:=renR_spec l h (hc l (List.mem_cons_self ..))
  obtain⟨g1,g2,g3,g4⟩:=renRs_spec ls h1 fun d hd=>hc d (List.mem_cons_of_mem _ hd)
  refine ⟨g1,h2.trans g2,fun x hx => ?_,fun f hf => ?_⟩
  ·rw[VarR_cons] at hx
   rcases hx with hx | hx
   ·show (renRs (renR s l).2 ls).2.1.getD x.toNat 0≠0
    rw[g2 _ (h3 x hx)]
    exact h3 x hx
   ·exact g3 x hx
  ·have hf:ExtS (renRs (renR s l).2 ls).2 f:=hf
   show (renR s l).1::(renRs (renR s l).2 ls).1=_
   rw[h4 f (g2.trans hf),g4 f hf]
   rfl
end
end Go.Abs.Q
namespace Go.Abs.Q
open Go Go.Abs
section
theorem rowsB_of {a0:List QSym} {rs:List (List Int)} {n:Nat} (h:∀ r∈rs,rowW a0 r=some n):rowsB a0 rs=true:=by
 cases rs with
 | nil=>rfl
 | cons r rs =>
  unfold rowsB
  show (match rowW a0 r with | none=>false | some n=>rs.all fun q=>rowW a0 q==some n)=true
  rw[h r (List.mem_cons_self ..)]
  exact List.all_eq_true.2 fun q hq=>by rw[h q (List.mem_cons_of_mem _ hq)]; simp
theorem once_sum {α:Type} [DecidableEq α] (f:α→Nat):(es out:List α)→((onceL es out).map f).sum≤(out.map f).sum+(es.map f).sum
 | [],out=>by simp [onceL]
 | e::es,out=>by
  unfold onceL
  by_cases h:e∈out
  ·rw[decide_eq_true h,cond_true]
   have:=once_sum f es out
   simp only[List.map_cons,List.sum_cons]
   omega
  ·rw[decide_eq_false h,cond_false]
   have:=once_sum f es (out++[e])
   simp only[List.map_cons,List.sum_cons,List.map_append,List.sum_append,List.map_nil,List.sum_nil] at this ⊢
   omega
end
end Go.Abs.Q
namespace Go.Abs.Q
open Go Go.Abs
section
mutual
theorem Tm.sub_id:(t:Tm)→t.sub (fun n=>Tm.v n)=t
 | .v n=>rfl
 | .f c as=>by rw[Tm.sub,subR_id as]
theorem subR_id:(ts:List Tm)→subR (fun n=>Tm.v n) ts=ts
 | []=>rfl
 | t::ts=>by rw[subR,Tm.sub_id t,subR_id ts]
end
section
variable {m:Nat} (hm:0<m) (hm3:m≤3) {nums:List Int} (hn:NumsOk nums) {a0:List QSym} (hs:SignOk a0)
include hm hm3 hn hs
end
end
end Go.Abs.Q
namespace Go.Abs.Q
open Go Go.Abs
section
section
variable {m:Nat} (hm:0<m) (hm3:m≤3) {nums:List Int} (hn:NumsOk nums) {a0:List QSym} (hs:SignOk a0)
include hm hm3 hn hs
end
end
end Go.Abs.Q
namespace Go.Abs.Q
open Go Go.Abs
section
theorem slc_take {α:Type} (xs:List α) {i:Nat} (h:i≤xs.length):slc2 xs none (some (i:Int))=some (xs.take i):=by
 show slc xs 0 (i:Int)=some _
 unfold slc
 rw[decide_eq_true (show (0:Int)≤0 by omega),decide_eq_true (show (0:Int)≤(i:Int) by omega),decide_eq_true (show (i:Int)≤((xs.length:Nat):Int) by omega)]
 simp
end
end Go.Abs.Q
namespace Go.Abs.Q
open Go Go.Abs
section
section
variable {m:Nat} (hm:0<m) (hm3:m≤3) {nums:List Int} (hn:NumsOk nums) {a0:List QSym} (hs:SignOk a0)
include hm hm3 hn hs
end
end
end Go.Abs.Q
namespace Go.Abs.Q
open Go Go.Abs
section
end
end Go.Abs.Q
namespace Go.Abs.Q
open Go Go.Abs
def ref13_there (a0:(List QLit)) (_a1:(List (List Int))) (_a2:(List QLit)) (a3:Int):Option Bool :=
 cond (decide (a3≥0))
 (some (decide (a3<((List.length a0:Nat):Int))))
 (some false)
def ref1_Of_L0 (rec:((List (Int×(List Int)))×Int×Int)→Option (Unit⊕Int)) (x:((List (Int×(List Int)))×Int×Int)):Option (Unit⊕Int) :=
 cond (decide (x.2.2<((List.length x.1:Nat):Int)))
 ((gx x.1 x.2.2).bind fun e2 =>
  cond (e2.1==x.2.1)
  (some (Sum.inr x.2.2))
  (rec (x.1,x.2.1,(IntKind.wrap .i64 (x.2.2+1)))))
 (some (Sum.inl ()))
def ref1_Of (a0:(List (Int×(List Int)))) (a1:Int):Option Int :=
 ((lp ref1_Of_L0 fuel) (a0,a1,0)).bind fun r6 =>
 caseS r6
 (fun _z7=>some (-1))
 (fun z8=>some z8)
def ref1_Put_L0 (rec:((List (Int×(List Int)))×(List Int)×Int×(List Int))→Option (List Int)) (x:((List (Int×(List Int)))×(List Int)×Int×(List Int))):Option (List Int) :=
 cond (decide (x.2.2.1<((List.length x.2.1:Nat):Int)))
 ((gx x.2.1 x.2.2.1).bind fun e16 =>
  cond (decide (e16<0))
  ((gx x.2.1 x.2.2.1).bind fun e17 =>
   (ref1_Of x.1 (IntKind.wrap .i64 ((-1) - e17))).bind fun r18 =>
   cond (decide (r18<0))
   ((gx x.2.1 x.2.2.1).bind fun e19 =>
    cond (room (List.length x.2.2.2+List.length ([e19]:List Int)) 8)
    (rec (x.1,x.2.1,(IntKind.wrap .i64 (x.2.2.1+1)),(x.2.2.2++([e19]:List Int))))
    (none))
   ((gx x.1 r18).bind fun e20 =>
    cond (room (List.length x.2.2.2+List.length e20.2) 8)
    (rec (x.1,x.2.1,(IntKind.wrap .i64 (x.2.2.1+1)),(x.2.2.2++e20.2)))
    (none)))
  ((gx x.2.1 x.2.2.1).bind fun e21 =>
   cond (room (List.length x.2.2.2+List.length ([e21]:List Int)) 8)
   (rec (x.1,x.2.1,(IntKind.wrap .i64 (x.2.2.1+1)),(x.2.2.2++([e21]:List Int))))
   (none)))
 (some x.2.2.2)
def ref1_Put (a0:(List (Int×(List Int)))) (a1:(List Int)):Option (List Int) :=
 ((lp ref1_Put_L0 fuel) (a0,a1,0,([]:(List Int)))).bind fun r23 =>
 some r23
def ref8_Copy_L2 (rec:((List (Int×(List Int)))×Int×(List QLit)×(List (List Int))×(List QLit)×(List QLit)×(List (List Int))×(List QLit))→Option ((List QLit)×(List (List Int))×(List QLit))) (x:((List (Int×(List Int)))×Int×(List QLit)×(List (List Int))×(List QLit)×(List QLit)×(List (List Int))×(List QLit))):Option ((List QLit)×(List (List Int))×(List QLit)) :=
 cond (decide (x.2.1<((List.length x.2.2.2.2.1:Nat):Int)))
 ((gx x.2.2.2.2.1 x.2.1).bind fun e24 =>
  (gx x.2.2.2.2.1 x.2.1).bind fun e25 =>
  (ref1_Put x.1 e25.2).bind fun r26 =>
  cond (room (List.length x.2.2.2.2.2.2.2+List.length ([(e24.1,r26)]:List QLit)) 32)
  (rec (x.1,(IntKind.wrap .i64 (x.2.1+1)),x.2.2.1,x.2.2.2.1,x.2.2.2.2.1,x.2.2.2.2.2.1,x.2.2.2.2.2.2.1,(x.2.2.2.2.2.2.2++([(e24.1,r26)]:List QLit))))
  (none))
 (some (x.2.2.2.2.2.1,x.2.2.2.2.2.2.1,x.2.2.2.2.2.2.2))
def ref8_Copy_L1 (rec:((List (Int×(List Int)))×Int×(List QLit)×(List (List Int))×(List QLit)×(List QLit)×(List (List Int)))→Option ((List QLit)×(List (List Int)))) (x:((List (Int×(List Int)))×Int×(List QLit)×(List (List Int))×(List QLit)×(List QLit)×(List (List Int)))):Option ((List QLit)×(List (List Int))) :=
 cond (decide (x.2.1<((List.length x.2.2.2.1:Nat):Int)))
 ((gx x.2.2.2.1 x.2.1).bind fun e15 =>
  (ref1_Put x.1 e15).bind fun r16 =>
  cond (room (List.length x.2.2.2.2.2.2+List.length ([r16]:List (List Int))) 24)
  (rec (x.1,(IntKind.wrap .i64 (x.2.1+1)),x.2.2.1,x.2.2.2.1,x.2.2.2.2.1,x.2.2.2.2.2.1,(x.2.2.2.2.2.2++([r16]:List (List Int)))))
  (none))
 (some (x.2.2.2.2.2.1,x.2.2.2.2.2.2))
def ref8_Copy_L0 (rec:((List (Int×(List Int)))×Int×(List QLit)×(List (List Int))×(List QLit)×(List QLit))→Option (List QLit)) (x:((List (Int×(List Int)))×Int×(List QLit)×(List (List Int))×(List QLit)×(List QLit))):Option (List QLit) :=
 cond (decide (x.2.1<((List.length x.2.2.1:Nat):Int)))
 ((gx x.2.2.1 x.2.1).bind fun e7 =>
  (gx x.2.2.1 x.2.1).bind fun e8 =>
  (ref1_Put x.1 e8.2).bind fun r9 =>
  cond (room (List.length x.2.2.2.2.2+List.length ([(e7.1,r9)]:List QLit)) 32)
  (rec (x.1,(IntKind.wrap .i64 (x.2.1+1)),x.2.2.1,x.2.2.2.1,x.2.2.2.2.1,(x.2.2.2.2.2++([(e7.1,r9)]:List QLit))))
  (none))
 (some x.2.2.2.2.2)
def ref8_Copy (a0:(List (Int×(List Int)))) (a1:(List QLit)) (a2:(List (List Int))) (a3:(List QLit)):Option ((List QLit)×(List (List Int))×(List QLit)) :=
 ((lp ref8_Copy_L0 fuel) (a0,0,a1,a2,a3,([]:(List QLit)))).bind fun r28 =>
 ((lp ref8_Copy_L1 fuel) (a0,0,a1,a2,a3,r28,([]:(List (List Int))))).bind fun r29 =>
 ((lp ref8_Copy_L2 fuel) (a0,0,a1,a2,a3,r29.1,r29.2,([]:(List QLit)))).bind fun r30 =>
 some (r30.1,r30.2.1,r30.2.2)
def ref13_apart_L0 (rec:(Int×(List Int)×Int×(List QLit)×(List (List Int))×(List QLit)×(List (Int×(List Int))))→Option ((List (Int×(List Int)))⊕Bool)) (x:(Int×(List Int)×Int×(List QLit)×(List (List Int))×(List QLit)×(List (Int×(List Int))))):Option ((List (Int×(List Int)))⊕Bool) :=
 cond (decide (x.2.2.1<((List.length x.2.1:Nat):Int)))
 ((gx x.2.1 x.2.2.1).bind fun e11 =>
  cond (decide ((IntKind.wrap .i64 (e11+x.1))>23))
  (some (Sum.inr false))
  ((gx x.2.1 x.2.2.1).bind fun e12 =>
   (gx x.2.1 x.2.2.1).bind fun e13 =>
   cond (room (List.length x.2.2.2.2.2.2+List.length ([(e12,([(IntKind.wrap .i64 ((IntKind.wrap .i64 ((-1) - e13)) - x.1))]:List Int))]:List (Int×(List Int)))) 32)
   (rec (x.1,x.2.1,(IntKind.wrap .i64 (x.2.2.1+1)),x.2.2.2.1,x.2.2.2.2.1,x.2.2.2.2.2.1,(x.2.2.2.2.2.2++([(e12,([(IntKind.wrap .i64 ((IntKind.wrap .i64 ((-1) - e13)) - x.1))]:List Int))]:List (Int×(List Int))))))
   (none)))
 (some (Sum.inl x.2.2.2.2.2.2))
def ref13_apart (a0:(List QLit)) (a1:(List (List Int))) (a2:(List QLit)) (a3:(List QLit)) (a4:(List (List Int))) (a5:(List QLit)):Option ((List QLit)×(List (List Int))×Bool×(List QLit)) :=
 (ref8_VarsOf a0 a1 a2).bind fun r23 =>
 cond (decide (((List.length r23:Nat):Int)>0))
 ((inR (IntKind.wrap .i64 (((List.length r23:Nat):Int) - 1)) (List.length r23)).bind fun k24 =>
  (r23[k24]?).bind fun x25 =>
  (ref8_VarsOf a3 a4 a5).bind fun r26 =>
  ((lp ref13_apart_L0 fuel) ((IntKind.wrap .i64 (x25+1)),r26,0,a3,a4,a5,([]:(List (Int×(List Int)))))).bind fun r27 =>
  caseS r27
  (fun z28=>(ref8_Copy z28 a3 a4 a5).bind fun r29 =>
   some (r29.1,r29.2.1,true,r29.2.2))
  (fun z30=>some (([]:(List QLit)),([]:(List (List Int))),z30,([]:(List QLit)))))
 ((ref8_VarsOf a3 a4 a5).bind fun r31 =>
  ((lp ref13_apart_L0 fuel) (0,r31,0,a3,a4,a5,([]:(List (Int×(List Int)))))).bind fun r32 =>
  caseS r32
  (fun z33=>(ref8_Copy z33 a3 a4 a5).bind fun r34 =>
   some (r34.1,r34.2.1,true,r34.2.2))
  (fun z35=>some (([]:(List QLit)),([]:(List (List Int))),z35,([]:(List QLit)))))
def ref1_store_walk_L0 (rec:((List Int)×(List (List Int)))→Option (List Int)) (x:((List Int)×(List (List Int)))):Option (List Int) :=
 cond (((List.length x.1:Nat):Int)==1)
 ((gx x.1 0).bind fun e8 =>
  cond (decide (e8<0))
  ((gx x.1 0).bind fun e9 =>
   (inR (IntKind.wrap .i64 ((-1) - e9)) 48).bind fun k10 =>
   (x.2[k10]?).bind fun x11 =>
   cond (decide (((List.length x11:Nat):Int)>0))
   ((gx x.1 0).bind fun e12 =>
    (inR (IntKind.wrap .i64 ((-1) - e12)) 48).bind fun k13 =>
    (x.2[k13]?).bind fun x14 =>
    rec (x14,x.2))
   (some x.1))
  (some x.1))
 (some x.1)
def ref1_store_walk (a0:(List Int)) (a1:(List (List Int))):Option (List Int) :=
 ((lp ref1_store_walk_L0 fuel) (a0,a1)).bind fun r16 =>
 some r16
def ref1_Same_L0 (rec:((List Int)×(List Int)×Int)→Option (Unit⊕Bool)) (x:((List Int)×(List Int)×Int)):Option (Unit⊕Bool) :=
 cond (decide (x.2.2<((List.length x.1:Nat):Int)))
 ((gx x.1 x.2.2).bind fun e3 =>
  (gx x.2.1 x.2.2).bind fun e4 =>
  cond (e3 != e4)
  (some (Sum.inr false))
  (rec (x.1,x.2.1,(IntKind.wrap .i64 (x.2.2+1)))))
 (some (Sum.inl ()))
def ref1_Same (a0:(List Int)) (a1:(List Int)):Option Bool :=
 cond (((List.length a0:Nat):Int) != ((List.length a1:Nat):Int))
 (some false)
 (((lp ref1_Same_L0 fuel) (a0,a1,0)).bind fun r8 =>
  caseS r8
  (fun _z9=>some true)
  (fun z10=>some z10))
def ref1_store_inside_L0 (rf:((Int×(List Int)×(List (List Int)))→Option Bool)) (rec:(Int×(List Int)×Int×(List (List Int)))→Option (Unit⊕Bool)) (x:(Int×(List Int)×Int×(List (List Int)))):Option (Unit⊕Bool) :=
 cond (decide (x.2.2.1<((List.length x.2.1:Nat):Int)))
 ((gx x.2.1 x.2.2.1).bind fun e8 =>
  cond (decide (e8≥0))
  (rec (x.1,x.2.1,(IntKind.wrap .i64 (x.2.2.1+1)),x.2.2.2))
  ((gx x.2.1 x.2.2.1).bind fun e9 =>
   cond ((IntKind.wrap .i64 ((-1) - e9))==x.1)
   (some (Sum.inr true))
   ((inR (IntKind.wrap .i64 ((-1) - e9)) 48).bind fun k10 =>
    (x.2.2.2[k10]?).bind fun x11 =>
    cond (decide (((List.length x11:Nat):Int)>0))
    ((inR (IntKind.wrap .i64 ((-1) - e9)) 48).bind fun k12 =>
     (x.2.2.2[k12]?).bind fun x13 =>
     (rf (x.1,x13,x.2.2.2)).bind fun r14 =>
     cond r14
     (some (Sum.inr true))
     (rec (x.1,x.2.1,(IntKind.wrap .i64 (x.2.2.1+1)),x.2.2.2)))
    (rec (x.1,x.2.1,(IntKind.wrap .i64 (x.2.2.1+1)),x.2.2.2)))))
 (some (Sum.inl ()))
def ref1_store_inside_S (rf:((Int×(List Int)×(List (List Int)))→Option Bool)) (a0:Int) (a1:(List Int)) (a2:(List (List Int))):Option Bool :=
 ((lp (ref1_store_inside_L0 rf) fuel) (a0,a1,0,a2)).bind fun r18 =>
 caseS r18
 (fun _z19=>some false)
 (fun z20=>some z20)
def ref1_store_inside_R_step (rf:((Int×(List Int)×(List (List Int)))→Option Bool)):((Int×(List Int)×(List (List Int)))→Option Bool) :=
 fun (x:(Int×(List Int)×(List (List Int))))=>ref1_store_inside_S rf x.1 x.2.1 x.2.2
def ref1_store_inside_R_base:((Int×(List Int)×(List (List Int)))→Option Bool):=fun _=>none
def ref1_store_inside_R (k:Nat):((Int×(List Int)×(List (List Int)))→Option Bool):=lpR ref1_store_inside_R_base ref1_store_inside_R_step k
def ref1_store_inside (a0:Int) (a1:(List Int)) (a2:(List (List Int))):Option Bool:=(ref1_store_inside_R fuel) (a0,a1,a2)
def ref1_store_pair1_1 (a0:(List Int)) (a1:(List Int)) (a2:Bool) (a3:(List (List Int))):Option (Bool×(List (List Int))) :=
 (gx a0 0).bind fun e8 =>
 cond a2
 ((gx a1 0).bind fun e9 =>
  (inR (IntKind.wrap .i64 ((-1) - e9)) 48).bind fun k10 =>
  (a3[k10]?).bind fun _x11 =>
  some (true,(List.set a3 k10 a0)))
 ((ref1_store_inside (IntKind.wrap .i64 ((-1) - e8)) a1 a3).bind fun r12 =>
  cond r12
  (some (false,a3))
  ((inR (IntKind.wrap .i64 ((-1) - e8)) 48).bind fun k13 =>
   (a3[k13]?).bind fun _x14 =>
   some (true,(List.set a3 k13 a1))))
def ref1_store_pair_1_S (rf:((((List QSym)×(List Int)×(List Int)×(List (List Int)))→Option (Bool×(List (List Int))))×(((List QSym)×(List (List Int))×(List (List Int))×(List (List Int)))→Option (Bool×(List (List Int)))))) (a0:(List QSym)) (a1:(List Int)) (a2:(List Int)) (a3:(List (List Int))):Option (Bool×(List (List Int))) :=
 (ref1_store_walk a1 a3).bind fun r82 =>
 (ref1_store_walk a2 a3).bind fun r83 =>
 (ref1_Same r82 r83).bind fun r84 =>
 cond r84
 (some (true,a3))
 ((gx r82 0).bind fun e85 =>
  cond (decide (e85<0))
  ((gx r83 0).bind fun e86 =>
   cond (decide (e86<0))
   ((gx r82 0).bind fun e87 =>
    (gx r83 0).bind fun e88 =>
    cond (decide (e87<e88))
    ((gx r82 0).bind fun e89 =>
     (ref1_store_pair1_1 r83 r82 (decide (e89<0)) a3).bind fun r90 =>
     some (r90.1,r90.2))
    ((gx r82 0).bind fun e91 =>
     cond (decide (e91≥0))
     ((gx r83 0).bind fun e92 =>
      cond (decide (e92<0))
      ((gx r82 0).bind fun e93 =>
       (ref1_store_pair1_1 r83 r82 (decide (e93<0)) a3).bind fun r94 =>
       some (r94.1,r94.2))
      ((gx r82 0).bind fun e95 =>
       cond (decide (e95<0))
       ((gx r83 0).bind fun e96 =>
        (ref1_store_pair1_1 r82 r83 (decide (e96<0)) a3).bind fun r97 =>
        some (r97.1,r97.2))
       ((gx r82 0).bind fun e98 =>
        (gx r83 0).bind fun e99 =>
        cond (e98 != e99)
        (some (false,a3))
        ((slc2 r82 (some 1) none).bind fun y100 =>
         (ref1_Parts a0 y100).bind fun r101 =>
         (slc2 r83 (some 1) none).bind fun y102 =>
         (ref1_Parts a0 y102).bind fun r103 =>
         (rf.2 (a0,r101,r103,a3)).bind fun r104 =>
         some (r104.1,r104.2)))))
     ((gx r82 0).bind fun e105 =>
      cond (decide (e105<0))
      ((gx r83 0).bind fun e106 =>
       (ref1_store_pair1_1 r82 r83 (decide (e106<0)) a3).bind fun r107 =>
       some (r107.1,r107.2))
      ((gx r82 0).bind fun e108 =>
       (gx r83 0).bind fun e109 =>
       cond (e108 != e109)
       (some (false,a3))
       ((slc2 r82 (some 1) none).bind fun y110 =>
        (ref1_Parts a0 y110).bind fun r111 =>
        (slc2 r83 (some 1) none).bind fun y112 =>
        (ref1_Parts a0 y112).bind fun r113 =>
        (rf.2 (a0,r111,r113,a3)).bind fun r114 =>
        some (r114.1,r114.2))))))
   ((gx r82 0).bind fun e115 =>
    cond (decide (e115≥0))
    ((gx r83 0).bind fun e116 =>
     cond (decide (e116<0))
     ((gx r82 0).bind fun e117 =>
      (ref1_store_pair1_1 r83 r82 (decide (e117<0)) a3).bind fun r118 =>
      some (r118.1,r118.2))
     ((gx r82 0).bind fun e119 =>
      cond (decide (e119<0))
      ((gx r83 0).bind fun e120 =>
       (ref1_store_pair1_1 r82 r83 (decide (e120<0)) a3).bind fun r121 =>
       some (r121.1,r121.2))
      ((gx r82 0).bind fun e122 =>
       (gx r83 0).bind fun e123 =>
       cond (e122 != e123)
       (some (false,a3))
       ((slc2 r82 (some 1) none).bind fun y124 =>
        (ref1_Parts a0 y124).bind fun r125 =>
        (slc2 r83 (some 1) none).bind fun y126 =>
        (ref1_Parts a0 y126).bind fun r127 =>
        (rf.2 (a0,r125,r127,a3)).bind fun r128 =>
        some (r128.1,r128.2)))))
    ((gx r82 0).bind fun e129 =>
     cond (decide (e129<0))
     ((gx r83 0).bind fun e130 =>
      (ref1_store_pair1_1 r82 r83 (decide (e130<0)) a3).bind fun r131 =>
      some (r131.1,r131.2))
     ((gx r82 0).bind fun e132 =>
      (gx r83 0).bind fun e133 =>
      cond (e132 != e133)
      (some (false,a3))
      ((slc2 r82 (some 1) none).bind fun y134 =>
       (ref1_Parts a0 y134).bind fun r135 =>
       (slc2 r83 (some 1) none).bind fun y136 =>
       (ref1_Parts a0 y136).bind fun r137 =>
       (rf.2 (a0,r135,r137,a3)).bind fun r138 =>
       some (r138.1,r138.2))))))
  ((gx r82 0).bind fun e139 =>
   cond (decide (e139≥0))
   ((gx r83 0).bind fun e140 =>
    cond (decide (e140<0))
    ((gx r82 0).bind fun e141 =>
     (ref1_store_pair1_1 r83 r82 (decide (e141<0)) a3).bind fun r142 =>
     some (r142.1,r142.2))
    ((gx r82 0).bind fun e143 =>
     cond (decide (e143<0))
     ((gx r83 0).bind fun e144 =>
      (ref1_store_pair1_1 r82 r83 (decide (e144<0)) a3).bind fun r145 =>
      some (r145.1,r145.2))
     ((gx r82 0).bind fun e146 =>
      (gx r83 0).bind fun e147 =>
      cond (e146 != e147)
      (some (false,a3))
      ((slc2 r82 (some 1) none).bind fun y148 =>
       (ref1_Parts a0 y148).bind fun r149 =>
       (slc2 r83 (some 1) none).bind fun y150 =>
       (ref1_Parts a0 y150).bind fun r151 =>
       (rf.2 (a0,r149,r151,a3)).bind fun r152 =>
       some (r152.1,r152.2)))))
   ((gx r82 0).bind fun e153 =>
    cond (decide (e153<0))
    ((gx r83 0).bind fun e154 =>
     (ref1_store_pair1_1 r82 r83 (decide (e154<0)) a3).bind fun r155 =>
     some (r155.1,r155.2))
    ((gx r82 0).bind fun e156 =>
     (gx r83 0).bind fun e157 =>
     cond (e156 != e157)
     (some (false,a3))
     ((slc2 r82 (some 1) none).bind fun y158 =>
      (ref1_Parts a0 y158).bind fun r159 =>
      (slc2 r83 (some 1) none).bind fun y160 =>
      (ref1_Parts a0 y160).bind fun r161 =>
      (rf.2 (a0,r159,r161,a3)).bind fun r162 =>
      some (r162.1,r162.2))))))
def ref1_store_all_1_L0 (rf:((((List QSym)×(List Int)×(List Int)×(List (List Int)))→Option (Bool×(List (List Int))))×(((List QSym)×(List (List Int))×(List (List Int))×(List (List Int)))→Option (Bool×(List (List Int)))))) (rec:((List QSym)×(List (List Int))×(List (List Int))×Int×(List (List Int)))→Option ((List (List Int))⊕(Bool×(List (List Int))))) (x:((List QSym)×(List (List Int))×(List (List Int))×Int×(List (List Int)))):Option ((List (List Int))⊕(Bool×(List (List Int)))) :=
 cond (decide (x.2.2.2.1<((List.length x.2.1:Nat):Int)))
 ((gx x.2.1 x.2.2.2.1).bind fun e7 =>
  (gx x.2.2.1 x.2.2.2.1).bind fun e8 =>
  (rf.1 (x.1,e7,e8,x.2.2.2.2)).bind fun r9 =>
  cond (!r9.1)
  (some (Sum.inr (false,r9.2)))
  (rec (x.1,x.2.1,x.2.2.1,(IntKind.wrap .i64 (x.2.2.2.1+1)),r9.2)))
 (some (Sum.inl x.2.2.2.2))
def ref1_store_all_1_S (rf:((((List QSym)×(List Int)×(List Int)×(List (List Int)))→Option (Bool×(List (List Int))))×(((List QSym)×(List (List Int))×(List (List Int))×(List (List Int)))→Option (Bool×(List (List Int)))))) (a0:(List QSym)) (a1:(List (List Int))) (a2:(List (List Int))) (a3:(List (List Int))):Option (Bool×(List (List Int))) :=
 ((lp (ref1_store_all_1_L0 rf) fuel) (a0,a1,a2,0,a3)).bind fun r13 =>
 caseS r13
 (fun z14=>some (true,z14))
 (fun z15=>some (z15.1,z15.2))
def ref1_store_all_1_R_step (rf:((((List QSym)×(List Int)×(List Int)×(List (List Int)))→Option (Bool×(List (List Int))))×(((List QSym)×(List (List Int))×(List (List Int))×(List (List Int)))→Option (Bool×(List (List Int)))))):((((List QSym)×(List Int)×(List Int)×(List (List Int)))→Option (Bool×(List (List Int))))×(((List QSym)×(List (List Int))×(List (List Int))×(List (List Int)))→Option (Bool×(List (List Int))))) :=
 (fun (x:((List QSym)×(List Int)×(List Int)×(List (List Int))))=>ref1_store_pair_1_S rf x.1 x.2.1 x.2.2.1 x.2.2.2,fun (x:((List QSym)×(List (List Int))×(List (List Int))×(List (List Int))))=>ref1_store_all_1_S rf x.1 x.2.1 x.2.2.1 x.2.2.2)
def ref1_store_all_1_R_base:((((List QSym)×(List Int)×(List Int)×(List (List Int)))→Option (Bool×(List (List Int))))×(((List QSym)×(List (List Int))×(List (List Int))×(List (List Int)))→Option (Bool×(List (List Int))))):=(fun _=>none,fun _=>none)
def ref1_store_all_1_R (k:Nat):((((List QSym)×(List Int)×(List Int)×(List (List Int)))→Option (Bool×(List (List Int))))×(((List QSym)×(List (List Int))×(List (List Int))×(List (List Int)))→Option (Bool×(List (List Int))))):=lpR ref1_store_all_1_R_base ref1_store_all_1_R_step k
def ref1_store_all_1 (a0:(List QSym)) (a1:(List (List Int))) (a2:(List (List Int))) (a3:(List (List Int))):Option (Bool×(List (List Int))):=(ref1_store_all_1_R fuel).2 (a0,a1,a2,a3)
def ref1_store_full_1_L0 (rf:(((List Int)×(List (List Int))×(List Int))→Option (List Int))) (rec:((List Int)×Int×(List (List Int))×(List Int))→Option (List Int)) (x:((List Int)×Int×(List (List Int))×(List Int))):Option (List Int) :=
 cond (decide (x.2.1<((List.length x.1:Nat):Int)))
 (cond (decide (((List.length x.2.2.2:Nat):Int)≤48))
  ((gx x.1 x.2.1).bind fun e19 =>
   cond (decide (e19<0))
   ((gx x.1 x.2.1).bind fun e20 =>
    (inR (IntKind.wrap .i64 ((-1) - e20)) 48).bind fun k21 =>
    (x.2.2.1[k21]?).bind fun x22 =>
    cond (decide (((List.length x22:Nat):Int)>0))
    ((gx x.1 x.2.1).bind fun e23 =>
     (inR (IntKind.wrap .i64 ((-1) - e23)) 48).bind fun k24 =>
     (x.2.2.1[k24]?).bind fun x25 =>
     (rf (x25,x.2.2.1,x.2.2.2)).bind fun r26 =>
     rec (x.1,(IntKind.wrap .i64 (x.2.1+1)),x.2.2.1,r26))
    ((gx x.1 x.2.1).bind fun e27 =>
     cond (room (List.length x.2.2.2+List.length ([e27]:List Int)) 8)
     (rec (x.1,(IntKind.wrap .i64 (x.2.1+1)),x.2.2.1,(x.2.2.2++([e27]:List Int))))
     (none)))
   ((gx x.1 x.2.1).bind fun e28 =>
    cond (room (List.length x.2.2.2+List.length ([e28]:List Int)) 8)
    (rec (x.1,(IntKind.wrap .i64 (x.2.1+1)),x.2.2.1,(x.2.2.2++([e28]:List Int))))
    (none)))
  (some x.2.2.2))
 (some x.2.2.2)
def ref1_store_full_1_S (rf:(((List Int)×(List (List Int))×(List Int))→Option (List Int))) (a0:(List Int)) (a1:(List (List Int))) (a2:(List Int)):Option (List Int) :=
 ((lp (ref1_store_full_1_L0 rf) fuel) (a0,0,a1,a2)).bind fun r30 =>
 some r30
def ref1_store_full_1_R_step (rf:(((List Int)×(List (List Int))×(List Int))→Option (List Int))):(((List Int)×(List (List Int))×(List Int))→Option (List Int)) :=
 fun (x:((List Int)×(List (List Int))×(List Int)))=>ref1_store_full_1_S rf x.1 x.2.1 x.2.2
def ref1_store_full_1_R_base:(((List Int)×(List (List Int))×(List Int))→Option (List Int)):=fun _=>none
def ref1_store_full_1_R (k:Nat):(((List Int)×(List (List Int))×(List Int))→Option (List Int)):=lpR ref1_store_full_1_R_base ref1_store_full_1_R_step k
def ref1_store_full_1 (a0:(List Int)) (a1:(List (List Int))) (a2:(List Int)):Option (List Int):=(ref1_store_full_1_R fuel) (a0,a1,a2)
def ref1_Together_L0 (rec:(Int×(List (List Int))×(List (Int×(List Int))))→Option ((List (Int×(List Int)))⊕(Bool×Bool))) (x:(Int×(List (List Int))×(List (Int×(List Int))))):Option ((List (Int×(List Int)))⊕(Bool×Bool)) :=
 cond (decide (x.1≤23))
 ((inR x.1 48).bind fun k14 =>
  (x.2.1[k14]?).bind fun x15 =>
  cond (((List.length x15:Nat):Int)==0)
  (rec ((IntKind.wrap .i64 (x.1+1)),x.2.1,x.2.2))
  ((inR x.1 48).bind fun k16 =>
   (x.2.1[k16]?).bind fun x17 =>
   (ref1_store_full_1 x17 x.2.1 ([]:(List Int))).bind fun r18 =>
   cond (decide (((List.length r18:Nat):Int)>48))
   (some (Sum.inr (true,false)))
   (cond (room (List.length x.2.2+List.length ([(x.1,r18)]:List (Int×(List Int)))) 32)
    (rec ((IntKind.wrap .i64 (x.1+1)),x.2.1,(x.2.2++([(x.1,r18)]:List (Int×(List Int))))))
    (none))))
 (some (Sum.inl x.2.2))
def ref1_Together (a0:(List QSym)) (a1:(List Int)) (a2:(List Int)):Option (Bool×Bool×(List (Int×(List Int)))) :=
 (ref1_Parts a0 a1).bind fun r22 =>
 (ref1_Parts a0 a2).bind fun r23 =>
 cond (((List.length r22:Nat):Int) != ((List.length r23:Nat):Int))
 (some (false,true,([]:(List (Int×(List Int))))))
 ((ref1_store_all_1 a0 r22 r23 (List.replicate 48 ([]:(List Int)))).bind fun r24 =>
  cond (!r24.1)
  (some (false,true,([]:(List (Int×(List Int))))))
  (((lp ref1_Together_L0 fuel) (0,r24.2,([]:(List (Int×(List Int)))))).bind fun r25 =>
   caseS r25
   (fun z26=>some (true,true,z26))
   (fun z27=>some (z27.1,z27.2,([]:(List (Int×(List Int))))))))
def ref13_without (a0:(List QLit)) (a1:Int):Option (List QLit) :=
 (slc2 a0 none (some a1)).bind fun y3 =>
 cond (room (List.length ([]:List QLit)+List.length y3) 32)
 ((slc2 a0 (some (IntKind.wrap .i64 (a1+1))) none).bind fun y4 =>
  cond (room (List.length (([]:List QLit)++y3)+List.length y4) 32)
  (some ((([]:List QLit)++y3)++y4))
  (none))
 (none)
def ref13_both (a0:(List QLit)) (_a1:(List QLit)) (a2:(List (List Int))) (a3:(List QLit)) (_a4:(List QLit)) (a5:(List (List Int))) (a6:(List QLit)):Option ((List QLit)×(List (List Int))×(List QLit)) :=
 cond (room (List.length a2) 24)
 (cond (room (List.length a2+List.length a5) 24)
  (cond (room (List.length a3) 32)
   (cond (room (List.length a3+List.length a6) 32)
    (some (a0,(a2++a5),(a3++a6)))
    (none))
   (none))
  (none))
 (none)
def ref8_SameLit (a0:Bool) (a1:(List Int)) (a2:Bool) (a3:(List Int)):Option Bool :=
 cond (a0==a2)
 ((ref1_Same a1 a3).bind fun r2 =>
  some r2)
 (some false)
def ref8_lits_L0 (rec:((List QLit)×Int×Bool×Int×(List QLit))→Option (Bool×(List QLit))) (x:((List QLit)×Int×Bool×Int×(List QLit))):Option (Bool×(List QLit)) :=
 cond (decide (x.2.2.2.1<((List.length x.2.2.2.2:Nat):Int)))
 (cond x.2.2.1
  (rec (x.1,x.2.1,true,(IntKind.wrap .i64 (x.2.2.2.1+1)),x.2.2.2.2))
  ((inR x.2.2.2.1 (List.length x.2.2.2.2)).bind fun k7 =>
   (x.2.2.2.2[k7]?).bind fun x8 =>
   (gx x.1 x.2.1).bind fun e9 =>
   (ref8_SameLit x8.1 x8.2 e9.1 e9.2).bind fun r10 =>
   rec (x.1,x.2.1,r10,(IntKind.wrap .i64 (x.2.2.2.1+1)),x.2.2.2.2)))
 (some (x.2.2.1,x.2.2.2.2))
def ref8_lits_L1 (rec:((List QLit)×Int×(List QLit))→Option (List QLit)) (x:((List QLit)×Int×(List QLit))):Option (List QLit) :=
 cond (decide (x.2.1<((List.length x.1:Nat):Int)))
 (((lp ref8_lits_L0 fuel) (x.1,x.2.1,false,0,x.2.2)).bind fun r13 =>
  cond (!r13.1)
  ((gx x.1 x.2.1).bind fun e14 =>
   cond (room (List.length r13.2+List.length ([(e14.1,e14.2)]:List QLit)) 32)
   (rec (x.1,(IntKind.wrap .i64 (x.2.1+1)),(r13.2++([(e14.1,e14.2)]:List QLit))))
   (none))
  (rec (x.1,(IntKind.wrap .i64 (x.2.1+1)),r13.2)))
 (some x.2.2)
def ref8_lits (a0:(List QLit)):Option (List QLit) :=
 ((lp ref8_lits_L1 fuel) (a0,0,([]:(List QLit)))).bind fun r16 =>
 some r16
def ref8_Norm_L2 (rec:((List (List Int))×Int×Int×(List QLit)×(List (List Int))×(List QLit)×(List (Int×(List Int))))→Option (List (Int×(List Int)))) (x:((List (List Int))×Int×Int×(List QLit)×(List (List Int))×(List QLit)×(List (Int×(List Int))))):Option (List (Int×(List Int))) :=
 (gx x.1 x.2.1).bind fun e29 =>
 cond (decide (x.2.2.1<((List.length e29:Nat):Int)))
 ((gx x.1 x.2.1).bind fun e30 =>
  (gx e30 x.2.2.1).bind fun e31 =>
  cond (decide (e31<0))
  ((ref1_Of x.2.2.2.2.2.2 (IntKind.wrap .i64 ((-1) - e31))).bind fun r32 =>
   cond (decide (r32<0))
   (cond (room (List.length x.2.2.2.2.2.2+List.length ([((IntKind.wrap .i64 ((-1) - e31)),([(IntKind.wrap .i64 ((-1) - ((List.length x.2.2.2.2.2.2:Nat):Int)))]:List Int))]:List (Int×(List Int)))) 32)
    (rec (x.1,x.2.1,(IntKind.wrap .i64 (x.2.2.1+1)),x.2.2.2.1,x.2.2.2.2.1,x.2.2.2.2.2.1,(x.2.2.2.2.2.2++([((IntKind.wrap .i64 ((-1) - e31)),([(IntKind.wrap .i64 ((-1) - ((List.length x.2.2.2.2.2.2:Nat):Int)))]:List Int))]:List (Int×(List Int))))))
    (none))
   (rec (x.1,x.2.1,(IntKind.wrap .i64 (x.2.2.1+1)),x.2.2.2.1,x.2.2.2.2.1,x.2.2.2.2.2.1,x.2.2.2.2.2.2)))
  (rec (x.1,x.2.1,(IntKind.wrap .i64 (x.2.2.1+1)),x.2.2.2.1,x.2.2.2.2.1,x.2.2.2.2.2.1,x.2.2.2.2.2.2)))
 (some x.2.2.2.2.2.2)
def ref8_Norm_L0 (rec:(Int×Bool×Int×(List QLit)×(List (List Int))×(List QLit)×(List QLit)×(List QLit)×(List (List Int)))→Option (Bool×(List QLit)×(List QLit)×(List (List Int)))) (x:(Int×Bool×Int×(List QLit)×(List (List Int))×(List QLit)×(List QLit)×(List QLit)×(List (List Int)))):Option (Bool×(List QLit)×(List QLit)×(List (List Int))) :=
 cond (decide (x.2.2.1<((List.length x.2.2.2.2.2.2.2.2:Nat):Int)))
 (cond x.2.1
  (rec (x.1,true,(IntKind.wrap .i64 (x.2.2.1+1)),x.2.2.2.1,x.2.2.2.2.1,x.2.2.2.2.2.1,x.2.2.2.2.2.2.1,x.2.2.2.2.2.2.2.1,x.2.2.2.2.2.2.2.2))
  ((inR x.2.2.1 (List.length x.2.2.2.2.2.2.2.2)).bind fun k9 =>
   (x.2.2.2.2.2.2.2.2[k9]?).bind fun x10 =>
   (gx x.2.2.2.2.1 x.1).bind fun e11 =>
   (ref1_Same x10 e11).bind fun r12 =>
   rec (x.1,r12,(IntKind.wrap .i64 (x.2.2.1+1)),x.2.2.2.1,x.2.2.2.2.1,x.2.2.2.2.2.1,x.2.2.2.2.2.2.1,x.2.2.2.2.2.2.2.1,x.2.2.2.2.2.2.2.2)))
 (some (x.2.1,x.2.2.2.2.2.2.1,x.2.2.2.2.2.2.2.1,x.2.2.2.2.2.2.2.2))
def ref8_Norm_L3 (rec:((List (List Int))×Int×(List QLit)×(List (List Int))×(List QLit)×(List (Int×(List Int))))→Option (List (Int×(List Int)))) (x:((List (List Int))×Int×(List QLit)×(List (List Int))×(List QLit)×(List (Int×(List Int))))):Option (List (Int×(List Int))) :=
 cond (decide (x.2.1<((List.length x.1:Nat):Int)))
 (((lp ref8_Norm_L2 fuel) (x.1,x.2.1,0,x.2.2.1,x.2.2.2.1,x.2.2.2.2.1,x.2.2.2.2.2)).bind fun r35 =>
  rec (x.1,(IntKind.wrap .i64 (x.2.1+1)),x.2.2.1,x.2.2.2.1,x.2.2.2.2.1,r35))
 (some x.2.2.2.2.2)
def ref8_Norm_L1 (rec:(Int×(List QLit)×(List (List Int))×(List QLit)×(List QLit)×(List QLit)×(List (List Int)))→Option ((List QLit)×(List QLit)×(List (List Int)))) (x:(Int×(List QLit)×(List (List Int))×(List QLit)×(List QLit)×(List QLit)×(List (List Int)))):Option ((List QLit)×(List QLit)×(List (List Int))) :=
 cond (decide (x.1<((List.length x.2.2.1:Nat):Int)))
 (((lp ref8_Norm_L0 fuel) (x.1,false,0,x.2.1,x.2.2.1,x.2.2.2.1,x.2.2.2.2.1,x.2.2.2.2.2.1,x.2.2.2.2.2.2)).bind fun r17 =>
  cond (!r17.1)
  ((gx x.2.2.1 x.1).bind fun e18 =>
   cond (room (List.length r17.2.2.2+List.length ([e18]:List (List Int))) 24)
   (rec ((IntKind.wrap .i64 (x.1+1)),x.2.1,x.2.2.1,x.2.2.2.1,r17.2.1,r17.2.2.1,(r17.2.2.2++([e18]:List (List Int)))))
   (none))
  (rec ((IntKind.wrap .i64 (x.1+1)),x.2.1,x.2.2.1,x.2.2.2.1,r17.2.1,r17.2.2.1,r17.2.2.2)))
 (some (x.2.2.2.2.1,x.2.2.2.2.2.1,x.2.2.2.2.2.2))
def ref8_Norm (a0:(List QLit)) (a1:(List (List Int))) (a2:(List QLit)):Option ((List QLit)×(List (List Int))×(List QLit)) :=
 (ref8_lits a0).bind fun r38 =>
 (ref8_lits a2).bind fun r39 =>
 ((lp ref8_Norm_L1 fuel) (0,a0,a1,a2,r38,r39,([]:(List (List Int))))).bind fun r40 =>
 (ref8_rows r40.1 r40.2.2 r40.2.1).bind fun r41 =>
 ((lp ref8_Norm_L3 fuel) (r41,0,r40.1,r40.2.2,r40.2.1,([]:(List (Int×(List Int)))))).bind fun r42 =>
 (ref8_Copy r42 r40.1 r40.2.2 r40.2.1).bind fun r43 =>
 some (r43.1,r43.2.1,r43.2.2)
def ref13_done (a0:(List QSym)) (a1:(List (Int×(List Int)))) (a2:(List QLit)) (a3:(List (List Int))) (a4:(List QLit)):Option ((List QLit)×(List (List Int))×Bool×(List QLit)) :=
 (ref8_Copy a1 a2 a3 a4).bind fun r4 =>
 (ref8_May a0 r4.1 r4.2.1 r4.2.2).bind fun r5 =>
 cond (!r5)
 (some (([]:(List QLit)),([]:(List (List Int))),false,([]:(List QLit))))
 ((ref8_Norm r4.1 r4.2.1 r4.2.2).bind fun r6 =>
  some (r6.1,r6.2.1,true,r6.2.2))
end Go.Abs.Q
namespace Go.Abs.Q
open Go Go.Abs
def ref1_Of_L0_go (s1:Int):List (Int×(List Int))→Nat→Option (Unit⊕Int)
 | [],_i=>some (Sum.inl ())
 | e::es,i =>
  cond (e.1==s1)
  (some (Sum.inr (i:Int)))
  (ref1_Of_L0_go s1 es (i+1))
theorem ref1_Of_L0_go_at0 (s0:(List (Int×(List Int)))) (s1:Int) (hl:List.length s0≤maxLen):lp ref1_Of_L0 fuel (s0,s1,0)=ref1_Of_L0_go s1 s0 0:=rngl0 ref1_Of_L0 (fun i=>(s0,s1,i)) (fun es i=>ref1_Of_L0_go s1 es i) hl (fun r i h=>by unfold ref1_Of_L0 ref1_Of_L0_go; simp only[h,cond_false]) (fun r i e es h g w k=>by unfold ref1_Of_L0 ref1_Of_L0_go; simp only[h,cond_true,g,Option.bind_some,w,k])
def ref1_Put_L0_go (s0:(List (Int×(List Int)))):List Int→(List Int)→Option (List Int)
 | [],s3=>some s3
 | e::es,s3 =>
  cond (decide (e<0))
  ((ref1_Of s0 (IntKind.wrap .i64 ((-1) - e))).bind fun r18 =>
   cond (decide (r18<0))
   (cond (room (List.length s3+List.length ([e]:List Int)) 8)
    (ref1_Put_L0_go s0 es (s3++([e]:List Int)))
    (none))
   ((gx s0 r18).bind fun e20 =>
    cond (room (List.length s3+List.length e20.2) 8)
    (ref1_Put_L0_go s0 es (s3++e20.2))
    (none)))
  (cond (room (List.length s3+List.length ([e]:List Int)) 8)
   (ref1_Put_L0_go s0 es (s3++([e]:List Int)))
   (none))
theorem ref1_Put_L0_go_at0 (s0:(List (Int×(List Int)))) (s1:(List Int)) (s3:(List Int)) (hl:List.length s1≤maxLen):lp ref1_Put_L0 fuel (s0,s1,0,s3)=ref1_Put_L0_go s0 s1 s3:=rngl1 ref1_Put_L0 (fun i s3=>(s0,s1,i,s3)) (fun es i s3=>ref1_Put_L0_go s0 es s3) hl (fun r i s3 h=>by unfold ref1_Put_L0 ref1_Put_L0_go; simp only[h,cond_false]) (fun r i s3 e es h g w k=>by unfold ref1_Put_L0 ref1_Put_L0_go; simp only[h,cond_true,g,Option.bind_some,w,k]) s3
def ref8_Copy_L2_go (s0:(List (Int×(List Int)))) (s5:(List QLit)) (s6:(List (List Int))):List QLit→(List QLit)→Option ((List QLit)×(List (List Int))×(List QLit))
 | [],s7=>some (s5,s6,s7)
 | e::es,s7 =>
  (ref1_Put s0 e.2).bind fun r26 =>
  cond (room (List.length s7+List.length ([(e.1,r26)]:List QLit)) 32)
  (ref8_Copy_L2_go s0 s5 s6 es (s7++([(e.1,r26)]:List QLit)))
  (none)
theorem ref8_Copy_L2_go_at0 (s0:(List (Int×(List Int)))) (s2:(List QLit)) (s3:(List (List Int))) (s4:(List QLit)) (s5:(List QLit)) (s6:(List (List Int))) (s7:(List QLit)) (hl:List.length s4≤maxLen):lp ref8_Copy_L2 fuel (s0,0,s2,s3,s4,s5,s6,s7)=ref8_Copy_L2_go s0 s5 s6 s4 s7:=rngl1 ref8_Copy_L2 (fun i s7=>(s0,i,s2,s3,s4,s5,s6,s7)) (fun es i s7=>ref8_Copy_L2_go s0 s5 s6 es s7) hl (fun r i s7 h=>by unfold ref8_Copy_L2 ref8_Copy_L2_go; simp only[h,cond_false]) (fun r i s7 e es h g w k=>by unfold ref8_Copy_L2 ref8_Copy_L2_go; simp only[h,cond_true,g,Option.bind_some,w,k]) s7
def ref8_Copy_L1_go (s0:(List (Int×(List Int)))) (s5:(List QLit)):List (List Int)→(List (List Int))→Option ((List QLit)×(List (List Int)))
 | [],s6=>some (s5,s6)
 | e::es,s6 =>
  (ref1_Put s0 e).bind fun r16 =>
  cond (room (List.length s6+List.length ([r16]:List (List Int))) 24)
  (ref8_Copy_L1_go s0 s5 es (s6++([r16]:List (List Int))))
  (none)
theorem ref8_Copy_L1_go_at0 (s0:(List (Int×(List Int)))) (s2:(List QLit)) (s3:(List (List Int))) (s4:(List QLit)) (s5:(List QLit)) (s6:(List (List Int))) (hl:List.length s3≤maxLen):lp ref8_Copy_L1 fuel (s0,0,s2,s3,s4,s5,s6)=ref8_Copy_L1_go s0 s5 s3 s6:=rngl1 ref8_Copy_L1 (fun i s6=>(s0,i,s2,s3,s4,s5,s6)) (fun es i s6=>ref8_Copy_L1_go s0 s5 es s6) hl (fun r i s6 h=>by unfold ref8_Copy_L1 ref8_Copy_L1_go; simp only[h,cond_false]) (fun r i s6 e es h g w k=>by unfold ref8_Copy_L1 ref8_Copy_L1_go; simp only[h,cond_true,g,Option.bind_some,w,k]) s6
def ref8_Copy_L0_go (s0:(List (Int×(List Int)))):List QLit→(List QLit)→Option (List QLit)
 | [],s5=>some s5
 | e::es,s5 =>
  (ref1_Put s0 e.2).bind fun r9 =>
  cond (room (List.length s5+List.length ([(e.1,r9)]:List QLit)) 32)
  (ref8_Copy_L0_go s0 es (s5++([(e.1,r9)]:List QLit)))
  (none)
theorem ref8_Copy_L0_go_at0 (s0:(List (Int×(List Int)))) (s2:(List QLit)) (s3:(List (List Int))) (s4:(List QLit)) (s5:(List QLit)) (hl:List.length s2≤maxLen):lp ref8_Copy_L0 fuel (s0,0,s2,s3,s4,s5)=ref8_Copy_L0_go s0 s2 s5:=rngl1 ref8_Copy_L0 (fun i s5=>(s0,i,s2,s3,s4,s5)) (fun es i s5=>ref8_Copy_L0_go s0 es s5) hl (fun r i s5 h=>by unfold ref8_Copy_L0 ref8_Copy_L0_go; simp only[h,cond_false]) (fun r i s5 e es h g w k=>by unfold ref8_Copy_L0 ref8_Copy_L0_go; simp only[h,cond_true,g,Option.bind_some,w,k]) s5
def ref13_apart_L0_go (s0:Int):List Int→(List (Int×(List Int)))→Option ((List (Int×(List Int)))⊕Bool)
 | [],s6=>some (Sum.inl s6)
 | e::es,s6 =>
  cond (decide ((IntKind.wrap .i64 (e+s0))>23))
  (some (Sum.inr false))
  (cond (room (List.length s6+List.length ([(e,([(IntKind.wrap .i64 ((IntKind.wrap .i64 ((-1) - e)) - s0))]:List Int))]:List (Int×(List Int)))) 32)
   (ref13_apart_L0_go s0 es (s6++([(e,([(IntKind.wrap .i64 ((IntKind.wrap .i64 ((-1) - e)) - s0))]:List Int))]:List (Int×(List Int)))))
   (none))
theorem ref13_apart_L0_go_at0 (s0:Int) (s1:(List Int)) (s3:(List QLit)) (s4:(List (List Int))) (s5:(List QLit)) (s6:(List (Int×(List Int)))) (hl:List.length s1≤maxLen):lp ref13_apart_L0 fuel (s0,s1,0,s3,s4,s5,s6)=ref13_apart_L0_go s0 s1 s6:=rngl1 ref13_apart_L0 (fun i s6=>(s0,s1,i,s3,s4,s5,s6)) (fun es i s6=>ref13_apart_L0_go s0 es s6) hl (fun r i s6 h=>by unfold ref13_apart_L0 ref13_apart_L0_go; simp only[h,cond_false]) (fun r i s6 e es h g w k=>by unfold ref13_apart_L0 ref13_apart_L0_go; simp only[h,cond_true,g,Option.bind_some,w,k]) s6
def ref1_Same_L0_go (s1:(List Int)):List Int→Nat→Option (Unit⊕Bool)
 | [],_i=>some (Sum.inl ())
 | e::es,i =>
  (gx s1 (i:Int)).bind fun e4 =>
  cond (e != e4)
  (some (Sum.inr false))
  (ref1_Same_L0_go s1 es (i+1))
theorem ref1_Same_L0_go_at0 (s0:(List Int)) (s1:(List Int)) (hl:List.length s0≤maxLen):lp ref1_Same_L0 fuel (s0,s1,0)=ref1_Same_L0_go s1 s0 0:=rngl0 ref1_Same_L0 (fun i=>(s0,s1,i)) (fun es i=>ref1_Same_L0_go s1 es i) hl (fun r i h=>by unfold ref1_Same_L0 ref1_Same_L0_go; simp only[h,cond_false]) (fun r i e es h g w k=>by unfold ref1_Same_L0 ref1_Same_L0_go; simp only[h,cond_true,g,Option.bind_some,w,k])
def ref1_store_inside_L0_go (rf:((Int×(List Int)×(List (List Int)))→Option Bool)) (s0:Int) (s3:(List (List Int))):List Int→Option (Unit⊕Bool)
 | []=>some (Sum.inl ())
 | e::es =>
  cond (decide (e≥0))
  (ref1_store_inside_L0_go rf s0 s3 es)
  (cond ((IntKind.wrap .i64 ((-1) - e))==s0)
   (some (Sum.inr true))
   ((inR (IntKind.wrap .i64 ((-1) - e)) 48).bind fun k10 =>
    (s3[k10]?).bind fun x11 =>
    cond (decide (((List.length x11:Nat):Int)>0))
    ((inR (IntKind.wrap .i64 ((-1) - e)) 48).bind fun k12 =>
     (s3[k12]?).bind fun x13 =>
     (rf (s0,x13,s3)).bind fun r14 =>
     cond r14
     (some (Sum.inr true))
     (ref1_store_inside_L0_go rf s0 s3 es))
    (ref1_store_inside_L0_go rf s0 s3 es)))
theorem ref1_store_inside_L0_go_at0 (rf:((Int×(List Int)×(List (List Int)))→Option Bool)) (s0:Int) (s1:(List Int)) (s3:(List (List Int))) (hl:List.length s1≤maxLen):lp (ref1_store_inside_L0 rf) fuel (s0,s1,0,s3)=ref1_store_inside_L0_go rf s0 s3 s1:=rngl0 (ref1_store_inside_L0 rf) (fun i=>(s0,s1,i,s3)) (fun es i=>ref1_store_inside_L0_go rf s0 s3 es) hl (fun r i h=>by unfold ref1_store_inside_L0 ref1_store_inside_L0_go; simp only[h,cond_false]) (fun r i e es h g w k=>by unfold ref1_store_inside_L0 ref1_store_inside_L0_go; simp only[h,cond_true,g,Option.bind_some,w,k])
def ref1_store_all_1_L0_go (rf:((((List QSym)×(List Int)×(List Int)×(List (List Int)))→Option (Bool×(List (List Int))))×(((List QSym)×(List (List Int))×(List (List Int))×(List (List Int)))→Option (Bool×(List (List Int)))))) (s0:(List QSym)) (s2:(List (List Int))):List (List Int)→Nat→(List (List Int))→Option ((List (List Int))⊕(Bool×(List (List Int))))
 | [],_i,s4=>some (Sum.inl s4)
 | e::es,i,s4 =>
  (gx s2 (i:Int)).bind fun e8 =>
  (rf.1 (s0,e,e8,s4)).bind fun r9 =>
  cond (!r9.1)
  (some (Sum.inr (false,r9.2)))
  (ref1_store_all_1_L0_go rf s0 s2 es (i+1) r9.2)
theorem ref1_store_all_1_L0_go_at0 (rf:((((List QSym)×(List Int)×(List Int)×(List (List Int)))→Option (Bool×(List (List Int))))×(((List QSym)×(List (List Int))×(List (List Int))×(List (List Int)))→Option (Bool×(List (List Int)))))) (s0:(List QSym)) (s1:(List (List Int))) (s2:(List (List Int))) (s4:(List (List Int))) (hl:List.length s1≤maxLen):lp (ref1_store_all_1_L0 rf) fuel (s0,s1,s2,0,s4)=ref1_store_all_1_L0_go rf s0 s2 s1 0 s4:=rngl1 (ref1_store_all_1_L0 rf) (fun i s4=>(s0,s1,s2,i,s4)) (fun es i s4=>ref1_store_all_1_L0_go rf s0 s2 es i s4) hl (fun r i s4 h=>by unfold ref1_store_all_1_L0 ref1_store_all_1_L0_go; simp only[h,cond_false]) (fun r i s4 e es h g w k=>by unfold ref1_store_all_1_L0 ref1_store_all_1_L0_go; simp only[h,cond_true,g,Option.bind_some,w,k]) s4
def ref1_store_full_1_L0_go (rf:(((List Int)×(List (List Int))×(List Int))→Option (List Int))) (s2:(List (List Int))):List Int→(List Int)→Option (List Int)
 | [],s3=>some s3
 | e::es,s3 =>
  cond (decide (((List.length s3:Nat):Int)≤48))
  (cond (decide (e<0))
   ((inR (IntKind.wrap .i64 ((-1) - e)) 48).bind fun k21 =>
    (s2[k21]?).bind fun x22 =>
    cond (decide (((List.length x22:Nat):Int)>0))
    ((inR (IntKind.wrap .i64 ((-1) - e)) 48).bind fun k24 =>
     (s2[k24]?).bind fun x25 =>
     (rf (x25,s2,s3)).bind fun r26 =>
     ref1_store_full_1_L0_go rf s2 es r26)
    (cond (room (List.length s3+List.length ([e]:List Int)) 8)
     (ref1_store_full_1_L0_go rf s2 es (s3++([e]:List Int)))
     (none)))
   (cond (room (List.length s3+List.length ([e]:List Int)) 8)
    (ref1_store_full_1_L0_go rf s2 es (s3++([e]:List Int)))
    (none)))
  (some s3)
theorem ref1_store_full_1_L0_go_at0 (rf:(((List Int)×(List (List Int))×(List Int))→Option (List Int))) (s0:(List Int)) (s2:(List (List Int))) (s3:(List Int)) (hl:List.length s0≤maxLen):lp (ref1_store_full_1_L0 rf) fuel (s0,0,s2,s3)=ref1_store_full_1_L0_go rf s2 s0 s3:=rngl1 (ref1_store_full_1_L0 rf) (fun i s3=>(s0,i,s2,s3)) (fun es i s3=>ref1_store_full_1_L0_go rf s2 es s3) hl (fun r i s3 h=>by unfold ref1_store_full_1_L0 ref1_store_full_1_L0_go; simp only[h,cond_false]) (fun r i s3 e es h g w k=>by unfold ref1_store_full_1_L0 ref1_store_full_1_L0_go; simp only[h,cond_true,g,Option.bind_some,w,k]) s3
def ref8_lits_L0_go (s0:(List QLit)) (s1:Int) (s4:(List QLit)):List QLit→Nat→Bool→Option (Bool×(List QLit))
 | [],_i,s2=>some (s2,s4)
 | _e::es,i,s2 =>
  cond s2
  (ref8_lits_L0_go s0 s1 s4 es (i+1) true)
  ((inR (i:Int) (List.length s4)).bind fun k7 =>
   (s4[k7]?).bind fun x8 =>
   (gx s0 s1).bind fun e9 =>
   (ref8_SameLit x8.1 x8.2 e9.1 e9.2).bind fun r10 =>
   ref8_lits_L0_go s0 s1 s4 es (i+1) r10)
theorem ref8_lits_L0_go_at0 (s0:(List QLit)) (s1:Int) (s4:(List QLit)) (s2:Bool) (hl:List.length s4≤maxLen):lp ref8_lits_L0 fuel (s0,s1,s2,0,s4)=ref8_lits_L0_go s0 s1 s4 s4 0 s2:=rngl1 ref8_lits_L0 (fun i s2=>(s0,s1,s2,i,s4)) (fun es i s2=>ref8_lits_L0_go s0 s1 s4 es i s2) hl (fun r i s2 h=>by unfold ref8_lits_L0 ref8_lits_L0_go; simp only[h,cond_false]) (fun r i s2 e es h _ w k=>by unfold ref8_lits_L0 ref8_lits_L0_go; simp only[h,cond_true,w,k]) s2
def ref8_lits_L1_go (s0:(List QLit)):List QLit→Nat→(List QLit)→Option (List QLit)
 | [],_i,s2=>some s2
 | e::es,i,s2 =>
  ((lp ref8_lits_L0 fuel) (s0,(i:Int),false,0,s2)).bind fun r13 =>
  cond (!r13.1)
  (cond (room (List.length r13.2+List.length ([(e.1,e.2)]:List QLit)) 32)
   (ref8_lits_L1_go s0 es (i+1) (r13.2++([(e.1,e.2)]:List QLit)))
   (none))
  (ref8_lits_L1_go s0 es (i+1) r13.2)
theorem ref8_lits_L1_go_at0 (s0:(List QLit)) (s2:(List QLit)) (hl:List.length s0≤maxLen):lp ref8_lits_L1 fuel (s0,0,s2)=ref8_lits_L1_go s0 s0 0 s2:=rngl1 ref8_lits_L1 (fun i s2=>(s0,i,s2)) (fun es i s2=>ref8_lits_L1_go s0 es i s2) hl (fun r i s2 h=>by unfold ref8_lits_L1 ref8_lits_L1_go; simp only[h,cond_false]) (fun r i s2 e es h g w k=>by unfold ref8_lits_L1 ref8_lits_L1_go; simp only[h,cond_true,g,Option.bind_some,w,k]) s2
def ref8_Norm_L0_go (s0:Int) (s4:(List (List Int))) (s6:(List QLit)) (s7:(List QLit)) (s8:(List (List Int))):List (List Int)→Nat→Bool→Option (Bool×(List QLit)×(List QLit)×(List (List Int)))
 | [],_i,s1=>some (s1,s6,s7,s8)
 | _e::es,i,s1 =>
  cond s1
  (ref8_Norm_L0_go s0 s4 s6 s7 s8 es (i+1) true)
  ((inR (i:Int) (List.length s8)).bind fun k9 =>
   (s8[k9]?).bind fun x10 =>
   (gx s4 s0).bind fun e11 =>
   (ref1_Same x10 e11).bind fun r12 =>
   ref8_Norm_L0_go s0 s4 s6 s7 s8 es (i+1) r12)
theorem ref8_Norm_L0_go_at0 (s0:Int) (s3:(List QLit)) (s4:(List (List Int))) (s5:(List QLit)) (s6:(List QLit)) (s7:(List QLit)) (s8:(List (List Int))) (s1:Bool) (hl:List.length s8≤maxLen):lp ref8_Norm_L0 fuel (s0,s1,0,s3,s4,s5,s6,s7,s8)=ref8_Norm_L0_go s0 s4 s6 s7 s8 s8 0 s1:=rngl1 ref8_Norm_L0 (fun i s1=>(s0,s1,i,s3,s4,s5,s6,s7,s8)) (fun es i s1=>ref8_Norm_L0_go s0 s4 s6 s7 s8 es i s1) hl (fun r i s1 h=>by unfold ref8_Norm_L0 ref8_Norm_L0_go; simp only[h,cond_false]) (fun r i s1 e es h _ w k=>by unfold ref8_Norm_L0 ref8_Norm_L0_go; simp only[h,cond_true,w,k]) s1
def ref8_Norm_L3_go (s0:(List (List Int))) (s2:(List QLit)) (s3:(List (List Int))) (s4:(List QLit)):List (List Int)→Nat→(List (Int×(List Int)))→Option (List (Int×(List Int)))
 | [],_i,s5=>some s5
 | _e::es,i,s5 =>
  ((lp ref8_Norm_L2 fuel) (s0,(i:Int),0,s2,s3,s4,s5)).bind fun r35 =>
  ref8_Norm_L3_go s0 s2 s3 s4 es (i+1) r35
theorem ref8_Norm_L3_go_at0 (s0:(List (List Int))) (s2:(List QLit)) (s3:(List (List Int))) (s4:(List QLit)) (s5:(List (Int×(List Int)))) (hl:List.length s0≤maxLen):lp ref8_Norm_L3 fuel (s0,0,s2,s3,s4,s5)=ref8_Norm_L3_go s0 s2 s3 s4 s0 0 s5:=rngl1 ref8_Norm_L3 (fun i s5=>(s0,i,s2,s3,s4,s5)) (fun es i s5=>ref8_Norm_L3_go s0 s2 s3 s4 es i s5) hl (fun r i s5 h=>by unfold ref8_Norm_L3 ref8_Norm_L3_go; simp only[h,cond_false]) (fun r i s5 e es h _ w k=>by unfold ref8_Norm_L3 ref8_Norm_L3_go; simp only[h,cond_true,w,k]) s5
def ref8_Norm_L1_go (s1:(List QLit)) (s2:(List (List Int))) (s3:(List QLit)):List (List Int)→Nat→(List QLit)→(List QLit)→(List (List Int))→Option ((List QLit)×(List QLit)×(List (List Int)))
 | [],_i,s4,s5,s6=>some (s4,s5,s6)
 | e::es,i,s4,s5,s6 =>
  ((lp ref8_Norm_L0 fuel) ((i:Int),false,0,s1,s2,s3,s4,s5,s6)).bind fun r17 =>
  cond (!r17.1)
  (cond (room (List.length r17.2.2.2+List.length ([e]:List (List Int))) 24)
   (ref8_Norm_L1_go s1 s2 s3 es (i+1) r17.2.1 r17.2.2.1 (r17.2.2.2++([e]:List (List Int))))
   (none))
  (ref8_Norm_L1_go s1 s2 s3 es (i+1) r17.2.1 r17.2.2.1 r17.2.2.2)
theorem ref8_Norm_L1_go_at0 (s1:(List QLit)) (s2:(List (List Int))) (s3:(List QLit)) (s4:(List QLit)) (s5:(List QLit)) (s6:(List (List Int))) (hl:List.length s2≤maxLen):lp ref8_Norm_L1 fuel (0,s1,s2,s3,s4,s5,s6)=ref8_Norm_L1_go s1 s2 s3 s2 0 s4 s5 s6:=rngl3 ref8_Norm_L1 (fun i s4 s5 s6=>(i,s1,s2,s3,s4,s5,s6)) (fun es i s4 s5 s6=>ref8_Norm_L1_go s1 s2 s3 es i s4 s5 s6) hl (fun r i s4 s5 s6 h=>by unfold ref8_Norm_L1 ref8_Norm_L1_go; simp only[h,cond_false]) (fun r i s4 s5 s6 e es h g w k=>by unfold ref8_Norm_L1 ref8_Norm_L1_go; simp only[h,cond_true,g,Option.bind_some,w,k]) s4 s5 s6
end Go.Abs.Q
namespace Go.Abs.Q
open Go Go.Abs
section
theorem same1_go (b:List Int):(es:List Int)→(i:Nat)→i+es.length=b.length→ref1_Same_L0_go b es i=some (cond (decide (es=b.drop i)) (.inl ()) (.inr false))
 | [],i,h=>by
  rw[List.drop_of_length_le (by simp at h; omega)]
  rfl
 | e::es,i,h=>by
  simp only[List.length_cons] at h
  obtain⟨x,hx⟩:∃ x,b[i]? = some x:=⟨_,List.getElem?_eq_getElem (by omega)⟩
  have hd:b.drop i=x::b.drop (i+1):=by
   have h1:=(List.getElem?_eq_some_iff.1 hx).1
   rw[List.drop_eq_getElem_cons h1]
   rw[(List.getElem?_eq_some_iff.1 hx).2]
  unfold ref1_Same_L0_go
  rw[gx_nat,hx,Option.bind_some,same1_go b es (i+1) (by omega),hd]
  by_cases he:e=x
  ·subst he
   rw[show (e != e)=false from by simp,cond_false]
   simp
  ·rw[show (e != x)=true from by simp [he],cond_true]
   simp [he]
theorem same1_eq {a b:List Int} (h:a.length≤1000000):ref1_Same a b=some (decide (a=b)):=by
 unfold ref1_Same
 by_cases hl:a.length=b.length
 ·rw[show (((List.length a:Nat):Int) != ((List.length b:Nat):Int))=false from by simp [hl],cond_false,ref1_Same_L0_go_at0 _ _ (by unfold maxLen; omega),same1_go b a 0 (by omega),Option.bind_some,List.drop_zero]
  cases decide (a=b)<;>rfl
 ·rw[show (((List.length a:Nat):Int) != ((List.length b:Nat):Int))=true from by simp; omega,cond_true]
  have:a≠b:=fun e=>hl (by rw[e])
  simp [this]
def codeO (o:Option Tm):List Int:=match o with
 | none=>[]
 | some t=>t.codes
structure RepW (a0:List QSym) (w:List (List Int)) (B:Bd):Prop where
 len:w.length=48
 at_:∀ x,x<48→w[x]? = some (codeO (B x))
 ok:∀ x t,B x=some t→x<24∧t.ok a0 24∧t.codes.length≤48
theorem RepW.small {a0:List QSym} {w:List (List Int)} {B:Bd} (h:RepW a0 w B):Small B:=fun x t ht=>by
 obtain⟨h1,h2,h3⟩:=h.ok x t ht
 rw[Tm.codes_len] at h3
 exact ⟨by omega,h3⟩
theorem RepW.set {a0:List QSym} {w:List (List Int)} {B:Bd} (h:RepW a0 w B) {x:Nat} (hx:x<24) {t:Tm} (ht:t.ok a0 24) (hl:t.codes.length≤48):RepW a0 (w.set x t.codes) (updB B x t) where
 len:=by rw[List.length_set]; exact h.len
 at_:=fun y hy=>by
  have:=h.len
  by_cases he:y=x
  ·subst he
   rw[List.getElem?_set_self (by omega),updB_same]
   rfl
  ·rw[List.getElem?_set_ne (Ne.symm he),updB_ne _ _ he]
   exact h.at_ y hy
 ok:=fun y u hy=>by
  by_cases he:y=x
  ·subst he
   rw[updB_same] at hy
   injection hy with hy
   subst hy
   exact ⟨hx,ht,hl⟩
  ·rw[updB_ne _ _ he] at hy
   exact h.ok y u hy
theorem codes_pos (t:Tm):0<t.codes.length:=by rw[Tm.codes_len]; exact t.size_pos
section
variable {a0:List QSym} {w:List (List Int)} {B:Bd} {σ:Sb} (hT:RepW a0 w B) (hG:Good B σ)
include hT hG
theorem walk_run:∀(m k:Nat) (t:Tm),mWhat t≤m→m≤k→t.ok a0 24→t.codes.length≤48 →
  ∃ u:Tm,lp ref1_store_walk_L0 k (t.codes,w)=some u.codes∧u.ok a0 24∧u.codes.length≤48∧(∀ θ,SolB θ B→t.sub θ=u.sub θ)∧∀ y,u = .v y→B y=none:=by
 intro m
 induction m with
 | zero=>intro k t hm; cases t<;>simp [mWhat] at hm
 | succ m ih =>
  intro k t hm hk ho hl
  obtain⟨k,rfl⟩:∃ k',k=k'+1:=⟨k - 1,by omega⟩
  rw[lp_succ]
  have key:=fun t (h1:mWhat t≤m) h2 h3=>ih k t h1 (by omega) h2 h3
  generalize lp ref1_store_walk_L0 k=rec at key ⊢
  unfold ref1_store_walk_L0
  cases t with
  | v x =>
   have hx:x<24:=ho
   have hc:(Tm.v x).codes=[-1 - (x:Int)]:=rfl
   have w1:IntKind.wrap .i64 ((-1) - (-1 - (x:Int)))=(x:Int):=by rw[wrap64]<;>omega
   rw[hc]
   simp only[List.length_cons,List.length_nil,gx_zero,List.getElem?_cons_zero,Option.bind_some,w1]
   rw[show ((((0+1:Nat):Int))==1)=true from rfl,cond_true,decide_eq_true (show -1 - (x:Int)<0 by omega),cond_true,inR_nat (show x<48 by omega),Option.bind_some,hT.at_ x (by omega),Option.bind_some]
   cases hb:B x with
   | none =>
    refine ⟨.v x,rfl,ho,hl,fun θ _=>rfl,fun y hy=>by injection hy with hy; rw[← hy]; exact hb⟩
   | some u =>
    obtain⟨-,h2,h3⟩:=hT.ok x u hb
    have hp:=codes_pos u
    show ∃ u1,(cond (decide (((List.length u.codes:Nat):Int)>0)) _ _)=_∧_
    rw[decide_eq_true (show ((List.length u.codes:Nat):Int)>0 by omega),cond_true]
    obtain⟨u',g1,g2,g3,g4,g5⟩:=key u (by
     cases u with
     | v y=>have:=hG.down _ y hb; simp only[mWhat] at hm ⊢; omega
     | f c as=>simp only[mWhat] at hm ⊢; omega) h2 h3
    refine ⟨u',?_,g2,g3,fun θ hθ=>(hθ _ u hb).trans (g4 θ hθ),g5⟩
    show (w[x]?).bind _=_
    rw[hT.at_ x (by omega),hb]
    exact g1
  | f c as =>
   refine ⟨.f c as,?_,ho,hl,fun θ _=>rfl,fun y hy=>by cases hy⟩
   have hc:(Tm.f c as).codes=(c:Int)::codesR as:=rfl
   rw[hc]
   simp only[gx_zero,List.getElem?_cons_zero,Option.bind_some]
   rw[decide_eq_false (show ¬(c:Int)<0 by omega),cond_false]
   cases (((List.length ((c:Int)::codesR as):Nat):Int)==1)<;>rfl
theorem walk_spec {t:Tm} (ho:t.ok a0 24) (hl:t.codes.length≤48) :
  ∃ u:Tm,ref1_store_walk t.codes w=some u.codes∧u.ok a0 24∧u.codes.length≤48∧(∀ θ,SolB θ B→t.sub θ=u.sub θ)∧∀ y,u = .v y→B y=none:=by
 obtain⟨u,h1,h2⟩:=walk_run hT hG (mWhat t) fuel t (Nat.le_refl _) (by
  cases t with
  | v x=>have:x<24:=ho; simp only[mWhat]; unfold fuel; omega
  | f c as=>simp only[mWhat]; unfold fuel; omega) ho hl
 refine ⟨u,?_,h2⟩
 unfold ref1_store_walk
 rw[h1]
 rfl
theorem inside_run {v:Nat} (hv0:B v=none):∀(k m:Nat) (es:List Int),(∀ c∈es,-24≤c)→es.length≤1000→(∀ c∈es,c<0→B (-1 - c).toNat≠none→Good.rank σ (-1 - c).toNat<m)→m<k →
  ∃ b,ref1_store_inside_R k ((v:Int),es,w)=some b∧(b=true↔∃ c∈es,c<0∧(σ (-1 - c).toNat).has v):=by
 intro k
 induction k with
 | zero=>intro m es _ _ _ h; omega
 | succ k ih =>
  intro m es hc hl hr hm
  show ∃ b,ref1_store_inside_S (ref1_store_inside_R k) (v:Int) es w=some b∧_
  unfold ref1_store_inside_S
  rw[ref1_store_inside_L0_go_at0 _ _ _ _ (by unfold maxLen; omega)]
  have go:∀ es:List Int,(∀ c∈es,-24≤c)→(∀ c∈es,c<0→B (-1 - c).toNat≠none→Good.rank σ (-1 - c).toNat<m) →
    ∃ b,ref1_store_inside_L0_go (ref1_store_inside_R k) (v:Int) w es=some (cond b (.inr true) (.inl ()))∧(b=true↔∃ c∈es,c<0∧(σ (-1 - c).toNat).has v):=by
   intro es
   induction es with
   | nil=>intro _ _; exact ⟨false,rfl,by simp⟩
   | cons e es ihe =>
    intro hc hr
    obtain⟨b,g1,g2⟩:=ihe (fun c h=>hc c (List.mem_cons_of_mem _ h)) fun c h=>hr c (List.mem_cons_of_mem _ h)
    have he:=hc e (List.mem_cons_self ..)
    unfold ref1_store_inside_L0_go
    by_cases h0:e≥0
    ·rw[decide_eq_true h0,cond_true]
     refine ⟨b,g1,g2.trans ?_⟩
     constructor
     ·rintro⟨c,h1,h2⟩; exact ⟨c,List.mem_cons_of_mem _ h1,h2⟩
     ·rintro⟨c,h1,h2,h3⟩
      rcases List.mem_cons.1 h1 with rfl | h1
      ·omega
      ·exact ⟨c,h1,h2,h3⟩
    ·rw[decide_eq_false h0,cond_false]
     obtain⟨u,rfl⟩:∃ u:Nat,e = -1 - (u:Int):=⟨(-1 - e).toNat,by omega⟩
     have hu:u<24:=by omega
     have hn:(-1 - (-1 - (u:Int))).toNat=u:=by omega
     have w1:IntKind.wrap .i64 ((-1) - (-1 - (u:Int)))=(u:Int):=by rw[wrap64]<;>omega
     rw[w1]
     by_cases huv:u=v
     ·subst huv
      rw[show (((u:Nat):Int)==((u:Nat):Int))=true from by simp,cond_true]
      exact ⟨true,rfl,⟨fun _=>⟨_,List.mem_cons_self ..,by omega,by rw[hn,hG.free _ hv0]; rfl⟩,fun _=>rfl⟩⟩
     ·rw[show (((u:Nat):Int)==((v:Nat):Int))=false from by simp; omega,cond_false]
      simp only[inR_nat (show u<48 by omega),Option.bind_some,hT.at_ u (by omega)]
      cases hb:B u with
      | none =>
       show ∃ b,(cond (decide (((List.length ([]:List Int):Nat):Int)>0)) _ _)=_∧_
       refine ⟨b,g1,g2.trans ?_⟩
       constructor
       ·rintro⟨c,h1,h2⟩; exact ⟨c,List.mem_cons_of_mem _ h1,h2⟩
       ·rintro⟨c,h1,h2,h3⟩
        rcases List.mem_cons.1 h1 with rfl | h1
        ·rw[hn,hG.free _ hb] at h3
         have h3:u=v:=h3
         exact absurd h3 huv
        ·exact ⟨c,h1,h2,h3⟩
      | some t =>
       obtain⟨-,h2,h3⟩:=hT.ok u t hb
       have hp:=codes_pos t
       show ∃ b,(cond (decide (((List.length t.codes:Nat):Int)>0)) _ _)=_∧_
       rw[decide_eq_true (show ((List.length t.codes:Nat):Int)>0 by omega),cond_true]
       have hcodes:∀ c∈t.codes,-24≤c∧(c<0→t.has (-1 - c).toNat):=fun c hcm=>by
        have h1:c∈codesR [t]:=by simp [codesR,hcm]
        by_cases hc0:c<0
        ·have h4:=(mem_codesR hc0 [t]).1 h1
         have h5:t.has (-1 - c).toNat:=by rcases h4 with h4 | h4; exact h4; exact absurd h4 (by simp [hasR])
         have h6:=Tm.ok_has t h2 h5
         exact ⟨by omega,fun _=>h5⟩
        ·exact ⟨by omega,fun h=>absurd h hc0⟩
       obtain⟨b1,k1,k2⟩:=ih (Good.rank σ u) t.codes (fun c h=>(hcodes c h).1) (by omega) (fun c hcm h0 _=>hG.rank_lt hb ((hcodes c hcm).2 h0) (by have:=(hcodes c hcm).1; omega)) (by
        have:=hr _ (List.mem_cons_self ..) (by omega) (by rw[hn,hb]; simp)
        rw[hn] at this
        omega)
       have k1:ref1_store_inside_R k ((v:Int),codeO (some t),w)=some b1:=k1
       rw[k1,Option.bind_some]
       have hb1:b1=true↔(σ u).has v:=by
        rw[k2,hG.bound u t hb,Tm.has_sub]
        constructor
        ·rintro⟨c,h4,h5,h6⟩
         exact ⟨_,(hcodes c h4).2 h5,h6⟩
        ·rintro⟨y,h4,h5⟩
         refine ⟨-1 - (y:Int),?_,by omega,by rw[show (-1 - (-1 - (y:Int))).toNat=y by omega]; exact h5⟩
         have:=(mem_codesR (c := -1 - (y:Int)) (by omega) [t]).2 (by rw[show (-1 - (-1 - (y:Int))).toNat=y by omega]; exact .inl h4)
         simpa[codesR] using this
       cases b1 with
       | true =>
        refine ⟨true,rfl,⟨fun _=>⟨_,List.mem_cons_self ..,by omega,?_⟩,fun _=>rfl⟩⟩
        rw[hn]
        exact hb1.1 rfl
       | false =>
        refine ⟨b,g1,g2.trans ?_⟩
        constructor
        ·rintro⟨c,h1,h2⟩; exact ⟨c,List.mem_cons_of_mem _ h1,h2⟩
        ·rintro⟨c,h1,h2,h3⟩
         rcases List.mem_cons.1 h1 with rfl | h1
         ·rw[hn] at h3
          exact absurd (hb1.2 h3) (by simp)
         ·exact ⟨c,h1,h2,h3⟩
  obtain⟨b,g1,g2⟩:=go es hc hr
  rw[g1,Option.bind_some]
  exact ⟨b,by cases b<;>rfl,g2⟩
end
end
end Go.Abs.Q
namespace Go.Abs.Q
open Go Go.Abs
section
structure Qf (out E r:List Int):Prop where
 fits:out.length+E.length≤48→r=out++E
 over:48<out.length+E.length→48<r.length
 len:r.length≤max out.length 49
theorem Qf.step {out E1 E2 r1 r:List Int} (h:Qf out E1 r1) (h':Qf r1 E2 r):Qf out (E1++E2) r where
 fits:=fun hl=>by
  rw[List.length_append] at hl
  have e:=h.fits (by omega)
  have e2:=h'.fits (by rw[e,List.length_append]; omega)
  rw[e2,e,List.append_assoc]
 over:=fun hl=>by
  rw[List.length_append] at hl
  by_cases h1:out.length+E1.length≤48
  ·have e:=h.fits h1
   refine h'.over ?_
   rw[e,List.length_append]; omega
  ·exact h'.over (by have:=h.over (by omega); omega)
 len:=by have:=h.len; have:=h'.len; omega
theorem Qf.full {out E:List Int} (h:48<out.length):Qf out E out:=⟨fun hl=>by omega,fun _=>h,by omega⟩
theorem Qf.one {out:List Int} (c:Int) (h:out.length≤48):Qf out [c] (out++[c]):=⟨fun _=>rfl,fun hl=>by rw[List.length_append]; exact hl,by rw[List.length_append]; simp; omega⟩
theorem Qf.nil (out:List Int):Qf out [] out:=⟨fun _=>by simp,fun h=>by simpa using h,by omega⟩
theorem term_codes {a0:List QSym} {t:Tm} (ho:t.ok a0 24):∀ c∈t.codes,-24≤c∧(c<0→t.has (-1 - c).toNat):=fun c hcm=>by
 by_cases hc0:c<0
 ·have h5:=(Tm.mem_codes hc0 t).1 hcm
  have h6:=Tm.ok_has t ho h5
  exact ⟨by omega,fun _=>h5⟩
 ·exact ⟨by omega,fun h=>absurd h hc0⟩
section
variable {a0:List QSym} {w:List (List Int)} {B:Bd} {σ:Sb} (hT:RepW a0 w B) (hG:Good B σ)
include hT hG
theorem full_run:∀(k m:Nat) (es out:List Int),(∀ c∈es,-24≤c)→es.length≤1000→(∀ c∈es,c<0→B (-1 - c).toNat≠none→Good.rank σ (-1 - c).toNat<m)→m<k→out.length≤1000 →
  ∃ r,ref1_store_full_1_R k (es,w,out)=some r∧Qf out (es.flatMap (expC σ)) r:=by
 intro k
 induction k with
 | zero=>intro m es out _ _ _ h; omega
 | succ k ih =>
  intro m es out hc hl hr hm ho
  show ∃ r,ref1_store_full_1_S (ref1_store_full_1_R k) es w out=some r∧_
  unfold ref1_store_full_1_S
  rw[ref1_store_full_1_L0_go_at0 _ _ _ _ (by unfold maxLen; omega)]
  have go:∀(es out:List Int),(∀ c∈es,-24≤c)→(∀ c∈es,c<0→B (-1 - c).toNat≠none→Good.rank σ (-1 - c).toNat<m)→out.length≤1000 →
    ∃ r,ref1_store_full_1_L0_go (ref1_store_full_1_R k) w es out=some r∧Qf out (es.flatMap (expC σ)) r:=by
   intro es
   induction es with
   | nil=>intro out _ _ _; exact ⟨out,rfl,Qf.nil out⟩
   | cons e es ihe =>
    intro out hc hr ho
    have ihe:=fun out ho=>ihe out (fun c h=>hc c (List.mem_cons_of_mem _ h)) (fun c h=>hr c (List.mem_cons_of_mem _ h)) ho
    have he:=hc e (List.mem_cons_self ..)
    unfold ref1_store_full_1_L0_go
    by_cases h48:out.length≤48
    ·rw[decide_eq_true (show ((List.length out:Nat):Int)≤48 by omega),cond_true,List.flatMap_cons]
     have plain:expC σ e=[e]→∃ r,(cond (room (List.length out+List.length ([e]:List Int)) 8) (ref1_store_full_1_L0_go (ref1_store_full_1_R k) w es (out++([e]:List Int))) none)=some r∧Qf out (expC σ e++es.flatMap (expC σ)) r:=fun hx=>by
      obtain⟨r,g1,g2⟩:=ihe (out++[e]) (by simp; omega)
      rw[room_ok (by simp; omega),cond_true,g1,hx]
      exact ⟨r,rfl,(Qf.one e h48).step g2⟩
     by_cases h0:e<0
     ·rw[decide_eq_true h0,cond_true]
      obtain⟨u,rfl⟩:∃ u:Nat,e = -1 - (u:Int):=⟨(-1 - e).toNat,by omega⟩
      have hu:u<24:=by omega
      have hn:(-1 - (-1 - (u:Int))).toNat=u:=by omega
      have w1:IntKind.wrap .i64 ((-1) - (-1 - (u:Int)))=(u:Int):=by rw[wrap64]<;>omega
      rw[w1]
      simp only[inR_nat (show u<48 by omega),Option.bind_some,hT.at_ u (by omega)]
      cases hb:B u with
      | none =>
       show ∃ r,(cond (decide (((List.length ([]:List Int):Nat):Int)>0)) _ _)=_∧_
       refine plain ?_
       unfold expC
       rw[if_pos h0,hn,hG.free u hb]
       rfl
      | some t =>
       obtain⟨-,h2,h3⟩:=hT.ok u t hb
       have hp:=codes_pos t
       show ∃ r,(cond (decide (((List.length t.codes:Nat):Int)>0)) _ _)=_∧_
       rw[decide_eq_true (show ((List.length t.codes:Nat):Int)>0 by omega),cond_true]
       have hcodes:=term_codes h2
       obtain⟨r1,k1,k2⟩:=ih (Good.rank σ u) t.codes out (fun c h=>(hcodes c h).1) (by omega) (fun c hcm h0 _=>hG.rank_lt hb ((hcodes c hcm).2 h0) (by have:=(hcodes c hcm).1; omega)) (by
        have:=hr _ (List.mem_cons_self ..) (by omega) (by rw[hn,hb]; simp)
        rw[hn] at this
        omega) ho
       have k1:ref1_store_full_1_R k (codeO (some t),w,out)=some r1:=k1
       rw[k1,Option.bind_some]
       obtain⟨r,g1,g2⟩:=ihe r1 (by have:=k2.len; omega)
       refine ⟨r,g1,Qf.step (r1:=r1) ?_ g2⟩
       have:expC σ (-1 - (u:Int))=t.codes.flatMap (expC σ):=by
        unfold expC
        rw[if_pos h0,hn,hG.bound u t hb,Tm.codes_sub]
        rfl
       rw[this]
       exact k2
     ·rw[decide_eq_false h0,cond_false]
      refine plain ?_
      unfold expC
      rw[if_neg h0]
    ·rw[decide_eq_false (show ¬((List.length out:Nat):Int)≤48 by omega),cond_false]
     exact ⟨out,rfl,Qf.full (by omega)⟩
  obtain⟨r,g1,g2⟩:=go es out hc hr ho
  rw[g1,Option.bind_some]
  exact ⟨r,rfl,g2⟩
theorem full_spec {t:Tm} (ho:t.ok a0 24) (hl:t.codes.length≤48):∃ r,ref1_store_full_1 t.codes w []=some r∧Qf [] (t.sub σ).codes r:=by
 rw[Tm.codes_sub]
 refine full_run hT hG fuel 100 t.codes [] (fun c h=>(term_codes ho c h).1) (by omega) (fun c _ _ _ => ?_) (by unfold fuel; omega) (by simp)
 have:=Good.rank_le σ (-1 - c).toNat
 omega
theorem inside_spec {v:Nat} (hv0:B v=none) {t:Tm} (ho:t.ok a0 24) (hl:t.codes.length≤48):∃ b,ref1_store_inside (v:Int) t.codes w=some b∧(b=true↔(t.sub σ).has v):=by
 obtain⟨b,h1,h2⟩:=inside_run hT hG hv0 fuel 100 t.codes (fun c h=>(term_codes ho c h).1) (by omega) (fun c _ _ _=>by have:=Good.rank_le σ (-1 - c).toNat; omega) (by unfold fuel; omega)
 refine ⟨b,h1,h2.trans ?_⟩
 rw[Tm.has_sub]
 constructor
 ·rintro⟨c,h4,h5,h6⟩
  exact ⟨_,(term_codes ho c h4).2 h5,h6⟩
 ·rintro⟨y,h4,h5⟩
  refine ⟨-1 - (y:Int),(Tm.mem_codes (by omega) t).2 (by rw[show (-1 - (-1 - (y:Int))).toNat=y by omega]; exact h4),by omega,by rw[show (-1 - (-1 - (y:Int))).toNat=y by omega]; exact h5⟩
end
structure OutW (a0:List QSym) (B:Bd) (E:List (Tm×Tm)) (r:Bool×List (List Int)):Prop where
 yes:r.1=true→∃ B' σ',RepW a0 r.2 B'∧Good B' σ'∧∀ θ,SolB θ B'↔SolB θ B∧Sol θ E
 no:r.1=false→∀ θ,SolB θ B→Sol θ E→False
theorem sol_one {θ:Sb} {t u:Tm}:Sol θ [(t,u)]↔t.sub θ=u.sub θ:=by simp [Sol]
theorem pair1_term {a0:List QSym} {w:List (List Int)} {B:Bd} {σ:Sb} (hT:RepW a0 w B) (hG:Good B σ) {x:Nat} (hx:x<24) (hb:B x=none) {c:Nat} {as:List Tm} (ho:(Tm.f c as).ok a0 24) (hl:(Tm.f c as).codes.length≤48) :
  ∃ r,ref1_store_pair1_1 [-1 - (x:Int)] (Tm.f c as).codes false w=some r∧OutW a0 B [(.v x,.f c as)] r:=by
 unfold ref1_store_pair1_1
 have w1:IntKind.wrap .i64 ((-1) - (-1 - (x:Int)))=(x:Int):=by rw[wrap64]<;>omega
 simp only[gx_zero,List.getElem?_cons_zero,Option.bind_some,cond_false,w1]
 obtain⟨b,h1,h2⟩:=inside_spec hT hG hb ho hl
 rw[h1,Option.bind_some]
 cases b with
 | true =>
  refine ⟨_,rfl,⟨fun h=>(nomatch h),fun _ θ h3 h4=>hG.occurs (h2.1 rfl) h3 (sol_one.1 h4)⟩⟩
 | false =>
  simp only[cond_false,inR_nat (show x<48 by omega),Option.bind_some,hT.at_ x (by omega)]
  have hn:¬((Tm.f c as).sub σ).has x:=fun h=>by have:=h2.2 h; cases this
  refine ⟨_,rfl,⟨fun _=>⟨_,_,hT.set hx ho hl,hG.bind hb hn (fun y hy=>by cases hy),fun θ => ?_⟩,fun h=>(nomatch h)⟩⟩
  rw[SolB.upd hb,sol_one]
  rfl
theorem pair1_var {a0:List QSym} {w:List (List Int)} {B:Bd} {σ:Sb} (hT:RepW a0 w B) (hG:Good B σ) {x y:Nat} (hx:x<24) (hy:y<x) (hbx:B x=none) (hby:B y=none) :
  ∃ r,ref1_store_pair1_1 [-1 - (y:Int)] [-1 - (x:Int)] true w=some r∧OutW a0 B [(.v x,.v y)] r:=by
 unfold ref1_store_pair1_1
 have w1:IntKind.wrap .i64 ((-1) - (-1 - (x:Int)))=(x:Int):=by rw[wrap64]<;>omega
 simp only[gx_zero,List.getElem?_cons_zero,Option.bind_some,cond_true,w1,inR_nat (show x<48 by omega),hT.at_ x (by omega)]
 have hn:¬((Tm.v y).sub σ).has x:=by
  show ¬(σ y).has x
  rw[hG.free y hby]
  intro h
  have h:y=x:=h
  omega
 have hset:RepW a0 (w.set x (Tm.v y).codes) (updB B x (.v y)):=hT.set hx (show y<24 by omega) (by show 1≤48; omega)
 refine ⟨_,rfl,⟨fun _=>⟨_,_,hset,hG.bind hbx hn (fun z hz=>by injection hz with hz; omega),fun θ => ?_⟩,fun h=>(nomatch h)⟩⟩
 rw[SolB.upd hbx,sol_one]
 rfl
theorem OutW.via {a0:List QSym} {B:Bd} {E E':List (Tm×Tm)} {r:Bool×List (List Int)} (h:OutW a0 B E r) (he:∀ θ,SolB θ B→(Sol θ E↔Sol θ E')):OutW a0 B E' r where
 yes:=fun hr=>by
  obtain⟨B',σ',h1,h2,h3⟩:=h.yes hr
  exact ⟨B',σ',h1,h2,fun θ=>(h3 θ).trans ⟨fun ⟨a,b⟩=>⟨a,(he θ a).1 b⟩,fun ⟨a,b⟩=>⟨a,(he θ a).2 b⟩⟩⟩
 no:=fun hr θ h1 h2=>h.no hr θ h1 ((he θ h1).2 h2)
def Dep (R:List Tm) (B:Bd) (δ:Nat) (t:Tm):Prop:=∀ θ,SolB θ B→∃ c∈R,δ+(t.sub θ).ht≤(c.sub θ).ht
theorem Dep.mono {R:List Tm} {B B':Bd} {δ:Nat} {t:Tm} (h:Dep R B δ t) (hB:∀ θ,SolB θ B'→SolB θ B):Dep R B' δ t:=fun θ hθ=>h θ (hB θ hθ)
theorem Dep.lt {R:List Tm} {B:Bd} {σ:Sb} {δ:Nat} {t:Tm} (h:Dep R B δ t) (hG:Good B σ) (hS:Small B) (hR:∀ c∈R,c.size≤48):δ<2500:=by
 obtain⟨c,hc,h1⟩:=h σ hG.bound
 have h2:=Tm.ht_sub (s:=σ) (M:=49*49) c fun x _=>hG.low hS x
 have h3:=c.ht_size
 have h4:=hR c hc
 have h5:=ht_pos (t.sub σ)
 omega
end
end Go.Abs.Q
namespace Go.Abs.Q
open Go Go.Abs
section
theorem codes_inj {a0:List QSym} {t u:Tm} (ht:t.ok a0 24) (hu:u.ok a0 24) (h:t.codes=u.codes):t=u:=by
 have:=codesR_inj (a0:=a0) _ [t] [u] (Nat.le_refl _) ⟨ht,trivial⟩ ⟨hu,trivial⟩ (by simp [codesR,h])
 injection this
def Sm (a0:List QSym) (t:Tm):Prop:=t.ok a0 24∧t.codes.length≤48
def PairOk (a0:List QSym) (R:List Tm) (k:Nat):Prop:=∀(δ:Nat) (w:List (List Int)) (B:Bd) (σ:Sb) (t u:Tm),RepW a0 w B→Good B σ→Sm a0 t→Sm a0 u→Dep R B δ t→2*(2600 - δ)≤k →
 ∃ r,(ref1_store_all_1_R k).1 (a0,t.codes,u.codes,w)=some r∧OutW a0 B [(t,u)] r
def AllOk (a0:List QSym) (R:List Tm) (k:Nat):Prop:=∀(δ:Nat) (w:List (List Int)) (B:Bd) (σ:Sb) (ts us:List Tm),RepW a0 w B→Good B σ→(∀ t∈ts,Sm a0 t)→(∀ t∈us,Sm a0 t)→ts.length=us.length→ts.length≤1000→(∀ t∈ts,Dep R B δ t)→2*(2600 - δ)+1≤k →
 ∃ r,(ref1_store_all_1_R k).2 (a0,ts.map Tm.codes,us.map Tm.codes,w)=some r∧OutW a0 B (ts.zip us) r
theorem all_step {a0:List QSym} {R:List Tm} {k:Nat} (hp:PairOk a0 R k):AllOk a0 R (k+1):=by
 intro δ w B σ ts us hT hG hts hus hl hlen hd hk
 show ∃ r,ref1_store_all_1_S (ref1_store_all_1_R k) a0 (ts.map Tm.codes) (us.map Tm.codes) w=some r∧_
 unfold ref1_store_all_1_S
 rw[ref1_store_all_1_L0_go_at0 _ _ _ _ _ (by rw[List.length_map]; unfold maxLen; omega)]
 have go:∀(ts vs:List Tm) (i:Nat) (w:List (List Int)) (B:Bd) (σ:Sb),RepW a0 w B→Good B σ→us.drop i=vs→(∀ t∈ts,Sm a0 t)→ts.length=vs.length→(∀ t∈ts,Dep R B δ t) →
   (∃ w',ref1_store_all_1_L0_go (ref1_store_all_1_R k) a0 (us.map Tm.codes) (ts.map Tm.codes) i w=some (.inl w')∧OutW a0 B (ts.zip vs) (true,w')) ∨
   (∃ w',ref1_store_all_1_L0_go (ref1_store_all_1_R k) a0 (us.map Tm.codes) (ts.map Tm.codes) i w=some (.inr (false,w'))∧OutW a0 B (ts.zip vs) (false,w')):=by
  intro ts
  induction ts with
  | nil =>
   intro vs i w B σ hT hG hdr _ hl _
   exact .inl ⟨w,rfl,⟨fun _=>⟨B,σ,hT,hG,fun θ=>⟨fun h=>⟨h,Sol.nil⟩,fun h=>h.1⟩⟩,fun h=>(nomatch h)⟩⟩
  | cons t ts ih =>
   intro vs i w B σ hT hG hdr hts hl hd
   cases vs with
   | nil=>simp at hl
   | cons v vs =>
    have hgv:us[i]? = some v:=drop_cons_get hdr
    have hvm:v∈us:=List.mem_of_getElem? hgv
    obtain⟨r,h1,h2⟩:=hp δ w B σ t v hT hG (hts t (List.mem_cons_self ..)) (hus v hvm) (hd t (List.mem_cons_self ..)) (by omega)
    rw[List.map_cons]
    unfold ref1_store_all_1_L0_go
    rw[gx_nat,List.getElem?_map,hgv]
    simp only[Option.map_some,Option.bind_some]
    rw[h1,Option.bind_some]
    obtain⟨b,w1⟩:=r
    cases b with
    | false =>
     refine .inr ⟨w1,rfl,⟨fun h=>(nomatch h),fun _ θ h3 h4=>h2.no rfl θ h3 ?_⟩⟩
     rw[List.zip_cons_cons,Sol.cons] at h4
     exact sol_one.2 h4.1
    | true =>
     obtain⟨B',σ',g1,g2,g3⟩:=h2.yes rfl
     have comb:∀{r2:Bool×List (List Int)},OutW a0 B' (ts.zip vs) r2→OutW a0 B ((t::ts).zip (v::vs)) r2:=fun {r2} h=>by
      rw[List.zip_cons_cons]
      refine ⟨fun hr => ?_,fun hr θ h3 h4 => ?_⟩
      ·obtain⟨B2,σ2,k1,k2,k3⟩:=h.yes hr
       refine ⟨B2,σ2,k1,k2,fun θ => ?_⟩
       rw[k3,g3,sol_one,and_assoc,Sol.cons (p:=(t,v)) (E:=ts.zip vs)]
      ·rw[Sol.cons] at h4
       exact h.no hr θ ((g3 θ).2 ⟨h3,sol_one.2 h4.1⟩) h4.2
     rcases ih vs (i+1) w1 B' σ' g1 g2 (drop_cons_next hdr) (fun t h=>hts t (List.mem_cons_of_mem _ h)) (by simpa using hl) (fun t h=>(hd t (List.mem_cons_of_mem _ h)).mono fun θ hθ=>((g3 θ).1 hθ).1) with ⟨w',q1,q2⟩ | ⟨w',q1,q2⟩
     ·exact .inl ⟨w',q1,comb q2⟩
     ·exact .inr ⟨w',q1,comb q2⟩
 rcases go ts us 0 w B σ hT hG rfl hts hl hd with ⟨w',h1,h2⟩ | ⟨w',h1,h2⟩
 ·rw[h1]; exact ⟨_,rfl,h2⟩
 ·rw[h1]; exact ⟨_,rfl,h2⟩
theorem pair_step {a0:List QSym} (hs:SignOk a0) {R:List Tm} (hR:∀ c∈R,c.size≤48) {k:Nat} (ha:AllOk a0 R k):PairOk a0 R (k+1):=by
 intro δ w B σ t u hT hG ht hu hd hk
 show ∃ r,ref1_store_pair_1_S (ref1_store_all_1_R k) a0 t.codes u.codes w=some r∧_
 obtain⟨t1,a1,a2,a3,a4,a5⟩:=walk_spec hT hG ht.1 ht.2
 obtain⟨u1,b1,b2,b3,b4,b5⟩:=walk_spec hT hG hu.1 hu.2
 -- it is enough to speak of these
 suffices h:∃ r,ref1_store_pair_1_S (ref1_store_all_1_R k) a0 t.codes u.codes w=some r∧OutW a0 B [(t1,u1)] r by
  obtain⟨r,h1,h2⟩:=h
  exact ⟨r,h1,h2.via fun θ hθ=>by rw[sol_one,sol_one,a4 θ hθ,b4 θ hθ]⟩
 have eta:∀{o:Option (Bool×List (List Int))} {E:List (Tm×Tm)},(∃ r,o=some r∧OutW a0 B E r)→∃ r,(o.bind fun r=>some (r.1,r.2))=some r∧OutW a0 B E r:=fun ⟨r,h1,h2⟩=>⟨r,by rw[h1]; rfl,h2⟩
 have flip:∀{o:Option (Bool×List (List Int))} {p q:Tm},(∃ r,o=some r∧OutW a0 B [(p,q)] r)→∃ r,o=some r∧OutW a0 B [(q,p)] r:=fun ⟨r,h1,h2⟩=>⟨r,h1,h2.via fun θ _=>by rw[sol_one,sol_one]; exact eq_comm⟩
 unfold ref1_store_pair_1_S
 rw[a1,Option.bind_some,b1,Option.bind_some,same1_eq (by omega),Option.bind_some]
 by_cases he:t1.codes=u1.codes
 ·have:=codes_inj a2 b2 he
  subst this
  rw[decide_eq_true he,cond_true]
  exact ⟨_,rfl,⟨fun _=>⟨B,σ,hT,hG,fun θ=>⟨fun h=>⟨h,sol_one.2 rfl⟩,fun h=>h.1⟩⟩,fun h=>(nomatch h)⟩⟩
 rw[decide_eq_false he,cond_false]
 have hne:t1≠u1:=fun h=>he (by rw[h])
 clear he a1 b1
 cases t1 with
 | v x =>
  have hx:x<24:=a2
  have hbx:=a5 x rfl
  have c1:(Tm.v x).codes=[-1 - (x:Int)]:=rfl
  have d1:decide (-1 - (x:Int)<0)=true:=decide_eq_true (by omega)
  have d2:decide (-1 - (x:Int)≥0)=false:=decide_eq_false (by omega)
  cases u1 with
  | v y =>
   have hy:y<24:=b2
   have hby:=b5 y rfl
   have c2:(Tm.v y).codes=[-1 - (y:Int)]:=rfl
   have d3:decide (-1 - (y:Int)<0)=true:=decide_eq_true (by omega)
   have hxy:x≠y:=fun h=>hne (by rw[h])
   rw[c1,c2]
   by_cases hlt:y<x
   ·have d4:decide (-1 - (x:Int) < -1 - (y:Int))=true:=decide_eq_true (by omega)
    simp only[gx_zero,List.getElem?_cons_zero,Option.bind_some,d1,d3,d4,cond_true]
    exact eta (pair1_var hT hG hx hlt hbx hby)
   ·have d4:decide (-1 - (x:Int) < -1 - (y:Int))=false:=decide_eq_false (by omega)
    simp only[gx_zero,List.getElem?_cons_zero,Option.bind_some,d1,d2,d3,d4,cond_true,cond_false]
    exact eta (flip (pair1_var hT hG hy (by omega) hby hbx))
  | f c as =>
   have c2:(Tm.f c as).codes=(c:Int)::codesR as:=rfl
   have d3:decide ((c:Int)<0)=false:=decide_eq_false (by omega)
   have h1:=pair1_term hT hG hx hbx b2 b3
   rw[c2] at h1
   rw[c1,c2]
   simp only[gx_zero,List.getElem?_cons_zero,Option.bind_some,d1,d2,d3,cond_true,cond_false]
   exact eta h1
 | f c as =>
  have c1:(Tm.f c as).codes=(c:Int)::codesR as:=rfl
  have d1:decide ((c:Int)<0)=false:=decide_eq_false (by omega)
  have d2:decide ((c:Int)≥0)=true:=decide_eq_true (by omega)
  cases u1 with
  | v y =>
   have hy:y<24:=b2
   have hby:=b5 y rfl
   have c2:(Tm.v y).codes=[-1 - (y:Int)]:=rfl
   have d3:decide (-1 - (y:Int)<0)=true:=decide_eq_true (by omega)
   have h1:=pair1_term hT hG hy hby a2 a3
   rw[c1] at h1
   rw[c1,c2]
   simp only[gx_zero,List.getElem?_cons_zero,Option.bind_some,d1,d2,d3,cond_true,cond_false]
   exact eta (flip h1)
  | f d bs =>
   have c2:(Tm.f d bs).codes=(d:Int)::codesR bs:=rfl
   have d3:decide ((d:Int)<0)=false:=decide_eq_false (by omega)
   rw[c1,c2]
   simp only[gx_zero,List.getElem?_cons_zero,Option.bind_some,d1,d2,d3,cond_true,cond_false]
   by_cases hcd:c=d
   ·subst hcd
    rw[show ((c:Int) != (c:Int))=false from by simp,cond_false]
    have hla:as.length=bs.length:=by
     have h1:=a2.1
     have h2:=b2.1
     rw[h1] at h2
     injection h2
    rw[c1,List.length_cons] at a3
    rw[c2,List.length_cons] at b3
    have hw:∀{xs:List Tm},(codesR xs).length≤48→∀ t∈xs,t.codes.length≤48:=fun h t ht=>Nat.le_trans (codes_le ht) h
    rw[slc_tail,Option.bind_some,ref1_Parts_eq hs (by omega) (cuts_codes as a2.2),Option.bind_some,slc_tail,Option.bind_some,ref1_Parts_eq hs (by omega) (cuts_codes bs b2.2),Option.bind_some]
    have hlt:=hd.lt hG hT.small hR
    obtain⟨r,h1,h2⟩:=ha (δ+1) w B σ as bs hT hG (fun t h=>⟨okR_iff.1 a2.2 t h,hw (by omega) t h⟩) (fun t h=>⟨okR_iff.1 b2.2 t h,hw (by omega) t h⟩) hla (by
      have:=cuts_len (cuts_codes as a2.2)
      rw[List.length_map] at this
      omega) (fun a ham θ hθ=>by
      obtain⟨c',hc',h5⟩:=hd θ hθ
      refine ⟨c',hc',?_⟩
      rw[a4 θ hθ] at h5
      have h6:((Tm.f c as).sub θ).ht=htR (subR θ as)+1:=rfl
      have h7:=htR_mem (ts:=subR θ as) (t:=a.sub θ) (by rw[subR_eq]; exact List.mem_map_of_mem ham)
      omega) (by omega)
    rw[h1,Option.bind_some]
    refine ⟨_,rfl,h2.via fun θ _ => ?_⟩
    rw[Sol.zip hla,sol_one,f_eq]
    simp
   ·rw[show ((c:Int) != (d:Int))=true from by simp; omega,cond_true]
    refine ⟨_,rfl,⟨fun h=>(nomatch h),fun _ θ _ h4 => ?_⟩⟩
    rw[sol_one,f_eq] at h4
    exact hcd h4.1
theorem both_run {a0:List QSym} (hs:SignOk a0) {R:List Tm} (hR:∀ c∈R,c.size≤48):∀ k,PairOk a0 R k∧AllOk a0 R k:=by
 intro k
 induction k with
 | zero =>
  refine ⟨fun δ w B σ t u hT hG _ _ hd hk => ?_,fun δ w B σ ts us _ _ _ _ _ _ _ hk=>by omega⟩
  have:=hd.lt hG hT.small hR
  omega
 | succ k ih=>exact ⟨pair_step hs hR ih.2,all_step ih.1⟩
end
end Go.Abs.Q
namespace Go.Abs.Q
open Go Go.Abs
section
theorem repW0 (a0:List QSym):RepW a0 (List.replicate 48 ([]:List Int)) (fun _=>none) where
 len:=by simp
 at_:=fun x hx=>by rw[List.getElem?_replicate,if_pos hx]; rfl
 ok:=fun x t h=>by cases h
theorem together_run {a0:List QSym} {w:List (List Int)} {B:Bd} {σ:Sb} (hT:RepW a0 w B) (hG:Good B σ):∀(m v k:Nat) (out:List (Int×List Int)),24 - v=m→v≤24→m<k→out.length≤v →
  lp ref1_Together_L0 k ((v:Int),w,out)=some (cond (shortIn σ ((List.range 24).drop v)) (.inl (out++bindsFrom B σ ((List.range 24).drop v))) (.inr (true,false))):=by
 intro m
 induction m with
 | zero =>
  intro v k out hm hv hk ho
  obtain⟨k,rfl⟩:∃ k',k=k'+1:=⟨k - 1,by omega⟩
  rw[lp_succ]
  generalize lp ref1_Together_L0 k=rec
  unfold ref1_Together_L0
  have:v=24:=by omega
  subst this
  rw[show (List.range 24).drop 24=[] from rfl]
  simp [bindsFrom,shortIn]
 | succ m ih =>
  intro v k out hm hv hk ho
  obtain⟨k,rfl⟩:∃ k',k=k'+1:=⟨k - 1,by omega⟩
  rw[lp_succ]
  have key:=fun out' ho'=>ih (v+1) k out' (by omega) (by omega) (by omega) ho'
  generalize lp ref1_Together_L0 k=rec at key ⊢
  unfold ref1_Together_L0
  have w1:IntKind.wrap .i64 ((v:Int)+1)=((v+1:Nat):Int):=by rw[wrap64]<;>omega
  have hdr:(List.range 24).drop v=v::(List.range 24).drop (v+1):=by
   rw[List.drop_eq_getElem_cons (by simp; omega)]
   simp
  simp only[decide_eq_true (show (v:Int)≤23 by omega),cond_true,inR_nat (show v<48 by omega),Option.bind_some,hT.at_ v (by omega),w1]
  rw[hdr]
  cases hb:B v with
  | none =>
   show (cond (((List.length ([]:List Int):Nat):Int)==0) _ _)=_
   rw[show (((List.length ([]:List Int):Nat):Int)==0)=true from rfl,cond_true,key out (by omega)]
   have hs:(σ v).size≤48:=by rw[hG.free v hb]; simp [Tm.size]
   have hb:isBd B v=false:=by simp [isBd,hb]
   simp [bindsFrom,shortIn,hb,hs]
  | some t =>
   obtain⟨-,h2,h3⟩:=hT.ok v t hb
   have hp:=codes_pos t
   show (cond (((List.length t.codes:Nat):Int)==0) _ ((ref1_store_full_1 t.codes w []).bind _))=_
   rw[show (((List.length t.codes:Nat):Int)==0)=false from by simp; intro h; rw[h] at hp; simp at hp,cond_false]
   obtain⟨r,g1,g2⟩:=full_spec hT hG h2 h3
   rw[← hG.bound v t hb] at g2
   rw[g1,Option.bind_some]
   by_cases hs:(σ v).size≤48
   ·have hr:=g2.fits (by rw[Tm.codes_len]; simpa using hs)
    rw[List.nil_append] at hr
    subst hr
    rw[decide_eq_false (show ¬((List.length (σ v).codes:Nat):Int)>48 by rw[Tm.codes_len]; omega),cond_false,room_ok (by simp only[List.length_singleton]; omega),cond_true,key _ (by simp only[List.length_append,List.length_singleton]; omega)]
    have hb:isBd B v=true:=by simp [isBd,hb]
    simp [bindsFrom,shortIn,hb,hs]
   ·have hr:=g2.over (by rw[Tm.codes_len]; simp; omega)
    rw[decide_eq_true (show ((List.length r:Nat):Int)>48 by omega),cond_true]
    simp [shortIn,hs]
theorem together_spec {a0:List QSym} (hs:SignOk a0) {ts us:List Tm} (ht:okR a0 24 ts) (hu:okR a0 24 us) (hlx:(codesR ts).length≤48) (hly:(codesR us).length≤48) :
  (ref1_Together a0 (codesR ts) (codesR us)=some (false,true,[])∧(ts.length≠us.length∨∀ θ,¬ Sol θ (ts.zip us))) ∨
  (ts.length=us.length∧∃ σ,Mgu σ (ts.zip us)∧ref1_Together a0 (codesR ts) (codesR us)=some (true,shortIn σ (List.range 24),cond (shortIn σ (List.range 24)) (bindsL σ) [])):=by
 unfold ref1_Together
 rw[ref1_Parts_eq hs (by omega) (cuts_codes ts ht),Option.bind_some,ref1_Parts_eq hs (by omega) (cuts_codes us hu),Option.bind_some]
 by_cases hl:ts.length=us.length
 ·rw[show (((List.length (ts.map Tm.codes):Nat):Int) != ((List.length (us.map Tm.codes):Nat):Int))=false from by simp [hl],cond_false]
  have sm:∀{xs:List Tm},okR a0 24 xs→(codesR xs).length≤48→∀ t∈xs,Sm a0 t:=fun h1 h2 t h=>⟨okR_iff.1 h1 t h,Nat.le_trans (codes_le h) h2⟩
  have hR:∀ c∈ts,c.size≤48:=fun c hc=>by have:=(sm ht hlx c hc).2; rwa [Tm.codes_len] at this
  obtain⟨r,h1,h2⟩:=(both_run hs hR fuel).2 0 (List.replicate 48 []) (fun _=>none) .v ts us (repW0 a0) Good.empty (sm ht hlx) (sm hu hly) hl (by
   have:=cuts_len (cuts_codes ts ht)
   rw[List.length_map] at this
   omega) (fun t h θ _=>⟨t,h,by omega⟩) (by unfold fuel; omega)
  have h1:ref1_store_all_1 a0 (ts.map Tm.codes) (us.map Tm.codes) (List.replicate 48 [])=some r:=h1
  rw[h1,Option.bind_some]
  cases hb:r.1 with
  | false=>exact .inl ⟨rfl,.inr fun θ h=>h2.no hb θ (fun _ _ h=>(nomatch h)) h⟩
  | true =>
   obtain⟨B',σ,g1,g2,g3⟩:=h2.yes hb
   refine .inr ⟨hl,σ,Mgu.of g2 g3,?_⟩
   have:=together_run g1 g2 24 0 fuel [] rfl (by omega) (by unfold fuel; omega) (by simp)
   rw[show ((0:Nat):Int)=0 from rfl] at this
   rw[Bool.not_true,cond_false,this,List.drop_zero]
   have he:bindsFrom B' σ (List.range 24)=bindsL σ:=by
    unfold bindsFrom bindsL
    rw[show isBd B'=moved σ from funext (isBd_eq g2)]
   cases shortIn σ (List.range 24) with
   | true=>simp only[cond_true,Option.bind_some,caseS_inl,List.nil_append,he]
   | false=>rfl
 ·rw[show (((List.length (ts.map Tm.codes):Nat):Int) != ((List.length (us.map Tm.codes):Nat):Int))=true from by simp; omega,cond_true]
  exact .inl ⟨rfl,.inl hl⟩
end
end Go.Abs.Q
namespace Go.Abs.Q
open Go Go.Abs
section
theorem of_go (v:Int):(es:List (Int×List Int))→(i:Nat)→(lookB es v=none∧ref1_Of_L0_go v es i=some (.inl ()))∨∃(j:Nat) (e:Int×List Int),ref1_Of_L0_go v es i=some (.inr ((i+j:Nat):Int))∧es[j]? = some e∧lookB es v=some e.2
 | [],i=>.inl ⟨rfl,rfl⟩
 | e::es,i=>by
  unfold ref1_Of_L0_go lookB
  rw[List.find?_cons]
  cases h:e.1==v with
  | true=>exact .inr ⟨0,e,rfl,rfl,rfl⟩
  | false =>
   rw[cond_false]
   rcases of_go v es (i+1) with ⟨h1,h2⟩ | ⟨j,e',h1,h2,h3⟩
   ·exact .inl ⟨h1,h2⟩
   ·exact .inr ⟨j+1,e',by rw[h1,show i+1+j=i+(j+1) from by omega],by simpa using h2,h3⟩
theorem of_spec {s:List (Int×List Int)} (hl:s.length≤1000) (v:Int):(lookB s v=none∧ref1_Of s v=some (-1))∨∃(j:Nat) (e:Int×List Int),ref1_Of s v=some (j:Int)∧s[j]? = some e∧lookB s v=some e.2:=by
 unfold ref1_Of
 rw[ref1_Of_L0_go_at0 _ _ (by unfold maxLen; omega)]
 rcases of_go v s 0 with ⟨h1,h2⟩ | ⟨j,e,h1,h2,h3⟩
 ·exact .inl ⟨h1,by rw[h2]; rfl⟩
 ·exact .inr ⟨j,e,by rw[h1,Nat.zero_add]; rfl,h2,h3⟩
theorem put_go {s:List (Int×List Int)} (h:BindsOk s):(es out:List Int)→(∀ c∈es,-1000000≤c∧c≤1000000)→out.length+1000*es.length≤1000000000→ref1_Put_L0_go s es out=some (out++onB s es)
 | [],out,_,_=>by simp [ref1_Put_L0_go,onB]
 | c::es,out,hc,hl=>by
  have hc0:=hc c (List.mem_cons_self ..)
  simp only[List.length_cons] at hl
  have ih:=fun out hl=>put_go h es out (fun c h=>hc c (List.mem_cons_of_mem _ h)) hl
  unfold ref1_Put_L0_go
  have plain:onC s c=[c]→(cond (room (List.length out+List.length ([c]:List Int)) 8) (ref1_Put_L0_go s es (out++([c]:List Int))) none)=some (out++onB s (c::es)):=fun hx=>by
   rw[room_ok (by simp; omega),cond_true,ih _ (by simp; omega)]
   unfold onB
   rw[List.flatMap_cons,hx,List.append_assoc]
  by_cases h0:c<0
  ·rw[decide_eq_true h0,cond_true]
   have w1:IntKind.wrap .i64 ((-1) - c) = -1 - c:=by rw[wrap64]<;>omega
   rw[w1]
   rcases of_spec h.len (-1 - c) with ⟨h1,h2⟩ | ⟨j,e,h1,h2,h3⟩
   ·rw[h2,Option.bind_some,show decide ((-1:Int)<0)=true from rfl,cond_true]
    refine plain ?_
    unfold onC
    rw[h1,decide_eq_false (show ¬ c≥0 by omega)]
    rfl
   ·have he:=(h.all e (List.mem_of_getElem? h2)).2
    rw[h1,Option.bind_some,decide_eq_false (show ¬(j:Int)<0 by omega),cond_false,gx_nat,h2,Option.bind_some,room_ok (by omega),cond_true,ih _ (by rw[List.length_append]; omega)]
    unfold onB
    have:onC s c=e.2:=by
     unfold onC
     rw[h3,decide_eq_false (show ¬ c≥0 by omega)]
     rfl
    rw[List.flatMap_cons,this,List.append_assoc]
  ·rw[decide_eq_false h0,cond_false]
   refine plain ?_
   unfold onC
   rw[decide_eq_true (show c≥0 by omega)]
   rfl
theorem put_eq {s:List (Int×List Int)} (h:BindsOk s) {r:List Int} (hr:NearR r):ref1_Put s r=some (onB s r):=by
 have:=hr.1
 unfold ref1_Put
 rw[ref1_Put_L0_go_at0 _ _ _ (by unfold maxLen; omega),put_go h r [] hr.2 (by simp; omega)]
 rfl
theorem copy_L0 {s:List (Int×List Int)} (h:BindsOk s):(es out:List QLit)→(∀ l∈es,NearR l.2)→out.length+es.length≤1000000→ref8_Copy_L0_go s es out=some (out++onLs s es)
 | [],out,_,_=>by simp [ref8_Copy_L0_go,onLs]
 | e::es,out,hn,hl=>by
  simp only[List.length_cons] at hl
  unfold ref8_Copy_L0_go
  rw[put_eq h (hn e (List.mem_cons_self ..)),Option.bind_some,room_ok (by simp; omega),cond_true,copy_L0 h es _ (fun l hl=>hn l (List.mem_cons_of_mem _ hl)) (by simp; omega)]
  simp [onLs]
theorem copy_L1 {s:List (Int×List Int)} (h:BindsOk s) (s5:List QLit):(es out:List (List Int))→(∀ l∈es,NearR l)→out.length+es.length≤1000000→ref8_Copy_L1_go s s5 es out=some (s5,out++onRs s es)
 | [],out,_,_=>by simp [ref8_Copy_L1_go,onRs]
 | e::es,out,hn,hl=>by
  simp only[List.length_cons] at hl
  unfold ref8_Copy_L1_go
  rw[put_eq h (hn e (List.mem_cons_self ..)),Option.bind_some,room_ok (by simp; omega),cond_true,copy_L1 h s5 es _ (fun l hl=>hn l (List.mem_cons_of_mem _ hl)) (by simp; omega)]
  simp [onRs]
theorem copy_L2 {s:List (Int×List Int)} (h:BindsOk s) (s5:List QLit) (s6:List (List Int)):(es out:List QLit)→(∀ l∈es,NearR l.2)→out.length+es.length≤1000000→ref8_Copy_L2_go s s5 s6 es out=some (s5,s6,out++onLs s es)
 | [],out,_,_=>by simp [ref8_Copy_L2_go,onLs]
 | e::es,out,hn,hl=>by
  simp only[List.length_cons] at hl
  unfold ref8_Copy_L2_go
  rw[put_eq h (hn e (List.mem_cons_self ..)),Option.bind_some,room_ok (by simp; omega),cond_true,copy_L2 h s5 s6 es _ (fun l hl=>hn l (List.mem_cons_of_mem _ hl)) (by simp; omega)]
  simp [onLs]
theorem copy_eq {s:List (Int×List Int)} (h:BindsOk s) {L:List QLit} {T:List (List Int)} {C:List QLit} (hL:∀ l∈L,NearR l.2) (hT:∀ l∈T,NearR l) (hC:∀ l∈C,NearR l.2) (h1:L.length≤1000) (h2:T.length≤1000) (h3:C.length≤1000) :
  ref8_Copy s L T C=some (onLs s L,onRs s T,onLs s C):=by
 unfold ref8_Copy
 rw[ref8_Copy_L0_go_at0 _ _ _ _ _ (by unfold maxLen; omega),copy_L0 h L [] hL (by simp; omega),Option.bind_some,
  ref8_Copy_L1_go_at0 _ _ _ _ _ _ (by unfold maxLen; omega),copy_L1 h _ T [] hT (by simp; omega),Option.bind_some,
  ref8_Copy_L2_go_at0 _ _ _ _ _ _ _ (by unfold maxLen; omega),copy_L2 h _ _ C [] hC (by simp; omega),Option.bind_some]
 simp
theorem sameLit_eq {l k:QLit} (h:l.2.length≤1000000):ref8_SameLit l.1 l.2 k.1 k.2=some (decide (l=k)):=by
 obtain⟨n,r⟩:=l
 obtain⟨n',r'⟩:=k
 unfold ref8_SameLit
 by_cases hn:n=n'
 ·subst hn
  simp only[beq_self_eq_true,cond_true]
  rw[same1_eq h,Option.bind_some]
  simp
 ·rw[show (n==n')=false from by simp [hn],cond_false]
  simp [hn]
theorem lits_L0 {s0 out:List QLit} {i0:Nat} {e0:QLit} (he:s0[i0]? = some e0) (ho:∀ l∈out,l.2.length≤1000000):(es:List QLit)→(i:Nat)→(b:Bool)→out.drop i=es→ref8_lits_L0_go s0 (i0:Int) out es i b=some (b||decide (e0∈es),out)
 | [],i,b,_=>by simp [ref8_lits_L0_go]
 | e::es,i,b,hd=>by
  have ih:=fun b=>lits_L0 he ho es (i+1) b (drop_cons_next hd)
  unfold ref8_lits_L0_go
  cases b with
  | true=>rw[cond_true,ih true]; rfl
  | false =>
   have hi:=drop_cons_lt hd
   have hg:=drop_cons_get hd
   rw[cond_false,inR_nat hi,Option.bind_some,hg,Option.bind_some,gx_nat,he,Option.bind_some,sameLit_eq (ho e (List.mem_of_getElem? hg)),Option.bind_some,ih]
   congr 2
   rw[Bool.eq_iff_iff,Bool.false_or,Bool.or_eq_true,decide_eq_true_iff,decide_eq_true_iff,decide_eq_true_iff,List.mem_cons]
   exact ⟨fun h=>h.imp Eq.symm id,fun h=>h.imp Eq.symm id⟩
theorem lits_L1 {s0:List QLit} (hs:∀ l∈s0,l.2.length≤1000000):(es:List QLit)→(i:Nat)→(out:List QLit)→s0.drop i=es→(∀ l∈out,l.2.length≤1000000)→out.length+es.length≤1000000→ref8_lits_L1_go s0 es i out=some (onceL es out)
 | [],i,out,_,_,_=>rfl
 | e::es,i,out,hd,ho,hl=>by
  simp only[List.length_cons] at hl
  have hg:=drop_cons_get hd
  have hem:=List.mem_of_getElem? hg
  unfold ref8_lits_L1_go onceL
  rw[ref8_lits_L0_go_at0 _ _ _ _ (by unfold maxLen; omega),lits_L0 hg ho out 0 false rfl,Option.bind_some,Bool.false_or]
  by_cases hm:e∈out
  ·have e1:∀ inst:Decidable (e∈out),@decide (e∈out) inst=true:=fun _=>decide_eq_true hm
   simp only[e1,Bool.not_true,cond_false,cond_true]
   exact lits_L1 hs es (i+1) out (drop_cons_next hd) ho (by omega)
  ·have e1:∀ inst:Decidable (e∈out),@decide (e∈out) inst=false:=fun _=>decide_eq_false hm
   simp only[e1,Bool.not_false,cond_true,cond_false]
   rw[room_ok (by simp; omega),cond_true]
   exact lits_L1 hs es (i+1) _ (drop_cons_next hd) (fun l hl=>by
    rcases List.mem_append.1 hl with hl | hl
    ·exact ho l hl
    ·rw[List.mem_singleton.1 hl]; exact hs e hem) (by simp; omega)
theorem lits_eq {L:List QLit} (hs:∀ l∈L,l.2.length≤1000000) (hl:L.length≤1000):ref8_lits L=some (onceL L []):=by
 unfold ref8_lits
 rw[ref8_lits_L1_go_at0 _ _ (by unfold maxLen; omega),lits_L1 hs L 0 [] rfl (fun _ h=>(nomatch h)) (by simp; omega)]
 rfl
theorem norm_L0 {s4 out:List (List Int)} {s6 s7:List QLit} {i0:Nat} {e0:List Int} (he:s4[i0]? = some e0) (ho:∀ l∈out,l.length≤1000000):(es:List (List Int))→(i:Nat)→(b:Bool)→out.drop i=es→ref8_Norm_L0_go (i0:Int) s4 s6 s7 out es i b=some (b||decide (e0∈es),s6,s7,out)
 | [],i,b,_=>by simp [ref8_Norm_L0_go]
 | e::es,i,b,hd=>by
  have ih:=fun b=>norm_L0 (s6:=s6) (s7:=s7) he ho es (i+1) b (drop_cons_next hd)
  unfold ref8_Norm_L0_go
  cases b with
  | true=>rw[cond_true,ih true]; rfl
  | false =>
   have hi:=drop_cons_lt hd
   have hg:=drop_cons_get hd
   rw[cond_false,inR_nat hi,Option.bind_some,hg,Option.bind_some,gx_nat,he,Option.bind_some,same1_eq (ho e (List.mem_of_getElem? hg)),Option.bind_some,ih]
   congr 2
   rw[Bool.eq_iff_iff,Bool.false_or,Bool.or_eq_true,decide_eq_true_iff,decide_eq_true_iff,decide_eq_true_iff,List.mem_cons]
   exact ⟨fun h=>h.imp Eq.symm id,fun h=>h.imp Eq.symm id⟩
theorem norm_L1 {s1 s3 s4 s5:List QLit} {s2:List (List Int)} (hs:∀ l∈s2,l.length≤1000000):(es:List (List Int))→(i:Nat)→(out:List (List Int))→s2.drop i=es→(∀ l∈out,l.length≤1000000)→out.length+es.length≤1000000→ref8_Norm_L1_go s1 s2 s3 es i s4 s5 out=some (s4,s5,onceL es out)
 | [],i,out,_,_,_=>rfl
 | e::es,i,out,hd,ho,hl=>by
  simp only[List.length_cons] at hl
  have hg:=drop_cons_get hd
  have hem:=List.mem_of_getElem? hg
  unfold ref8_Norm_L1_go onceL
  rw[ref8_Norm_L0_go_at0 _ _ _ _ _ _ _ _ (by unfold maxLen; omega),norm_L0 hg ho out 0 false rfl,Option.bind_some,Bool.false_or]
  by_cases hm:e∈out
  ·have e1:∀ inst:Decidable (e∈out),@decide (e∈out) inst=true:=fun _=>decide_eq_true hm
   simp only[e1,Bool.not_true,cond_false,cond_true]
   exact norm_L1 hs es (i+1) out (drop_cons_next hd) ho (by omega)
  ·have e1:∀ inst:Decidable (e∈out),@decide (e∈out) inst=false:=fun _=>decide_eq_false hm
   simp only[e1,Bool.not_false,cond_true,cond_false]
   rw[room_ok (by simp; omega),cond_true]
   exact norm_L1 hs es (i+1) _ (drop_cons_next hd) (fun l hl=>by
    rcases List.mem_append.1 hl with hl | hl
    ·exact ho l hl
    ·rw[List.mem_singleton.1 hl]; exact hs e hem) (by simp; omega)
end
end Go.Abs.Q
namespace Go.Abs.Q
open Go Go.Abs
section
def num1 (bs:List (Int×List Int)) (c:Int):List (Int×List Int):=cond (decide (c<0)&&(lookB bs (-1 - c)).isNone) (bs++[(-1 - c,[-1 - (bs.length:Int)])]) bs
def numR (bs:List (Int×List Int)) (r:List Int):List (Int×List Int):=r.foldl num1 bs
theorem num1_len (bs:List (Int×List Int)) (c:Int):(num1 bs c).length≤bs.length+1:=by
 unfold num1
 cases decide (c<0)&&(lookB bs (-1 - c)).isNone<;>simp
theorem numR_len (r:List Int):(bs:List (Int×List Int))→(numR bs r).length≤bs.length+r.length:=by
 unfold numR
 induction r with
 | nil=>intro bs; simp
 | cons c r ih =>
  intro bs
  have:=ih (num1 bs c)
  have:=num1_len bs c
  simp only[List.foldl_cons,List.length_cons]
  omega
theorem norm_L2 {rows:List (List Int)} {i:Nat} {r:List Int} (hr:rows[i]? = some r) (L:List QLit) (T:List (List Int)) (C:List QLit) (hrl:r.length≤1000):∀(es:List Int) (j k:Nat) (bs:List (Int×List Int)),r.drop j=es→(∀ c∈es,-1000000≤c∧c≤1000000)→es.length<k→bs.length+es.length≤1000 →
  lp ref8_Norm_L2 k (rows,(i:Int),(j:Int),L,T,C,bs)=some (numR bs es)
 | [],j,k,bs,hd,_,hk,_=>by
  obtain⟨k,rfl⟩:∃ k',k=k'+1:=⟨k - 1,by simp at hk; omega⟩
  rw[lp_succ]
  generalize lp ref8_Norm_L2 k=rec
  unfold ref8_Norm_L2
  have:=drop_nil_le hd
  rw[gx_nat,hr,Option.bind_some,decide_eq_false (show ¬(j:Int)<((List.length r:Nat):Int) by omega),cond_false]
  rfl
 | c::es,j,k,bs,hd,hc,hk,hb=>by
  obtain⟨k,rfl⟩:∃ k',k=k'+1:=⟨k - 1,by simp at hk; omega⟩
  simp only[List.length_cons] at hk hb
  have hlt:=drop_cons_lt hd
  have hc0:=hc c (List.mem_cons_self ..)
  rw[lp_succ]
  have key:=fun bs hb=>norm_L2 hr L T C hrl es (j+1) k bs (drop_cons_next hd) (fun c h=>hc c (List.mem_cons_of_mem _ h)) (by omega) hb
  generalize lp ref8_Norm_L2 k=rec at key ⊢
  unfold ref8_Norm_L2
  have w1:IntKind.wrap .i64 ((j:Int)+1)=((j+1:Nat):Int):=by rw[wrap64]<;>omega
  have w2:IntKind.wrap .i64 ((-1) - c) = -1 - c:=by rw[wrap64]<;>omega
  have w3:IntKind.wrap .i64 ((-1) - ((List.length bs:Nat):Int)) = -1 - (bs.length:Int):=by rw[wrap64]<;>omega
  simp only[gx_nat,hr,Option.bind_some,drop_cons_get hd,w1,w2,w3]
  rw[decide_eq_true (show (j:Int)<((List.length r:Nat):Int) by omega),cond_true]
  show _=some (numR (num1 bs c) es)
  unfold num1
  by_cases h0:c<0
  ·rw[decide_eq_true h0,cond_true,Bool.true_and]
   rcases of_spec (s:=bs) (by omega) (-1 - c) with ⟨h1,h2⟩ | ⟨q,e,h1,h2,h3⟩
   ·rw[h2,Option.bind_some,show decide ((-1:Int)<0)=true from rfl,cond_true,room_ok (by simp; omega),cond_true,key _ (by simp; omega),h1]
    rfl
   ·rw[h1,Option.bind_some,decide_eq_false (show ¬(q:Int)<0 by omega),cond_false,key _ (by omega),h3]
    rfl
  ·rw[decide_eq_false h0,cond_false,Bool.false_and,cond_false,key _ (by omega)]
theorem norm_L3 {rows:List (List Int)} (L:List QLit) (T:List (List Int)) (C:List QLit) (hrows:∀ r∈rows,NearR r):(es:List (List Int))→(i:Nat)→(bs:List (Int×List Int))→rows.drop i=es→bs.length+sumLen es≤1000 →
  ref8_Norm_L3_go rows L T C es i bs=some (es.foldl numR bs)
 | [],_,_,_,_=>rfl
 | e::es,i,bs,hd,hb=>by
  have hg:=drop_cons_get hd
  have he:=hrows e (List.mem_of_getElem? hg)
  have hs:sumLen (e::es)=e.length+sumLen es:=by simp [sumLen]
  unfold ref8_Norm_L3_go
  have:=norm_L2 hg L T C he.1 e 0 fuel bs rfl he.2 (by have:=he.1; unfold fuel; omega) (by omega)
  rw[show ((0:Nat):Int)=0 from rfl] at this
  have hl:=numR_len e bs
  rw[this,Option.bind_some,norm_L3 L T C hrows es (i+1) _ (drop_cons_next hd) (by omega)]
  rfl
structure Rl (s:RenS) (bs:List (Int×List Int)):Prop where
 cnt:(bs.length:Int)=s.2
 at_:∀ v:Nat,lookB bs (v:Int)=if s.1.getD v 0=0 then none else some [-(s.1.getD v 0)]
 one:∀ b∈bs,b.2.length=1
theorem lookB_append (bs:List (Int×List Int)) (v w:Int) (t:List Int):lookB (bs++[(v,t)]) w=match lookB bs w with
  | some u=>some u
  | none=>cond (v==w) (some t) none:=by
 unfold lookB
 rw[List.find?_append]
 cases h:bs.find? fun b=>b.1==w with
 | some b=>rfl
 | none =>
  simp only[Option.none_or,List.find?_cons,List.find?_nil,Option.map_none]
  cases v==w<;>rfl
theorem rl0:Rl (List.replicate 24 (0:Int),0) [] where
 cnt:=rfl
 at_:=fun v=>by
  rw[if_pos]
  ·rfl
  ·show (List.replicate 24 (0:Int)).getD v 0=0
   rw[List.getD_eq_getElem?_getD,List.getElem?_replicate]
   split<;>rfl
 one:=fun _ h=>(nomatch h)
theorem Rl.ok {s:RenS} {bs:List (Int×List Int)} (h:Rl s bs) (hI:RenI s):BindsOk bs where
 len:=by have:=h.cnt; have:=hI.next; omega
 all:=fun b hb=>by
  have:=h.one b hb
  exact ⟨fun e=>by rw[e] at this; simp at this,by omega⟩
theorem Rl.step {s:RenS} {bs:List (Int×List Int)} (h:Rl s bs) (hI:RenI s) {c:Int} (hc : -24≤c):Rl (ren1 s c).2 (num1 bs c):=by
 unfold ren1 num1
 by_cases h0:c≥0
 ·rw[decide_eq_true h0,cond_true,decide_eq_false (show ¬ c<0 by omega),Bool.false_and,cond_false]
  exact h
 ·rw[decide_eq_false h0,cond_false,decide_eq_true (show c<0 by omega),Bool.true_and]
  obtain⟨v,rfl⟩:∃ v:Nat,c = -1 - (v:Int):=⟨(-1 - c).toNat,by omega⟩
  have e1:(-1 - (-1 - (v:Int)))=(v:Int):=by omega
  rw[e1,Int.toNat_natCast,h.at_ v]
  by_cases hz:s.1.getD v 0=0
  ·rw[if_pos hz,show (s.1.getD v 0==0)=true from by rw[hz]; rfl,cond_true,show (none:Option (List Int)).isNone=true from rfl,cond_true]
   have hv:v<s.1.length:=by rw[hI.len]; omega
   have hcnt:=h.cnt
   refine ⟨by show (((bs++[_]).length:Nat):Int)=s.2+1; rw[List.length_append,← hcnt]; simp,fun w => ?_,fun b hb => ?_⟩
   ·rw[lookB_append,h.at_ w]
    show _=if (s.1.set v (s.2+1)).getD w 0=0 then none else some [-((s.1.set v (s.2+1)).getD w 0)]
    rw[getD_set hv]
    have hn:=hI.next
    by_cases hw:w=v
    ·subst hw
     rw[if_pos hz,if_pos rfl,if_neg (show ¬ s.2+1=0 by omega)]
     simp only[beq_self_eq_true,cond_true]
     rw[show -1 - (bs.length:Int) = -(s.2+1) from by omega]
    ·rw[if_neg hw]
     by_cases hz2:s.1.getD w 0=0
     ·rw[if_pos hz2]
      simp only
      rw[show (((v:Nat):Int)==((w:Nat):Int))=false from by simp; omega]
      rfl
     ·rw[if_neg hz2]
   ·rcases List.mem_append.1 hb with hb | hb
    ·exact h.one b hb
    ·rw[List.mem_singleton.1 hb]; rfl
  ·rw[if_neg hz,show (s.1.getD v 0==0)=false from by simpa using hz,cond_false]
   exact h
theorem Rl.row:(r:List Int)→{s:RenS}→{bs:List (Int×List Int)}→Rl s bs→RenI s→(∀ c∈r,-24≤c)→Rl (renR s r).2 (numR bs r)
 | [],_,_,h,_,_=>h
 | c::r,s,bs,h,hI,hc=>by
  have h1:=h.step hI (hc c (List.mem_cons_self ..))
  exact Rl.row r h1 (ren1_spec hI (hc c (List.mem_cons_self ..))).1 fun d hd=>hc d (List.mem_cons_of_mem _ hd)
theorem Rl.lits:(ls:List QLit)→{s:RenS}→{bs:List (Int×List Int)}→Rl s bs→RenI s→(∀ l∈ls,∀ c∈l.2,-24≤c)→Rl (renLs s ls).2 ((ls.map (·.2)).foldl numR bs)
 | [],_,_,h,_,_=>h
 | l::ls,s,bs,h,hI,hc=>by
  have h1:=h.row l.2 hI (hc l (List.mem_cons_self ..))
  exact Rl.lits ls h1 (renR_spec l.2 hI (hc l (List.mem_cons_self ..))).1 fun d hd=>hc d (List.mem_cons_of_mem _ hd)
theorem Rl.rows:(ls:List (List Int))→{s:RenS}→{bs:List (Int×List Int)}→Rl s bs→RenI s→(∀ l∈ls,∀ c∈l,-24≤c)→Rl (renRs s ls).2 (ls.foldl numR bs)
 | [],_,_,h,_,_=>h
 | l::ls,s,bs,h,hI,hc=>by
  have h1:=h.row l hI (hc l (List.mem_cons_self ..))
  exact Rl.rows ls h1 (renR_spec l hI (hc l (List.mem_cons_self ..))).1 fun d hd=>hc d (List.mem_cons_of_mem _ hd)
theorem onB_ren {f:RenS} (hI:RenI f) {bs:List (Int×List Int)} (h:Rl f bs):(r:List Int)→(∀ c∈r,-24≤c)→(∀ x,VarC r x→f.1.getD x.toNat 0≠0)→onB bs r=subCs (fun v=>.v (rho f v)) r
 | [],_,_=>rfl
 | c::r,hc,hz=>by
  have ih:=onB_ren hI h r (fun d hd=>hc d (List.mem_cons_of_mem _ hd)) fun x ⟨d,hd,h1⟩=>hz x ⟨d,List.mem_cons_of_mem _ hd,h1⟩
  have hc0:=hc c (List.mem_cons_self ..)
  unfold onB subCs at ih ⊢
  rw[List.flatMap_cons,List.flatMap_cons,ih]
  congr 1
  unfold onC expC
  by_cases h0:c≥0
  ·rw[decide_eq_true h0,cond_true,if_neg (by omega)]
  ·rw[decide_eq_false h0,cond_false,if_pos (by omega)]
   obtain⟨v,rfl⟩:∃ v:Nat,c = -1 - (v:Int):=⟨(-1 - c).toNat,by omega⟩
   have e1:(-1 - (-1 - (v:Int)))=(v:Int):=by omega
   have hv:=hz (v:Int) ⟨_,List.mem_cons_self ..,by omega,by omega⟩
   rw[Int.toNat_natCast] at hv
   rw[e1,h.at_ v,if_neg hv,Int.toNat_natCast]
   have:=hI.rng v
   unfold rho
   show [-(f.1.getD v 0)]=[-1 - (((f.1.getD v 0).toNat - 1:Nat):Int)]
   congr 1
   omega
theorem norm_eq {L:List QLit} {T:List (List Int)} {C:List QLit} (hc:∀ r∈rowsOf L T C,Cds r) (hl:L.length≤100) (ht:T.length≤100) (hcl:C.length≤100) (hsum:sumLen (L.map (·.2))+sumLen T+sumLen (C.map (·.2))≤1000):ref8_Norm L T C=some (normC L T C):=by
 have cL:∀ l∈L,Cds l.2:=fun l h=>hc _ (mem_rows_lit h)
 have cT:∀ l∈T,Cds l:=fun l h=>hc _ (mem_rows_row h)
 have cC:∀ l∈C,Cds l.2:=fun l h=>hc _ (mem_rows_cond h)
 have mL:∀ l,l∈onceL L []↔l∈L:=fun l=>by simpa using onceL_mem (x:=l) L []
 have mT:∀ l,l∈onceL T []↔l∈T:=fun l=>by simpa using onceL_mem (x:=l) T []
 have mC:∀ l,l∈onceL C []↔l∈C:=fun l=>by simpa using onceL_mem (x:=l) C []
 have lL:=onceL_len L []
 have lT:=onceL_len T []
 have lC:=onceL_len C []
 simp only[List.length_nil,Nat.zero_add] at lL lT lC
 have big:∀ r:List Int,Cds r→r.length≤1000000:=fun r h=>by have:=h.1; omega
 unfold ref8_Norm
 rw[lits_eq (fun l h=>big _ (cL l h)) (by omega),Option.bind_some,lits_eq (fun l h=>big _ (cC l h)) (by omega),Option.bind_some,
  ref8_Norm_L1_go_at0 _ _ _ _ _ _ (by unfold maxLen; omega),norm_L1 (fun l h=>big _ (cT l h)) T 0 [] rfl (fun _ h=>(nomatch h)) (by simp; omega),Option.bind_some]
 simp only
 rw[ref8_rows_eq _ _ _ (by omega) (by omega) (by omega),Option.bind_some]
 have nr:∀ r∈(onceL L []).map (·.2)++onceL T []++(onceL C []).map (·.2),Cds r:=fun r hr=>by
  rcases List.mem_append.1 hr with hr | hr
  ·rcases List.mem_append.1 hr with hr | hr
   ·obtain⟨l,hl,rfl⟩:=List.mem_map.1 hr; exact cL l ((mL l).1 hl)
   ·exact cT r ((mT r).1 hr)
  ·obtain⟨l,hl,rfl⟩:=List.mem_map.1 hr; exact cC l ((mC l).1 hl)
 have sL:sumLen ((onceL L []).map (·.2))≤sumLen (L.map (·.2)):=by
  have:=once_sum (fun l:QLit=>l.2.length) L []
  have h4:(([]:List QLit).map (fun l:QLit=>l.2.length)).sum=0:=rfl
  rw[h4,Nat.zero_add] at this
  unfold sumLen
  rw[List.map_map,List.map_map]
  exact this
 have sC:sumLen ((onceL C []).map (·.2))≤sumLen (C.map (·.2)):=by
  have:=once_sum (fun l:QLit=>l.2.length) C []
  have h4:(([]:List QLit).map (fun l:QLit=>l.2.length)).sum=0:=rfl
  rw[h4,Nat.zero_add] at this
  unfold sumLen
  rw[List.map_map,List.map_map]
  exact this
 have sT:sumLen (onceL T [])≤sumLen T:=by
  have:=once_sum List.length T []
  unfold sumLen
  simpa using this
 rw[ref8_Norm_L3_go_at0 _ _ _ _ _ (by simp only[List.length_append,List.length_map]; unfold maxLen; omega),norm_L3 _ _ _ (fun r hr=>(nr r hr).near) _ 0 [] List.drop_zero (by rw[sumLen_append,sumLen_append]; simp only[List.length_nil]; omega),Option.bind_some,List.foldl_append,List.foldl_append]
 -- the numbering
 obtain⟨a1,a2,a3,a4⟩:=renLs_spec (onceL L []) ren0 fun l hl=>fun c h=>((cL l ((mL l).1 hl)).2 c h).1
 obtain⟨b1,b2,b3,b4⟩:=renRs_spec (onceL T []) a1 fun l hl=>fun c h=>((cT l ((mT l).1 hl)).2 c h).1
 obtain⟨c1,c2,c3,c4⟩:=renLs_spec (onceL C []) b1 fun l hl=>fun c h=>((cC l ((mC l).1 hl)).2 c h).1
 have r1:=rl0.lits (onceL L []) ren0 fun l hl=>fun c h=>((cL l ((mL l).1 hl)).2 c h).1
 have r2:=r1.rows (onceL T []) a1 fun l hl=>fun c h=>((cT l ((mT l).1 hl)).2 c h).1
 have r3:=r2.lits (onceL C []) b1 fun l hl=>fun c h=>((cC l ((mC l).1 hl)).2 c h).1
 have nz1:∀ x,VarR ((onceL L []).map (·.2)) x→(renLs (renRs (renLs (List.replicate 24 0,0) (onceL L [])).2 (onceL T [])).2 (onceL C [])).2.1.getD x.toNat 0≠0:=fun x hx=>by
  have:=a3 x hx
  rw[c2 _ (by rw[b2 _ this]; exact this),b2 _ this]
  exact this
 have nz2:∀ x,VarR (onceL T []) x→(renLs (renRs (renLs (List.replicate 24 0,0) (onceL L [])).2 (onceL T [])).2 (onceL C [])).2.1.getD x.toNat 0≠0:=fun x hx=>by
  have:=b3 x hx
  rw[c2 _ this]
  exact this
 rw[copy_eq (r3.ok c1) (fun l h=>(cL l ((mL l).1 h)).near) (fun l h=>(cT l ((mT l).1 h)).near) (fun l h=>(cC l ((mC l).1 h)).near) (by omega) (by omega) (by omega),Option.bind_some]
 unfold normC renC
 rw[a4 _ (b2.trans c2),b4 _ c2,c4 _ (ExtS.refl _)]
 have eL:onLs _ (onceL L [])=subLs _ (onceL L []):=List.map_congr_left fun l h=>by
  show (l.1,_)=(l.1,_)
  rw[onB_ren c1 r3 l.2 (fun c hh=>((cL l ((mL l).1 h)).2 c hh).1) fun x hx=>nz1 x ⟨_,List.mem_map_of_mem h,hx⟩]
 have eT:onRs _ (onceL T [])=(onceL T []).map _:=List.map_congr_left fun l h=>onB_ren c1 r3 l (fun c hh=>((cT l ((mT l).1 h)).2 c hh).1) fun x hx=>nz2 x ⟨_,h,hx⟩
 have eC:onLs _ (onceL C [])=subLs _ (onceL C []):=List.map_congr_left fun l h=>by
  show (l.1,_)=(l.1,_)
  rw[onB_ren c1 r3 l.2 (fun c hh=>((cC l ((mC l).1 h)).2 c hh).1) fun x hx=>c3 x ⟨_,List.mem_map_of_mem h,hx⟩]
 rw[eL,eT,eC]
end
end Go.Abs.Q
namespace Go.Abs.Q
open Go Go.Abs
section
theorem TopV.unique {rs:List (List Int)} {m m':Int} (h:TopV rs m) (h':TopV rs m') (h0:0≤m) (h0':0≤m'):m=m':=by
 have a:m'≤m:=by
  rcases h'.2 with e | e
  ·omega
  ·have:=h.1 _ e; omega
 have b:m≤m':=by
  rcases h.2 with e | e
  ·omega
  ·have:=h'.1 _ e; omega
 omega
def upB (b:Nat) (vs:List Nat):List (Int×List Int):=vs.map fun v:Nat=>((v:Int),[-1 - (v:Int) - (b:Int)])
theorem apart13_go {b:Nat} (hb:b≤24):(vs:List Nat)→(bs:List (Int×List Int))→(∀ v∈vs,v<24)→bs.length+vs.length≤1000→ref13_apart_L0_go (b:Int) (vs.map fun v:Nat=>(v:Int)) bs=some (cond (vs.all fun v=>decide (v+b≤23)) (.inl (bs++upB b vs)) (.inr false))
 | [],bs,_,_=>by simp [ref13_apart_L0_go,upB]
 | v::vs,bs,h,hl=>by
  have hv:=h v (List.mem_cons_self ..)
  simp only[List.length_cons] at hl
  rw[List.map_cons]
  unfold ref13_apart_L0_go
  have w1:IntKind.wrap .i64 ((v:Int)+(b:Int))=(v:Int)+(b:Int):=by rw[wrap64]<;>omega
  have w2:IntKind.wrap .i64 ((-1) - (v:Int)) = -1 - (v:Int):=by rw[wrap64]<;>omega
  have w3:IntKind.wrap .i64 (-1 - (v:Int) - (b:Int)) = -1 - (v:Int) - (b:Int):=by rw[wrap64]<;>omega
  rw[w1,w2,w3,List.all_cons]
  by_cases hvb:v+b≤23
  ·rw[decide_eq_false (show ¬(v:Int)+(b:Int)>23 by omega),cond_false,room_ok (by simp; omega),cond_true,apart13_go hb vs _ (fun x hx=>h x (List.mem_cons_of_mem _ hx)) (by simp; omega),decide_eq_true hvb,Bool.true_and]
   simp [upB]
  ·rw[decide_eq_true (show (v:Int)+(b:Int)>23 by omega),cond_true,decide_eq_false hvb]
   rfl
theorem flatMap_one {α β:Type} (f:α→β):(r:List α)→(g:α→List β)→(∀ c∈r,g c=[f c])→r.flatMap g=r.map f
 | [],_,_=>rfl
 | c::r,g,h=>by rw[List.flatMap_cons,h c (List.mem_cons_self ..),flatMap_one f r g fun d hd=>h d (List.mem_cons_of_mem _ hd)]; rfl
theorem lookB_up (b:Nat) (v:Nat):(vs:List Nat)→v∈vs→lookB (upB b vs) (v:Int)=some [-1 - (v:Int) - (b:Int)]
 | [],h=>(nomatch h)
 | w::vs,h=>by
  have ih:=lookB_up b v vs
  unfold lookB upB at ih ⊢
  rw[List.map_cons,List.find?_cons]
  by_cases hw:w=v
  ·subst hw
   simp
  ·rw[show (((w:Nat):Int)==((v:Nat):Int))=false from by simp; omega]
   rcases List.mem_cons.1 h with h | h
   ·exact absurd h.symm hw
   ·exact ih h
theorem onB_up {b:Nat} {vs:List Nat} {r:List Int} (h:∀ x,VarC r x→0≤x∧x.toNat∈vs):onB (upB b vs) r=r.map (upC (b:Int)):=by
 unfold onB
 refine flatMap_one _ r _ fun c hc => ?_
 unfold onC upC
 by_cases h0:c<0
 ·obtain⟨h1,h2⟩:=h (-1 - c) ⟨c,hc,h0,rfl⟩
  have:=lookB_up b (-1 - c).toNat vs h2
  rw[Int.toNat_of_nonneg h1] at this
  rw[decide_eq_false (show ¬ c≥0 by omega),cond_false,this,decide_eq_true h0,cond_true]
  show [_]=[_]
  congr 1
  omega
 ·rw[decide_eq_true (show c≥0 by omega),cond_true,decide_eq_false h0,cond_false]
theorem upB_ok (b:Nat) (vs:List Nat) (h:vs.length≤1000):BindsOk (upB b vs) where
 len:=by unfold upB; rw[List.length_map]; exact h
 all:=fun q hq=>by
  obtain⟨v,-,rfl⟩:=List.mem_map.1 hq
  exact ⟨by simp,by simp⟩
theorem may_sum {a0:List QSym} (_hs:SignOk a0) {L:List QLit} {T:List (List Int)} {C:List QLit} (h:mayB a0 L T C=true):L.length≤5∧T.length≤3∧C.length≤3∧sumLen (L.map (·.2))+sumLen T+sumLen (C.map (·.2))≤1000:=by
 obtain⟨-,h1,h2,h3,-,-,-,h7⟩:=mayB_spec h
 exact ⟨h1,h2,h3,by omega⟩
theorem apart13_spec {a0:List QSym} (hs:SignOk a0) {L:List QLit} {T:List (List Int)} {C:List QLit} {L':List QLit} {T':List (List Int)} {C':List QLit} (h:mayB a0 L T C=true) (h':mayB a0 L' T' C'=true) {b:Nat} (hb:b≤24) (htop:TopV (rowsOf L T C) (b:Int)) :
  (ref13_apart L T C L' T' C'=some ([],[],false,[])∧∃ x,VarR (rowsOf L' T' C') x∧23<x+(b:Int)) ∨
  (ref13_apart L T C L' T' C'=some (upLs (b:Int) L',T'.map (List.map (upC (b:Int))),true,upLs (b:Int) C')∧∀ x,VarR (rowsOf L' T' C') x→x+(b:Int)≤23):=by
 obtain⟨l1,l2,l3,l4⟩:=may_sum hs h
 obtain⟨m1,m2,m3,m4⟩:=may_sum hs h'
 have hcd:=may_cds hs h'
 have hwm:∀ x,x∈(varsN L T C).map (fun v:Nat=>(v:Int))↔VarR (rowsOf L T C) x:=fun x=>by
  constructor
  ·intro hx
   obtain⟨v,hv,rfl⟩:=List.mem_map.1 hx
   exact (varsN_mem (varsN_lt v hv)).1 hv
  ·intro hx
   have:=varR_lt h hx
   obtain⟨v,rfl⟩:∃ v:Nat,x=(v:Int):=⟨x.toNat,by omega⟩
   exact List.mem_map_of_mem ((varsN_mem (by omega)).2 hx)
 have hrise:Rise ((varsN L T C).map fun v:Nat=>(v:Int)):=by
  have h1:(varsN L T C).Pairwise (· < ·):=List.Pairwise.sublist List.filter_sublist List.pairwise_lt_range
  unfold Rise
  rw[List.pairwise_map]
  exact h1.imp fun h=>by omega
 have hv':∀ x,VarR (rowsOf L' T' C') x→0≤x∧x.toNat∈varsN L' T' C':=fun x hx=>by
  have:=varR_lt h' hx
  refine ⟨this.1,(varsN_mem (by omega)).2 ?_⟩
  rw[Int.toNat_of_nonneg this.1]; exact hx
 have hvl:(varsN L' T' C').length≤24:=by
  have:=nodup_le _ (List.range 24) (varsN_nodup L' T' C') fun v hv=>List.mem_range.2 (varsN_lt v hv)
  simpa using this
 -- the last part, whatever the way to it
 have fin:∀ o:Option (List QLit×List (List Int)×Bool×List QLit),o=((lp ref13_apart_L0 fuel) ((b:Int),(varsN L' T' C').map (fun v:Nat=>(v:Int)),0,L',T',C',([]:List (Int×List Int)))).bind (fun r27=>caseS r27 (fun z28=>(ref8_Copy z28 L' T' C').bind fun r29=>some (r29.1,r29.2.1,true,r29.2.2)) (fun z30=>some (([]:List QLit),([]:List (List Int)),z30,([]:List QLit)))) →
   (o=some ([],[],false,[])∧∃ x,VarR (rowsOf L' T' C') x∧23<x+(b:Int))∨(o=some (upLs (b:Int) L',T'.map (List.map (upC (b:Int))),true,upLs (b:Int) C')∧∀ x,VarR (rowsOf L' T' C') x→x+(b:Int)≤23):=by
  intro o ho
  rw[ho,ref13_apart_L0_go_at0 _ _ _ _ _ _ (by rw[List.length_map]; unfold maxLen; omega),apart13_go hb _ [] varsN_lt (by simp; omega)]
  cases ha:(varsN L' T' C').all fun v=>decide (v+b≤23) with
  | false =>
   refine .inl ⟨rfl,?_⟩
   obtain⟨v,hv,hvb⟩:=List.all_eq_false.1 ha
   have hvb:¬ v+b≤23:=by simpa using hvb
   exact ⟨(v:Int),(varsN_mem (varsN_lt v hv)).1 hv,by omega⟩
  | true =>
   refine .inr ⟨?_,fun x hx => ?_⟩
   ·simp only[cond_true,Option.bind_some,caseS_inl,List.nil_append]
    rw[copy_eq (upB_ok b _ (by omega)) (fun l hl=>(hcd _ (mem_rows_lit hl)).near) (fun l hl=>(hcd _ (mem_rows_row hl)).near) (fun l hl=>(hcd _ (mem_rows_cond hl)).near) (by omega) (by omega) (by omega),Option.bind_some]
    have eL:∀ ls:List QLit,(∀ l∈ls,l.2∈rowsOf L' T' C')→onLs (upB b (varsN L' T' C')) ls=upLs (b:Int) ls:=fun ls hls=>List.map_congr_left fun l hl=>by
     show (l.1,_)=(l.1,_)
     rw[onB_up fun x hx=>hv' x ⟨_,hls l hl,hx⟩]
    have eT:onRs (upB b (varsN L' T' C')) T'=T'.map (List.map (upC (b:Int))):=List.map_congr_left fun l hl=>onB_up fun x hx=>hv' x ⟨_,mem_rows_row hl,hx⟩
    rw[eL L' fun l hl=>mem_rows_lit hl,eL C' fun l hl=>mem_rows_cond hl,eT]
   ·obtain⟨h1,h2⟩:=hv' x hx
    have:=List.all_eq_true.1 ha _ h2
    have:x.toNat+b≤23:=by simpa using this
    omega
 unfold ref13_apart
 rw[ref8_VarsOf_eq (by omega) (by omega) (by omega) (by omega),Option.bind_some]
 rcases top_of hrise hwm with ⟨h1,h2⟩ | ⟨x,h1,h2,h3⟩
 ·have e0:(b:Int)=0:=htop.unique h2 (by omega) (by omega)
  rw[h1]
  refine fin _ ?_
  rw[e0,show decide (((List.length ([]:List Int):Nat):Int)>0)=false from rfl,cond_false,ref8_VarsOf_eq (by omega) (by omega) (by omega) (by omega),Option.bind_some]
 ·have hx0:0≤x:=by
   have:=(hwm x).1 (List.mem_of_getElem? h1)
   exact (varR_lt h this).1
  have hx24:=(varR_lt h ((hwm x).1 (List.mem_of_getElem? h1))).2
  have e0:(b:Int)=x+1:=htop.unique h3 (by omega) (by omega)
  refine fin _ ?_
  have hl24:((varsN L T C).map fun v:Nat=>(v:Int)).length≤24:=by
   have:=nodup_le _ (List.range 24) (varsN_nodup L T C) fun v hv=>List.mem_range.2 (varsN_lt v hv)
   simpa using this
  generalize (varsN L T C).map (fun v:Nat=>(v:Int))=ws at h1 h2 hl24 ⊢
  have w1:IntKind.wrap .i64 (((List.length ws:Nat):Int) - 1)=((ws.length - 1:Nat):Int):=by rw[wrap64]<;>omega
  have w2:IntKind.wrap .i64 (x+1)=(b:Int):=by rw[wrap64]<;>omega
  rw[decide_eq_true (show ((List.length ws:Nat):Int)>0 by omega),cond_true,w1,inR_nat (by omega),Option.bind_some,h1,Option.bind_some,ref8_VarsOf_eq (by omega) (by omega) (by omega) (by omega),Option.bind_some,w2]
theorem slc_drop {α:Type} (xs:List α) {i:Nat} (h:i≤xs.length):slc2 xs (some (i:Int)) none=some (xs.drop i):=by
 show slc xs (i:Int) (xs.length:Int)=some _
 unfold slc
 rw[decide_eq_true (show (0:Int)≤(i:Int) by omega),decide_eq_true (show (i:Int)≤(xs.length:Int) by omega),decide_eq_true (show (xs.length:Int)≤((xs.length:Nat):Int) by omega)]
 simp
theorem without_off {α:Type} (s:Nat):(es:List α)→(i:Nat)→s<i→without (s:Int) es i=es
 | [],_,_=>rfl
 | e::es,i,h=>by
  show cond ((i:Int) != (s:Int)) (e::without (s:Int) es (i+1)) (without (s:Int) es (i+1))=_
  rw[show ((i:Int) != (s:Int))=true from by simp; omega,cond_true,without_off s es (i+1) (by omega)]
theorem without_split {α:Type} (s:Nat):(es:List α)→(i:Nat)→i≤s→s<i+es.length→without (s:Int) es i=es.take (s - i)++es.drop (s - i+1)
 | [],i,h,h2=>by simp at h2; omega
 | e::es,i,h,h2=>by
  show cond ((i:Int) != (s:Int)) (e::without (s:Int) es (i+1)) (without (s:Int) es (i+1))=_
  simp only[List.length_cons] at h2
  by_cases he:i=s
  ·subst he
   rw[show ((i:Int) != (i:Int))=false from by simp,cond_false,without_off i es (i+1) (by omega)]
   simp
  ·rw[show ((i:Int) != (s:Int))=true from by simp; omega,cond_true,without_split s es (i+1) (by omega) (by omega)]
   rw[show s - i=(s - (i+1))+1 from by omega]
   rfl
theorem without13_eq {L:List QLit} {i:Int} (h:placeB L i=true) (hl:L.length≤1000):ref13_without L i=some (without i L 0):=by
 unfold placeB at h
 simp only[Bool.and_eq_true,decide_eq_true_eq] at h
 obtain⟨k,rfl⟩:∃ k:Nat,i=(k:Int):=⟨i.toNat,by omega⟩
 have w1:IntKind.wrap .i64 ((k:Int)+1)=((k+1:Nat):Int):=by rw[wrap64]<;>omega
 unfold ref13_without
 rw[w1,slc_take L (by omega),Option.bind_some,room_ok (by simp; omega),cond_true,slc_drop L (by omega),Option.bind_some,room_ok (by simp; omega),cond_true,without_split k L 0 (by omega) (by omega)]
 simp
theorem copy_sub {σ:Sb} (hsh:shortIn σ (List.range 24)=true) {L:List QLit} {T:List (List Int)} {C:List QLit} (hL:∀ l∈L,Cds l.2) (hT:∀ r∈T,Cds r) (hC:∀ l∈C,Cds l.2) (h1:L.length≤1000) (h2:T.length≤1000) (h3:C.length≤1000) :
  ref8_Copy (bindsL σ) L T C=some (subLs σ L,T.map (subCs σ),subLs σ C):=by
 rw[copy_eq (binds_ok hsh) (fun l hl=>(hL l hl).near) (fun r hr=>(hT r hr).near) (fun l hl=>(hC l hl).near) h1 h2 h3,
  onLs_sub fun l hl c hc=>((hL l hl).2 c hc).1,onLs_sub fun l hl c hc=>((hC l hl).2 c hc).1,onRs_sub fun r hr c hc=>((hT r hr).2 c hc).1]
theorem done13_eq {a0:List QSym} {σ:Sb} (hs:SignOk a0) (hsh:shortIn σ (List.range 24)=true) {L:List QLit} {T:List (List Int)} {C:List QLit} (hL:∀ l∈L,Cds l.2) (hT:∀ r∈T,Cds r) (hC:∀ l∈C,Cds l.2) (h1:L.length≤1000) (h2:T.length≤1000) (h3:C.length≤1000) (k:Int) :
  ((ref13_done a0 (bindsL σ) L T C).bind fun r40=>cond (!r40.2.2.1) (failR k) (some (r40.1,r40.2.1,true,(0:Int),r40.2.2.2)))=resOut a0 σ L T C k:=by
 unfold ref13_done resOut
 rw[copy_sub hsh hL hT hC h1 h2 h3,Option.bind_some]
 simp only
 rw[ref8_May_eq,Option.bind_some]
 cases hm:mayB a0 (subLs σ L) (T.map (subCs σ)) (subLs σ C) with
 | false=>rfl
 | true =>
  obtain⟨l1,l2,l3,l4⟩:=may_sum hs hm
  rw[Bool.not_true,cond_false,norm_eq (may_cds hs hm) (by omega) (by omega) (by omega) l4]
  rfl
end
end Go.Abs.Q
namespace Go.Abs.Q
open Go Go.Abs
section
theorem there_eq (L:List QLit) (T:List (List Int)) (C:List QLit) (i:Int):ref13_there L T C i=some (placeB L i):=by
 unfold ref13_there placeB
 by_cases h:i≥0
 ·rw[decide_eq_true h,cond_true,Bool.true_and]
 ·rw[decide_eq_false h,cond_false,Bool.false_and]
end
end Go.Abs.Q
namespace Go.Abs.Q
open Go Go.Abs
def ref1_Heavy_L0 (rec:((List QSym)×(List Int)×Int×Int)→Option Int) (x:((List QSym)×(List Int)×Int×Int)):Option Int :=
 cond (decide (x.2.2.2<((List.length x.2.1:Nat):Int)))
 ((gx x.2.1 x.2.2.2).bind fun e4 =>
  cond (decide (e4<0))
  (rec (x.1,x.2.1,(IntKind.wrap .i64 (x.2.2.1+1)),(IntKind.wrap .i64 (x.2.2.2+1))))
  ((gx x.2.1 x.2.2.2).bind fun e5 =>
   (gx x.1 e5).bind fun e6 =>
   rec (x.1,x.2.1,(IntKind.wrap .i64 (x.2.2.1+e6.2.2.2)),(IntKind.wrap .i64 (x.2.2.2+1)))))
 (some x.2.2.1)
def ref1_Heavy (a0:(List QSym)) (a1:(List Int)):Option Int :=
 ((lp ref1_Heavy_L0 fuel) (a0,a1,0,0)).bind fun r8 =>
 some r8
def ref1_often_L1 (rec:((List Int)×(List Int)×Int×Int×Int)→Option Int) (x:((List Int)×(List Int)×Int×Int×Int)):Option Int :=
 cond (decide (x.2.2.2.2<((List.length x.2.1:Nat):Int)))
 ((gx x.2.1 x.2.2.2.2).bind fun e5 =>
  cond (e5==(IntKind.wrap .i64 ((-1) - x.2.2.1)))
  (rec (x.1,x.2.1,x.2.2.1,(IntKind.wrap .i64 (x.2.2.2.1 - 1)),(IntKind.wrap .i64 (x.2.2.2.2+1))))
  (rec (x.1,x.2.1,x.2.2.1,x.2.2.2.1,(IntKind.wrap .i64 (x.2.2.2.2+1)))))
 (some x.2.2.2.1)
def ref1_often_L0 (rec:((List Int)×(List Int)×Int×Int×Int)→Option Int) (x:((List Int)×(List Int)×Int×Int×Int)):Option Int :=
 cond (decide (x.2.2.2.2<((List.length x.1:Nat):Int)))
 ((gx x.1 x.2.2.2.2).bind fun e2 =>
  cond (e2==(IntKind.wrap .i64 ((-1) - x.2.2.1)))
  (rec (x.1,x.2.1,x.2.2.1,(IntKind.wrap .i64 (x.2.2.2.1+1)),(IntKind.wrap .i64 (x.2.2.2.2+1))))
  (rec (x.1,x.2.1,x.2.2.1,x.2.2.2.1,(IntKind.wrap .i64 (x.2.2.2.2+1)))))
 (some x.2.2.2.1)
def ref1_often_L2 (rec:((List Int)×(List Int)×Int)→Option (Unit⊕Bool)) (x:((List Int)×(List Int)×Int)):Option (Unit⊕Bool) :=
 cond (decide (x.2.2≤23))
 (((lp ref1_often_L0 fuel) (x.1,x.2.1,x.2.2,0,0)).bind fun r7 =>
  ((lp ref1_often_L1 fuel) (x.1,x.2.1,x.2.2,r7,0)).bind fun r8 =>
  cond (decide (r8<0))
  (some (Sum.inr false))
  (rec (x.1,x.2.1,(IntKind.wrap .i64 (x.2.2+1)))))
 (some (Sum.inl ()))
def ref1_often (a0:(List Int)) (a1:(List Int)):Option Bool :=
 ((lp ref1_often_L2 fuel) (a0,a1,0)).bind fun r12 =>
 caseS r12
 (fun _z13=>some true)
 (fun z14=>some z14)
def ref1_More_L0 (rf:(((List QSym)×(List Int)×(List Int))→Option Bool)) (rec:((List QSym)×(List (List Int))×(List (List Int))×Int)→Option (Unit⊕Bool)) (x:((List QSym)×(List (List Int))×(List (List Int))×Int)):Option (Unit⊕Bool) :=
 cond (decide (x.2.2.2<((List.length x.2.1:Nat):Int)))
 ((gx x.2.1 x.2.2.2).bind fun e20 =>
  (gx x.2.2.1 x.2.2.2).bind fun e21 =>
  (ref1_Same e20 e21).bind fun r22 =>
  cond (!r22)
  ((gx x.2.1 x.2.2.2).bind fun e23 =>
   (gx x.2.2.1 x.2.2.2).bind fun e24 =>
   (rf (x.1,e23,e24)).bind fun r25 =>
   some (Sum.inr r25))
  (rec (x.1,x.2.1,x.2.2.1,(IntKind.wrap .i64 (x.2.2.2+1)))))
 (some (Sum.inl ()))
def ref1_More_S (rf:(((List QSym)×(List Int)×(List Int))→Option Bool)) (a0:(List QSym)) (a1:(List Int)) (a2:(List Int)):Option Bool :=
 (ref1_Heavy a0 a1).bind fun r29 =>
 (ref1_Heavy a0 a2).bind fun r30 =>
 (ref1_often a1 a2).bind fun r31 =>
 cond (!r31)
 (some false)
 (cond (decide (r29<r30))
  (some false)
  (cond (decide (r29>r30))
   (cond (decide (r29>r30))
    (some true)
    ((gx a1 0).bind fun e32 =>
     (gx a2 0).bind fun e33 =>
     some (decide (e32>e33))))
   ((gx a1 0).bind fun e34 =>
    (gx a2 0).bind fun e35 =>
    cond (e34 != e35)
    (cond (decide (r29>r30))
     (some true)
     ((gx a1 0).bind fun e36 =>
      (gx a2 0).bind fun e37 =>
      some (decide (e36>e37))))
    ((slc2 a1 (some 1) none).bind fun y38 =>
     (ref1_Parts a0 y38).bind fun r39 =>
     (slc2 a2 (some 1) none).bind fun y40 =>
     (ref1_Parts a0 y40).bind fun r41 =>
     ((lp (ref1_More_L0 rf) fuel) (a0,r39,r41,0)).bind fun r42 =>
     caseS r42
     (fun _z43=>some false)
     (fun z44=>some z44)))))
def ref1_More_R_step (rf:(((List QSym)×(List Int)×(List Int))→Option Bool)):(((List QSym)×(List Int)×(List Int))→Option Bool) :=
 fun (x:((List QSym)×(List Int)×(List Int)))=>ref1_More_S rf x.1 x.2.1 x.2.2
def ref1_More_R_base:(((List QSym)×(List Int)×(List Int))→Option Bool):=fun _=>none
def ref1_More_R (k:Nat):(((List QSym)×(List Int)×(List Int))→Option Bool):=lpR ref1_More_R_base ref1_More_R_step k
def ref1_More (a0:(List QSym)) (a1:(List Int)) (a2:(List Int)):Option Bool:=(ref1_More_R fuel) (a0,a1,a2)
def ref1_Which (a0:(List QSym)) (a1:(List Int)) (a2:(List Int)):Option Int :=
 (ref1_Same a1 a2).bind fun r4 =>
 cond r4
 (some 1)
 ((ref1_More a0 a1 a2).bind fun r5 =>
  cond r5
  (some 2)
  ((ref1_More a0 a2 a1).bind fun r6 =>
   cond r6
   (some 0)
   (some 3)))
end Go.Abs.Q
namespace Go.Abs.Q
open Go Go.Abs
def ref1_Heavy_L0_go (s0:(List QSym)):List Int→Int→Option Int
 | [],s2=>some s2
 | e::es,s2 =>
  cond (decide (e<0))
  (ref1_Heavy_L0_go s0 es (IntKind.wrap .i64 (s2+1)))
  ((gx s0 e).bind fun e6 =>
   ref1_Heavy_L0_go s0 es (IntKind.wrap .i64 (s2+e6.2.2.2)))
theorem ref1_Heavy_L0_go_at0 (s0:(List QSym)) (s1:(List Int)) (s2:Int) (hl:List.length s1≤maxLen):lp ref1_Heavy_L0 fuel (s0,s1,s2,0)=ref1_Heavy_L0_go s0 s1 s2:=rngl1 ref1_Heavy_L0 (fun i s2=>(s0,s1,s2,i)) (fun es i s2=>ref1_Heavy_L0_go s0 es s2) hl (fun r i s2 h=>by unfold ref1_Heavy_L0 ref1_Heavy_L0_go; simp only[h,cond_false]) (fun r i s2 e es h g w k=>by unfold ref1_Heavy_L0 ref1_Heavy_L0_go; simp only[h,cond_true,g,Option.bind_some,w,k]) s2
def ref1_often_L1_go (s2:Int):List Int→Int→Option Int
 | [],s3=>some s3
 | e::es,s3 =>
  cond (e==(IntKind.wrap .i64 ((-1) - s2)))
  (ref1_often_L1_go s2 es (IntKind.wrap .i64 (s3 - 1)))
  (ref1_often_L1_go s2 es s3)
theorem ref1_often_L1_go_at0 (s0:(List Int)) (s1:(List Int)) (s2:Int) (s3:Int) (hl:List.length s1≤maxLen):lp ref1_often_L1 fuel (s0,s1,s2,s3,0)=ref1_often_L1_go s2 s1 s3:=rngl1 ref1_often_L1 (fun i s3=>(s0,s1,s2,s3,i)) (fun es i s3=>ref1_often_L1_go s2 es s3) hl (fun r i s3 h=>by unfold ref1_often_L1 ref1_often_L1_go; simp only[h,cond_false]) (fun r i s3 e es h g w k=>by unfold ref1_often_L1 ref1_often_L1_go; simp only[h,cond_true,g,Option.bind_some,w,k]) s3
def ref1_often_L0_go (s2:Int):List Int→Int→Option Int
 | [],s3=>some s3
 | e::es,s3 =>
  cond (e==(IntKind.wrap .i64 ((-1) - s2)))
  (ref1_often_L0_go s2 es (IntKind.wrap .i64 (s3+1)))
  (ref1_often_L0_go s2 es s3)
theorem ref1_often_L0_go_at0 (s0:(List Int)) (s1:(List Int)) (s2:Int) (s3:Int) (hl:List.length s0≤maxLen):lp ref1_often_L0 fuel (s0,s1,s2,s3,0)=ref1_often_L0_go s2 s0 s3:=rngl1 ref1_often_L0 (fun i s3=>(s0,s1,s2,s3,i)) (fun es i s3=>ref1_often_L0_go s2 es s3) hl (fun r i s3 h=>by unfold ref1_often_L0 ref1_often_L0_go; simp only[h,cond_false]) (fun r i s3 e es h g w k=>by unfold ref1_often_L0 ref1_often_L0_go; simp only[h,cond_true,g,Option.bind_some,w,k]) s3
def ref1_More_L0_go (rf:(((List QSym)×(List Int)×(List Int))→Option Bool)) (s0:(List QSym)) (s2:(List (List Int))):List (List Int)→Nat→Option (Unit⊕Bool)
 | [],_i=>some (Sum.inl ())
 | e::es,i =>
  (gx s2 (i:Int)).bind fun e21 =>
  (ref1_Same e e21).bind fun r22 =>
  cond (!r22)
  ((gx s2 (i:Int)).bind fun e24 =>
   (rf (s0,e,e24)).bind fun r25 =>
   some (Sum.inr r25))
  (ref1_More_L0_go rf s0 s2 es (i+1))
theorem ref1_More_L0_go_at0 (rf:(((List QSym)×(List Int)×(List Int))→Option Bool)) (s0:(List QSym)) (s1:(List (List Int))) (s2:(List (List Int))) (hl:List.length s1≤maxLen):lp (ref1_More_L0 rf) fuel (s0,s1,s2,0)=ref1_More_L0_go rf s0 s2 s1 0:=rngl0 (ref1_More_L0 rf) (fun i=>(s0,s1,s2,i)) (fun es i=>ref1_More_L0_go rf s0 s2 es i) hl (fun r i h=>by unfold ref1_More_L0 ref1_More_L0_go; simp only[h,cond_false]) (fun r i e es h g w k=>by unfold ref1_More_L0 ref1_More_L0_go; simp only[h,cond_true,g,Option.bind_some,w,k])
end Go.Abs.Q
namespace Go.Abs.Q
open Go Go.Abs
section
end
end Go.Abs.Q
