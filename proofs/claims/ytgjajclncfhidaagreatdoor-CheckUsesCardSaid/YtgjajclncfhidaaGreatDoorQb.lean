import Derived.Test.YtgjajclncfhidaaGreatDoorQa
/-
  What the functions make of plain values, and what the law says of that.
-/
open Bool renaming and_eq_true -> ay, eq_iff_iff -> fw, false_or -> eu, not_false -> bN, not_true -> az, or_eq_true -> cj
open Eq renaming symm -> fH
open Function renaming comp_apply -> g9
open Go.IntKind renaming bits -> dr, signed -> eN, wrap -> ag
open Int renaming tmod -> ez, toNat -> bb, toNat_natCast -> bh, toNat_of_nonneg -> cI
open List renaming all_eq_true -> aH, append_assoc -> aU, append_nil -> bG, append_of_mem -> d9, concat_eq_append -> fB, countP_append -> fU, countP_cons_of_neg -> ed, countP_cons_of_pos -> dx, countP_le_length -> el, drop_eq_getElem_cons -> aY, drop_zero -> bP, eq_nil_or_concat -> en, filter_cons_of_neg -> cP, filter_cons_of_pos -> dc, find?_cons -> d6, flatMap -> gP, flatMap_cons -> bt, getD_eq_getElem?_getD -> aG, getElem?_append_left -> bI, getElem?_append_right -> bu, getElem?_cons_zero -> aB, getElem?_eq_getElem -> am, getElem?_eq_some_iff -> au, getElem?_map -> br, getElem?_replicate -> bA, getElem?_set_ne -> cd, getElem?_set_self -> bH, getElem_mem -> dw, length -> aa, length_append -> al, length_cons -> ak, length_map -> aL, length_nil -> bc, length_range -> ej, length_set -> bX, length_singleton -> aD, length_zip -> gk, map -> c5, map_append -> dg, map_congr_left -> bY, map_cons -> aN, map_id -> gY, map_map -> cK, mem_append -> aI, mem_append_left -> bM, mem_append_right -> bW, mem_cons -> aC, mem_cons_of_mem -> ai, mem_cons_self -> aj, mem_filter -> d5, mem_iff_getElem? -> cr, mem_map -> aX, mem_map_of_mem -> bl, mem_of_getElem? -> aP, mem_range -> ck, mem_singleton -> ba, nil_append -> bj, of_mem_zip -> gn, pairwise_cons -> cz, range -> aJ, replicate -> ax, set -> bn, set_eq_take_append_cons_drop -> ee, sum_cons -> cB, take_append_drop -> bV, zip_cons_cons -> ec
open List.Pairwise renaming nil -> fX
open Nat renaming add_assoc -> bO, add_comm -> dk, add_mul -> bf, le_refl -> aE, le_trans -> aV, lt_or_ge -> bD, mul_le_mul_left -> dW, mul_le_mul_right -> aS, pow_le_pow_right -> fG, pow_pos -> gg, strongRecOn -> cS, sub_self -> dA, zero_add -> aR, zero_le -> bK
open Ne renaming symm -> dN
open Option renaming bind_some -> af, getD_some -> bk, isNone_none -> cX, isNone_some -> cp, map_some -> bx
open Sum renaming inl -> aW, inr -> aF
namespace Go.Abs.Q
open Go Go.Abs
inductive Tm where
 | v (n:Nat)
 | f (c:Nat) (as:List Tm)
mutual
def Tm.codes:Tm->List Int
 | .v n=>[-1 - (n:Int)]
 | .f c as=>(c:Int)::za as
def za:List Tm->List Int
 | []=>[]
 | t::ts=>t.codes++za ts
end
mutual
def Tm.size:Tm->Nat
 | .v _=>1
 | .f _ as=>xi as+1
def xi:List Tm->Nat
 | []=>0
 | t::ts=>t.size+xi ts
end
abbrev Sb:=Nat->Tm
mutual
def Tm.sub (s:Sb):Tm->Tm
 | .v n=>s n
 | .f c as=>.f c (wl s as)
def wl (s:Sb):List Tm->List Tm
 | []=>[]
 | t::ts=>t.sub s::wl s ts
end
mutual
def Tm.has (x:Nat):Tm->Prop
 | .v n=>n=x
 | .f _ as=>jE x as
def jE (x:Nat):List Tm->Prop
 | []=>False
 | t::ts=>t.has x∨jE x ts
end
mutual
def Tm.ok (a0:List zh) (N:Nat):Tm->Prop
 | .v n=>n<N
 | .f c as=>v7 a0 (c:Int)=some as.length∧okR a0 N as
def okR (a0:List zh) (N:Nat):List Tm->Prop
 | []=>True
 | t::ts=>t.ok a0 N∧okR a0 N ts
end
theorem rZ (s:Sb):(ts:List Tm)->(wl s ts).length=ts.length
 | []=>rfl
 | t::ts=>by simp [wl,rZ s ts]
theorem wU {a0:List zh} {N:Nat}:{ts:List Tm}->(okR a0 N ts↔∀ t∈ts,t.ok a0 N)
 | []=>by simp [okR]
 | t::ts=>by simp [okR,wU (ts:=ts)]
theorem rg {x:Nat}:{ts:List Tm}->(jE x ts↔∃ t∈ts,t.has x)
 | []=>by simp [jE]
 | t::ts=>by simp [jE,rg (ts:=ts)]
theorem YE (s:Sb):(ts:List Tm)->wl s ts=ts.map (Tm.sub s)
 | []=>rfl
 | t::ts=>by simp [wl,YE s ts]
theorem Q9:(ts:List Tm)->za ts=ts.flatMap Tm.codes
 | []=>rfl
 | t::ts=>by simp [za,Q9 ts]
theorem JZ:(ts:List Tm)->xi ts=(ts.map Tm.size).sum
 | []=>rfl
 | t::ts=>by simp [xi,JZ ts]
theorem v8 (ts us:List Tm):za (ts++us)=za ts++za us:=by simp [Q9]
theorem VH (ts us:List Tm):xi (ts++us)=xi ts+xi us:=by simp [JZ]
theorem Oa (s:Sb) (ts us:List Tm):wl s (ts++us)=wl s ts++wl s us:=by simp [YE]
mutual
theorem Tm.codes_len:(t:Tm)->t.codes.length=t.size
 | .v _=>rfl
 | .f c as=>by simp [Tm.codes,Tm.size,uP as]
theorem uP:(ts:List Tm)->(za ts).length=xi ts
 | []=>rfl
 | t::ts=>by simp [za,xi,Tm.codes_len t,uP ts]
end
theorem Tm.size_pos (t:Tm):0<t.size:=by cases t<;>simp [Tm.size]
mutual
theorem Tm.sub_ext {s u:Sb}:(t:Tm)->(∀ x,t.has x->s x=u x)->t.sub s=t.sub u
 | .v n,h=>h n rfl
 | .f c as,h=>by rw[Tm.sub,Tm.sub,BR as h]
theorem BR {s u:Sb}:(ts:List Tm)->(∀ x,jE x ts->s x=u x)->wl s ts=wl u ts
 | [],_=>rfl
 | t::ts,h=>by rw[wl,wl,Tm.sub_ext t fun x hx=>h x (.inl hx),BR ts fun x hx=>h x (.inr hx)]
end
mutual
theorem Tm.sub_sub (s u:Sb):(t:Tm)->(t.sub s).sub u=t.sub fun x=>(s x).sub u
 | .v n=>rfl
 | .f c as=>by rw[Tm.sub,Tm.sub,Tm.sub,Db s u as]
theorem Db (s u:Sb):(ts:List Tm)->wl u (wl s ts)=wl (fun x=>(s x).sub u) ts
 | []=>rfl
 | t::ts=>by rw[wl,wl,wl,Tm.sub_sub s u t,Db s u ts]
end
mutual
theorem Tm.sub_v:(t:Tm)->t.sub .v=t
 | .v n=>rfl
 | .f c as=>by rw[Tm.sub,OK as]
theorem OK:(ts:List Tm)->wl .v ts=ts
 | []=>rfl
 | t::ts=>by rw[wl,Tm.sub_v t,OK ts]
end
mutual
theorem Tm.has_sub {s:Sb} {y:Nat}:(t:Tm)->((t.sub s).has y↔∃ x,t.has x∧(s x).has y)
 | .v n=>⟨fun h=>⟨n,rfl,h⟩,fun ⟨x,hx,h⟩=>by cases hx; exact h⟩
 | .f c as=>by show jE y (wl s as)↔_; rw[kD as]; rfl
theorem kD {s:Sb} {y:Nat}:(ts:List Tm)->(jE y (wl s ts)↔∃ x,jE x ts∧(s x).has y)
 | []=>⟨fun h=>h.elim,fun ⟨_,h,_⟩=>h.elim⟩
 | t::ts=>by
  show (t.sub s).has y∨jE y (wl s ts)↔∃ x,(t.has x∨jE x ts)∧_;rw[Tm.has_sub t,kD ts];constructor
  ·rintro (⟨x,h1,h2⟩ | ⟨x,h1,h2⟩)
   ·exact ⟨x,.inl h1,h2⟩
   ·exact ⟨x,.inr h1,h2⟩
  ·rintro⟨x,h1 | h1,h2⟩
   ·exact .inl ⟨x,h1,h2⟩
   ·exact .inr ⟨x,h1,h2⟩
end
mutual
theorem Tm.size_has {s:Sb} {x:Nat}:(t:Tm)->t.has x->(s x).size<=(t.sub s).size
 | .v n,h=>by cases h; exact aE _
 | .f c as,h=>by have:=jl (s:=s) as h; show _<=xi (wl s as)+1; omega
theorem jl {s:Sb} {x:Nat}:(ts:List Tm)->jE x ts->(s x).size<=xi (wl s ts)
 | [],h=>h.elim
 | t::ts,h=>by
  show _<=(t.sub s).size+xi (wl s ts);rcases h with h | h
  ·have:=Tm.size_has (s:=s) t h; omega
  ·have:=jl (s:=s) ts h; omega
end
mutual
theorem Tm.size_sub {s:Sb} {M:Nat}:(t:Tm)->(1<=M)->(∀ x,t.has x->(s x).size<=M)->(t.sub s).size<=t.size*M
 | .v n,_,h=>by have:=h n rfl; simpa[Tm.sub,Tm.size] using this
 | .f c as,hM,h=>by
  have:=In (s:=s) as hM h;show xi (wl s as)+1<=(xi as+1)*M;rw[bf]; omega
theorem In {s:Sb} {M:Nat}:(ts:List Tm)->(1<=M)->(∀ x,jE x ts->(s x).size<=M)->xi (wl s ts)<=xi ts*M
 | [],_,_=>by simp [wl,xi]
 | t::ts,hM,h=>by
  have h1:=Tm.size_sub (s:=s) t hM fun x hx=>h x (.inl hx);have h2:=In (s:=s) ts hM fun x hx=>h x (.inr hx);show (t.sub s).size+xi (wl s ts)<=(t.size+xi ts)*M;rw[bf]; omega
end
mutual
theorem Tm.ok_sub {a0:List zh} {N M:Nat} {s:Sb}:(t:Tm)->t.ok a0 N->(∀ x,t.has x->(s x).ok a0 M)->(t.sub s).ok a0 M
 | .v n,_,h=>h n rfl
 | .f c as,ho,h=>⟨by rw[rZ]; exact ho.1,Gb as ho.2 h⟩
theorem Gb {a0:List zh} {N M:Nat} {s:Sb}:(ts:List Tm)->okR a0 N ts->(∀ x,jE x ts->(s x).ok a0 M)->okR a0 M (wl s ts)
 | [],_,_=>trivial
 | t::ts,ho,h=>⟨Tm.ok_sub t ho.1 fun x hx=>h x (.inl hx),Gb ts ho.2 fun x hx=>h x (.inr hx)⟩
end
mutual
theorem Tm.ok_has {a0:List zh} {N x:Nat}:(t:Tm)->t.ok a0 N->t.has x->x<N
 | .v n,ho,h=>by cases h; exact ho
 | .f c as,ho,h=>Du as ho.2 h
theorem Du {a0:List zh} {N x:Nat}:(ts:List Tm)->okR a0 N ts->jE x ts->x<N
 | [],_,h=>h.elim
 | t::ts,ho,h=>h.elim (Tm.ok_has t ho.1) (Du ts ho.2)
end
mutual
theorem Tm.ok_mono {a0:List zh} {N M:Nat} (hNM:N<=M):(t:Tm)->t.ok a0 N->t.ok a0 M
 | .v _n,ho=>Nat.lt_of_lt_of_le ho hNM
 | .f _c as,ho=>⟨ho.1,Aw hNM as ho.2⟩
theorem Aw {a0:List zh} {N M:Nat} (hNM:N<=M):(ts:List Tm)->okR a0 N ts->okR a0 M ts
 | [],_=>trivial
 | t::ts,ho=>⟨Tm.ok_mono hNM t ho.1,Aw hNM ts ho.2⟩
end
mutual
theorem Tm.mem_codes {c:Int} (hc:c<0):(t:Tm)->(c∈t.codes↔t.has (-1 - c).toNat)
 | .v n=>by
  show c∈[-1 - (n:Int)]↔n=_;rw[ba];omega
 | .f d as=>by
  show c∈(d:Int)::za as↔jE _ as;rw[aC,← rp hc as];have:c≠(d:Int):=by omega
  simp [this]
theorem rp {c:Int} (hc:c<0):(ts:List Tm)->(c∈za ts↔jE (-1 - c).toNat ts)
 | []=>by simp [za,jE]
 | t::ts=>by
  show c∈t.codes++za ts↔_∨_;rw[aI,Tm.mem_codes hc t,rp hc ts]
end
theorem En {a0:List zh} {x:Int} {q:Nat} (h:v7 a0 x=some q):(x<0 ∧ -24<=x∧q=0)∨∃ c:Nat,x=(c:Int):=by
 unfold v7 at h;by_cases h0:x<0
 ·rw[decide_eq_true h0,cond_true] at h;by_cases h1 : -24<=x
  ·rw[decide_eq_true h1] at h; injection h with h; exact .inl ⟨h0,h1,h.symm⟩
  ·rw[decide_eq_false h1] at h; cases h
 ·exact .inr ⟨x.toNat,by omega⟩
theorem On {a0:List zh}:∀(n:Nat) (ps:List jI),(∀ p∈ps,p.length<=n)->(∀ p∈ps,sk a0 1 p=some p.length)->∃ ts:List Tm,okR a0 24 ts∧ps=ts.map Tm.codes:=by
 intro n
 induction n with
 | zero =>
  intro ps h hs;cases ps with
  | nil=>exact ⟨[],trivial,rfl⟩
  | cons p ps =>
   have h1:=h p (aj ..);have h2:=VR (hs p (aj ..));omega
 | succ n ih =>
  intro ps
  induction ps with
  | nil=>intro _ _; exact ⟨[],trivial,rfl⟩
  | cons p ps ihp =>
   intro h hs;obtain⟨ts,h1,h2⟩:=ihp (fun q hq=>h q (ai _ hq)) (fun q hq=>hs q (ai _ hq));obtain⟨x,r,q,rfl,ha,hr⟩:=DA (hs p (aj ..));have hl:=h _ (aj ..);rw[ak] at hl;rcases En ha with ⟨h3,h4,rfl⟩ | ⟨c,rfl⟩
   ·have hr0:r=[]:=by
     have:sk a0 0 r=some 0:=by cases r<;>rfl
     rw[this] at hr;exact List.length_eq_zero_iff.1 (by injection hr with hr; omega)
    subst hr0;refine ⟨.v (-1 - x).toNat::ts,⟨by show (-1 - x).toNat<24; omega,h1⟩,?_⟩
    rw[aN,← h2];show [x]::ps=[-1 - (((-1 - x).toNat:Nat):Int)]::ps;rw[show -1 - (((-1 - x).toNat:Nat):Int)=x from by omega]
   ·obtain⟨qs,hq,hql⟩:=S8 q r hr;obtain⟨hf,hqs⟩:=Z6 r.length r qs (aE _) hq;have hlen:∀ p∈qs,p.length<=n:=fun p hp=>by
     have h5:p.length<=qs.flatten.length:=by
      obtain⟨l1,l2,rfl⟩:=d9 hp;simp; omega
     rw[hf] at h5;omega
    obtain⟨us,h5,h6⟩:=ih qs hlen fun p hp=>(hqs p hp).2;refine ⟨.f c us::ts,⟨⟨by rw[ha,← hql,h6,aL],h5⟩,h1⟩,?_⟩
    rw[aN,← h2];show ((c:Int)::r)::ps=((c:Int)::za us)::ps;rw[Q9,gP,← h6,hf]
theorem Ru {a0:List zh} {xs:List Int} {ps:List jI} (h:WE a0 xs=some ps):∃ ts:List Tm,okR a0 24 ts∧ps=ts.map Tm.codes∧xs=za ts:=by
 obtain⟨h1,h2⟩:=Z6 xs.length xs ps (aE _) h;obtain⟨ts,h3,h4⟩:=On (a0:=a0) xs.length ps (fun p hp=>by
  have:p.length<=ps.flatten.length:=by
   obtain⟨l1,l2,rfl⟩:=d9 hp;simp; omega
  rwa [h1] at this) fun p hp=>(h2 p hp).2
 exact ⟨ts,h3,h4,by rw[Q9,gP,← h4,h1]⟩
theorem Mt {a0:List zh} {n:Nat} (h:n<24):v7 a0 (-1 - (n:Int))=some 0:=by
 unfold v7;rw[decide_eq_true (show -1 - (n:Int)<0 by omega),cond_true,decide_eq_true (show -24 <= -1 - (n:Int) by omega)]
 rfl
mutual
theorem Tm.sk_codes {a0:List zh}:(t:Tm)->t.ok a0 24->sk a0 1 t.codes=some t.codes.length
 | .v n,h=>by
  show sk a0 1 [-1 - (n:Int)]=some 1;unfold sk;rw[Mt h];rfl
 | .f c as,h=>by
  have:=GP as h.2;show sk a0 1 ((c:Int)::za as)=some (za as).length.succ;unfold sk;rw[h.1];simp only[aR,this,bx]
theorem GP {a0:List zh}:(ts:List Tm)->okR a0 24 ts->sk a0 ts.length (za ts)=some (za ts).length
 | [],_=>rfl
 | t::ts,h=>by
  show sk a0 (ts.length+1) (t.codes++za ts)=_;rw[dk];exact OY (Tm.sk_codes t h.1) (GP ts h.2)
end
theorem Ds {a0:List zh}:{xs:List Int}->{n k:Nat}->(ys:List Int)->sk a0 n xs=some k->sk a0 n (xs++ys)=some k
 | [],0,k,ys,h=>by simp [sk] at h; subst h; cases ys<;>rfl
 | [],n+1,k,ys,h=>by simp [sk] at h
 | x::xs,0,k,ys,h=>by simp [sk] at h; subst h; rfl
 | x::xs,n+1,k,ys,h=>by
  unfold sk at h;cases ha:v7 a0 x with
  | none=>rw[ha] at h; cases h
  | some m =>
   rw[ha] at h;simp only[Option.map_eq_some_iff] at h;obtain⟨j,hj,rfl⟩:=h;rw[List.cons_append];unfold sk;rw[ha];simp only[Ds ys hj,bx]
theorem yM {a0:List zh}:(ts:List Tm)->okR a0 24 ts->WE a0 (za ts)=some (ts.map Tm.codes)
 | [],_=>rfl
 | t::ts,h=>by
  have hp:=t.size_pos;have hl:=t.codes_len;have h1:=Tm.sk_codes t h.1;show WE a0 (t.codes++za ts)=_;have hne:t.codes++za ts≠[]:=fun e=>by
   have:=congrArg aa e;rw[al,bc] at this;omega
  rw[sn hne,Ds _ h1];simp only[List.drop_left,List.take_left,yM ts h.2,bx,aN]
def Tm.up (d:Nat) (t:Tm):Tm:=t.sub fun n=>.v (n+d)
theorem Tm.up_zero (t:Tm):t.up 0=t:=t.sub_v
theorem Tm.up_size (d:Nat) (t:Tm):(t.up d).size=t.size:=by
 have h1:(t.up d).size<=t.size*1:=Tm.size_sub t (aE _) fun x _=>aE _;have h2:((t.up d).sub fun n=>.v (n - d)).size<=(t.up d).size*1:=Tm.size_sub _ (aE _) fun x _=>aE _;have h3:(t.up d).sub (fun n=>.v (n - d))=t:=by
  unfold Tm.up;rw[Tm.sub_sub,show (fun x=>(Tm.v (x+d)).sub fun n=>.v (n - d))=Tm.v from by
   funext x
   show Tm.v (x+d - d)=_;rw[Nat.add_sub_cancel],Tm.sub_v]
 rw[h3] at h2;omega
theorem Tm.up_ok {a0:List zh} {N d:Nat} {t:Tm} (h:t.ok a0 N):(t.up d).ok a0 (N+d):=Tm.ok_sub t h fun x hx=>by
 have:=Tm.ok_has t h hx;show x+d<N+d;omega
theorem Tm.up_has {d y:Nat} {t:Tm}:(t.up d).has y↔∃ x,t.has x∧x+d=y:=Tm.has_sub t
abbrev Bd:=Nat->Option Tm
def SolB (θ:Sb) (B:Bd):Prop:=∀ x t,B x=some t->θ x=t.sub θ
def Sol (θ:Sb) (E:List (Tm×Tm)):Prop:=∀ p∈E,p.1.sub θ=p.2.sub θ
theorem Sol.nil {θ:Sb}:Sol θ []:=fun _ h=>nomatch h
theorem Sol.cons {θ:Sb} {p:Tm×Tm} {E:List (Tm×Tm)}:Sol θ (p::E)↔p.1.sub θ=p.2.sub θ∧Sol θ E:=by simp [Sol]
theorem Sol.append {θ:Sb} {E F:List (Tm×Tm)}:Sol θ (E++F)↔Sol θ E∧Sol θ F:=by
 simp only[Sol,aI];exact ⟨fun h=>⟨fun p hp=>h p (.inl hp),fun p hp=>h p (.inr hp)⟩,fun h p hp=>hp.elim (h.1 p) (h.2 p)⟩
theorem Sol.zip {θ:Sb}:{ts us:List Tm}->ts.length=us.length->(Sol θ (ts.zip us)↔wl θ ts=wl θ us)
 | [],[],_=>by simp [Sol,wl]
 | [],_::_,h=>by simp at h
 | _::_,[],h=>by simp at h
 | t::ts,u::us,h=>by
  rw[ec,Sol.cons,Sol.zip (by simpa using h)]
  simp [wl]
structure Good (B:Bd) (σ:Sb):Prop where
 free:∀ x,B x=none->σ x = .v x
 bound:∀ x t,B x=some t->σ x=t.sub σ
 down:∀ x y,B x=some (.v y)->y<x
theorem Good.empty:Good (fun _=>none) .v:=⟨fun _ _=>rfl,fun _ _ h=>(nomatch h),fun _ _ h=>(nomatch h)⟩
theorem Good.ind {B:Bd} {σ:Sb} (h:Good B σ) {P:Nat->Prop} (hf:∀ x,B x=none->P x) (hb:∀ x t,B x=some t->(∀ y,t.has y->P y)->P x):∀ x,P x:=by
 have key:∀ n x,(σ x).size=n->P x:=by
  intro n
  induction n using cS with
  | _ n ihn =>
   intro x
   induction x using cS with
   | _ x ihx =>
    intro hn;cases hx:B x with
    | none=>exact hf x hx
    | some t =>
     refine hb x t hx fun y hy => ?_;have hs:=h.bound x t hx;cases t with
     | v z =>
      have hz:z=y:=hy;subst hz;exact ihx z (h.down x z hx) (by rw[← hn,hs]; rfl)
     | f c as =>
      have:=jl (s:=σ) as hy;refine ihn (σ y).size ?_ y rfl;rw[← hn,hs];show _<xi (wl σ as)+1;omega
 exact fun x=>key _ x rfl
theorem Good.fac {B:Bd} {σ θ:Sb} (h:Good B σ) (hθ:SolB θ B):∀ x,(σ x).sub θ=θ x:=by
 refine h.ind (fun x hx=>by rw[h.free x hx]; rfl) fun x t hx ih => ?_
 rw[h.bound x t hx,Tm.sub_sub,hθ x t hx];exact Tm.sub_ext t fun y hy=>ih y hy
theorem Good.facT {B:Bd} {σ θ:Sb} (h:Good B σ) (hθ:SolB θ B) (t:Tm):(t.sub σ).sub θ=t.sub θ:=by
 rw[Tm.sub_sub];exact Tm.sub_ext t fun y _=>h.fac hθ y
theorem Good.root {B:Bd} {σ:Sb} (h:Good B σ):∀ x y,(σ x).has y->B y=none:=by
 refine h.ind (fun x hx y hy => ?_) fun x t hx ih y hy => ?_
 ·rw[h.free x hx] at hy;have hy:x=y:=hy;exact hy▸hx
 ·rw[h.bound x t hx] at hy;obtain⟨z,h1,h2⟩:=(Tm.has_sub t).1 hy;exact ih z h1 y h2
theorem Good.idem {B:Bd} {σ:Sb} (h:Good B σ) (t:Tm):(t.sub σ).sub σ=t.sub σ:=h.facT h.bound t
theorem Good.le {B:Bd} {σ:Sb} (h:Good B σ):∀ x y,σ x = .v y->y<=x:=by
 refine h.ind (fun x hx y hy => ?_) fun x t hx ih y hy => ?_
 ·rw[h.free x hx] at hy; injection hy with hy; omega
 ·rw[h.bound x t hx] at hy;cases t with
  | v z =>
   have h1:=h.down x z hx;have h2:=ih z rfl y hy;omega
  | f c as=>cases hy
theorem Good.moved {B:Bd} {σ:Sb} (h:Good B σ) {x:Nat}:B x≠none↔σ x ≠ .v x:=by
 constructor
 ·intro hb he;cases hx:B x with
  | none=>exact hb hx
  | some t =>
   have h1:=h.bound x t hx;rw[he] at h1;cases t with
   | v z =>
    have h2:=h.down x z hx;have h3:=h.le z x h1.symm;omega
   | f c as=>cases h1
 ·intro hs hb;exact hs (h.free x hb)
theorem Good.unique {B B':Bd} {σ σ':Sb} (h:Good B σ) (h':Good B' σ') (hs:∀ θ,SolB θ B↔SolB θ B'):σ=σ':=by
 have f1:∀ x,(σ x).sub σ'=σ' x:=h.fac ((hs σ').2 h'.bound);have f2:∀ x,(σ' x).sub σ=σ x:=h'.fac ((hs σ).1 h.bound);have root:∀ y,B y=none->σ' y = .v y:=by
  intro y hy;have h1:(σ' y).sub σ = .v y:=by rw[f2,h.free y hy]
  cases hz:σ' y with
  | f c as=>rw[hz] at h1; cases h1
  | v z =>
   rw[hz] at h1;have h2:=h'.le y z hz;have h3:=h.le z y h1;have:z=y:=by omega
   rw[this]
 funext x
 rw[← f1 x]
 conv=>lhs; rw[← Tm.sub_v (σ x)]
 exact Tm.sub_ext _ fun y hy=>(root y (h.root x y hy)).symm
def one (x:Nat) (u:Tm):Sb:=fun y=>if y=x then u else .v y
def M3 (B:Bd) (x:Nat) (t:Tm):Bd:=fun y=>if y=x then some t else B y
theorem su (B:Bd) (x:Nat) (t:Tm):M3 B x t x=some t:=by simp [M3]
theorem j3 (B:Bd) {x y:Nat} (t:Tm) (h:y≠x):M3 B x t y=B y:=by simp [M3,h]
theorem SolB.upd {B:Bd} {x:Nat} {t:Tm} {θ:Sb} (hx:B x=none):SolB θ (M3 B x t)↔SolB θ B∧θ x=t.sub θ:=by
 constructor
 ·intro h;refine ⟨fun y u hy=>h y u ?_,h x t (su ..)⟩;rw[j3 _ _ fun e=>by rw[e,hx] at hy; cases hy]
  exact hy
 ·rintro⟨h1,h2⟩ y u hy;by_cases he:y=x
  ·subst he;rw[su] at hy;injection hy with hy;subst hy;exact h2
  ·rw[j3 _ _ he] at hy;exact h1 y u hy
theorem RI {x:Nat} {u t:Tm} (h:¬ t.has x):t.sub (one x u)=t:=by
 conv=>rhs; rw[← Tm.sub_v t]
 refine Tm.sub_ext t fun y hy => ?_;have hne:y≠x:=fun e=>h (e▸hy);unfold one;rw[if_neg hne]
theorem Good.bind {B:Bd} {σ:Sb} (h:Good B σ) {x:Nat} {t:Tm} (hx:B x=none) (hn:¬(t.sub σ).has x) (hd:∀ y,t = .v y->y<x):Good (M3 B x t) fun y=>(σ y).sub (one x (t.sub σ)) where
 free:=fun y hy=>by
  have hne:y≠x:=fun e=>by rw[e,su] at hy; cases hy
  rw[j3 _ _ hne] at hy;rw[h.free y hy];show one x _ y=_;simp [one,hne]
 bound:=fun y u hy=>by
  by_cases he:y=x
  ·subst he;rw[su] at hy;injection hy with hy;subst hy;rw[h.free y hx,← Tm.sub_sub,RI hn];show one y _ y=_;simp [one]
  ·rw[j3 _ _ he] at hy;rw[h.bound y u hy,Tm.sub_sub]
 down:=fun y z hy=>by
  by_cases he:y=x
  ·subst he;rw[su] at hy;injection hy with hy;exact hd z hy
  ·rw[j3 _ _ he] at hy;exact h.down y z hy
theorem Good.occurs {B:Bd} {σ θ:Sb} (h:Good B σ) {x c:Nat} {as:List Tm} (hh:((Tm.f c as).sub σ).has x) (hθ:SolB θ B) (he:θ x=(Tm.f c as).sub θ):False:=by
 have h1:=h.facT hθ (.f c as);rw[← he] at h1;have h2:=jl (s:=θ) (wl σ as) hh;have h3:(((Tm.f c as).sub σ).sub θ).size=(θ x).size:=by rw[h1]
 have h4:xi (wl θ (wl σ as))+1=(θ x).size:=h3;omega
def WA (B:Bd):Prop:=∀ x t,B x=some t->x<48∧t.size<=48
def Good.less (σ:Sb) (y x:Nat):Bool:=decide ((σ y).size<(σ x).size)||(decide ((σ y).size=(σ x).size)&&decide (y<x))
def Good.rank (σ:Sb) (x:Nat):Nat:=(aJ 48).countP fun y=>Good.less σ y x
theorem Vq {α:Type} {p q:α->Bool} {a:α}:{l:List α}->a∈l->(∀ x∈l,p x=true->q x=true)->p a=false->q a=true->l.countP p<l.countP q
 | [],h,_,_,_=>nomatch h
 | b::l,hm,hi,hp,hq=>by
  have h2:l.countP p<=l.countP q:=List.countP_mono_left fun x hx h=>hi x (ai _ hx) h;rcases aC.1 hm with rfl | hm
  ·rw[ed (by simp [hp]),dx hq]
   omega
  ·have h1:=Vq hm (fun x hx=>hi x (ai _ hx)) hp hq;cases hb:p b with
   | true=>rw[dx hb,dx (hi b (aj ..) hb)]; omega
   | false =>
    rw[ed (by simp [hb])]
    cases hc:q b with
    | true=>rw[dx hc]; omega
    | false=>rw[ed (by simp [hc])]; exact h1
theorem Good.small {B:Bd} {σ:Sb} (h:Good B σ) (hb:WA B):∀ x,(σ x).size<=48 ^ 49:=by
 have key:∀ x,B x≠none->(σ x).size<=48 ^ (Good.rank σ x+1):=by
  refine h.ind (fun x hx hn=>absurd hx hn) fun x t hx ih _ => ?_;obtain⟨hx48,ht⟩:=hb x t hx;rw[h.bound x t hx];have h1:1<=48 ^ Good.rank σ x:=gg (by omega)
  refine aV (Tm.size_sub t h1 fun y hy => ?_) ?_
  ·cases hy0:B y with
   | none=>rw[h.free y hy0]; exact h1
   | some u =>
    refine aV (ih y hy (by rw[hy0]; simp)) (fG (by omega) ?_)
    have hlt:Good.less σ y x=true:=by
     unfold Good.less;have hs:=h.bound x t hx;cases t with
     | v z =>
      have hz:z=y:=hy;subst hz;have h2:=h.down x z hx;have h3:(σ z).size=(σ x).size:=by rw[hs]; rfl
      simp [h3,h2]
     | f c as =>
      have h2:=jl (s:=σ) as hy;have h3:(σ x).size=xi (wl σ as)+1:=by rw[hs]; rfl
      rw[decide_eq_true (show (σ y).size<(σ x).size by omega)]
      rfl
    refine Vq (a:=y) (ck.2 (hb y u hy0).1) (fun z _ hz => ?_) (by simp [Good.less]) hlt
    simp only[Good.less,cj,ay,decide_eq_true_eq] at hz hlt ⊢;omega
  ·rw[Nat.pow_succ,Nat.mul_comm];exact dW _ ht
 intro x;by_cases hx:B x=none
 ·rw[h.free x hx];exact gg (by omega)
 ·refine aV (key x hx) (fG (by omega) ?_)
  have:Good.rank σ x<=(aJ 48).length:=el;rw[ej] at this;omega
theorem Good.small_sub {B:Bd} {σ:Sb} (h:Good B σ) (hb:WA B) (t:Tm):(t.sub σ).size<=t.size*48 ^ 49 :=
 Tm.size_sub t (gg (by omega)) fun x _=>h.small hb x
def Out (B:Bd) (E:List (Tm×Tm)):Option Bd->Prop
 | none=>∀ θ,SolB θ B->Sol θ E->False
 | some B'=>(∃ σ,Good B' σ)∧WA B'∧∀ θ,SolB θ B'↔SolB θ B∧Sol θ E
theorem Out.via {B B1:Bd} {E E1:List (Tm×Tm)} (h:∀ θ,(SolB θ B1∧Sol θ E1)↔(SolB θ B∧Sol θ E)) {o:Option Bd} (ho:Out B1 E1 o):Out B E o:=by
 cases o with
 | none=>exact fun θ h1 h2=>ho θ ((h θ).2 ⟨h1,h2⟩).1 ((h θ).2 ⟨h1,h2⟩).2
 | some B'=>exact ⟨ho.1,ho.2.1,fun θ=>(ho.2.2 θ).trans (h θ)⟩
theorem Out.done {B:Bd} {σ:Sb} (h:Good B σ) (hs:WA B):Out B [] (some B):=⟨⟨σ,h⟩,hs,fun _=>⟨fun h=>⟨h,Sol.nil⟩,fun h=>h.1⟩⟩
theorem za1 {θ:Sb} {c d:Nat} {as bs:List Tm}:(Tm.f c as).sub θ=(Tm.f d bs).sub θ↔c=d∧wl θ as=wl θ bs:=by
 simp [Tm.sub]
abbrev PI:=List Int×Int
abbrev PO:=Option jI×Int
def Pc (a0:List zh) (N:Nat) (p:List Int) (d:Int) (t:Tm):Prop:=∃ u n,Tm.ok a0 24 u∧p=u.codes∧d=((n:Nat):Int)∧n<=N∧t=u.up n∧p.length<=48
def Pr (a0:List zh) (N:Nat) (p:List Int) (d:Int) (ts:List Tm):Prop:=∃ us n,okR a0 24 us∧p=za us∧d=((n:Nat):Int)∧n<=N∧ts=us.map (Tm.up n)∧p.length<=48
theorem Pc.size {a0:List zh} {N:Nat} {p:List Int} {d:Int} {t:Tm} (h:Pc a0 N p d t):t.size=p.length∧t.size<=48:=by
 obtain⟨u,n,h1,rfl,h2,h3,rfl,h4⟩:=h;rw[Tm.up_size,Tm.codes_len];rw[Tm.codes_len] at h4;exact ⟨rfl,h4⟩
theorem Pc.lt {a0:List zh} {N:Nat} (hN:N<=24) {p:List Int} {d:Int} {t:Tm} (h:Pc a0 N p d t) {x:Nat} (hx:t.has x):x<48:=by
 obtain⟨u,n,h1,rfl,h2,h3,rfl,h4⟩:=h;have:=Tm.ok_has _ (Tm.up_ok (d:=n) h1) hx;omega
theorem Pc.cases {a0:List zh} {N:Nat} {p:List Int} {d:Int} {t:Tm} (h:Pc a0 N p d t) :
  (∃ k n:Nat,p=[-1 - (k:Int)]∧d=(n:Int)∧k<24∧n<=N∧t = .v (k+n))∨∃ c r ts,p=((c:Nat):Int)::r∧t = .f c ts∧v7 a0 (c:Int)=some ts.length∧Pr a0 N r d ts:=by
 obtain⟨u,n,h1,rfl,h2,h3,rfl,h4⟩:=h;cases u with
 | v k=>exact .inl ⟨k,n,rfl,h2,h1,h3,rfl⟩
 | f c as =>
  have h4:(za as).length+1<=48:=h4;refine .inr ⟨c,za as,as.map (Tm.up n),rfl,?_,by rw[aL]; exact h1.1,as,n,h1.2,rfl,h2,h3,rfl,by omega⟩
  show Tm.f c (wl _ as)=_;rw[YE];rfl
def Pq (a0:List zh) (N:Nat) (q:List Int×Int×List Int×Int) (e:Tm×Tm):Prop:=Pc a0 N q.1 q.2.1 e.1∧Pc a0 N q.2.2.1 q.2.2.2 e.2
def PqL (a0:List zh) (N:Nat):List (List Int×Int×List Int×Int)->List (Tm×Tm)->Prop
 | [],es=>es=[]
 | q::qs,es=>∃ e es',es=e::es'∧Pq a0 N q e∧PqL a0 N qs es'
theorem PqL.append {a0:List zh} {N:Nat}:{qs:List (List Int×Int×List Int×Int)}->{es:List (Tm×Tm)}->{qs':List (List Int×Int×List Int×Int)}->{es':List (Tm×Tm)}->PqL a0 N qs es->PqL a0 N qs' es'->PqL a0 N (qs++qs') (es++es')
 | [],_,_,_,h,h'=>by have h:_=[]:=h; subst h; exact h'
 | q::qs,_,_,_,h,h'=>by
  obtain⟨e,es,rfl,h1,h2⟩:=h;exact ⟨e,_,rfl,h1,PqL.append h2 h'⟩
theorem PqL.length {a0:List zh} {N:Nat}:{qs:List (List Int×Int×List Int×Int)}->{es:List (Tm×Tm)}->PqL a0 N qs es->es.length=qs.length
 | [],_,h=>by have h:_=[]:=h; subst h; rfl
 | q::qs,_,h=>by
  obtain⟨e,es,rfl,h1,h2⟩:=h;simp [PqL.length h2]
theorem PqL.split {a0:List zh} {N:Nat}:{qs:List (List Int×Int×List Int×Int)}->{qs':List (List Int×Int×List Int×Int)}->{es:List (Tm×Tm)}->PqL a0 N (qs++qs') es->∃ e1 e2,es=e1++e2∧PqL a0 N qs e1∧PqL a0 N qs' e2
 | [],_,es,h=>⟨[],es,rfl,rfl,h⟩
 | q::qs,_,_,h=>by
  obtain⟨e,es,rfl,h1,h2⟩:=h;obtain⟨e1,e2,rfl,h3,h4⟩:=PqL.split h2;exact ⟨e::e1,e2,rfl,⟨e,e1,rfl,h1,h3⟩,h4⟩
def PcO (a0:List zh) (N:Nat) (e:PO) (o:Option Tm):Prop:=match e.1 with
 | none=>o=none
 | some p=>∃ t,o=some t∧Pc a0 N p e.2 t
structure RepT (a0:List zh) (N:Nat) (to:List PO) (B:Bd):Prop where
 len:to.length=48
 at_:∀ x e,to[x]? = some e->PcO a0 N e (B x)
 out:∀ x,48<=x->B x=none
theorem RepT.small {a0:List zh} {N:Nat} {to:List PO} {B:Bd} (h:RepT a0 N to B):WA B:=by
 intro x t hx;have hlt:x<48:=by
  rcases bD x 48 with h' | h'
  ·exact h'
  ·rw[h.out x h'] at hx; cases hx
 refine ⟨hlt,?_⟩;have hl:x<to.length:=by rw[h.len]; exact hlt
 have hg:to[x]? = some to[x]:=am hl;have:=h.at_ x _ hg;unfold PcO at this;split at this
 ·rw[hx] at this; cases this
 ·obtain⟨u,h1,h2⟩:=this;rw[hx] at h1; injection h1 with h1; subst h1;exact h2.size.2
theorem RepT.get {a0:List zh} {N:Nat} {to:List PO} {B:Bd} (h:RepT a0 N to B) {x:Nat} (hx:x<48):∃ e,to[x]? = some e∧PcO a0 N e (B x):=by
 have hl:x<to.length:=by rw[h.len]; exact hx
 have hg:to[x]? = some to[x]:=am hl;exact ⟨_,hg,h.at_ x _ hg⟩
theorem RepT.set {a0:List zh} {N:Nat} {to:List PO} {B:Bd} (h:RepT a0 N to B) {x:Nat} (hx:x<48) {p:List Int} {d:Int} {t:Tm} (hp:Pc a0 N p d t):RepT a0 N (to.set x (some p,d)) (M3 B x t) where
 len:=by rw[bX]; exact h.len
 at_:=fun y e hy=>by
  by_cases he:y=x
  ·subst he;rw[bH (by rw[h.len]; exact hx)] at hy
   injection hy with hy;subst hy;rw[su];exact ⟨t,rfl,hp⟩
  ·rw[cd (dN he)] at hy;rw[j3 _ _ he];exact h.at_ y e hy
 out:=fun y hy=>by
  rw[j3 _ _ (by omega)]
  exact h.out y hy
theorem Xh {N:Nat} (hN:N<=24) {k n:Nat} (hk:k<24) (hn:n<=N) (p:List Int):yK p (n:Int) (-1 - (k:Int))=some ((k+n:Nat):Int):=by
 unfold yK;rw[qm (by omega) (by omega),af]
 congr 1
 rw[zn]<;>omega
def Qc:Tm->Nat
 | .v x=>x+2
 | .f _ _=>1
theorem Nw {a0:List zh} {N:Nat} (hN:N<=24) {to:List PO} {B:Bd} {σ:Sb} (hT:RepT a0 N to B) (hG:Good B σ):∀(m k:Nat) (p:List Int) (d:Int) (t:Tm) (z:Int),Qc t<=m->m<=k->Pc a0 N p d t ->
  ∃ p' d' t',lp wQ k (a0,to,p,d,z)=some (p',d')∧Pc a0 N p' d' t'∧(∀ θ,SolB θ B->t.sub θ=t'.sub θ)∧∀ y,t' = .v y->B y=none:=by
 intro m
 induction m with
 | zero=>intro k p d t z hm; cases t<;>simp [Qc] at hm
 | succ m ih =>
  intro k p d t z hm hk hp;obtain⟨k,rfl⟩:∃ k',k=k'+1:=⟨k - 1,by omega⟩
  rw[zx];have key:=fun p d t (h1:Qc t<=m) h2=>ih k p d t z h1 (by omega) h2
  generalize lp wQ k=rec at key ⊢;unfold wQ;rcases hp.cases with ⟨x,n,rfl,rfl,hx,hn,rfl⟩ | ⟨c,r,ts,rfl,rfl,hc,hr⟩
  ·simp only[yh,aB,af];rw[decide_eq_true (show -1 - (x:Int)<0 by omega),cond_true,Xh hN hx hn,af,zO (by omega),af]
   obtain⟨e,he,hpe⟩:=hT.get (x:=x+n) (by omega)
   rw[he,af];unfold PcO at hpe;split at hpe
   ·rename_i h1;rw[h1];exact ⟨_,_,_,rfl,hp,fun θ _=>rfl,fun y hy=>by injection hy with hy; rw[← hy]; exact hpe⟩
   ·rename_i q h1;obtain⟨u,hu,hq⟩:=hpe;rw[h1];simp only[cp,cond_false,bk];obtain⟨p',d',t',h2,h3,h4,h5⟩:=key q e.2 u (by
     cases u with
     | v y=>have:=hG.down _ y hu; simp only[Qc] at hm ⊢; omega
     | f c as=>simp only[Qc] at hm ⊢; omega) hq
    exact ⟨p',d',t',h2,h3,fun θ hθ=>(hθ _ u hu).trans (h4 θ hθ),h5⟩
  ·simp only[yh,aB,af];rw[decide_eq_false (show ¬(c:Int)<0 by omega),cond_false]
   exact ⟨_,_,_,rfl,hp,fun θ _=>rfl,fun y hy=>by cases hy⟩
theorem Gy {a0:List zh} {N:Nat} (hN:N<=24) {to:List PO} {B:Bd} {σ:Sb} (hT:RepT a0 N to B) (hG:Good B σ) {p:List Int} {d:Int} {t:Tm} (hp:Pc a0 N p d t) :
  ∃ p' d' t',wA p d a0 to=some (p',d')∧Pc a0 N p' d' t'∧(∀ θ,SolB θ B->t.sub θ=t'.sub θ)∧∀ y,t' = .v y->B y=none:=by
 obtain⟨p',d',t',h1,h2⟩:=Nw hN hT hG (Qc t) zd p d t 0 (aE _) (by
  cases t with
  | v x=>have:=hp.lt hN (x:=x) rfl; simp only[Qc]; unfold zd; omega
  | f c as=>simp only[Qc]; unfold zd; omega) hp
 refine ⟨p',d',t',?_,h2⟩;unfold wA;rw[h1];rfl
section
variable {a0:List zh} {N:Nat} {to:List PO} {B:Bd} {σ:Sb} {v:Nat}
def DoneV (B:Bd) (v:Nat) (seen:List Bool) (y:Nat):Prop:=y≠v∧(B y≠none->seen[y]? = some true)
def PcL (a0:List zh) (N:Nat):List PI->List Tm->Prop
 | [],ts=>ts=[]
 | p::ps,ts=>∃ t ts',ts=t::ts'∧Pc a0 N p.1 p.2 t∧PcL a0 N ps ts'
theorem PcL.append:{ps:List PI}->{ts:List Tm}->{ps':List PI}->{ts':List Tm}->PcL a0 N ps ts->PcL a0 N ps' ts'->PcL a0 N (ps++ps') (ts++ts')
 | [],_,_,_,h,h'=>by have h:_=[]:=h; subst h; exact h'
 | q::qs,_,_,_,h,h'=>by
  obtain⟨e,es,rfl,h1,h2⟩:=h;exact ⟨e,_,rfl,h1,PcL.append h2 h'⟩
theorem PcL.split:{ps:List PI}->{ps':List PI}->{ts:List Tm}->PcL a0 N (ps++ps') ts->∃ t1 t2,ts=t1++t2∧PcL a0 N ps t1∧PcL a0 N ps' t2
 | [],_,ts,h=>⟨[],ts,rfl,rfl,h⟩
 | q::qs,_,_,h=>by
  obtain⟨e,es,rfl,h1,h2⟩:=h;obtain⟨e1,e2,rfl,h3,h4⟩:=PcL.split h2;exact ⟨e::e1,e2,rfl,⟨e,e1,rfl,h1,h3⟩,h4⟩
theorem PcL.length:{ps:List PI}->{ts:List Tm}->PcL a0 N ps ts->ts.length=ps.length
 | [],_,h=>by have h:_=[]:=h; subst h; rfl
 | q::qs,_,h=>by
  obtain⟨e,es,rfl,h1,h2⟩:=h;simp [PcL.length h2]
def YH (seen:List Bool):Nat:=seen.countP fun b => !b
theorem Cm {seen:List Bool} {x:Nat} (h:seen[x]? = some false):YH (seen.set x true)+1=YH seen:=by
 unfold YH;obtain⟨hx,he⟩:=au.1 h;have h1:=bV x seen;have h2:seen.drop x=false::seen.drop (x+1):=by rw[aY hx,he]
 have h3:seen.set x true=seen.take x++true::seen.drop (x+1):=by rw[ee,if_pos hx]
 conv=>rhs; rw[← h1,h2]
 rw[h3];simp [fU];omega
theorem Vx (hN:N<=24) (hT:RepT a0 N to B) {n:Nat} (hn:n<=N) (p0:List Int):∀(es:List Int) (seen:List Bool) (todo:List PI) (ts:List Tm),(∀ c∈es,-24<=c)->seen.length=48->todo.length+YH seen<=1000->PcL a0 N todo ts ->
  (zk (v:Int) to p0 (n:Int) es seen todo=some (.inr true)∧∃ c∈es,c<0∧(-1 - c).toNat+n=v) ∨
  ∃ seen' more us,zk (v:Int) to p0 (n:Int) es seen todo=some (.inl (seen',todo++more))∧seen'.length=48∧more.length+YH seen'=YH seen∧PcL a0 N more us ∧
   (∀ y:Nat,seen[y]? = some true->seen'[y]? = some true)∧(∀ c∈es,c<0->DoneV B v seen' ((-1 - c).toNat+n))∧(∀ y:Nat,seen'[y]? = some true->seen[y]? = some true∨∃ u,B y=some u∧u∈us) ∧
   (∀ u∈us,∃ c∈es,c<0∧B ((-1 - c).toNat+n)=some u)
 | [],seen,todo,ts,_,hs,_,_=>.inr ⟨seen,[],[],by rw[bG]; rfl,hs,by simp,rfl,fun _ h=>h,fun c h=>(nomatch h),fun y h=>.inl h,fun u h=>(nomatch h)⟩
 | e::es,seen,todo,ts,hc,hs,hl,hp=>by
  have he:=hc e (aj ..);have hc':∀ c∈es,-24<=c:=fun c h=>hc c (ai _ h)
  -- the variable is passed over
  have pass:∀ f:List Bool->List PI->Option ((List Bool×List PI)⊕Bool),f seen todo=zk (v:Int) to p0 (n:Int) es seen todo->(e<0->DoneV B v seen ((-1 - e).toNat+n)) ->
    ((f seen todo=some (.inr true)∧∃ c∈e::es,c<0∧(-1 - c).toNat+n=v) ∨
    ∃ seen' more us,f seen todo=some (.inl (seen',todo++more))∧seen'.length=48∧more.length+YH seen'=YH seen∧PcL a0 N more us ∧
     (∀ y:Nat,seen[y]? = some true->seen'[y]? = some true)∧(∀ c∈e::es,c<0->DoneV B v seen' ((-1 - c).toNat+n))∧(∀ y:Nat,seen'[y]? = some true->seen[y]? = some true∨∃ u,B y=some u∧u∈us) ∧
     (∀ u∈us,∃ c∈e::es,c<0∧B ((-1 - c).toNat+n)=some u)):=by
   intro f hf hd;rw[hf];rcases Vx hN hT hn p0 es seen todo ts hc' hs hl hp with ⟨h1,c,h2,h3⟩ | ⟨seen',more,us,h1,h2,h3,h4,h5,h6,h7,h8⟩
   ·exact .inl ⟨h1,c,ai _ h2,h3⟩
   ·refine .inr ⟨seen',more,us,h1,h2,h3,h4,h5,fun c hcm hc0 => ?_,h7,fun u hu => ?_⟩
    ·rcases aC.1 hcm with rfl | hcm
     ·exact ⟨(hd hc0).1,fun hb=>h5 _ ((hd hc0).2 hb)⟩
     ·exact h6 c hcm hc0
    ·obtain⟨c,h9,h10⟩:=h8 u hu;exact ⟨c,ai _ h9,h10⟩
  unfold zk;by_cases h0:e≥0
  ·rw[decide_eq_true h0,cond_true];exact pass (fun seen todo=>zk (v:Int) to p0 (n:Int) es seen todo) rfl fun h=>by omega
  ·rw[decide_eq_false h0,cond_false];obtain⟨k,hk,rfl⟩:∃ k:Nat,k<24∧e = -1 - (k:Int):=⟨(-1 - e).toNat,by omega,by omega⟩
   have hk2:(-1 - (-1 - (k:Int))).toNat=k:=by omega
   rw[Xh hN hk hn,af];by_cases hv:k+n=v
   ·rw[hv,show (((v:Nat):Int)==(v:Int))=true from by simp,cond_true]
    exact .inl ⟨rfl,_,aj ..,by omega,by rw[hk2]; exact hv⟩
   ·rw[show (((k+n:Nat):Int)==(v:Int))=false from by simp; omega,cond_false,zO (show k+n<48 by omega),af]
    obtain⟨b,hb⟩:∃ b,seen[k+n]? = some b:=⟨seen[k+n]'(by omega),am (by omega)⟩
    rw[hb,af];obtain⟨q,hq,hpq⟩:=hT.get (x:=k+n) (by omega)
    cases b with
    | true =>
     simp only[az,cond_false];exact pass (fun seen todo=>zk (v:Int) to p0 (n:Int) es seen todo) rfl fun _=>by rw[hk2]; exact ⟨hv,fun _=>hb⟩
    | false =>
     simp only[bN,cond_true,af,hq];unfold PcO at hpq;split at hpq
     ·rename_i h1;rw[h1];simp only[cX,az,cond_false];exact pass (fun seen todo=>zk (v:Int) to p0 (n:Int) es seen todo) rfl fun _=>by rw[hk2]; exact ⟨hv,fun hn=>absurd hpq hn⟩
     ·rename_i q1 h1;obtain⟨u,hu,hpu⟩:=hpq;rw[h1];simp only[cp,bN,cond_true,bk,hb,af];have hun:=Cm hb;rw[zm (show (todo.length+([(q1,q.2)]:List PI).length)*32<=140737488351232 by simp; omega),cond_true]
      have hset:(seen.set (k+n) true)[k+n]? = some true:=bH (by omega)
      have hmono:∀ y:Nat,seen[y]? = some true->(seen.set (k+n) true)[y]? = some true:=fun y hy=>by
       by_cases hyk:y=k+n
       ·subst hyk; exact hset
       ·rw[cd (dN hyk)]; exact hy
      have hbk:∀ y:Nat,(seen.set (k+n) true)[y]? = some true->seen[y]? = some true∨y=k+n:=fun y hy=>by
       by_cases hyk:y=k+n
       ·exact .inr hyk
       ·rw[cd (dN hyk)] at hy; exact .inl hy
      rcases Vx hN hT hn p0 es (seen.set (k+n) true) (todo++[(q1,q.2)]) (ts++[u]) hc' (by rw[bX]; exact hs) (by simp; omega) (hp.append ⟨u,[],rfl,hpu,rfl⟩) with ⟨h2,c,h3,h4⟩ | ⟨seen',more,us,h2,h3,h4,h5,h6,h7,h8,h9⟩
      ·exact .inl ⟨h2,c,ai _ h3,h4⟩
      ·refine .inr ⟨seen',(q1,q.2)::more,u::us,by rw[h2,aU]; rfl,h3,by simp; omega,⟨u,us,rfl,hpu,h5⟩,fun y hy=>h6 y (hmono y hy),fun c hcm hc0 => ?_,fun y hy => ?_,fun w hw => ?_⟩
       ·rcases aC.1 hcm with rfl | hcm
        ·rw[hk2]; exact ⟨hv,fun _=>h6 _ hset⟩
        ·exact h7 c hcm hc0
       ·rcases h8 y hy with h10 | ⟨w,h10,h11⟩
        ·rcases hbk y h10 with h12 | rfl
         ·exact .inl h12
         ·exact .inr ⟨u,hu,aj ..⟩
        ·exact .inr ⟨w,h10,ai _ h11⟩
       ·rcases aC.1 hw with rfl | hw
        ·exact ⟨_,aj ..,by omega,by rw[hk2]; exact hu⟩
        ·obtain⟨c,h10,h11⟩:=h9 w hw;exact ⟨c,ai _ h10,h11⟩
theorem Pc.vars {p:List Int} {d:Int} {t:Tm} (h:Pc a0 N p d t):∃ n:Nat,d=(n:Int)∧n<=N∧(∀ c∈p,-24<=c)∧∀ y,t.has y↔∃ c∈p,c<0∧(-1 - c).toNat+n=y:=by
 obtain⟨u,n,h1,rfl,h2,h3,rfl,h4⟩:=h;refine ⟨n,h2,h3,fun c hc => ?_,fun y => ?_⟩
 ·by_cases h0:c<0
  ·have:=Tm.ok_has u h1 ((Tm.mem_codes h0 u).1 hc); omega
  ·omega
 ·rw[Tm.up_has];constructor
  ·rintro⟨x,hx,rfl⟩;have hc:(-1 - (x:Int))<0:=by omega
   refine ⟨-1 - (x:Int),(Tm.mem_codes hc u).2 (by rw[show (-1 - (-1 - (x:Int))).toNat=x from by omega]; exact hx),hc,by omega⟩
  ·rintro⟨c,hc,h0,rfl⟩;exact ⟨_,(Tm.mem_codes h0 u).1 hc,rfl⟩
structure WInv (B:Bd) (σ:Sb) (v:Nat) (t:Tm) (seen:List Bool) (ts:List Tm):Prop where
 snd:∀ u∈ts,(u.sub σ).has v->(t.sub σ).has v
 top:t∈ts∨∀ y,t.has y->DoneV B v seen y
 cls:∀ x u,seen[x]? = some true->B x=some u->u∈ts∨∀ y,u.has y->DoneV B v seen y
theorem DoneV.mono {seen seen':List Bool} (h:∀ y:Nat,seen[y]? = some true->seen'[y]? = some true) {y:Nat} (hd:DoneV B v seen y):DoneV B v seen' y:=⟨hd.1,fun hb=>h y (hd.2 hb)⟩
theorem Ej (hN:N<=24) (hT:RepT a0 N to B) (hG:Good B σ) (hv:B v=none) (t:Tm):∀(m k:Nat) (seen:List Bool) (todo:List PI) (ts:List Tm) (z:List Int) (z2:Int),todo.length+YH seen=m->m<k->m<=100->seen.length=48->PcL a0 N todo ts->WInv B σ v t seen ts ->
  ∃ r,lp xQ k ((v:Int),a0,to,z,z2,seen,todo)=some r∧((r = .inr true∧(t.sub σ).has v)∨(r = .inl ()∧¬(t.sub σ).has v)):=by
 intro m
 induction m using cS with
 | _ m ih =>
  intro k seen todo ts z z2 hm hk hm1 hs hp hI;obtain⟨k,rfl⟩:∃ k',k=k'+1:=⟨k - 1,by omega⟩
  rw[zx];have key:=fun (m':Nat) (h:m'<m) seen todo ts z z2 h1 h2 h3 h4=>ih m' h k seen todo ts z z2 h1 (by omega) (by omega) h2 h3 h4
  generalize lp xQ k=rec at key ⊢;unfold xQ;rcases en todo with rfl | ⟨todo',p,rfl⟩
  ·have hts:ts=[]:=hp;subst hts;refine ⟨_,rfl,.inr ⟨rfl,?_⟩⟩;have hcl:∀ x u,seen[x]? = some true->B x=some u->∀ y,u.has y->DoneV B v seen y:=fun x u h1 h2=>(hI.cls x u h1 h2).resolve_left (fun h=>nomatch h);have hno:∀ x,DoneV B v seen x->¬(σ x).has v:=by
    refine hG.ind (fun x hx hd hh => ?_) fun x u hx ihx hd hh => ?_
    ·rw[hG.free x hx] at hh;exact hd.1 hh
    ·rw[hG.bound x u hx] at hh;obtain⟨y,h1,h2⟩:=(Tm.has_sub u).1 hh;exact ihx y h1 (hcl x u (hd.2 (by rw[hx]; simp)) hx y h1) h2
   intro hh;obtain⟨y,h1,h2⟩:=(Tm.has_sub t).1 hh;exact hno y ((hI.top.resolve_left fun h=>nomatch h) y h1) h2
  ·rw[fB] at *;obtain⟨ts',us0,rfl,hp1,hp2⟩:=PcL.split hp;obtain⟨u0,us1,rfl,hu0,hus1⟩:=hp2;have hus1:us1=[]:=hus1;subst hus1;simp only[al,aD] at hm;obtain⟨q,d⟩:=p;obtain⟨n,rfl,hn,hcs,hvars⟩:=hu0.vars;have e1:ag .i64 (((aa (todo'++[(q,(n:Int))]):Nat):Int) - 1)=((todo'.length:Nat):Int):=by
    rw[al,aD,zn]<;>omega
   have e2:inR ((todo'.length:Nat):Int) (aa (todo'++[(q,(n:Int))]))=some todo'.length:=zO (by simp)
   have e3:(todo'++[(q,(n:Int))])[todo'.length]? = some (q,(n:Int)):=rP _ [] _;have e4:decide (((aa (todo'++[(q,(n:Int))]):Nat):Int)>0)=true:=decide_eq_true (by rw[al,aD]; omega)
   simp only[e1,e2,e3,e4,af,cond_true,Ag];have hsz:u0.size=q.length∧u0.size<=48:=hu0.size;rw[km _ _ _ _ _ _ _ _ (by unfold maxLen; omega)]
   rcases Vx (v:=v) hN hT hn q q seen todo' ts' hcs hs (by omega) hp1 with ⟨h1,c,h2,h3,h4⟩ | ⟨seen',more,us,h1,h2,h3,h4,h5,h6,h7,h8⟩
   ·rw[h1];refine ⟨_,rfl,.inl ⟨rfl,hI.snd u0 (by simp) ?_⟩⟩
    refine (Tm.has_sub u0).2 ⟨v,(hvars v).2 ⟨c,h2,h3,h4⟩,?_⟩;rw[hG.free v hv];rfl
   ·rw[h1];simp only[af,u2];refine key (todo'.length+more.length+YH seen') (by omega) seen' (todo'++more) (ts'++us) q (n:Int) (by simp) h2 (hp1.append h4) ⟨fun w hw hh => ?_,?_,fun x w hx hw => ?_⟩
    ·rcases aI.1 hw with hw | hw
     ·exact hI.snd w (by simp [hw]) hh
     ·obtain⟨c,h9,h10,h11⟩:=h8 w hw;refine hI.snd u0 (by simp) ((Tm.has_sub u0).2 ⟨_,(hvars _).2 ⟨c,h9,h10,rfl⟩,?_⟩)
      rw[hG.bound _ w h11];exact hh
    ·have hdone:∀ y,u0.has y->DoneV B v seen' y:=fun y hy=>by
      obtain⟨c,h9,h10,rfl⟩:=(hvars y).1 hy;exact h6 c h9 h10
     rcases hI.top with ht | ht
     ·rcases aI.1 ht with ht | ht
      ·exact .inl (by simp [ht])
      ·rw[ba.1 ht]; exact .inr hdone
     ·exact .inr fun y hy=>(ht y hy).mono h5
    ·have hdone:∀ y,u0.has y->DoneV B v seen' y:=fun y hy=>by
      obtain⟨c,h9,h10,rfl⟩:=(hvars y).1 hy;exact h6 c h9 h10
     rcases h7 x hx with h9 | ⟨w',h9,h10⟩
     ·rcases hI.cls x w h9 hw with ht | ht
      ·rcases aI.1 ht with ht | ht
       ·exact .inl (by simp [ht])
       ·rw[ba.1 ht]; exact .inr hdone
      ·exact .inr fun y hy=>(ht y hy).mono h5
     ·rw[hw] at h9; injection h9 with h9; subst h9;exact .inl (by simp [h10])
theorem BI (hN:N<=24) (hT:RepT a0 N to B) (hG:Good B σ) (hv:B v=none) {p:List Int} {d:Int} {t:Tm} (hp:Pc a0 N p d t) :
  ∃ r,uy (v:Int) p d a0 to=some r∧(r=true↔(t.sub σ).has v):=by
 have hun:YH (ax 48 false)=48:=by decide
 obtain⟨r,h1,h2⟩:=Ej hN hT hG hv t 49 zd (ax 48 false) [(p,d)] [t] p d (by rw[hun]; rfl) (by unfold zd; omega) (by omega) (by simp) ⟨t,[],rfl,hp,rfl⟩
  ⟨fun u hu h=>by rw[ba.1 hu] at h; exact h,.inl (by simp),fun x u hx _=>by
   rw[bA] at hx;split at hx<;>simp at hx⟩
 unfold uy;rw[h1];rcases h2 with ⟨rfl,h2⟩ | ⟨rfl,h2⟩
 ·exact ⟨true,rfl,by simp [h2]⟩
 ·exact ⟨false,rfl,by simp [h2]⟩
end
mutual
def Tm.ht:Tm->Nat
 | .v _=>1
 | .f _ as=>htR as+1
def htR:List Tm->Nat
 | []=>0
 | t::ts=>max t.ht (htR ts)
end
mutual
theorem Tm.ht_size:(t:Tm)->t.ht<=t.size
 | .v _=>aE _
 | .f _ as=>by have:=Ak as; simp only[Tm.ht,Tm.size]; omega
theorem Ak:(ts:List Tm)->htR ts<=xi ts
 | []=>aE _
 | t::ts=>by have:=t.ht_size; have:=Ak ts; simp only[htR,xi]; omega
end
mutual
theorem Tm.ht_sub {s:Sb} {M:Nat}:(t:Tm)->(∀ x,t.has x->(s x).ht<=M)->(t.sub s).ht<=t.ht+M
 | .v n,h=>by have:=h n rfl; simp only[Tm.sub,Tm.ht]; omega
 | .f _ as,h=>by have:=Me as h; simp only[Tm.sub,Tm.ht]; omega
theorem Me {s:Sb} {M:Nat}:(ts:List Tm)->(∀ x,jE x ts->(s x).ht<=M)->htR (wl s ts)<=htR ts+M
 | [],_=>by simp [wl,htR]
 | t::ts,h=>by
  have h1:=Tm.ht_sub t fun x hx=>h x (.inl hx);have h2:=Me ts fun x hx=>h x (.inr hx);simp only[wl,htR]; omega
end
theorem D8:{ts:List Tm}->{t:Tm}->t∈ts->t.ht<=htR ts
 | u::us,t,h=>by
  rcases aC.1 h with rfl | h
  ·simp only[htR]; omega
  ·have:=D8 h; simp only[htR]; omega
theorem Good.rank_lt {B:Bd} {σ:Sb} (h:Good B σ) {x y:Nat} {t:Tm} (hx:B x=some t) (hy:t.has y) (h48:y<48):Good.rank σ y<Good.rank σ x:=by
 have hlt:Good.less σ y x=true:=by
  unfold Good.less;have hs:=h.bound x t hx;cases t with
  | v z =>
   have hz:z=y:=hy;subst hz;have h2:=h.down x z hx;have h3:(σ z).size=(σ x).size:=by rw[hs]; rfl
   simp [h3,h2]
  | f c as =>
   have h2:=jl (s:=σ) as hy;have h3:(σ x).size=xi (wl σ as)+1:=by rw[hs]; rfl
   rw[decide_eq_true (show (σ y).size<(σ x).size by omega)]
   rfl
 refine Vq (a:=y) (ck.2 h48) (fun z _ hz => ?_) (by simp [Good.less]) hlt
 simp only[Good.less,cj,ay,decide_eq_true_eq] at hz hlt ⊢;omega
theorem Good.rank_le (σ:Sb) (x:Nat):Good.rank σ x<=48:=by
 have:Good.rank σ x<=(aJ 48).length:=el;rwa [ej] at this
theorem Good.low {B:Bd} {σ:Sb} (h:Good B σ) (hb:WA B):∀ x,(σ x).ht<=49*49:=by
 have key:∀ x,B x≠none->(σ x).ht<=49*(Good.rank σ x+1):=by
  refine h.ind (fun x hx hn=>absurd hx hn) fun x t hx ih _ => ?_;obtain⟨hx48,ht⟩:=hb x t hx;rw[h.bound x t hx];have h0:=t.ht_size;have:=Tm.ht_sub (s:=σ) (M:=49*Good.rank σ x+1) t fun y hy=>(by
   cases hy0:B y with
   | none=>rw[h.free y hy0]; simp only[Tm.ht]; omega
   | some u =>
    have h1:=ih y hy (by rw[hy0]; simp)
    have h2:=h.rank_lt hx hy (hb y u hy0).1;have:49*(Good.rank σ y+1)<=49*Good.rank σ x:=dW _ (by omega)
    omega)
  omega
 intro x;by_cases hx:B x=none
 ·rw[h.free x hx]; simp [Tm.ht]
 ·have h1:=key x hx;have h2:=Good.rank_le σ x;have:49*(Good.rank σ x+1)<=49*49:=dW _ (by omega)
  omega
def zaK (n m:Nat) (us ws:List Tm):List (List Int×Int×List Int×Int):=List.zipWith (fun a b=>(a.codes,(n:Int),b.codes,(m:Int))) us ws
theorem uz {ts:List Tm} {t:Tm} (h:t∈ts):t.codes.length<=(za ts).length:=by
 obtain⟨l1,l2,rfl⟩:=d9 h;rw[v8];simp [za];omega
theorem BN {a0:List zh} {N n m:Nat} (hn:n<=N) (hm:m<=N):{us ws:List Tm}->okR a0 24 us->okR a0 24 ws->(∀ t∈us,t.codes.length<=48)->(∀ t∈ws,t.codes.length<=48) ->
  PqL a0 N (zaK n m us ws) ((us.map (Tm.up n)).zip (ws.map (Tm.up m)))
 | [],_,_,_,_,_=>rfl
 | _::_,[],_,_,_,_=>rfl
 | u::_us,w::_ws,hu,hw,hlu,hlw =>
  ⟨(u.up n,w.up m),_,rfl,⟨⟨u,n,hu.1,rfl,rfl,hn,rfl,hlu u (aj ..)⟩,⟨w,m,hw.1,rfl,rfl,hm,rfl,hlw w (aj ..)⟩⟩,
   BN hn hm hu.2 hw.2 (fun t h=>hlu t (ai _ h)) fun t h=>hlw t (ai _ h)⟩
theorem IP (ps2:List jI) (n m:Nat):(us ws:List Tm)->(i:Nat)->(out:List (List Int×Int×List Int×Int))->ps2.drop i=ws.map Tm.codes->us.length=ws.length->out.length+us.length<=1000000 ->
  zM ps2 (n:Int) (m:Int) (us.map Tm.codes) i out=some (out++zaK n m us ws)
 | [],ws,i,out,_,_,_=>by simp [zM,zaK]
 | u::us,[],i,out,_,h,_=>by simp at h
 | u::us,w::ws,i,out,h,hl,hr=>by
  simp only[ak] at hl hr;rw[aN] at h;rw[aN];unfold zM;rw[yE,zr h,af,zm (by simp only[aD]; omega),cond_true,IP ps2 n m us ws (i+1) _ (zj h) (by omega) (by simp only[al,aD]; omega)]
  simp [zaK]
theorem Jn {a0:List zh} (h:SignOk a0) {N:Nat} {p q:List Int} {d e:Int} {ts us:List Tm} (hp:Pr a0 N p d ts) (hq:Pr a0 N q e us) (hl:ts.length=us.length) (to:List PO) {out:List (List Int×Int×List Int×Int)} (ho:out.length<=100000) :
  ∃ more,qE p d q e a0 to out=some (out++more)∧PqL a0 N more (ts.zip us):=by
 obtain⟨us0,n,h1,rfl,rfl,h2,rfl,h3⟩:=hp;obtain⟨ws0,m,h4,rfl,rfl,h5,rfl,h6⟩:=hq;simp only[aL] at hl;have hls:us0.length<=48:=by
  have:=YY (yM us0 h1);rw[aL] at this;omega
 refine ⟨zaK n m us0 ws0,?_,BN h2 h5 h1 h4 (fun t ht=>aV (uz ht) h3) fun t ht=>aV (uz ht) h6⟩;unfold qE;rw[uv h (by omega) (yM us0 h1),af,uv h (by omega) (yM ws0 h4),af,
  ka _ _ _ _ _ _ _ (by rw[aL]; unfold maxLen; omega),IP _ n m us0 ws0 0 out rfl hl (by omega)]
 rfl
theorem Gj {a0:List zh} {N:Nat} {p:List Int} {d:Int} {t:Tm} (h:Pc a0 N p d t):nn p=some p:=by
 have h1:=h.size;have h2:=t.size_pos;cases p with
 | nil=>simp at h1; omega
 | cons x r=>rfl
theorem BQ {a0:List zh} {N:Nat} (hN:N<=24) {to:List PO} {B:Bd} {σ:Sb} (hT:RepT a0 N to B) (hG:Good B σ) {p q:List Int} {d e:Int} {v:Nat} {u:Tm} (hp:Pc a0 N p d (.v v)) (hq:Pc a0 N q e u) (hv:B v=none) (hu:∀ y,u = .v y->B y=none) :
  ∃ r to',qp p d q e a0 to=some (r,a0,to')∧((r=false∧∀ θ,SolB θ B->θ v=u.sub θ->False)∨(r=true∧∃ B' σ',RepT a0 N to' B'∧Good B' σ'∧∀ θ,SolB θ B'↔SolB θ B∧θ v=u.sub θ)):=by
 have hv48:v<48:=hp.lt hN rfl;rcases hp.cases with ⟨k,n,rfl,rfl,hk,hn,he⟩ | ⟨_,_,_,_,he,_⟩
 case inr=>cases he
 injection he with he;subst he;unfold qp;simp only[yh,aB,af,Xh hN hk hn];rcases hq.cases with ⟨k2,n2,rfl,rfl,hk2,hn2,rfl⟩ | ⟨c,r,ts,rfl,rfl,hc,hr⟩
 ·simp only[aB,af,Xh hN hk2 hn2];rw[decide_eq_false (show ¬(-1 - (k2:Int)≥0) by omega),cond_false]
  have hw:=hu _ rfl;by_cases h1:k2+n2>k+n
  ·rw[decide_eq_true (show ((k2+n2:Nat):Int)>((k+n:Nat):Int) by omega),cond_true,zO (by omega),af]
   obtain⟨x,hx,-⟩:=hT.get (x:=k2+n2) (by omega)
   rw[hx,af,Gj hp,af];refine ⟨true,_,rfl,.inr ⟨rfl,_,_,hT.set (by omega) hp,hG.bind hw ?_ ?_,fun θ=>(SolB.upd hw).trans ?_⟩⟩
   ·show ¬(σ (k+n)).has (k2+n2);rw[hG.free _ hv];show ¬(k+n=k2+n2);omega
   ·intro y hy;injection hy with hy;omega
   ·show _∧θ (k2+n2)=θ (k+n)↔_∧θ (k+n)=θ (k2+n2);exact ⟨fun h=>⟨h.1,h.2.symm⟩,fun h=>⟨h.1,h.2.symm⟩⟩
  ·rw[decide_eq_false (show ¬(((k2+n2:Nat):Int)>((k+n:Nat):Int)) by omega),cond_false]
   by_cases h2:k2+n2<k+n
   ·rw[decide_eq_true (show ((k2+n2:Nat):Int)<((k+n:Nat):Int) by omega),cond_true,zO (by omega),af]
    obtain⟨x,hx,-⟩:=hT.get (x:=k+n) (by omega)
    rw[hx,af,Gj hq,af];refine ⟨true,_,rfl,.inr ⟨rfl,_,_,hT.set (by omega) hq,hG.bind hv ?_ ?_,fun θ=>SolB.upd hv⟩⟩
    ·show ¬(σ (k2+n2)).has (k+n);rw[hG.free _ hw];show ¬(k2+n2=k+n);omega
    ·intro y hy;injection hy with hy;omega
   ·rw[decide_eq_false (show ¬(((k2+n2:Nat):Int)<((k+n:Nat):Int)) by omega),cond_false]
    have:k2+n2=k+n:=by omega
    refine ⟨true,_,rfl,.inr ⟨rfl,B,σ,hT,hG,fun θ=>⟨fun h=>⟨h,?_⟩,fun h=>h.1⟩⟩⟩;show θ (k+n)=θ (k2+n2);rw[this]
 ·simp only[aB,af];rw[decide_eq_true (show (c:Int)≥0 by omega),cond_true]
  obtain⟨w,hw1,hw2⟩:=BI hN hT hG hv hq;rw[hw1,af];cases w with
  | true =>
   refine ⟨false,_,rfl,.inl ⟨rfl,fun θ h1 h2=>hG.occurs (hw2.1 rfl) h1 h2⟩⟩
  | false =>
   rw[cond_false,zO (by omega),af]
   obtain⟨x,hx,-⟩:=hT.get (x:=k+n) (by omega)
   rw[hx,af,Gj hq,af];refine ⟨true,_,rfl,.inr ⟨rfl,_,_,hT.set (by omega) hq,hG.bind hv (fun h=>by have:=hw2.2 h; cases this) (fun y hy=>by cases hy),fun θ=>SolB.upd hv⟩⟩
def wt (σ:Sb) (E:List (Tm×Tm)):Nat:=(E.map fun e=>(e.1.sub σ).size).sum
theorem Vr (σ:Sb) (E F:List (Tm×Tm)):wt σ (E++F)=wt σ E+wt σ F:=by simp [wt]
theorem Rd (σ:Sb) (e:Tm×Tm):wt σ [e]=(e.1.sub σ).size:=by simp [wt]
theorem Mg (σ:Sb):{ts us:List Tm}->ts.length=us.length->wt σ (ts.zip us)=xi (wl σ ts)
 | [],_,_=>rfl
 | _::_,[],h=>by simp at h
 | t::ts,u::us,h=>by
  have:=Mg σ (ts:=ts) (us:=us) (by simpa using h)
  simp only[wt] at this ⊢;simp only[ec,aN,cB,wl,xi,this]
def HtOk (R:List Tm) (B:Bd) (i:Nat) (t:Tm):Prop:=∃ δ:Nat,i<=47+3*δ∧∀ θ,SolB θ B->∃ c∈R,δ+(t.sub θ).ht<=(c.sub θ).ht
def StkOk (R:List Tm) (B:Bd) (E:List (Tm×Tm)):Prop:=∀(i:Nat) e,E[i]? = some e->HtOk R B i e.1
theorem HtOk.mono {R:List Tm} {B B':Bd} {i:Nat} {t:Tm} (h:HtOk R B i t) (hB:∀ θ,SolB θ B'->SolB θ B):HtOk R B' i t:=by
 obtain⟨δ,h1,h2⟩:=h;exact ⟨δ,h1,fun θ hθ=>h2 θ (hB θ hθ)⟩
theorem StkOk.mono {R:List Tm} {B B':Bd} {E:List (Tm×Tm)} (h:StkOk R B E) (hB:∀ θ,SolB θ B'->SolB θ B):StkOk R B' E:=fun i e he=>(h i e he).mono hB
theorem StkOk.left {R:List Tm} {B:Bd} {E F:List (Tm×Tm)} (h:StkOk R B (E++F)):StkOk R B E:=fun i e he=>h i e (by
 rw[bI (au.1 he).1]; exact he)
theorem StkOk.len {R:List Tm} {B:Bd} {σ:Sb} {E:List (Tm×Tm)} (h:StkOk R B E) (hG:Good B σ) (hS:WA B) (hR:∀ c∈R,c.size<=48):E.length<=8000:=by
 rcases Nat.eq_zero_or_pos E.length with h0 | h0
 ·omega
 ·obtain⟨δ,h1,h2⟩:=h (E.length - 1) E[E.length - 1] (am (by omega))
  obtain⟨c,hc,h3⟩:=h2 σ hG.bound;have h4:=Tm.ht_sub (s:=σ) c fun x _=>hG.low hS x;have h5:=c.ht_size;have h6:=hR c hc;omega
theorem zah (t:Tm):0<t.ht:=by cases t<;>simp [Tm.ht]
def SameR (a0:List zh) (N:Nat) (B:Bd) (E:List (Tm×Tm)) (r:Bool×List zh×List PO):Prop :=
 r.2.1=a0∧((r.1=false∧Out B E none)∨(r.1=true∧∃ B',RepT a0 N r.2.2 B'∧Out B E (some B')))
theorem SameR.via {a0:List zh} {N:Nat} {B B1:Bd} {E E1:List (Tm×Tm)} (h:∀ θ,(SolB θ B1∧Sol θ E1)↔(SolB θ B∧Sol θ E)) {r:Bool×List zh×List PO} (hr:SameR a0 N B1 E1 r):SameR a0 N B E r :=
 ⟨hr.1,hr.2.imp (fun h1=>⟨h1.1,Out.via h h1.2⟩) fun ⟨h1,B',h2,h3⟩=>⟨h1,B',h2,Out.via h h3⟩⟩
theorem NB {a0:List zh} (hs:SignOk a0) {N:Nat} (hN:N<=24) (R:List Tm) (hR:∀ c∈R,c.size<=48):∀(n:Nat) (to:List PO) (B:Bd) (σ:Sb) (todo:List (List Int×Int×List Int×Int)) (E:List (Tm×Tm)),
  RepT a0 N to B->Good B σ->PqL a0 N todo E->StkOk R B E ->
  (∃ r,(∀ k,lp zt (k+n) (a0,to,todo)=some r)∧SameR a0 N B E r)∨∃ B' σ',Good B' σ'∧WA B'∧(∀ θ,SolB θ B'->SolB θ B)∧n<=wt σ' E:=by
 intro n
 induction n with
 | zero=>intro to B σ todo E hT hG _ _; exact .inr ⟨B,σ,hG,hT.small,fun _ h=>h,bK _⟩
 | succ n ih =>
  intro to B σ todo E hT hG hP hK;have hlen:=hK.len hG hT.small hR;have hpl:=hP.length
  -- one round, and what is left
  have go:∀(to1:List PO) (B1:Bd) (σ1:Sb) (todo1:List (List Int×Int×List Int×Int)) (E1:List (Tm×Tm)),RepT a0 N to1 B1->Good B1 σ1->PqL a0 N todo1 E1->StkOk R B1 E1 ->
    (∀ θ,(SolB θ B1∧Sol θ E1)↔(SolB θ B∧Sol θ E))->(∀ θ,SolB θ B1->SolB θ B)->(∀ σ',SolB σ' B1->wt σ' E1+1<=wt σ' E)->(∀ rec,zt rec (a0,to,todo)=rec (a0,to1,todo1)) ->
    ((∃ r,(∀ k,lp zt (k+(n+1)) (a0,to,todo)=some r)∧SameR a0 N B E r)∨∃ B' σ',Good B' σ'∧WA B'∧(∀ θ,SolB θ B'->SolB θ B)∧n+1<=wt σ' E):=by
   intro to1 B1 σ1 todo1 E1 h1 h2 h3 h4 h5 h6 h7 h8;rcases ih to1 B1 σ1 todo1 E1 h1 h2 h3 h4 with ⟨r,h9,h10⟩ | ⟨B',σ',h9,h10,h11,h12⟩
   ·refine .inl ⟨r,fun k => ?_,h10.via h5⟩;rw[← bO,zx,h8];exact h9 k
   ·have:=h7 σ' (h11 _ h9.bound);exact .inr ⟨B',σ',h9,h10,fun θ hθ=>h6 θ (h11 θ hθ),by omega⟩
  have stop:∀ r,SameR a0 N B E r->(∀ rec,zt rec (a0,to,todo)=some r) ->
    ((∃ r,(∀ k,lp zt (k+(n+1)) (a0,to,todo)=some r)∧SameR a0 N B E r)∨∃ B' σ',Good B' σ'∧WA B'∧(∀ θ,SolB θ B'->SolB θ B)∧n+1<=wt σ' E) :=
   fun r h1 h2=>.inl ⟨r,fun k=>by rw[← bO,zx,h2],h1⟩
  rcases en todo with rfl | ⟨todo',t,rfl⟩
  ·have hE:E=[]:=hP;subst hE;exact stop (true,a0,to) ⟨rfl,.inr ⟨rfl,B,hT,Out.done hG hT.small⟩⟩ fun rec=>rfl
  ·rw[fB] at *;obtain⟨p,d,q,e⟩:=t;obtain⟨E',F,rfl,hP',hF⟩:=PqL.split hP;obtain⟨⟨s,u⟩,F',rfl,⟨hps,hqu⟩,hF'⟩:=hF;have hF':F'=[]:=hF';subst hF';have hps:Pc a0 N p d s:=hps;have hqu:Pc a0 N q e u:=hqu;obtain⟨p1,d1,s1,hw1,hp1,hs1,hb1⟩:=Gy hN hT hG hps;obtain⟨q1,e1,u1,hw2,hq1,hu1,hb2⟩:=Gy hN hT hG hqu;simp only[al,aD] at hlen hpl;have x1:ag .i64 (((aa (todo'++[(p,d,q,e)]):Nat):Int) - 1)=((todo'.length:Nat):Int):=by
    rw[al,aD,zn]<;>omega
   have x2:inR ((todo'.length:Nat):Int) (aa (todo'++[(p,d,q,e)]))=some todo'.length:=zO (by simp)
   have x3:(todo'++[(p,d,q,e)])[todo'.length]? = some (p,d,q,e):=rP _ [] _;have x4:(((aa (todo'++[(p,d,q,e)]):Nat):Int)==0)=false:=by simp; omega
   have hsol:∀ θ,SolB θ B->(Sol θ (E'++[(s,u)])↔Sol θ E'∧s1.sub θ=u1.sub θ):=fun θ hθ=>by
    rw[Sol.append,Sol.cons,hs1 θ hθ,hu1 θ hθ];exact ⟨fun h=>⟨h.1,h.2.1⟩,fun h=>⟨h.1,h.2,Sol.nil⟩⟩
   -- one round
   have round:∀ rec,zt rec (a0,to,todo'++[(p,d,q,e)])=(gx p1 0).bind fun e34=>cond (decide (e34<0))
     ((qp p1 d1 q1 e1 a0 to).bind fun r35=>cond r35.1 (rec (r35.2.1,r35.2.2,todo')) (some (false,r35.2.1,r35.2.2)))
     ((gx q1 0).bind fun e36=>cond (decide (e36<0))
      ((qp q1 e1 p1 d1 a0 to).bind fun r37=>cond r37.1 (rec (r37.2.1,r37.2.2,todo')) (some (false,r37.2.1,r37.2.2)))
      ((gx p1 0).bind fun e38=>(gx q1 0).bind fun e39=>cond (e38 != e39) (some (false,a0,to))
       ((vI p1 (some 1) none).bind fun y40=>(vI q1 (some 1) none).bind fun y41=>(qE y40 d1 y41 e1 a0 to todo').bind fun r42=>rec (a0,to,r42)))):=by
    intro rec;unfold zt;simp only[x1,x2,x3,x4,af,cond_false,Ag,hw1,hw2]
   have hbind:∀{B1:Bd} {v:Nat} {w:Tm},(∀ θ,SolB θ B1↔SolB θ B∧θ v=w.sub θ)->(∀ θ,SolB θ B->(s1.sub θ=u1.sub θ↔θ v=w.sub θ))->∀ θ,(SolB θ B1∧Sol θ E')↔(SolB θ B∧Sol θ (E'++[(s,u)])):=by
    intro B1 v w h1 h2 θ;rw[h1 θ];constructor
    ·rintro⟨⟨h3,h4⟩,h5⟩;exact ⟨h3,(hsol θ h3).2 ⟨h5,(h2 θ h3).2 h4⟩⟩
    ·rintro⟨h3,h4⟩;have h6:=(hsol θ h3).1 h4;exact ⟨⟨h3,(h2 θ h3).1 h6.2⟩,h6.1⟩
   have hwt:∀ σ',wt σ' E'+1<=wt σ' (E'++[(s,u)]):=fun σ'=>by
    rw[Vr,Rd];have:=(s.sub σ').size_pos;show wt σ' E'+1<=wt σ' E'+(s.sub σ').size;omega
   rcases hp1.cases with ⟨k1,n1,rfl,rfl,hk1,hn1,rfl⟩ | ⟨c1,r1,ts1,rfl,rfl,hc1,hr1⟩
   ·-- a variable on the left
    obtain⟨r,to1,hput,hres⟩:=BQ hN hT hG hp1 hq1 (hb1 _ rfl) hb2;rcases hres with ⟨rfl,hno⟩ | ⟨rfl,B1,σ1,hT1,hG1,hB1⟩
    ·refine stop (false,a0,to1) ⟨rfl,.inl ⟨rfl,fun θ h1 h2=>hno θ h1 ((hsol θ h1).1 h2).2⟩⟩ fun rec => ?_;rw[round,yh,aB,af,decide_eq_true (show -1 - (k1:Int)<0 by omega),cond_true,hput]
     rfl
    ·refine go to1 B1 σ1 todo' E' hT1 hG1 hP' (hK.left.mono fun θ h=>((hB1 θ).1 h).1) (hbind hB1 fun θ _=>Iff.rfl) (fun θ h=>((hB1 θ).1 h).1) (fun σ' _=>hwt σ') fun rec => ?_;rw[round,yh,aB,af,decide_eq_true (show -1 - (k1:Int)<0 by omega),cond_true,hput]
     rfl
   ·rcases hq1.cases with ⟨k2,n2,rfl,rfl,hk2,hn2,rfl⟩ | ⟨c2,r2,ts2,rfl,rfl,hc2,hr2⟩
    ·obtain⟨r,to1,hput,hres⟩:=BQ hN hT hG hq1 hp1 (hb2 _ rfl) hb1;rcases hres with ⟨rfl,hno⟩ | ⟨rfl,B1,σ1,hT1,hG1,hB1⟩
     ·refine stop (false,a0,to1) ⟨rfl,.inl ⟨rfl,fun θ h1 h2=>hno θ h1 ((hsol θ h1).1 h2).2.symm⟩⟩ fun rec => ?_;rw[round];simp only[yh,aB,af];rw[decide_eq_false (show ¬(c1:Int)<0 by omega),cond_false,decide_eq_true (show -1 - (k2:Int)<0 by omega),cond_true,hput]
      rfl
     ·refine go to1 B1 σ1 todo' E' hT1 hG1 hP' (hK.left.mono fun θ h=>((hB1 θ).1 h).1) (hbind hB1 fun θ _=>⟨fun h=>h.symm,fun h=>h.symm⟩) (fun θ h=>((hB1 θ).1 h).1) (fun σ' _=>hwt σ') fun rec => ?_;rw[round];simp only[yh,aB,af];rw[decide_eq_false (show ¬(c1:Int)<0 by omega),cond_false,decide_eq_true (show -1 - (k2:Int)<0 by omega),cond_true,hput]
      rfl
    ·by_cases hcc:c1=c2
     ·subst hcc;have hl:ts1.length=ts2.length:=by rw[hc1] at hc2; injection hc2
      have hl3:ts1.length<=3:=Gm hs hc1;obtain⟨more,hm1,hm2⟩:=Jn hs hr1 hr2 hl to (out:=todo') (by omega)
      refine go to B σ (todo'++more) (E'++ts1.zip ts2) hT hG (hP'.append hm2) ?_ ?_ (fun _ h=>h) ?_ fun rec => ?_
      ·intro i e hi;rcases bD i E'.length with hlt | hge
       ·rw[bI hlt] at hi;exact hK.left i e hi
       ·rw[bu hge] at hi;have hi3:i - E'.length<3:=by
         have:=(au.1 hi).1;rw[gk] at this;omega
        obtain⟨δ,h1,h2⟩:=hK E'.length (s,u) (by rw[bu (aE _),dA]; rfl)
        refine ⟨δ+1,by omega,fun θ hθ => ?_⟩
        obtain⟨c,hc,h3⟩:=h2 θ hθ;refine ⟨c,hc,?_⟩;have h3:δ+(s.sub θ).ht<=(c.sub θ).ht:=h3;rw[hs1 θ hθ] at h3;have h4:e.1∈ts1:=(gn (a:=e.1) (b:=e.2) (aP hi)).1;have h5:(e.1.sub θ).ht<=htR (wl θ ts1):=D8 (by rw[YE]; exact bl h4)
        have h6:((Tm.f c1 ts1).sub θ).ht=htR (wl θ ts1)+1:=rfl;omega
      ·intro θ;rw[Sol.append,Sol.zip hl];constructor
       ·rintro⟨h1,h2,h3⟩;exact ⟨h1,(hsol θ h1).2 ⟨h2,za1.2 ⟨rfl,h3⟩⟩⟩
       ·rintro⟨h1,h2⟩;have h3:=(hsol θ h1).1 h2;exact ⟨h1,h3.1,(za1.1 h3.2).2⟩
      ·intro σ' hσ';rw[Vr,Vr,Rd,Mg σ' hl];show _<=wt σ' E'+(s.sub σ').size;rw[hs1 σ' hσ'];show _<=wt σ' E'+(xi (wl σ' ts1)+1);omega
      ·rw[round];simp only[yh,aB,af];rw[decide_eq_false (show ¬(c1:Int)<0 by omega),cond_false,cond_false,show ((c1:Int) != (c1:Int))=false from by simp,cond_false,wE,af,wE,af,hm1]
       rfl
     ·refine stop (false,a0,to) ⟨rfl,.inl ⟨rfl,fun θ h1 h2=>hcc (za1.1 ((hsol θ h1).1 h2).2).1⟩⟩ fun rec => ?_;rw[round];simp only[yh,aB,af];rw[decide_eq_false (show ¬(c1:Int)<0 by omega),cond_false,decide_eq_false (show ¬(c2:Int)<0 by omega),cond_false,show ((c1:Int) != (c2:Int))=true from by simp; omega,cond_true]
theorem FB {a0:List zh} (hs:SignOk a0) {N:Nat} (hN:N<=24) {to:List PO} {B:Bd} {σ:Sb} (hT:RepT a0 N to B) (hG:Good B σ) {p q:List Int} {d e:Int} {ts us:List Tm} (hp:Pr a0 N p d ts) (hq:Pr a0 N q e us) (hl:ts.length=us.length) :
  ∃ r,wd p d q e a0 to=some r∧SameR a0 N B (ts.zip us) r:=by
 have eta:∀ o:Option (Bool×List zh×List PO),(o.bind fun r=>some (r.1,r.2.1,r.2.2))=o:=fun o=>by cases o<;>rfl
 obtain⟨more,hm1,hm2⟩:=Jn hs hp hq hl to (out:=[]) (by simp)
 have e0:wd p d q e a0 to=lp zt (zd+1) (a0,to,more):=by
  unfold wd;rw[hm1,af,zx,bj];generalize lp zt zd=rec;unfold zt;simp only[eta]
 have hsz:∀ c∈ts,c.size<=48:=fun c hc=>by
  obtain⟨us0,n,h1,rfl,h2,h3,rfl,h4⟩:=hp;obtain⟨c0,h5,rfl⟩:=aX.1 hc;rw[Tm.up_size,← Tm.codes_len];exact aV (uz h5) h4
 have hlen:ts.length<=48:=by
  obtain⟨us0,n,h1,rfl,h2,h3,rfl,h4⟩:=hp;have:=YY (yM us0 h1);rw[aL] at this ⊢;omega
 have hK:StkOk ts B (ts.zip us):=fun i x hi=>by
  have hi0:=(au.1 hi).1;rw[gk] at hi0;exact ⟨0,by omega,fun θ _=>⟨x.1,(gn (a:=x.1) (b:=x.2) (aP hi)).1,by omega⟩⟩
 rw[e0];rcases NB hs hN ts hsz (48*(48*48 ^ 49)+1) to B σ more (ts.zip us) hT hG hm2 hK with ⟨r,h1,h2⟩ | ⟨B',σ',h1,h2,h3,h4⟩
 ·have:=h1 (zd+1 - (48*(48*48 ^ 49)+1));rw[show zd+1 - (48*(48*48 ^ 49)+1)+(48*(48*48 ^ 49)+1)=zd+1 from by unfold zd; omega] at this
  exact ⟨r,this,h2⟩
 ·exfalso;rw[Mg σ' hl,YE,JZ,cK] at h4;have h5:∀ l:List Tm,(∀ c∈l,c.size<=48)->(l.map (Tm.size ∘ Tm.sub σ')).sum<=l.length*(48*48 ^ 49):=by
   intro l
   induction l with
   | nil=>intro _; simp
   | cons c l ih =>
    intro h;have h6:=ih fun c hc=>h c (ai _ hc);have h7:=h1.small_sub h2 c;have h8:=h c (aj ..);have h9:c.size*48 ^ 49<=48*48 ^ 49:=aS _ h8;simp only[aN,cB,ak,g9];rw[bf,Nat.one_mul];omega
  have h6:=h5 ts hsz;have h7:ts.length*(48*48 ^ 49)<=48*(48*48 ^ 49):=aS _ hlen;omega
def j5 (s:Sb) (c:Int):List Int:=if c<0 then (s (-1 - c).toNat).codes else [c]
mutual
theorem Tm.codes_sub (s:Sb):(t:Tm)->(t.sub s).codes=t.codes.flatMap (j5 s)
 | .v n=>by
  show (s n).codes=[-1 - (n:Int)].flatMap (j5 s);simp only[bt,List.flatMap_nil,bG,j5];rw[if_pos (by omega),show (-1 - (-1 - (n:Int))).toNat=n from by omega]
 | .f c as=>by
  show (c:Int)::za (wl s as)=((c:Int)::za as).flatMap (j5 s);rw[bt,rq s as];unfold j5;rw[if_neg (by omega)]
  rfl
theorem rq (s:Sb):(ts:List Tm)->za (wl s ts)=(za ts).flatMap (j5 s)
 | []=>rfl
 | t::ts=>by
  show (t.sub s).codes++za (wl s ts)=(t.codes++za ts).flatMap (j5 s);rw[Tm.codes_sub s t,rq s ts,List.flatMap_append]
end
theorem Ee {k:Nat} (hk:k<24) (p:Option jI):xn p 0 (-1 - (k:Int))=some (k:Int):=by
 unfold xn;rw[qm (by omega) (by omega),af]
 congr 1
 rw[zn]<;>omega
section
variable {a0:List zh} {to:List PO} {B:Bd} {σ:Sb}
def TS (o:List Int):Option jI:=if o.length<=48 then some o else none
theorem Ba (hT:RepT a0 0 to B) (hG:Good B σ) (p:List Int) (hp48:p.length<=48) (rf:((Option jI)×Int×jS×(List PO))->Option (Option jI))
  (hrf:∀(y:Nat) q d u,(-1 - (y:Int))∈p->to[y]? = some (some q,d)->B y=some u->rf (some q,d,a0,to)=some (TS (u.sub σ).codes)):∀(es:List Int) (i k:Nat) (out:List Int),p.drop i=es->es.length<k->(∀ c∈es,-24<=c)->out.length<=48 ->
  lp (yI rf) k (some p,((p.length:Nat):Int),(i:Int),a0,to,some p,0,out)=some (if out.length+(es.flatMap (j5 σ)).length<=48 then .inl (out++es.flatMap (j5 σ)) else .inr ()):=by
 intro es
 induction es with
 | nil =>
  intro i k out h hk _ ho;obtain⟨k,rfl⟩:∃ k',k=k'+1:=⟨k - 1,by simp at hk; omega⟩
  rw[zx];generalize lp (yI rf) k=rec;unfold yI;have hi:p.length<=i:=by
   have:=congrArg aa h;simp at this; omega
  rw[decide_eq_false (show ¬((i:Int)<((p.length:Nat):Int)) by omega),cond_false]
  simp [ho]
 | cons c es ih =>
  intro i k out h hk hc ho;obtain⟨k,rfl⟩:∃ k',k=k'+1:=⟨k - 1,by simp at hk; omega⟩
  rw[zx];have key:=fun out' ho'=>ih (i+1) k out' (zj h) (by simp at hk; omega) (fun c h=>hc c (ai _ h)) ho'
  generalize lp (yI rf) k=rec at key ⊢;unfold yI;have hget:=zr h;have hi:i<p.length:=(au.1 hget).1;have hmem:c∈p:=aP hget;have hw:ag .i64 ((i:Int)+1)=((i+1:Nat):Int):=by rw[zn]<;>omega
  rw[decide_eq_true (show ((i:Int)<((p.length:Nat):Int)) by omega),cond_true]
  simp only[bk,yE,hget,af,hw]
  -- one code that stays
  have stay:j5 σ c=[c]->(((nn ([c]:List Int)).bind fun _=>some false).bind fun z=>cond z (some (aF ()))
    (cond (decide ((ag .i64 (((aa out:Nat):Int)+((aa ([c]:List Int):Nat):Int)))>48)) (some (aF ()))
     (cond (yb (aa out+aa ([c]:List Int)) 8) (rec (some p,((p.length:Nat):Int),((i+1:Nat):Int),a0,to,some p,0,(out++([c]:List Int)))) none))) =
    some (if out.length+((c::es).flatMap (j5 σ)).length<=48 then .inl (out++(c::es).flatMap (j5 σ)) else .inr ()):=by
   intro he;have e1:(nn ([c]:List Int))=some [c]:=rfl;rw[e1,bt,he];have w2:ag .i64 (((aa out:Nat):Int)+((aa ([c]:List Int):Nat):Int))=((out.length+1:Nat):Int):=by
    rw[zn]<;>simp only[aD]<;>omega
   simp only[af,cond_false,w2];simp only[al,aD];by_cases h48:out.length+1<=48
   ·rw[decide_eq_false (show ¬(((out.length+1:Nat):Int)>48) by omega),cond_false,zm (by omega),cond_true,key _ (by simp; omega)]
    simp only[al,aD,aU];have:out.length+1+(es.flatMap (j5 σ)).length=out.length+(1+(es.flatMap (j5 σ)).length):=by omega
    rw[this]
   ·rw[decide_eq_true (show (((out.length+1:Nat):Int)>48) by omega),cond_true,if_neg (by omega)]
  by_cases h0:c<0
  ·obtain⟨y,hy,rfl⟩:∃ y:Nat,y<24∧c = -1 - (y:Int):=⟨(-1 - c).toNat,by have:=hc c (aj ..); omega,by omega⟩
   rw[decide_eq_true h0,cond_true,Ee hy,af,zO (show y<48 by omega),af]
   obtain⟨e,he,hpe⟩:=hT.get (x:=y) (by omega)
   rw[he,af];have hexp:j5 σ (-1 - (y:Int))=(σ y).codes:=by
    unfold j5;rw[if_pos h0,show (-1 - (-1 - (y:Int))).toNat=y from by omega]
   unfold PcO at hpe;split at hpe
   ·rename_i h1;rw[h1];simp only[cX,az,cond_false];exact stay (by rw[hexp,hG.free y hpe]; rfl)
   ·rename_i q h1;obtain⟨u,hu,hq⟩:=hpe;rw[h1];simp only[cp,bN,cond_true,af,zO (show y<48 by omega),he]
    rw[h1,hrf y q e.2 u hmem (by rw[he,← h1]) hu,af]
    rw[bt,hexp,hG.bound y u hu];unfold TS;by_cases hsz:(u.sub σ).codes.length<=48
    ·rw[if_pos hsz];have w2:ag .i64 (((aa out:Nat):Int)+(((u.sub σ).codes.length:Nat):Int))=((out.length+(u.sub σ).codes.length:Nat):Int):=by
      rw[zn]<;>omega
     simp only[cp,cond_false,bk,w2];simp only[al];by_cases h48:out.length+(u.sub σ).codes.length<=48
     ·rw[decide_eq_false (show ¬(((out.length+(u.sub σ).codes.length:Nat):Int)>48) by omega),cond_false,zm (by omega),cond_true,key _ (by simp; omega)]
      simp only[al,aU];rw[bO]
     ·rw[decide_eq_true (show (((out.length+(u.sub σ).codes.length:Nat):Int)>48) by omega),cond_true,if_neg (by omega)]
    ·rw[if_neg hsz];simp only[cX,cond_true,al];rw[if_neg (by omega)]
  ·rw[decide_eq_false h0,cond_false];exact stay (by unfold j5; rw[if_neg h0])
theorem EE (hT:RepT a0 0 to B) (hG:Good B σ):∀(k m:Nat) (p:List Int) (d:Int) (t:Tm),Pc a0 0 p d t->(∀ y,t.has y->B y≠none->Good.rank σ y<m)->m<k ->
  qG k (some p,d,a0,to)=some (TS (t.sub σ).codes):=by
 intro k
 induction k with
 | zero=>intro m p d t _ _ h; omega
 | succ k ih =>
  intro m p d t hp hm hk;obtain⟨u,n,h1,rfl,rfl,h2,rfl,h3⟩:=hp;have hn:n=0:=by omega
  subst hn;rw[Tm.up_zero] at hm ⊢;have hsmall:∀ c∈u.codes,-24<=c:=fun c hc=>by
   by_cases h0:c<0
   ·have:=Tm.ok_has u h1 ((Tm.mem_codes h0 u).1 hc); omega
   ·omega
  show tK (qG k) (some u.codes) ((0:Nat):Int) a0 to=_;unfold tK;have hr:=Ba hT hG u.codes h3 (qG k) (fun y q d w hy hto hw=>by
   have hyu:u.has y:=by
    have:=(Tm.mem_codes (by omega) u).1 hy
    rwa [show (-1 - (-1 - (y:Int))).toNat=y from by omega] at this
   have hpc:Pc a0 0 q d w:=by
    have:=hT.at_ y _ hto;obtain⟨t',h5,h6⟩:=(show ∃ t,B y=some t∧Pc a0 0 q d t from this)
    rw[hw] at h5; injection h5 with h5; subst h5;exact h6
   have hlt:=hm y hyu (by rw[hw]; simp)
   exact ih (Good.rank σ y) q d w hpc (fun z hz hb=>hG.rank_lt hw hz (by
    cases hbz:B z with
    | none=>exact absurd hbz hb
    | some x=>exact (hT.small z x hbz).1)) (by omega)) u.codes 0 zd [] rfl (by unfold zd; omega) hsmall (by simp)
  simp only[bk];have hr:lp (yI (qG k)) zd (some u.codes,((u.codes.length:Nat):Int),0,a0,to,some u.codes,((0:Nat):Int),[])=_:=hr;rw[hr,← Tm.codes_sub];unfold TS;have hne:nn (u.sub σ).codes=some (u.sub σ).codes:=XI fun e=>by
   have:=congrArg aa e;rw[Tm.codes_len] at this;have:=(u.sub σ).size_pos;simp at *; omega
  by_cases h48:(u.sub σ).codes.length<=48
  ·simp only[bc,aR,bj];rw[if_pos h48,if_pos h48];simp only[af,u2,hne]
  ·simp only[bc,aR];rw[if_neg h48,if_neg h48];rfl
theorem Cx (hT:RepT a0 0 to B) (hG:Good B σ) {p:List Int} {d:Int} {t:Tm} (hp:Pc a0 0 p d t):rB (some p) d a0 to=some (TS (t.sub σ).codes):=by
 refine EE hT hG zd 49 p d t hp (fun y _ _ => ?_) (by unfold zd; omega)
 have:=Good.rank_le σ y;omega
def CZ (B:Bd) (v:Nat):Bool:=(B v).isSome
def vo (B:Bd) (σ:Sb) (vs:List Nat):List (Int×List Int):=(vs.filter (CZ B)).map fun v:Nat=>((v:Int),(σ v).codes)
def qO (σ:Sb) (vs:List Nat):Bool:=vs.all fun x=>decide ((σ x).size<=48)
theorem Bx (hT:RepT a0 0 to B) (hG:Good B σ):∀(m v k:Nat) (out:List (Int×List Int)),24 - v=m->v<=24->m<k->out.length<=v ->
  lp wr k ((v:Int),a0,to,out)=some (cond (qO σ ((aJ 24).drop v)) (.inl (out++vo B σ ((aJ 24).drop v))) (.inr (false,401))):=by
 intro m
 induction m with
 | zero =>
  intro v k out hm hv hk ho;obtain⟨k,rfl⟩:∃ k',k=k'+1:=⟨k - 1,by omega⟩
  rw[zx];generalize lp wr k=rec;unfold wr;have:v=24:=by omega
  subst this;rw[show (aJ 24).drop 24=[] from rfl]
  simp [vo,qO]
 | succ m ih =>
  intro v k out hm hv hk ho;obtain⟨k,rfl⟩:∃ k',k=k'+1:=⟨k - 1,by omega⟩
  rw[zx];have key:=fun out' ho'=>ih (v+1) k out' (by omega) (by omega) (by omega) ho'
  generalize lp wr k=rec at key ⊢;unfold wr;have w:ag .i64 ((v:Int)+1)=((v+1:Nat):Int):=by rw[zn]<;>omega
  obtain⟨e,he,hpe⟩:=hT.get (x:=v) (by omega)
  have hdr:(aJ 24).drop v=v::(aJ 24).drop (v+1):=by
   rw[aY (by simp; omega)]
   simp
  simp only[decide_eq_true (show (v:Int)<24 by omega),cond_true,zO (show v<48 by omega),af,he,w]
  rw[hdr];unfold PcO at hpe;split at hpe
  ·rename_i h1;rw[h1];simp only[cX,cond_true];rw[key out (by omega)]
   have hs:(σ v).size<=48:=by rw[hG.free v hpe]; simp [Tm.size]
   have hb:CZ B v=false:=by simp [CZ,hpe]
   simp [vo,qO,hb,hs]
  ·rename_i q h1;obtain⟨u,hu,hq⟩:=hpe;rw[h1];simp only[cp,cond_false];rw[Cx hT hG hq,af,← hG.bound v u hu];unfold TS;rw[Tm.codes_len];by_cases hs:(σ v).size<=48
   ·rw[if_pos hs];simp only[cp,cond_false,bk];rw[zZ (by rw[Tm.codes_len]; omega),af,zm (by simp only[aD]; omega),cond_true,key _ (by simp only[al,aD]; omega)]
    have hb:CZ B v=true:=by simp [CZ,hu]
    simp [vo,qO,hb,hs]
   ·rw[if_neg hs];simp only[cX,cond_true];simp [qO,hs]
end
structure Mgu (σ:Sb) (E:List (Tm×Tm)):Prop where
 sol:Sol σ E
 gen:∀ θ,Sol θ E->∀ x,(σ x).sub θ=θ x
 le:∀ x y,σ x = .v y->y<=x
 idem:∀ x,(σ x).sub σ=σ x
theorem Mgu.of {B:Bd} {σ:Sb} {E:List (Tm×Tm)} (hG:Good B σ) (h:∀ θ,SolB θ B↔SolB θ (fun _=>none)∧Sol θ E):Mgu σ E where
 sol:=((h σ).1 hG.bound).2
 gen:=fun θ hθ=>hG.fac ((h θ).2 ⟨fun _ _ h=>(nomatch h),hθ⟩)
 le:=hG.le
 idem:=fun x=>by rw[← hG.fac hG.bound x]; exact hG.idem _
theorem Mgu.unique {σ σ':Sb} {E:List (Tm×Tm)} (h:Mgu σ E) (h':Mgu σ' E):σ=σ':=by
 have f1:∀ x,(σ x).sub σ'=σ' x:=h.gen σ' h'.sol;have f2:∀ x,(σ' x).sub σ=σ x:=h'.gen σ h.sol;have root:∀ y,σ y = .v y->σ' y = .v y:=by
  intro y hy;have h1:(σ' y).sub σ = .v y:=by rw[f2,hy]
  cases hz:σ' y with
  | f c as=>rw[hz] at h1; cases h1
  | v z =>
   rw[hz] at h1;have h2:=h'.le y z hz;have h3:=h.le z y h1;have:z=y:=by omega
   rw[this]
 have fix:∀ t:Tm,t.sub σ=t->∀ y,t.has y->σ y = .v y:=by
  intro t;have key:∀ n,(∀ t:Tm,t.size<=n->t.sub σ=t->∀ y,t.has y->σ y = .v y)∧∀ ts:List Tm,xi ts<=n->wl σ ts=ts->∀ y,jE y ts->σ y = .v y:=by
   intro n
   induction n with
   | zero =>
    refine ⟨fun t ht=>absurd t.size_pos (by omega),fun ts hts he y hy => ?_⟩
    cases ts with
    | nil=>exact hy.elim
    | cons t ts=>have:=t.size_pos; simp only[xi] at hts; omega
   | succ n ih =>
    have h1:∀ t:Tm,t.size<=n+1->t.sub σ=t->∀ y,t.has y->σ y = .v y:=by
     intro t ht he y hy;cases t with
     | v z =>
      have hy:z=y:=hy;subst hy;exact he
     | f c as =>
      have he:Tm.f c (wl σ as)=Tm.f c as:=he;injection he with _ he;simp only[Tm.size] at ht;exact ih.2 as (by omega) he y hy
    refine ⟨h1,fun ts => ?_⟩
    induction ts with
    | nil=>intro _ _ y hy; exact hy.elim
    | cons t ts iht =>
     intro hts he y hy;have he:t.sub σ::wl σ ts=t::ts:=he;injection he with he1 he2;simp only[xi] at hts;have:=t.size_pos;rcases hy with hy | hy
     ·exact h1 t (by omega) he1 y hy
     ·exact ih.2 ts (by omega) he2 y hy
  exact (key t.size).1 t (aE _)
 funext x
 rw[← f1 x]
 conv=>lhs; rw[← Tm.sub_v (σ x)]
 exact Tm.sub_ext _ fun y hy=>(root y (fix _ (h.idem x) y hy)).symm
def moved (σ:Sb) (v:Nat):Bool:=match σ v with
 | .v y => !(y==v)
 | .f _ _=>true
theorem LE {B:Bd} {σ:Sb} (h:Good B σ) (v:Nat):CZ B v=moved σ v:=by
 have:=h.moved (x:=v);unfold CZ moved;cases hb:B v with
 | none =>
  rw[h.free v hb];simp
 | some t =>
  have h1:=this.1 (by rw[hb]; simp)
  cases hs:σ v with
  | f c as=>rfl
  | v y =>
   rw[hs] at h1;have:y≠v:=fun e=>h1 (by rw[e])
   simp [this]
def un (σ:Sb):List (Int×List Int):=((aJ 24).filter (moved σ)).map fun v:Nat=>((v:Int),(σ v).codes)
theorem zdT (a0:List zh) (N:Nat):RepT a0 N to0 (fun _=>none) where
 len:=by simp [to0]
 at_:=fun x e h=>by
  have hx:x<48:=by
   have:=(au.1 h).1;simpa[to0] using this
  rw[Tq hx] at h;injection h with h;rw[← h];rfl
 out:=fun _ _=>rfl
theorem Y5 {a0:List zh} {xs ys:List Int} {ts us:List Tm} (hs:SignOk a0) (hx:xs=za ts) (hy:ys=za us) (ht:okR a0 24 ts) (hu:okR a0 24 us) (hb:ug a0=true) (hlx:xs.length<=48) (hly:ys.length<=48) :
  (vQ a0 xs ys=some (false,0,[])∧(ts.length≠us.length∨∀ θ,¬ Sol θ (ts.zip us))) ∨
  (ts.length=us.length∧∃ σ,Mgu σ (ts.zip us)∧(∀ x,x<24->(σ x).ok a0 24)∧vQ a0 xs ys=some (cond (qO σ (aJ 24)) (true,0,un σ) (false,401,[]))):=by
 have hr:∀{zs:List Int} {ws:List Tm},zs=za ws->okR a0 24 ws->zs.length<=48->ZR a0 zs=some ws.length:=by
  intro zs ws h1 h2 h3;unfold ZR vG;rw[hb,decide_eq_true h3,h1,yM ws h2];simp
 unfold vQ;rw[Zl,hr hx ht hlx,af,Zl,hr hy hu hly,af];simp only;rw[show ((0:Int) != 0)=false from rfl,cond_false,cond_false]
 by_cases hl:ts.length=us.length
 ·rw[hl,show (((us.length:Nat):Int) != ((us.length:Nat):Int))=false from by simp,cond_false]
  obtain⟨r,h1,h2,h3⟩:=FB hs (N:=0) (by omega) (zdT a0 0) Good.empty (p:=xs) (q:=ys) (d:=0) (e:=0) (ts:=ts) (us:=us)
   ⟨ts,0,ht,hx,rfl,aE _,by rw[show Tm.up 0=id from funext Tm.up_zero,gY],hlx⟩ ⟨us,0,hu,hy,rfl,aE _,by rw[show Tm.up 0=id from funext Tm.up_zero,gY],hly⟩ hl
  have h1:wd xs 0 ys 0 a0 (ax 48 ((none:Option jI),(0:Int)))=some r:=h1;rw[h1,af];rcases h3 with ⟨h3,h4⟩ | ⟨h3,B',h4,⟨σ,h5⟩,-,h6⟩
  ·rw[h3];exact .inl ⟨rfl,.inr fun θ h=>h4 θ (fun _ _ h=>(nomatch h)) h⟩
  ·rw[h3];have hok:∀ x,x<24->(σ x).ok a0 24:=by
    refine h5.ind (fun x hx hlt=>by rw[h5.free x hx]; exact hlt) fun x t hx ih _ => ?_
    have hto:Pc a0 0 t.codes 0 t:=by
     obtain⟨e,he,hpe⟩:=h4.get (x:=x) (h4.small x t hx).1;unfold PcO at hpe;split at hpe
     ·rw[hx] at hpe; cases hpe
     ·obtain⟨u,hu,hq⟩:=hpe;rw[hx] at hu; injection hu with hu; subst hu;obtain⟨u0,n,g1,g2,g3,g4,g5,g6⟩:=hq;have:n=0:=by omega
      subst this;rw[Tm.up_zero] at g5;subst g5;exact ⟨t,0,g1,rfl,rfl,aE _,(Tm.up_zero t).symm,by rw[← g2]; exact g6⟩
    obtain⟨u0,n,g1,g2,g3,g4,g5,g6⟩:=hto;have:n=0:=by omega
    subst this;rw[Tm.up_zero] at g5;subst g5;rw[h5.bound x t hx];exact Tm.ok_sub t g1 fun y hy=>ih y hy (Tm.ok_has t g1 hy)
   refine .inr ⟨rfl,σ,Mgu.of h5 h6,hok,?_⟩;simp only[az,cond_false];have:=Bx (a0:=r.2.1) (by rw[h2]; exact h4) h5 24 0 zd [] rfl (by omega) (by unfold zd; omega) (by simp)
   rw[show ((0:Nat):Int)=0 from rfl] at this
   rw[this,bP];have he:vo B' σ (aJ 24)=un σ:=by
    unfold vo un;rw[show CZ B'=moved σ from funext (LE h5)]
   cases qO σ (aJ 24) with
   | true=>simp only[cond_true,af,u2,bj,he]
   | false=>rfl
 ·rw[show (((ts.length:Nat):Int) != ((us.length:Nat):Int))=true from by simp; omega,cond_true]
  exact .inl ⟨rfl,.inl hl⟩
theorem HQ {n:Int} (h1:0<=n) (h2:n<=9223372036854775807):ag .u64 n=n:=by
 simp [ag,eN,dr];omega
theorem zak {l h:Nat} (hl:l+h<=1000000000):ag .i64 (Int.fdiv (ag .u64 (ag .i64 ((l:Int)+(h:Int)))) (2 ^ min (bb 1) (dr .u64)))=(((l+h) / 2:Nat):Int):=by
 rw[zn (n:=(l:Int)+(h:Int)) (by omega) (by omega),HQ (by omega) (by omega)]
 have:(2:Int) ^ min (bb 1) (dr .u64)=2:=by decide
 rw[this,Int.fdiv_eq_ediv_of_nonneg _ (by omega)]
 rw[zn]<;>omega
theorem D6 (a b:Int):WQ a b=some (decide (a<b)):=by
 unfold WQ Xt;simp
abbrev Rise (xs:List Int):Prop:=xs.Pairwise (· < ·)
theorem Rise.lt {xs:List Int} (h:Rise xs) {i j:Nat} {x y:Int} (hi:xs[i]? = some x) (hj:xs[j]? = some y) (hij:i<j):x<y:=by
 obtain⟨h1,rfl⟩:=au.1 hi;obtain⟨h2,rfl⟩:=au.1 hj;exact List.pairwise_iff_getElem.1 h i j h1 h2 hij
theorem Nv {xs:List Int} (h:Rise xs) (hl:xs.length<=1000000) (t:Int) (z:Int):∀(m l r k:Nat),r - l=m->l<=r->r<=xs.length->m<k->(∀(i:Nat) x,xs[i]? = some x->i<l->x<t)->(∀(i:Nat) x,xs[i]? = some x->r<=i->t<=x) ->
  ∃ q:Nat,lp yQ k (xs,t,z,(l:Int),(r:Int))=some (q:Int)∧q<=xs.length∧(∀(i:Nat) x,xs[i]? = some x->i<q->x<t)∧∀(i:Nat) x,xs[i]? = some x->q<=i->t<=x:=by
 intro m
 induction m using cS with
 | _ m ih =>
  intro l r k hm hlr hr hk h1 h2;obtain⟨k,rfl⟩:∃ k',k=k'+1:=⟨k - 1,by omega⟩
  rw[zx];have key:=fun l r (h3:r - l<m) h4 h5 h6 h7=>ih (r - l) h3 l r k rfl h4 h5 (by omega) h6 h7
  generalize lp yQ k=rec at key ⊢;unfold yQ;by_cases hlt:l<r
  ·have hml:(l+r) / 2<xs.length:=by omega
   simp only[decide_eq_true (show (l:Int)<(r:Int) by omega),cond_true,zak (show l+r<=1000000000 by omega),yE,am hml,af,D6]
   have hget:=am hml;have w:ag .i64 ((((l+r) / 2:Nat):Int)+1)=(((l+r) / 2+1:Nat):Int):=by rw[zn]<;>omega
   by_cases hc:xs[(l+r) / 2]<t
   ·rw[decide_eq_true hc,cond_true,w];refine key ((l+r) / 2+1) r (by omega) (by omega) hr (fun i x hi hil => ?_) h2
    rcases bD i ((l+r) / 2) with hi2 | hi2
    ·have:=h.lt hi hget hi2; omega
    ·have:i=(l+r) / 2:=by omega
     subst this;rw[hget] at hi; injection hi with hi; omega
   ·rw[decide_eq_false hc,cond_false];refine key l ((l+r) / 2) (by omega) (by omega) (by omega) h1 (fun i x hi hil => ?_)
    rcases bD ((l+r) / 2) i with hi2 | hi2
    ·have:=h.lt hget hi hi2; omega
    ·have:i=(l+r) / 2:=by omega
     subst this;rw[hget] at hi; injection hi with hi; omega
  ·rw[decide_eq_false (show ¬((l:Int)<(r:Int)) by omega),cond_false]
   have:l=r:=by omega
   subst this;exact ⟨l,rfl,hr,h1,h2⟩
theorem R7 {xs:List Int} (h:Rise xs) (hl:xs.length<=1000000) (t:Int):∃(q:Nat) (b:Bool),xR xs t=some ((q:Int),b)∧q<=xs.length∧(∀(i:Nat) x,xs[i]? = some x->i<q->x<t)∧(∀(i:Nat) x,xs[i]? = some x->q<=i->t<=x)∧(b=true↔t∈xs):=by
 obtain⟨q,h1,h2,h3,h4⟩:=Nv h hl t ((xs.length:Nat):Int) xs.length 0 xs.length zd rfl (bK _) (aE _) (by unfold zd; omega) (fun i x _ h=>by omega) (fun i x hi h=>by
  have:=(au.1 hi).1; omega)
 have h1:lp yQ zd (xs,t,((xs.length:Nat):Int),0,((xs.length:Nat):Int))=some (q:Int):=h1;unfold xR;rw[h1,af];by_cases hq:q<xs.length
 ·rw[decide_eq_true (show ((q:Int)<((xs.length:Nat):Int)) by omega),cond_true,yE,am hq,af]
  have hget:=am hq;by_cases he:xs[q]=t
  ·rw[show (xs[q]==t)=true from by simp [he],cond_true]
   exact ⟨q,true,rfl,h2,h3,h4,by simp only[true_iff]; rw[← he]; exact dw hq⟩
  ·rw[show (xs[q]==t)=false from by simp [he],cond_false,af]
   have hn:sc xs[q]=some false:=by unfold sc; simp
   rw[hn,af,cond_false];refine ⟨q,false,rfl,h2,h3,h4,?_⟩;constructor
   ·intro h; cases h
   ·intro hm;exfalso;obtain⟨i,hi⟩:=cr.1 hm;rcases Nat.lt_trichotomy i q with h5 | h5 | h5
    ·have:=h3 i t hi h5; omega
    ·subst h5; rw[hget] at hi; injection hi with hi; exact he hi
    ·have:=h.lt hget hi h5;have:=h4 q _ hget (aE _);omega
 ·rw[decide_eq_false (show ¬((q:Int)<((xs.length:Nat):Int)) by omega),cond_false]
  refine ⟨q,false,rfl,h2,h3,h4,?_⟩;constructor
  ·intro h; cases h
  ·intro hm;exfalso;obtain⟨i,hi⟩:=cr.1 hm;have:=h3 i t hi (by have:=(au.1 hi).1; omega)
   omega
theorem Bt {xs:List Int} (h:Rise xs) {q:Nat} {t:Int} (_hq:q<=xs.length) (h1:∀(i:Nat) x,xs[i]? = some x->i<q->x<t) (h2:∀(i:Nat) x,xs[i]? = some x->q<=i->t<=x) (h3:t∉xs):Rise (ZY xs q [t]):=by
 unfold ZY Rise;have ht:∀ x∈xs.take q,x<t:=fun x hx=>by
  obtain⟨i,hi⟩:=cr.1 hx;rw[List.getElem?_take] at hi;split at hi
  ·exact h1 i x hi (by assumption)
  ·cases hi
 have hd:∀ x∈xs.drop q,t<x:=fun x hx=>by
  obtain⟨i,hi⟩:=cr.1 hx;rw[List.getElem?_drop] at hi;have h4:=h2 _ x hi (by omega)
  have:x≠t:=fun e=>h3 (e▸aP hi);omega
 rw[List.pairwise_append];refine ⟨h.sublist (List.take_sublist ..),?_,fun x hx y hy => ?_⟩
 ·rw[List.singleton_append,cz];exact ⟨hd,h.sublist (List.drop_sublist ..)⟩
 ·have h5:=ht x hx;rcases aI.1 hy with hy | hy
  ·rw[ba.1 hy]; exact h5
  ·have:=hd y hy; omega
theorem Ez {xs:List Int} {q:Nat} {t x:Int}:x∈ZY xs q [t]↔x∈xs∨x=t:=by
 unfold ZY;simp only[aI,ba];constructor
 ·rintro (h | h | h)
  ·exact .inl (List.mem_of_mem_take h)
  ·exact .inr h
  ·exact .inl (List.mem_of_mem_drop h)
 ·rintro (h | h)
  ·rw[← bV q xs] at h;rcases aI.1 h with h | h
   ·exact .inl h
   ·exact .inr (.inr h)
  ·exact .inr (.inl h)
def Eu (r:List Int) (x:Int):Prop:=∃ c∈r,c<0∧x = -1 - c
theorem JG:(es vs:List Int)->Rise vs->vs.length+es.length<=1000000->(∀ c∈es,-1000000<=c∧c<=1000000)->∃ ws,yA es vs=some ws∧Rise ws∧(∀ x,x∈ws↔x∈vs∨Eu es x)∧ws.length<=vs.length+es.length
 | [],vs,h,_,_=>⟨vs,rfl,h,fun x=>⟨.inl,fun h=>h.elim (fun h=>h) fun ⟨c,hc,_⟩=>(nomatch hc)⟩,aE _⟩
 | e::es,vs,h,hl,hc=>by
  rw[ak] at hl;have he:=hc e (aj ..);have hc':∀ c∈es,-1000000<=c∧c<=1000000:=fun c h=>hc c (ai _ h);unfold yA;by_cases h0:e≥0
  ·rw[decide_eq_true h0,cond_true];obtain⟨ws,h1,h2,h3,h4⟩:=JG es vs h (by omega) hc'
   refine ⟨ws,h1,h2,fun x=>(h3 x).trans ?_,by rw[ak]; omega⟩
   constructor
   ·rintro (h5 | ⟨c,h5,h6⟩)
    ·exact .inl h5
    ·exact .inr ⟨c,ai _ h5,h6⟩
   ·rintro (h5 | ⟨c,h5,h6,h7⟩)
    ·exact .inl h5
    ·rcases aC.1 h5 with rfl | h5
     ·omega
     ·exact .inr ⟨c,h5,h6,h7⟩
  ·rw[decide_eq_false h0,cond_false,qm (by omega) (by omega),af]
   obtain⟨q,b,h1,h2,h3,h4,h5⟩:=R7 h (by omega) (-1 - e)
   rw[h1,af];have fin:∀{vs':List Int},(∀ x,x∈vs'↔x∈vs∨x = -1 - e)->∀ x,(x∈vs'∨Eu es x)↔(x∈vs∨Eu (e::es) x):=by
    intro vs' hv x;rw[hv x];constructor
    ·rintro ((h6 | h6) | ⟨c,h6,h7⟩)
     ·exact .inl h6
     ·exact .inr ⟨e,aj ..,by omega,h6⟩
     ·exact .inr ⟨c,ai _ h6,h7⟩
    ·rintro (h6 | ⟨c,h6,h7,h8⟩)
     ·exact .inl (.inl h6)
     ·rcases aC.1 h6 with rfl | h6
      ·exact .inl (.inr h8)
      ·exact .inr ⟨c,h6,h7,h8⟩
   cases b with
   | true =>
    simp only[az,cond_false];obtain⟨ws,h6,h7,h8,h9⟩:=JG es vs h (by omega) hc'
    refine ⟨ws,h6,h7,fun x=>(h8 x).trans (fin (fun x=>⟨.inl,fun h=>h.elim (fun h=>h) fun h => ?_⟩) x),by rw[ak]; omega⟩
    rw[h];exact h5.1 rfl
   | false =>
    simp only[bN,cond_true,af];have hn : -1 - e∉vs:=fun h=>by have:=h5.2 h; cases this
    have hi:sQ (q:Int) vs [-1 - e]=some (ZY vs q [-1 - e]):=by
     unfold sQ Ut;rw[zm (by simp; omega)]
     have e1:BY (q:Int)=true:=by simp [BY]
     have e2:decide ((q:Int)<=(aa vs:Int))=true:=by simp; omega
     have e3:AK ((aa [-1 - e]:Nat):Int)=true:=by simp [AK]
     rw[e1,e2,e3,bh];rfl
    rw[hi,af];have hlen:(ZY vs q [-1 - e]).length=vs.length+1:=Wj vs _ h2;obtain⟨ws,h6,h7,h8,h9⟩:=JG es (ZY vs q [-1 - e]) (Bt h h2 h3 h4 hn) (by omega) hc'
    exact ⟨ws,h6,h7,fun x=>(h8 x).trans (fin (fun x=>Ez) x),by rw[ak]; omega⟩
theorem GW {r vs:List Int} (h:Rise vs) (hl:vs.length+r.length<=1000000) (hc:∀ c∈r,-1000000<=c∧c<=1000000):∃ ws,uE r vs=some ws∧Rise ws∧(∀ x,x∈ws↔x∈vs∨Eu r x)∧ws.length<=vs.length+r.length:=by
 obtain⟨ws,h1,h2⟩:=JG r vs h hl hc;refine ⟨ws,?_,h2⟩;unfold uE;rw[YJ _ _ (by unfold maxLen; omega),h1]
 rfl
def jH (rs:List jI) (x:Int):Prop:=∃ r∈rs,Eu r x
theorem Xg {r:List Int} {rs:List jI} {x:Int}:jH (r::rs) x↔Eu r x∨jH rs x:=by simp [jH]
theorem uB {rs ss:List jI} {x:Int}:jH (rs++ss) x↔jH rs x∨jH ss x:=by
 simp only[jH,aI];constructor
 ·rintro⟨r,h | h,h2⟩
  ·exact .inl ⟨r,h,h2⟩
  ·exact .inr ⟨r,h,h2⟩
 ·rintro (⟨r,h,h2⟩ | ⟨r,h,h2⟩)
  ·exact ⟨r,.inl h,h2⟩
  ·exact ⟨r,.inr h,h2⟩
theorem ke (r:List Int) (rs:List jI):zi (r::rs)=r.length+zi rs:=by simp [zi]
theorem wk (rs ss:List jI):zi (rs++ss)=zi rs+zi ss:=by simp [zi]
theorem HE:(es:List zc)->(vs:List Int)->Rise vs->vs.length+zi (es.map (·.2))<=1000000->(∀ l∈es,uW l.2) ->
  ∃ ws,qJ es vs=some ws∧Rise ws∧(∀ x,x∈ws↔x∈vs∨jH (es.map (·.2)) x)∧ws.length<=vs.length+zi (es.map (·.2))
 | [],vs,h,_,_=>⟨vs,rfl,h,fun x=>⟨.inl,fun h=>h.elim (fun h=>h) fun ⟨c,hc,_⟩=>(nomatch hc)⟩,by simp [zi]⟩
 | e::es,vs,h,hl,hn=>by
  rw[aN,ke] at hl;unfold qJ;obtain⟨ws,h1,h2,h3,h4⟩:=GW h (r:=e.2) (by omega) (hn e (aj ..)).2
  rw[h1,af];obtain⟨xs,h5,h6,h7,h8⟩:=HE es ws h2 (by omega) fun l hl=>hn l (ai _ hl)
  refine ⟨xs,h5,h6,fun x => ?_,by rw[aN,ke]; omega⟩
  rw[h7 x,h3 x,aN,Xg,or_assoc]
theorem E6:(es:List jI)->(vs:List Int)->Rise vs->vs.length+zi es<=1000000->(∀ l∈es,uW l) ->
  ∃ ws,qH es vs=some ws∧Rise ws∧(∀ x,x∈ws↔x∈vs∨jH es x)∧ws.length<=vs.length+zi es
 | [],vs,h,_,_=>⟨vs,rfl,h,fun x=>⟨.inl,fun h=>h.elim (fun h=>h) fun ⟨c,hc,_⟩=>(nomatch hc)⟩,by simp [zi]⟩
 | e::es,vs,h,hl,hn=>by
  rw[ke] at hl;unfold qH;obtain⟨ws,h1,h2,h3,h4⟩:=GW h (r:=e) (by omega) (hn e (aj ..)).2
  rw[h1,af];obtain⟨xs,h5,h6,h7,h8⟩:=E6 es ws h2 (by omega) fun l hl=>hn l (ai _ hl)
  refine ⟨xs,h5,h6,fun x => ?_,by rw[ke]; omega⟩
  rw[h7 x,h3 x,Xg,or_assoc]
def yd (L:List zc) (T:List jI) (C:List zc):List jI:=L.map (·.2)++C.map (·.2)++T
theorem ZK {a0:List zh} (hs:SignOk a0) {L:List zc} {T:List jI} {C:List zc} (h:wm a0 L T C=true):∃ ws,qr a0 L T C=some (0,ws)∧Rise ws∧∀ x,x∈ws↔jH (yd L T C) x:=by
 obtain⟨-,h1,h2,h3,h4,h5,h6,h7⟩:=zK h;have n1:=ry hs h4;have n2:=Wb hs h5;have n3:=ry hs h6;unfold qr;rw[yB,af,h];simp only[az,cond_false];rw[kC (by omega),af,Yx _ _ _ _ _ (by unfold maxLen; simp; omega)]
 obtain⟨ws,h8,h9,h10,h11⟩:=HE (L++C) [] fX (by rw[dg,wk]; simp; omega) (fun l hl=>(aI.1 hl).elim (n1 l) (n3 l))
 rw[h8,af,Yq _ _ (by unfold maxLen; omega)]
 rw[dg,wk] at h11;obtain⟨xs,h12,h13,h14,-⟩:=E6 T ws h9 (by simp at h11; omega) n2
 rw[h12];refine ⟨xs,rfl,h13,fun x => ?_⟩;rw[h14 x,h10 x,dg];unfold yd;rw[uB,uB,uB];simp
def upC (by_:Int) (c:Int):Int:=cond (decide (c<0)) (c - by_) c
def rJ (b:Int) (ls:List zc):List zc:=ls.map fun l=>(l.1,l.2.map (upC b))
theorem Kt (b:Int) (hb:0<=b∧b<=1000):(es done:List Int)->(k:Nat)->es.length<k->done.length+es.length<=1000000->(∀ c∈es,-1000000<=c∧c<=1000000) ->
  lp qt k (((done.length+es.length:Nat):Int),(done.length:Int),b,done++es)=some (done++es.map (upC b))
 | [],done,k,hk,hl,hc=>by
  obtain⟨k,rfl⟩:∃ k',k=k'+1:=⟨k - 1,by omega⟩
  rw[zx];generalize lp qt k=rec;unfold qt;simp
 | e::es,done,k,hk,hl,hc=>by
  obtain⟨k,rfl⟩:∃ k',k=k'+1:=⟨k - 1,by omega⟩
  rw[zx];have he:=hc e (aj ..);have hl':done.length+(es.length+1)<=1000000:=hl;have key:=fun e'=>Kt b hb es (done++[e']) k (Nat.lt_of_succ_lt_succ hk) (by simp; omega) (fun c hx=>hc c (ai _ hx))
  generalize lp qt k=rec at key ⊢;unfold qt;have e1:decide (((done.length:Nat):Int)<((done.length+(e::es).length:Nat):Int))=true:=by rw[decide_eq_true_eq,ak]; omega
  have e2:inR ((done.length:Nat):Int) (aa (done++e::es))=some done.length:=zO (by simp)
  have e3:ag .i64 (((done.length:Nat):Int)+1)=((done.length+1:Nat):Int):=by rw[zn]<;>omega
  have key2:=fun e'=>by
   have:=key e';rw[aU,al,aD,bO,dk 1 es.length] at this;exact this
  simp only[e1,cond_true,e2,af,rP,e3];by_cases h0:e<0
  ·have hu:upC b e=e - b:=by unfold upC; rw[decide_eq_true h0]; rfl
   have w:ag .i64 (e - b)=e - b:=by rw[zn]<;>omega
   rw[decide_eq_true h0,cond_true,w];have hset:(done++e::es).set done.length (e - b)=done++(e - b)::es:=by
    rw[List.set_append_right _ _ (aE _),dA]; rfl
   rw[hset,aN,hu];have:=key2 (e - b);exact this.trans (by simp)
  ·have hu:upC b e=e:=by unfold upC; rw[decide_eq_false h0]; rfl
   rw[decide_eq_false h0,cond_false,aN,hu];have:=key2 e;exact this.trans (by simp)
theorem J6 {b:Int} (hb:0<=b∧b<=1000) {r:List Int} (hn:uW r):qn r b=some (r.map (upC b)):=by
 unfold qn;rw[zZ (by have:=hn.1; omega),af]
 have:=Kt b hb r [] zd (by have:=hn.1; unfold zd; omega) (by have:=hn.1; simp; omega) hn.2
 simp only[bc,aR,bj] at this;have h0:((0:Nat):Int)=0:=rfl;rw[h0] at this;rw[this];rfl
theorem I1 {b:Int} (hb:0<=b∧b<=1000):(es out:List zc)->(∀ l∈es,uW l.2)->out.length+es.length<=1000000->yt b es out=some (out++rJ b es)
 | [],out,_,_=>by simp [yt,rJ]
 | e::es,out,hn,hl=>by
  rw[ak] at hl;unfold yt;rw[J6 hb (hn e (aj ..)),af,zm (show (out.length+([(e.1,e.2.map (upC b))]:List zc).length)*32<=140737488351232 by simp; omega),cond_true,
   I1 hb es _ (fun l hl=>hn l (ai _ hl)) (by simp; omega)]
  simp [rJ]
theorem IG {b:Int} (hb:0<=b∧b<=1000) (s7:List zc):(es out:List jI)->(∀ l∈es,uW l)->out.length+es.length<=1000000->yo b s7 es out=some (s7,out++es.map (c5 (upC b)))
 | [],out,_,_=>by simp [yo]
 | e::es,out,hn,hl=>by
  rw[ak] at hl;unfold yo;rw[J6 hb (hn e (aj ..)),af,zm (show (out.length+([e.map (upC b)]:List jI).length)*24<=140737488351232 by simp; omega),cond_true,
   IG hb s7 es _ (fun l hl=>hn l (ai _ hl)) (by simp; omega)]
  simp
theorem G8 {b:Int} (hb:0<=b∧b<=1000) (s4:List zc) (s5:List jI):(es out:List zc)->(∀ l∈es,uW l.2)->out.length+es.length<=1000000->yn b s4 s5 es out=some (s4,s5,out++rJ b es)
 | [],out,_,_=>by simp [yn,rJ]
 | e::es,out,hn,hl=>by
  rw[ak] at hl;unfold yn;rw[J6 hb (hn e (aj ..)),af,zm (show (out.length+([(e.1,e.2.map (upC b))]:List zc).length)*32<=140737488351232 by simp; omega),cond_true,
   G8 hb s4 s5 es _ (fun l hl=>hn l (ai _ hl)) (by simp; omega)]
  simp [rJ]
theorem Vo {b:Int} (hb:0<=b∧b<=1000) {L:List zc} {T:List jI} {C:List zc} (hL:∀ l∈L,uW l.2) (hT:∀ l∈T,uW l) (hC:∀ l∈C,uW l.2) (h1:L.length<=1000) (h2:T.length<=1000) (h3:C.length<=1000) :
  zH L T C b=some (rJ b L,T.map (c5 (upC b)),rJ b C):=by
 unfold zH j7;rw[jK _ _ _ _ _ _ (by unfold maxLen; omega),I1 hb L [] hL (by simp; omega),af,
  ZA _ _ _ _ _ _ _ (by unfold maxLen; omega),IG hb _ T [] hT (by simp; omega),af,
  Zc _ _ _ _ _ (by unfold maxLen; omega),G8 hb _ _ C [] hC (by simp; omega),af]
 simp
def TopV (rs:List jI) (m:Int):Prop:=(∀ x,jH rs x->x<m)∧(m=0∨jH rs (m - 1))
theorem ES {ws:List Int} {rs:List jI} (h:Rise ws) (hm:∀ x,x∈ws↔jH rs x):(ws=[]∧TopV rs 0)∨∃ x,ws[ws.length - 1]? = some x∧0<ws.length∧TopV rs (x+1):=by
 cases hw:ws with
 | nil=>exact .inl ⟨rfl,⟨fun x hx=>(by have:=(hm x).2 hx; rw[hw] at this; cases this),.inl rfl⟩⟩
 | cons w ws' =>
  rw[← hw];have hl:0<ws.length:=by rw[hw]; simp
  refine .inr ⟨ws[ws.length - 1],am (by omega),hl,⟨fun x hx => ?_,.inr ?_⟩⟩
  ·obtain⟨i,hi⟩:=cr.1 ((hm x).2 hx);have hil:=(au.1 hi).1;rcases bD i (ws.length - 1) with h1 | h1
   ·have:=h.lt hi (am (show ws.length - 1<ws.length by omega)) h1; omega
   ·have:i=ws.length - 1:=by omega
    subst this;rw[am (by omega)] at hi
    injection hi with hi; omega
  ·rw[show ws[ws.length - 1]+1 - 1=ws[ws.length - 1] from by omega]
   exact (hm _).1 (dw _)
def uX (s:Sb) (r:List Int):List Int:=r.flatMap (j5 s)
theorem Jv (σ:Sb) (v:Nat):(vs:List Nat)->sG ((vs.filter (moved σ)).map fun v:Nat=>((v:Int),(σ v).codes)) (v:Int)=if v∈vs∧moved σ v=true then some (σ v).codes else none
 | []=>by simp [sG]
 | w::vs=>by
  have ih:=Jv σ v vs;cases hm:moved σ w with
  | false =>
   rw[cP (by simp [hm]),ih]
   by_cases hv:v=w
   ·subst hv;simp [hm]
   ·simp [hv]
  | true =>
   rw[dc hm,aN];unfold sG at ih ⊢;rw[d6];by_cases hv:v=w
   ·subst hv;simp [hm]
   ·rw[show (((w:Nat):Int)==(v:Int))=false from by simp; omega,ih]
    simp [hv]
theorem Bk {σ:Sb} {r:List Int} (h:∀ c∈r,-24<=c):onB (un σ) r=uX σ r:=by
 unfold onB uX
 induction r with
 | nil=>rfl
 | cons c r ih =>
  rw[bt,bt,ih fun c hc=>h c (ai _ hc)]
  congr 1
  have hc:=h c (aj ..);unfold onC j5;by_cases h0:c≥0
  ·rw[decide_eq_true h0,cond_true,if_neg (by omega)]
  ·rw[decide_eq_false h0,cond_false,if_pos (by omega)]
   obtain⟨k,hk,rfl⟩:∃ k:Nat,k<24∧c = -1 - (k:Int):=⟨(-1 - c).toNat,by omega,by omega⟩
   have e1:(-1:Int) - (-1 - (k:Int))=(k:Int):=by omega
   rw[e1,bh];unfold un;rw[Jv σ k];cases hm:moved σ k with
   | true=>simp [hk]
   | false =>
    have:σ k = .v k:=by
     unfold moved at hm;split at hm
     ·rename_i y hy;have:y=k:=by simpa using hm
      rw[hy,this]
     ·cases hm
    rw[this];simp [Tm.codes]
theorem Y4 {σ:Sb} (h:qO σ (aJ 24)=true):BindsOk (un σ) where
 len:=by
  unfold un;rw[aL];have:=List.length_filter_le (moved σ) (aJ 24);simp at this;omega
 all:=fun b hb=>by
  unfold un at hb;obtain⟨v,hv,rfl⟩:=aX.1 hb;have hv:=(d5.1 hv).1;have h1:=aH.1 h v hv;have h2:=(σ v).size_pos;have h3:=(σ v).codes_len;have h4:(σ v).size<=48:=of_decide_eq_true h1;refine ⟨fun e => ?_,?_⟩
  ·have:=congrArg aa e;simp only[bc] at this;omega
  ·show (σ v).codes.length<=1000;omega
def vL (s:Sb) (ls:List zc):List zc:=ls.map fun l=>(l.1,uX s l.2)
theorem WZ {σ:Sb} {ls:List zc} (h:∀ l∈ls,∀ c∈l.2,-24<=c):KB (un σ) ls=vL σ ls:=by
 unfold KB vL;exact bY fun l hl=>by rw[Bk (h l hl)]
theorem B0 {σ:Sb} {rs:List jI} (h:∀ r∈rs,∀ c∈r,-24<=c):Et (un σ) rs=rs.map (uX σ):=by
 unfold Et;exact bY fun r hr=>Bk (h r hr)
theorem vM {a0:List zh} {xs:List Int} (h:ua a0 xs=true):∃(c:Nat) (ts:List Tm) (e:zh),xs=(c:Int)::za ts∧okR a0 24 ts∧a0[c]? = some e∧e.2.1=0∧((ts.length:Nat):Int)=e.2.2.1∧(za ts).length<=48∧ug a0=true:=by
 obtain⟨x,r,e,ps,rfl,h0,h1,-,h2,h3,h4,h5,h6⟩:=Y3 h;obtain⟨ts,h7,h8,h9⟩:=Ru h5;refine ⟨x.toNat,ts,e,by rw[← h9,cI h0],h7,h1,h2,?_,by rw[← h9]; exact h4,h3⟩
 rw[← h6,h8,aL]
theorem Ow {a0:List zh} {c:Nat} {ts:List Tm} {e:zh} (h1:okR a0 24 ts) (h2:a0[c]? = some e) (h3:e.2.1=0) (h4:((ts.length:Nat):Int)=e.2.2.1) (h5:(za ts).length<=48) (h6:ug a0=true):ua a0 ((c:Int)::za ts)=true:=by
 unfold ua;simp only[bh,h2];unfold vG;rw[h6,decide_eq_true h5];simp [h3,yM ts h1,h4]
theorem JH (b:Nat):(ts:List Tm)->(za ts).map (upC (b:Int))=za (ts.map (Tm.up b)):=by
 intro ts;have h:=rq (fun n=>Tm.v (n+b)) ts;have e:ts.map (Tm.up b)=wl (fun n=>Tm.v (n+b)) ts:=by rw[YE]; rfl
 rw[e,h];generalize za ts=r
 induction r with
 | nil=>rfl
 | cons c r ih =>
  rw[aN,bt,ih]
  congr 1
  unfold upC j5;by_cases h0:c<0
  ·rw[decide_eq_true h0,cond_true,if_pos h0];show [c - (b:Int)]++_=[-1 - (((-1 - c).toNat+b:Nat):Int)]++_;rw[show -1 - (((-1 - c).toNat+b:Nat):Int)=c - (b:Int) from by omega]
   rfl
  ·rw[decide_eq_false h0,cond_false,if_neg h0];rfl
theorem ru {ts:List Tm} {x:Int}:Eu (za ts) x↔∃ k:Nat,x=(k:Int)∧jE k ts:=by
 constructor
 ·rintro⟨c,h1,h2,rfl⟩;exact ⟨(-1 - c).toNat,by omega,(rp h2 ts).1 h1⟩
 ·rintro⟨k,rfl,hk⟩;refine ⟨-1 - (k:Int),(rp (by omega) ts).2 (by rwa [show (-1 - (-1 - (k:Int))).toNat=k from by omega]),by omega,by omega⟩
theorem VE {a0:List zh} {L:List zc} {T:List jI} {C:List zc} (h:wm a0 L T C=true):∀ r∈yd L T C,t5 r:=by
 obtain⟨-,-,-,-,h4,h5,h6,-⟩:=zK h;intro r hr;unfold yd at hr;rcases aI.1 hr with hr | hr
 ·rcases aI.1 hr with hr | hr
  ·obtain⟨l,hl,rfl⟩:=aX.1 hr; exact xP h4 l hl
  ·obtain⟨l,hl,rfl⟩:=aX.1 hr; exact xP h6 l hl
 ·exact jJ h5 r hr
theorem jV {a0:List zh} {L:List zc} {T:List jI} {C:List zc} (h:wm a0 L T C=true) {x:Int} (hx:jH (yd L T C) x):0<=x∧x<24:=by
 obtain⟨r,hr,c,hc,h0,rfl⟩:=hx;have:=(VE h r hr).2 c hc;omega
abbrev ApR:=List zc×List jI×Bool×List zc
theorem apart_spec {a0:List zh} (hs:SignOk a0) {L:List zc} {T:List jI} {C:List zc} {L':List zc} {T':List jI} {C':List zc} (h:wm a0 L T C=true) (h':wm a0 L' T' C'=true) :
  ∃ b:Nat,b<=24∧TopV (yd L T C) (b:Int) ∧
   ((vj a0 L T C L' T' C'=some ([],[],false,[])∧∃ x,jH (yd L' T' C') x∧23<x+(b:Int)) ∨
    (vj a0 L T C L' T' C'=some (rJ (b:Int) L',T'.map (c5 (upC (b:Int))),true,rJ (b:Int) C')∧∀ x,jH (yd L' T' C') x->x+(b:Int)<=23)):=by
 obtain⟨ws,h1,h2,h3⟩:=ZK hs h;obtain⟨ws',h1',h2',h3'⟩:=ZK hs h';obtain⟨-,l1,l2,l3,l4,l5,l6,-⟩:=zK h';have hsh:∀ b:Nat,b<=24->zH L' T' C' (b:Int)=some (rJ (b:Int) L',T'.map (c5 (upC (b:Int))),rJ (b:Int) C'):=fun b hb =>
  Vo (by omega) (ry hs l4) (Wb hs l5) (ry hs l6) (by omega) (by omega) (by omega)
 -- the second half
 have second:∀ b:Nat,b<=24->∃ o:Option ApR,((qr a0 L' T' C').bind fun r17 =>
   cond (decide (((aa r17.2:Nat):Int)>0))
   ((inR (ag .i64 (((aa r17.2:Nat):Int) - 1)) (aa r17.2)).bind fun k18 =>
    (r17.2[k18]?).bind fun x19 =>
    cond (decide ((ag .i64 (x19+(b:Int)))>23))
    (some (([]:jQ),([]:jR),false,([]:jQ)))
    ((zH L' T' C' (b:Int)).bind fun r20 =>
     some (r20.1,r20.2.1,true,r20.2.2)))
   ((zH L' T' C' (b:Int)).bind fun r21 =>
    some (r21.1,r21.2.1,true,r21.2.2)))=o∧((o=some ([],[],false,[])∧∃ x,jH (yd L' T' C') x∧23<x+(b:Int)) ∨
    (o=some (rJ (b:Int) L',T'.map (c5 (upC (b:Int))),true,rJ (b:Int) C')∧∀ x,jH (yd L' T' C') x->x+(b:Int)<=23)):=by
  intro b hb;refine ⟨_,rfl,?_⟩;rw[h1',af];simp only;rcases ES h2' h3' with ⟨rfl,h4⟩ | ⟨x,h4,h5,h6,h7⟩
  ·rw[show decide (((aa ([]:List Int):Nat):Int)>0)=false from rfl,cond_false,hsh b hb]
   refine .inr ⟨rfl,fun x hx => ?_⟩;have:=h4.1 x hx;have:=(jV h' hx).1;omega
  ·have hvx:jH (yd L' T' C') x:=by
    rcases h7 with h7 | h7
    ·have:=(h3' x).1 (aP h4); exact this
    ·rwa [show x+1 - 1=x from by omega] at h7
   have hx:=jV h' hvx;have hwl:ws'.length<=1000000∨True:=.inr trivial;have e1:ag .i64 (((aa ws':Nat):Int) - 1)=((ws'.length - 1:Nat):Int)∨ws'.length>1000000:=by
    rcases bD 1000000 ws'.length with h8 | h8
    ·exact .inr h8
    ·left; rw[zn]<;>omega
   have hlen:ws'.length<=24:=by
    -- numbers below 24 that rise
    have key:∀(ys:List Int) (m:Int),Rise ys->(∀ y∈ys,m<=y∧y<24)->(ys.length:Int)<=24 - m∨ys=[]:=by
     intro ys
     induction ys with
     | nil=>intro m _ _; exact .inr rfl
     | cons y ys ih =>
      intro m hr hy;have hr:=cz.1 hr;have hy0:=hy y (aj ..);rcases ih (y+1) hr.2 (fun z hz=>⟨by have:=hr.1 z hz; omega,(hy z (ai _ hz)).2⟩) with h8 | h8
      ·left; rw[ak]; omega
      ·subst h8; left; simp; omega
    rcases key ws' 0 h2' fun y hy=>jV h' ((h3' y).1 hy) with h8 | h8
    ·omega
    ·rw[h8]; simp
   have e1:ag .i64 (((aa ws':Nat):Int) - 1)=((ws'.length - 1:Nat):Int):=by rw[zn]<;>omega
   rw[decide_eq_true (show ((aa ws':Nat):Int)>0 by omega),cond_true,e1,zO (by omega),af,h4,af]
   have e2:ag .i64 (x+(b:Int))=x+(b:Int):=by rw[zn]<;>omega
   simp only[e2];by_cases hf:x+(b:Int)>23
   ·rw[decide_eq_true hf,cond_true];exact .inl ⟨rfl,x,hvx,by omega⟩
   ·rw[decide_eq_false hf,cond_false,hsh b hb];refine .inr ⟨rfl,fun y hy => ?_⟩;have:=h6 y hy;omega
 unfold vj;rw[h1,af];simp only;rcases ES h2 h3 with ⟨rfl,h4⟩ | ⟨x,h4,h5,h6⟩
 ·rw[show decide (((aa ([]:List Int):Nat):Int)>0)=false from rfl,cond_false]
  obtain⟨o,h8,h9⟩:=second 0 (by omega)
  rw[show ((0:Nat):Int)=0 from rfl] at h8 h9
  refine ⟨0,by omega,h4,?_⟩
  have h8':=h8;rw[show ((0:Nat):Int)=0 from rfl]
  refine h9.imp (fun h=>⟨?_,h.2⟩) fun h=>⟨?_,h.2⟩
  ·exact h8.trans h.1
  ·exact h8.trans h.1
 ·have hvx:jH (yd L T C) x:=(h3 x).1 (aP h4);have hx:=jV h hvx;have hlen:ws.length<=24:=by
   have key:∀(ys:List Int) (m:Int),Rise ys->(∀ y∈ys,m<=y∧y<24)->(ys.length:Int)<=24 - m∨ys=[]:=by
    intro ys
    induction ys with
    | nil=>intro m _ _; exact .inr rfl
    | cons y ys ih =>
     intro m hr hy;have hr:=cz.1 hr;have hy0:=hy y (aj ..);rcases ih (y+1) hr.2 (fun z hz=>⟨by have:=hr.1 z hz; omega,(hy z (ai _ hz)).2⟩) with h8 | h8
     ·left; rw[ak]; omega
     ·subst h8; left; simp; omega
   rcases key ws 0 h2 fun y hy=>jV h ((h3 y).1 hy) with h8 | h8
   ·omega
   ·rw[h8]; simp
  have e1:ag .i64 (((aa ws:Nat):Int) - 1)=((ws.length - 1:Nat):Int):=by rw[zn]<;>omega
  rw[decide_eq_true (show ((aa ws:Nat):Int)>0 by omega),cond_true,e1,zO (by omega),af,h4,af]
  have e2:ag .i64 (x+1)=(((x+1).toNat:Nat):Int):=by rw[zn]<;>omega
  rw[e2];obtain⟨o,h8,h9⟩:=second (x+1).toNat (by omega)
  refine ⟨(x+1).toNat,by omega,by rw[cI (show (0:Int)<=x+1 by omega)]; exact h6,?_⟩
  refine h9.imp (fun h=>⟨?_,h.2⟩) fun h=>⟨?_,h.2⟩
  ·exact h8.trans h.1
  ·exact h8.trans h.1
abbrev Vp:=List zc×List jI×Bool×Int×List zc
def wY (k:Int):Option Vp:=some ([],[],false,k,[])
theorem Rk {α β:Type} (f:α->β) {xs:List α} {i:Int} {x:α} (h:gx xs i=some x):gx (xs.map f) i=some (f x):=by
 unfold gx at h ⊢;cases hd:decide (0<=i) with
 | false=>rw[hd] at h; cases h
 | true =>
  rw[hd,cond_true] at h;rw[cond_true,br,h];rfl
theorem kx {α:Type} {xs:List α} {i:Int} {x:α} (h:gx xs i=some x):x∈xs:=by
 unfold gx at h;cases hd:decide (0<=i) with
 | false=>rw[hd] at h; cases h
 | true =>
  rw[hd,cond_true] at h;exact aP h
def Cds (r:List Int):Prop:=r.length<=1000∧∀ c∈r,-24<=c∧c<=1000000
theorem Cds.near {r:List Int} (h:Cds r):uW r:=⟨h.1,fun c hc=>by have:=h.2 c hc; omega⟩
theorem j8 {a0:List zh} (hs:SignOk a0) {L:List zc} {T:List jI} {C:List zc} (h:wm a0 L T C=true):∀ r∈yd L T C,Cds r:=by
 intro r hr;have h1:=VE h r hr;obtain⟨-,-,-,-,h4,h5,h6,-⟩:=zK h;have h2:uW r:=by
  unfold yd at hr;rcases aI.1 hr with hr | hr
  ·rcases aI.1 hr with hr | hr
   ·obtain⟨l,hl,rfl⟩:=aX.1 hr; exact ry hs h4 l hl
   ·obtain⟨l,hl,rfl⟩:=aX.1 hr; exact ry hs h6 l hl
  ·exact Wb hs h5 r hr
 exact ⟨h2.1,fun c hc=>⟨h1.2 c hc,(h2.2 c hc).2⟩⟩
theorem PK {b:Nat} {r:List Int} (h:Cds r) (hb:∀ x,Eu r x->x+(b:Int)<=23):Cds (r.map (upC (b:Int))):=by
 refine ⟨by rw[aL]; exact h.1,fun c hc => ?_⟩
 obtain⟨d,hd,rfl⟩:=aX.1 hc;have h1:=h.2 d hd;unfold upC;by_cases h0:d<0
 ·have:=hb (-1 - d) ⟨d,hd,h0,rfl⟩;rw[decide_eq_true h0,cond_true]; omega
 ·rw[decide_eq_false h0,cond_false]; omega
theorem Lb {a0:List zh} {b:Nat} {ts:List Tm} (h:okR a0 24 ts) (hb:∀ k:Nat,jE k ts->k+b<24):okR a0 24 (ts.map (Tm.up b)):=by
 have e:ts.map (Tm.up b)=wl (fun n=>Tm.v (n+b)) ts:=by rw[YE]; rfl
 rw[e];exact Gb ts h fun x hx=>hb x hx
theorem B7 (b:Nat) (c:Nat) (ts:List Tm):((c:Int)::za ts).map (upC (b:Int))=(c:Int)::za (ts.map (Tm.up b)):=by
 rw[aN,JH];unfold upC;rw[decide_eq_false (show ¬((c:Int)<0) by omega)]
 rfl
theorem yH {L:List zc} {T:List jI} {C:List zc} {l:zc} (h:l∈L):l.2∈yd L T C:=by
 unfold yd;exact bM _ (bM _ (bl h))
theorem qS {L:List zc} {T:List jI} {C:List zc} {l:zc} (h:l∈C):l.2∈yd L T C:=by
 unfold yd;exact bM _ (bW _ (bl h))
theorem qX {L:List zc} {T:List jI} {C:List zc} {r:List Int} (h:r∈T):r∈yd L T C:=by
 unfold yd;exact bW _ h
theorem Ae {σ:Sb} (hsh:qO σ (aJ 24)=true) {L:List zc} {T:List jI} {C:List zc} (hL:∀ l∈L,Cds l.2) (hT:∀ r∈T,Cds r) (hC:∀ l∈C,Cds l.2) (h1:L.length<=1000) (h2:T.length<=1000) (h3:C.length<=1000) :
  t6 (un σ) L T C=some (vL σ L,T.map (uX σ),vL σ C):=by
 rw[GQ (Y4 hsh) (fun l hl=>(hL l hl).near) (fun r hr=>(hT r hr).near) (fun l hl=>(hC l hl).near) h1 h2 h3,
  WZ fun l hl c hc=>((hL l hl).2 c hc).1,WZ fun l hl c hc=>((hC l hl).2 c hc).1,B0 fun r hr c hc=>((hT r hr).2 c hc).1]
def zbo (i j:Int) (b:Nat) (L L':List zc):List zc:=zv i L 0++zv j (rJ (b:Int) L') 0
def J4 (b:Nat) (T T':List jI):List jI:=T++T'.map (c5 (upC (b:Int)))
def JV (b:Nat) (C C':List zc):List zc:=C++rJ (b:Int) C'
def ZJ (a0:List zh) (σ:Sb) (L:List zc) (T:List jI) (C:List zc) (k:Int):Option Vp :=
 cond (wm a0 (vL σ L) (T.map (uX σ)) (vL σ C)) (some ((uV (vL σ L) (T.map (uX σ)) (vL σ C)).1,(uV (vL σ L) (T.map (uX σ)) (vL σ C)).2.1,true,0,(uV (vL σ L) (T.map (uX σ)) (vL σ C)).2.2)) (wY k)
theorem WJ {a0:List zh} (hs:SignOk a0) {L:List zc} {T:List jI} {C:List zc} {L':List zc} {T':List jI} {C':List zc} (h:wm a0 L T C=true) (h':wm a0 L' T' C'=true) {i j:Int} {n n':Bool} {A A':List Int}
  (hi:gx L i=some (n,A)) (hj:gx L' j=some (n',A')) :
  ((n=n'∨gx A 0≠gx A' 0)∧w8 a0 L T C i L' T' C' j=wY 0) ∨
  (n≠n'∧∃(b c:Nat) (ts us:List Tm),b<=24∧TopV (yd L T C) (b:Int)∧A=(c:Int)::za ts∧A'=(c:Int)::za us∧okR a0 24 ts∧okR a0 24 us∧ts.length=us.length ∧
   ((w8 a0 L T C i L' T' C' j=wY 1301∧∃ x,jH (yd L' T' C') x∧23<x+(b:Int)) ∨
    ((∀ x,jH (yd L' T' C') x->x+(b:Int)<=23) ∧
    ((w8 a0 L T C i L' T' C' j=wY 0∧∀ θ,¬ Sol θ (ts.zip (us.map (Tm.up b)))) ∨
     ∃ σ,Mgu σ (ts.zip (us.map (Tm.up b)))∧(∀ x,x<24->(σ x).ok a0 24) ∧
      ((qO σ (aJ 24)=false∧w8 a0 L T C i L' T' C' j=wY 1302) ∨
      (qO σ (aJ 24)=true∧w8 a0 L T C i L' T' C' j=ZJ a0 σ (zbo i j b L L') (J4 b T T') (JV b C C') 1302)))))):=by
 obtain⟨hsb,l1,l2,l3,l4,l5,l6,-⟩:=zK h;obtain⟨-,l1',l2',l3',l4',l5',l6',-⟩:=zK h';have hA:=aH.1 l4 (n,A) (kx hi);have hA':=aH.1 l4' (n',A') (kx hj);obtain⟨c,ts,e,rfl,ho,he,-,hlen,hl48,-⟩:=vM hA;obtain⟨c',us,e',rfl,ho',he',-,hlen',hl48',-⟩:=vM hA';unfold w8;rw[hi,af,hj,af];simp only[af];by_cases hn:n=n'
 ·subst hn;rw[show (n==n)=true from by simp,cond_true]
  exact .inl ⟨.inl rfl,rfl⟩
 ·rw[show (n==n')=false from by simp [hn],cond_false]
  simp only[yh,aB,af];by_cases hc:c=c'
  ·subst hc;rw[show ((c:Int) != (c:Int))=false from by simp,cond_false]
   have hll:ts.length=us.length:=by
    rw[he] at he'; injection he' with he'; subst he';omega
   refine .inr ⟨hn,?_⟩;obtain⟨b,hb,htop,hap⟩:=apart_spec hs h h';refine ⟨b,c,ts,us,hb,htop,rfl,rfl,ho,ho',hll,?_⟩;rcases hap with ⟨hap,hfar⟩ | ⟨hap,hnear⟩
   ·rw[hap];exact .inl ⟨rfl,hfar⟩
   ·rw[hap];simp only[af,az,cond_false];refine .inr ⟨hnear,?_⟩;have hj2:gx (rJ (b:Int) L') j=some (n',((c:Int)::za us).map (upC (b:Int))):=Rk _ hj;rw[hj2];simp only[wE,af];rw[B7,wE];simp only[af];have hvar:∀ k:Nat,jE k us->k+b<24:=fun k hk=>by
     have:=hnear (k:Int) ⟨_,yH (kx hj),by
      obtain⟨c0,h1,h2,h3⟩:=ru.2 ⟨k,rfl,hk⟩;exact ⟨c0,ai _ h1,h2,h3⟩⟩
     omega
    have hlu:(za (us.map (Tm.up b))).length<=48:=by rw[← JH,aL]; exact hl48'
    rcases Y5 hs (xs:=za ts) (ys:=za (us.map (Tm.up b))) rfl rfl ho (Lb ho' hvar) hsb hl48 hlu with ⟨hu,hno⟩ | ⟨-,σ,hm,hok,hu⟩
    ·rw[hu];refine .inl ⟨rfl,?_⟩;rcases hno with hno | hno
     ·rw[aL] at hno; exact absurd hll hno
     ·exact hno
    ·rw[hu];refine .inr ⟨σ,hm,hok,?_⟩;cases hsh:qO σ (aJ 24) with
     | false=>exact .inl ⟨rfl,rfl⟩
     | true =>
      refine .inr ⟨rfl,?_⟩;simp only[cond_true,af,show ((0:Int) != 0)=false from rfl,cond_false,az]
      have hul:(rJ (b:Int) L').length=L'.length:=by simp [rJ]
      have hucl:(rJ (b:Int) C').length=C'.length:=by simp [rJ]
      rw[vY i j (by omega) (by omega) (by omega) (by omega) (by simp; omega) (by omega),af]
      simp only;have hcd:=j8 hs h;have hcd':=j8 hs h';have hwl:=tQ i L 0;have hwl':=tQ j (rJ (b:Int) L') 0;have hup:∀ r∈yd L' T' C',Cds (r.map (upC (b:Int))):=fun r hr=>PK (hcd' r hr) fun x hx=>hnear x ⟨r,hr,hx⟩;have hupl:∀ ls:List zc,(∀ l∈ls,l.2∈yd L' T' C')->∀ l∈rJ (b:Int) ls,Cds l.2:=fun ls hls l hl=>by
       obtain⟨l0,h0,rfl⟩:=aX.1 hl;exact hup _ (hls l0 h0)
      rw[Ae hsh (fun l hl => ?_) (fun r hr => ?_) (fun l hl => ?_) (by rw[al]; omega) (by rw[al,aL]; omega) (by rw[al]; omega),af,xk,af]
      ·unfold ZJ zbo J4 JV;cases hmy:wm a0 (vL σ (zv i L 0++zv j (rJ (b:Int) L') 0)) ((T++T'.map (c5 (upC (b:Int)))).map (uX σ)) (vL σ (C++rJ (b:Int) C')) with
       | true=>rfl
       | false=>rfl
      ·rcases aI.1 hl with hl | hl
       ·exact hcd _ (yH (vZ L 0 hl))
       ·exact hupl L' (fun l hl=>yH hl) l (vZ _ 0 hl)
      ·rcases aI.1 hr with hr | hr
       ·exact hcd _ (qX hr)
       ·obtain⟨r0,h0,rfl⟩:=aX.1 hr;exact hup _ (qX h0)
      ·rcases aI.1 hl with hl | hl
       ·exact hcd _ (qS hl)
       ·exact hupl C' (fun l hl=>qS hl) l hl
  ·rw[show ((c:Int) != (c':Int))=true from by simp; omega,cond_true]
   refine .inl ⟨.inr ?_,rfl⟩;intro hcc;injection hcc with hcc;omega
theorem uj {a0:List zh}:∀(n:Nat) (ts us:List Tm),xi ts<=n->okR a0 24 ts->okR a0 24 us->za ts=za us->ts=us:=by
 intro n
 induction n with
 | zero =>
  intro ts us hn _ _ he;cases ts with
  | cons t ts=>have:=t.size_pos; simp only[xi] at hn; omega
  | nil =>
   cases us with
   | nil=>rfl
   | cons u us =>
    have:=congrArg aa he;rw[uP,uP] at this;have:=u.size_pos;simp only[xi] at *; omega
 | succ n ih =>
  intro ts us hn ho ho' he;cases ts with
  | nil =>
   cases us with
   | nil=>rfl
   | cons u us =>
    have:=congrArg aa he;rw[uP,uP] at this;have:=u.size_pos;simp only[xi] at *; omega
  | cons t ts =>
   cases us with
   | nil =>
    have:=congrArg aa he;rw[uP,uP] at this;have:=t.size_pos;simp only[xi] at *; omega
   | cons u us =>
    have he:t.codes++za ts=u.codes++za us:=he;cases t with
    | v k =>
     cases u with
     | v k' =>
      have he:(-1 - (k:Int))::za ts=(-1 - (k':Int))::za us:=he;injection he with h1 h2;have:k=k':=by omega
      rw[this,ih ts us (by simp only[xi,Tm.size] at hn; omega) ho.2 ho'.2 h2]
     | f c as =>
      have he:(-1 - (k:Int))::za ts=(c:Int)::(za as++za us):=he;injection he with h1 h2;omega
    | f c as =>
     cases u with
     | v k' =>
      have he:(c:Int)::(za as++za ts)=(-1 - (k':Int))::za us:=he;injection he with h1 h2;omega
     | f c' bs =>
      have he:(c:Int)::(za as++za ts)=(c':Int)::(za bs++za us):=he;injection he with h1 h2;have hc:c=c':=by omega
      subst hc;rw[← v8,← v8] at h2;have ha:=ho.1.1;have hb:=ho'.1.1;rw[ha] at hb;injection hb with hb;have:=ih (as++ts) (bs++us) (by rw[VH]; simp only[xi,Tm.size] at hn; omega)
       (wU.2 fun t ht=>(aI.1 ht).elim (wU.1 ho.1.2 t) (wU.1 ho.2 t))
       (wU.2 fun t ht=>(aI.1 ht).elim (wU.1 ho'.1.2 t) (wU.1 ho'.2 t)) h2
      obtain⟨h3,h4⟩:=List.append_inj this hb;rw[h3,h4]
theorem ZN (L:List zc) (T:List jI) (C:List zc) (i:Int):u6 L T C i=some (yk L i):=by
 unfold u6 yk;by_cases h:i≥0
 ·rw[decide_eq_true h,cond_true,Bool.true_and]
 ·rw[decide_eq_false h,cond_false,Bool.false_and]
theorem KI (a0:List zh) (L:List zc) (T:List jI) (C:List zc) (i:Int) (L':List zc) (T':List jI) (C':List zc) (j:Int) :
  kc a0 L T C i L' T' C' j=cond (wm a0 L T C&&wm a0 L' T' C'&&yk L i&&yk L' j) (w8 a0 L T C i L' T' C' j) (wY 1300):=by
 unfold kc;rw[yB,af,yB,af,ZN,af,ZN,af];have eta:∀ o:Option Vp,(o.bind fun r=>some (r.1,r.2.1,r.2.2.1,r.2.2.2.1,r.2.2.2.2))=o:=fun o=>by cases o<;>rfl
 cases wm a0 L T C with
 | false=>rfl
 | true =>
  cases wm a0 L' T' C' with
  | false=>rfl
  | true =>
   cases yk L i with
   | false=>rfl
   | true =>
    cases yk L' j with
    | false=>rfl
    | true=>exact eta _
theorem Ce (a0:List zh) (n:Bool) (A:List Int):Yp a0 n A=some (ua a0 A):=by
 unfold Yp;rw[kY];rfl
theorem Gd {α:Type} [DecidableEq α]:(a b:List α)->a.Nodup->(∀ x∈a,x∈b)->a.length<=b.length
 | [],_,_,_=>bK _
 | x::a,b,hn,hs=>by
  have hn:=List.nodup_cons.1 hn;have hx:=hs x (aj ..);have h1:∀ y∈a,y∈b.erase x:=fun y hy=>by
   have hne:y≠x:=fun e=>hn.1 (e▸hy);exact (List.mem_erase_of_ne hne).2 (hs y (ai _ hy))
  have h2:=Gd a (b.erase x) hn.2 h1;rw[List.length_erase_of_mem hx] at h2;have:=List.length_pos_of_mem hx;simp only[ak];omega
theorem uw {L:List zc} {i:Int} (h:yk L i=true):∃ l,gx L i=some l:=by
 unfold yk at h;simp only[ay,decide_eq_true_eq] at h;obtain⟨l,h1,-⟩:=Kx (xs:=L) h.1 h.2;exact ⟨l,h1⟩
def jg (rec:(jI×Int×Int)->Option (Unit⊕Bool)) (x:(jI×Int×Int)):Option (Unit⊕Bool) :=
 cond (decide (x.2.2<((aa x.1:Nat):Int)))
 ((gx x.1 x.2.2).bind fun e2 =>
  cond (e2==(ag .i64 ((-1) - x.2.1)))
  (some (aF true))
  (rec (x.1,x.2.1,(ag .i64 (x.2.2+1)))))
 (some (aW ()))
def By (a0:jI) (a1:Int):Option Bool :=
 ((lp jg zd) (a0,a1,0)).bind fun r6 =>
 yl r6
 (fun _z7=>some false)
 (fun z8=>some z8)
def vx (rec:(jI×Int×jI)->Option jI) (x:(jI×Int×jI)):Option jI :=
 cond (decide (x.2.1<=23))
 ((By x.1 x.2.1).bind fun r3 =>
  cond r3
  (cond (yb (aa x.2.2+aa ([x.2.1]:List Int)) 8)
   (rec (x.1,(ag .i64 (x.2.1+1)),(x.2.2++([x.2.1]:List Int))))
   (none))
  (rec (x.1,(ag .i64 (x.2.1+1)),x.2.2)))
 (some x.2.2)
def Ke (a0:jI):Option jI :=
 ((lp vx zd) (a0,0,([]:jI))).bind fun r5 =>
 some r5
def ux (rec:(jR×Int×jI)->Option jI) (x:(jR×Int×jI)):Option jI :=
 cond (decide (x.2.1<((aa x.1:Nat):Int)))
 ((gx x.1 x.2.1).bind fun e4 =>
  cond (yb (aa x.2.2+aa e4) 8)
  (rec (x.1,(ag .i64 (x.2.1+1)),(x.2.2++e4)))
  (none))
 (some x.2.2)
def rM (a0:jQ) (a1:jR) (a2:jQ):Option jI :=
 (Ys a0 a1 a2).bind fun r7 =>
 ((lp ux zd) (r7,0,([]:jI))).bind fun r8 =>
 (Ke r8).bind fun r9 =>
 some r9
def Xe (rec:(jI×Int×Int×Int×jI)->Option Int) (x:(jI×Int×Int×Int×jI)):Option Int :=
 cond (decide (x.2.2.1<((aa x.1:Nat):Int)))
 ((gx x.1 x.2.2.1).bind fun e2 =>
  rec (x.1,(ag .u64 ((ag .u64 ((ag .u64 (x.2.1*5))+(ag .u64 e2)))+3)),(ag .i64 (x.2.2.1+1)),x.2.2.2.1,x.2.2.2.2))
 (some x.2.1)
def Kh (a0:Int) (a1:jI) (a2:Int) (a3:jI):Option Int :=
 cond (((aa a1:Nat):Int)==0)
 (some 0)
 (((lp Xe zd) (a3,(ag .u64 (ag .i64 ((ag .i64 (a2*7))+1))),0,a0,a1)).bind fun r6 =>
  cond (decide ((ag .u64 ((aa a1:Nat):Int))=0))
  (none)
  ((gx a1 (ag .i64 (ez r6 (ag .u64 ((aa a1:Nat):Int))))).bind fun e7 =>
   (zdF .and .i64 e7 255).bind fun b8 =>
   some b8))
def vg (s1:Int):List Int->Option (Unit⊕Bool)
 | []=>some (aW ())
 | e::es =>
  cond (e==(ag .i64 ((-1) - s1)))
  (some (aF true))
  (vg s1 es)
theorem XU (s0:jI) (s1:Int) (hl:aa s0<=maxLen):lp jg zd (s0,s1,0)=vg s1 s0:=sV jg (fun i=>(s0,s1,i)) (fun es i=>vg s1 es) hl (fun r i h=>by unfold jg vg; simp only[h,cond_false]) (fun r i e es h g w k=>by unfold jg vg; simp only[h,cond_true,g,af,w,k])
def qc:List jI->jI->Option jI
 | [],s2=>some s2
 | e::es,s2 =>
  cond (yb (aa s2+aa e) 8)
  (qc es (s2++e))
  (none)
theorem Yz (s0:jR) (s2:jI) (hl:aa s0<=maxLen):lp ux zd (s0,0,s2)=qc s0 s2:=xB ux (fun i s2=>(s0,i,s2)) (fun es i s2=>qc es s2) hl (fun r i s2 h=>by unfold ux qc; simp only[h,cond_false]) (fun r i s2 e es h g w k=>by unfold ux qc; simp only[h,cond_true,g,af,w,k]) s2
def I5 (nums:List Int):Prop:=nums≠[]∧nums.length<=9223372036854775807
theorem Ky (n:Int):0<=ag .u64 n∧ag .u64 n<18446744073709551616:=by
 simp [ag,eN,dr];omega
def NR (m:Int) (nums:List Int) (c:Int) (xs:List Int):Int:=(Kh m nums c xs).getD 0
section
variable (m:Int) (nums:List Int)
mutual
def Gu (env:Nat->Int):Tm->Int
 | .v n=>env n
 | .f c ts=>ez (NR m nums (c:Int) (De env ts)) m
def De (env:Nat->Int):List Tm->List Int
 | []=>[]
 | t::ts=>Gu env t::De env ts
end
mutual
theorem Nq (env:Nat->Int) (s:Sb):(t:Tm)->Gu m nums env (t.sub s)=Gu m nums (fun n=>Gu m nums env (s n)) t
 | .v n=>rfl
 | .f c ts=>by
  show ez (NR m nums (c:Int) (De m nums env (wl s ts))) m=_;rw[BS env s ts];rfl
theorem BS (env:Nat->Int) (s:Sb):(ts:List Tm)->De m nums env (wl s ts)=De m nums (fun n=>Gu m nums env (s n)) ts
 | []=>rfl
 | t::ts=>by
  show Gu m nums env (t.sub s)::De m nums env (wl s ts)=_;rw[Nq env s t,BS env s ts];rfl
end
mutual
theorem NE {e e':Nat->Int}:(t:Tm)->(∀ x,t.has x->e x=e' x)->Gu m nums e t=Gu m nums e' t
 | .v n,h=>h n rfl
 | .f c ts,h=>by
  show ez (NR m nums (c:Int) (De m nums e ts)) m=ez (NR m nums (c:Int) (De m nums e' ts)) m;rw[Ad ts h]
theorem Ad {e e':Nat->Int}:(ts:List Tm)->(∀ x,jE x ts->e x=e' x)->De m nums e ts=De m nums e' ts
 | [],_=>rfl
 | t::ts,h=>by
  show Gu m nums e t::De m nums e ts=Gu m nums e' t::De m nums e' ts;rw[NE t fun x hx=>h x (.inl hx),Ad ts fun x hx=>h x (.inr hx)]
end
end
structure EnvOk (m:Int) (E:List Int):Prop where
 len:E.length=24
 rng:∀ x∈E,0<=x∧x<m
def zb5 (E:List Int) (n:Nat):Int:=E.getD n 0
theorem EnvOk.get {m:Int} {E:List Int} (h:EnvOk m E) {n:Nat} (hn:n<24):E[n]? = some (zb5 E n):=by
 unfold zb5;rw[aG,am (by rw[h.len]; exact hn)]
 rfl
theorem EnvOk.val {m:Int} {E:List Int} (h:EnvOk m E) {n:Nat} (hn:n<24):0<=zb5 E n∧zb5 E n<m:=h.rng _ (aP (h.get hn))
theorem Az {a0:List zh} (hs:SignOk a0) {c q:Nat} (h:v7 a0 (c:Int)=some q):∃ e,gx a0 (c:Int)=some e∧e.2.2.1=(q:Int):=by
 unfold v7 at h;rw[decide_eq_false (show ¬(c:Int)<0 by omega),cond_false,bh] at h
 cases he:a0[c]? with
 | none=>rw[he] at h; cases h
 | some e =>
  rw[he] at h;simp only at h;refine ⟨e,by rw[yE,he],?_⟩
  have:=hs.at he;cases hk:(e.2.1==0) with
  | true=>rw[hk] at h; cases h
  | false=>rw[hk] at h; injection h with h; omega
abbrev KC:=Bool×Nat×List Tm
def cl (l:KC):zc:=(l.1,(l.2.1:Int)::za l.2.2)
def WfL (a0:List zh) (l:KC):Prop:=okR a0 24 l.2.2∧(∃ e,a0[l.2.1]? = some e∧e.2.1=0∧((l.2.2.length:Nat):Int)=e.2.2.1)∧(za l.2.2).length<=48
def WfR (a0:List zh) (ts:List Tm):Prop:=okR a0 24 ts∧(za ts).length<=48
theorem VB {a0:List zh}:(ls:List zc)->tO a0 ls=true->∃ lt:List KC,ls=lt.map cl∧∀ l∈lt,WfL a0 l
 | [],_=>⟨[],rfl,fun _ h=>(nomatch h)⟩
 | l::ls,h=>by
  unfold tO at h;rw[List.all_cons,ay] at h;obtain⟨lt,h1,h2⟩:=VB ls h.2;obtain⟨c,ts,e,h3,h4,h5,h6,h7,h8,-⟩:=vM h.1;refine ⟨(l.1,c,ts)::lt,by rw[aN,← h1]; show l::ls=(l.1,(c:Int)::za ts)::ls; rw[← h3],fun x hx => ?_⟩
  rcases aC.1 hx with rfl | hx
  ·exact ⟨h4,⟨e,h5,h6,h7⟩,h8⟩
  ·exact h2 x hx
theorem MK {a0:List zh} {rs:List jI} (h:j4 a0 rs=true):∃ rt:List (List Tm),rs=rt.map za∧∀ r∈rt,WfR a0 r:=by
 obtain⟨n,hn⟩:=Q8 h;clear h
 induction rs with
 | nil=>exact ⟨[],rfl,fun _ h=>(nomatch h)⟩
 | cons r rs ih =>
  obtain⟨rt,h1,h2⟩:=ih fun q hq=>hn q (ai _ hq);obtain⟨ps,hc,-,hl,-⟩:=Kj (hn r (aj ..));obtain⟨ts,h3,-,h4⟩:=Ru hc;refine ⟨ts::rt,by rw[aN,← h1,← h4],fun x hx => ?_⟩
  rcases aC.1 hx with rfl | hx
  ·exact ⟨h3,by rw[← h4]; exact hl⟩
  ·exact h2 x hx
theorem NZ {a0:List zh} {L:List zc} {T:List jI} {C:List zc} (h:wm a0 L T C=true):∃(Lt:List KC) (Tt:List (List Tm)) (Ct:List KC),L=Lt.map cl∧T=Tt.map za∧C=Ct.map cl∧(∀ l∈Lt,WfL a0 l)∧(∀ r∈Tt,WfR a0 r)∧∀ l∈Ct,WfL a0 l:=by
 obtain⟨-,-,-,-,h4,h5,h6,-⟩:=zK h;obtain⟨Lt,a1,a2⟩:=VB L h4;obtain⟨Tt,b1,b2⟩:=MK h5;obtain⟨Ct,c1,c2⟩:=VB C h6;exact ⟨Lt,Tt,Ct,a1,b1,c1,a2,b2,c2⟩
section
variable {m:Int} (hm:0<m) {nums:List Int} (hn:I5 nums) {a0:List zh} (hs:SignOk a0) {E:List Int} (hE:EnvOk m E)
include hm hn hs hE
end
theorem EnvOk.set {m:Int} {E:List Int} (h:EnvOk m E) {v:Nat} {x:Int} (hx:0<=x∧x<m):EnvOk m (E.set v x) where
 len:=by rw[bX]; exact h.len
 rng:=fun y hy=>by
  rcases List.mem_or_eq_of_mem_set hy with hy | hy
  ·exact h.rng y hy
  ·rw[hy]; exact hx
theorem U5 (v:Nat) (hv:v<24):(es:List Int)->vg (v:Int) es=some (cond (decide (-1 - (v:Int)∈es)) (.inr true) (.inl ()))
 | []=>rfl
 | e::es=>by
  unfold vg;have w:ag .i64 ((-1) - (v:Int)) = -1 - (v:Int):=by rw[zn]<;>omega
  rw[w,U5 v hv es];by_cases he:e = -1 - (v:Int)
  ·rw[show (e == -1 - (v:Int))=true from by simp [he],decide_eq_true (show -1 - (v:Int)∈e::es by rw[he]; exact aj ..)]
   rfl
  ·rw[show (e == -1 - (v:Int))=false from by simp [he],cond_false]
   by_cases hm:(-1 - (v:Int))∈es
   ·rw[decide_eq_true hm,decide_eq_true (ai _ hm)]
   ·rw[decide_eq_false hm,decide_eq_false fun h=>(aC.1 h).elim (fun h=>he h.symm) hm]
theorem Cj {v:Nat} (hv:v<24) {r:List Int} (hl:r.length<=1000000):By r (v:Int)=some (decide (-1 - (v:Int)∈r)):=by
 unfold By;rw[XU _ _ (by unfold maxLen; omega),U5 v hv,af]
 cases decide (-1 - (v:Int)∈r)<;>rfl
def TO (r:List Int) (v:Nat):Bool:=decide (-1 - (v:Int)∈r)
theorem IY {r:List Int} (hl:r.length<=1000000):∀(d v k:Nat) (out:List Int),24 - v=d->v<=24->d<k->out.length<=v ->
  lp vx k (r,(v:Int),out)=some (out++(((aJ 24).drop v).filter (TO r)).map fun v:Nat=>(v:Int)):=by
 intro d
 induction d with
 | zero =>
  intro v k out hd hv hk ho;obtain⟨k,rfl⟩:∃ k',k=k'+1:=⟨k - 1,by omega⟩
  rw[zx];generalize lp vx k=rec;unfold vx;have:v=24:=by omega
  subst this;rw[show (aJ 24).drop 24=[] from rfl]
  simp
 | succ d ih =>
  intro v k out hd hv hk ho;obtain⟨k,rfl⟩:∃ k',k=k'+1:=⟨k - 1,by omega⟩
  rw[zx];have key:=fun out ho=>ih (v+1) k out (by omega) (by omega) (by omega) ho
  generalize lp vx k=rec at key ⊢;unfold vx;have w:ag .i64 ((v:Int)+1)=((v+1:Nat):Int):=by rw[zn]<;>omega
  have hdr:(aJ 24).drop v=v::(aJ 24).drop (v+1):=by
   rw[aY (by simp; omega)]
   simp
  simp only[decide_eq_true (show (v:Int)<=23 by omega),cond_true,Cj (show v<24 by omega) hl,af,w]
  rw[hdr];by_cases hm:(-1 - (v:Int))∈r
  ·rw[decide_eq_true hm,cond_true,zm (by simp; omega),cond_true,key _ (by simp; omega)]
   have:TO r v=true:=decide_eq_true hm;rw[dc this];simp
  ·rw[decide_eq_false hm,cond_false,key _ (by omega)]
   have:¬(TO r v=true):=by unfold TO; rw[decide_eq_false hm]; simp
   rw[cP this]
theorem Mj:(es:List jI)->(out:List Int)->out.length+zi es<=1000000->qc es out=some (out++es.flatten)
 | [],out,_=>by simp [qc]
 | e::es,out,h=>by
  rw[ke] at h;unfold qc;rw[zm (by omega),cond_true,Mj es _ (by rw[al]; omega)]
  simp
def Y6 (L:List zc) (T:List jI) (C:List zc):List Nat:=(aJ 24).filter (TO (L.map (·.2)++T++C.map (·.2)).flatten)
theorem Vm (L:List zc) (T:List jI) (C:List zc):(Y6 L T C).Nodup:=List.nodup_range.sublist List.filter_sublist
theorem QW {L:List zc} {T:List jI} {C:List zc}:∀ v∈Y6 L T C,v<24:=fun _v hv=>ck.1 (d5.1 hv).1
theorem Xo {L:List zc} {T:List jI} {C:List zc} {v:Nat} (hv:v<24):v∈Y6 L T C↔jH (yd L T C) (v:Int):=by
 unfold Y6 TO;rw[d5];simp only[ck,hv,true_and,decide_eq_true_eq,List.mem_flatten];constructor
 ·rintro⟨r,hr,hc⟩;refine ⟨r,?_,_,hc,by omega,by omega⟩
  unfold yd;simp only[aI] at hr ⊢;rcases hr with (hr | hr) | hr
  ·exact .inl (.inl hr)
  ·exact .inr hr
  ·exact .inl (.inr hr)
 ·rintro⟨r,hr,c,hc,h0,he⟩;refine ⟨r,?_,by rw[show -1 - (v:Int)=c from by omega]; exact hc⟩
  unfold yd at hr;simp only[aI] at hr ⊢;rcases hr with (hr | hr) | hr
  ·exact .inl (.inl hr)
  ·exact .inr hr
  ·exact .inl (.inr hr)
theorem jd {L:List zc} {T:List jI} {C:List zc} (h1:L.length<=1000) (h2:T.length<=1000) (h3:C.length<=1000) (hl:zi (L.map (·.2))+zi T+zi (C.map (·.2))<=1000000) :
  rM L T C=some ((Y6 L T C).map fun v:Nat=>(v:Int)):=by
 unfold rM;rw[Yi L T C h1 h2 h3,af,Yz _ _ (by simp; unfold maxLen; omega),Mj _ _ (by rw[wk,wk]; simp; omega),af]
 unfold Ke;have hf:((L.map (·.2)++T++C.map (·.2)).flatten).length<=1000000:=by
  rw[← NF,wk,wk]; omega
 have:=IY hf 24 0 zd [] rfl (by omega) (by unfold zd; omega) (by simp)
 rw[show ((0:Nat):Int)=0 from rfl,bP] at this
 simp only[bj] at this ⊢;rw[this];rfl
def OB (L:List KC) (T:List (List Tm)) (C:List KC) (x:Nat):Prop:=(∃ l∈L,jE x l.2.2)∨(∃ r∈T,jE x r)∨∃ l∈C,jE x l.2.2
theorem JI {l:KC} {x:Nat}:Eu (cl l).2 (x:Int)↔jE x l.2.2:=by
 constructor
 ·rintro⟨c,hc,h0,he⟩;rcases aC.1 hc with rfl | hc
  ·omega
  ·obtain⟨k,h1,h2⟩:=ru.1 ⟨c,hc,h0,he⟩;have:x=k:=by omega
   rw[this]; exact h2
 ·intro h;obtain⟨c,hc,h0,he⟩:=ru.2 ⟨x,rfl,h⟩;exact ⟨c,ai _ hc,h0,he⟩
theorem Vt {L:List KC} {T:List (List Tm)} {C:List KC} {x:Nat}:jH (yd (L.map cl) (T.map za) (C.map cl)) (x:Int)↔OB L T C x:=by
 unfold yd OB;rw[uB,uB];constructor
 ·rintro ((⟨r,hr,h⟩ | ⟨r,hr,h⟩) | ⟨r,hr,h⟩)
  ·obtain⟨q,hq,rfl⟩:=aX.1 hr;obtain⟨l,hl,rfl⟩:=aX.1 hq;exact .inl ⟨l,hl,JI.1 h⟩
  ·obtain⟨q,hq,rfl⟩:=aX.1 hr;obtain⟨l,hl,rfl⟩:=aX.1 hq;exact .inr (.inr ⟨l,hl,JI.1 h⟩)
  ·obtain⟨l,hl,rfl⟩:=aX.1 hr;obtain⟨k,h1,h2⟩:=ru.1 h;have:x=k:=by omega
   exact .inr (.inl ⟨l,hl,by rw[this]; exact h2⟩)
 ·rintro (⟨l,hl,h⟩ | ⟨r,hr,h⟩ | ⟨l,hl,h⟩)
  ·exact .inl (.inl ⟨_,bl (bl hl),JI.2 h⟩)
  ·exact .inr ⟨_,bl hr,ru.2 ⟨x,rfl,h⟩⟩
  ·exact .inl (.inr ⟨_,bl (bl hl),JI.2 h⟩)
abbrev Jf:=List Int×Int
def rho (s:Jf) (v:Nat):Nat:=(s.1.getD v 0).toNat - 1
structure RenI (s:Jf):Prop where
 len:s.1.length=24
 rng:∀ v,0<=s.1.getD v 0∧s.1.getD v 0<=s.2
 inj:∀ v w,s.1.getD v 0=s.1.getD w 0->s.1.getD v 0≠0->v=w
 cnt:((s.1.countP (fun x=>x != 0):Nat):Int)=s.2
def ExtS (s s':Jf):Prop:=∀ v,s.1.getD v 0≠0->s'.1.getD v 0=s.1.getD v 0
theorem ExtS.refl (s:Jf):ExtS s s:=fun _ _=>rfl
theorem ExtS.trans {s t u:Jf} (h:ExtS s t) (h':ExtS t u):ExtS s u:=fun v hv=>(h' v (by rw[h v hv]; exact hv)).trans (h v hv)
theorem RenI.next {s:Jf} (h:RenI s):0<=s.2∧s.2<=24:=by
 have h1:=h.cnt;have h2:s.1.countP (fun x=>x != 0)<=s.1.length:=el;rw[h.len] at h2;omega
theorem RenI.rho_lt {s:Jf} (h:RenI s) {v:Nat} (_hv:s.1.getD v 0≠0):rho s v<24:=by
 have h1:=h.rng v;have h2:=h.next;unfold rho;omega
theorem RenI.rho_inj {s:Jf} (h:RenI s) {v w:Nat} (hv:s.1.getD v 0≠0) (hw:s.1.getD w 0≠0) (he:rho s v=rho s w):v=w:=by
 have h1:=h.rng v;have h2:=h.rng w;unfold rho at he;exact h.inj v w (by omega) hv
theorem zcK:RenI (ax 24 (0:Int),0) where
 len:=by simp
 rng:=fun v=>by
  rw[aG,bA];split<;>simp
 inj:=fun v w _ h=>by
  exfalso;apply h;rw[aG,bA];split<;>rfl
 cnt:=by decide
theorem Ci {xs:List Int} {v:Nat} {y:Int} (hv:xs[v]? = some 0) (hy:y≠0):(xs.set v y).countP (fun x=>x != 0)=xs.countP (fun x=>x != 0)+1:=by
 obtain⟨hx,he⟩:=au.1 hv;have h1:=bV v xs;have h2:xs.drop v=0::xs.drop (v+1):=by rw[aY hx,he]
 have h3:xs.set v y=xs.take v++y::xs.drop (v+1):=by rw[ee,if_pos hx]
 conv=>rhs; rw[← h1,h2]
 rw[h3];simp [fU,hy];omega
theorem tT {xs:List Int} {v w:Nat} {y:Int} (hv:v<xs.length):(xs.set v y).getD w 0=if w=v then y else xs.getD w 0:=by
 rw[aG,aG];by_cases h:w=v
 ·subst h; rw[bH hv,if_pos rfl]; rfl
 ·rw[cd (dN h),if_neg h]
theorem I9 {s:Jf} (h:RenI s) {c:Int} (hc : -24<=c):RenI (WR s c).2∧ExtS s (WR s c).2∧(c<0->(WR s c).2.1.getD (-1 - c).toNat 0≠0)∧∀ f,ExtS (WR s c).2 f->[(WR s c).1]=j5 (fun v=>.v (rho f v)) c:=by
 unfold WR;by_cases h0:c≥0
 ·rw[decide_eq_true h0,cond_true];refine ⟨h,ExtS.refl s,fun h1=>by omega,fun f _ => ?_⟩
  unfold j5;rw[if_neg (by omega)]
 ·rw[decide_eq_false h0,cond_false];have hv:(-1 - c).toNat<s.1.length:=by rw[h.len]; omega
  have hexp:∀ f:Jf,j5 (fun v=>.v (rho f v)) c=[-1 - ((rho f (-1 - c).toNat:Nat):Int)]:=fun f=>by
   unfold j5;rw[if_pos (by omega)]
   rfl
  by_cases hz:s.1.getD (-1 - c).toNat 0=0
  ·rw[show (s.1.getD (-1 - c).toNat 0==0)=true from by rw[hz]; rfl,cond_true]
   have hn:=h.next;have hget:s.1[(-1 - c).toNat]? = some 0:=by
    rw[aG,am hv] at hz;rw[am hv];exact congrArg some hz
   refine ⟨⟨by simpa using h.len,fun v => ?_,fun v w he hnz => ?_,?_⟩,fun v hvz => ?_,fun _ => ?_,fun f hf => ?_⟩
   ·show 0<=(s.1.set _ _).getD v 0∧(s.1.set _ _).getD v 0<=s.2+1;rw[tT hv];have:=h.rng v;split<;>omega
   ·have he:(s.1.set (-1 - c).toNat (s.2+1)).getD v 0=(s.1.set (-1 - c).toNat (s.2+1)).getD w 0:=he;have hnz:(s.1.set (-1 - c).toNat (s.2+1)).getD v 0≠0:=hnz;rw[tT hv] at he hnz;rw[tT hv] at he;have h1:=h.rng v;have h2:=h.rng w;by_cases e1:v=(-1 - c).toNat
    ·rw[if_pos e1] at he hnz;by_cases e2:w=(-1 - c).toNat
     ·rw[e1,e2]
     ·rw[if_neg e2] at he; omega
    ·rw[if_neg e1] at he hnz;by_cases e2:w=(-1 - c).toNat
     ·rw[if_pos e2] at he; omega
     ·rw[if_neg e2] at he;exact h.inj v w he hnz
   ·show (((s.1.set (-1 - c).toNat (s.2+1)).countP (fun x=>x != 0):Nat):Int)=s.2+1;rw[Ci hget (by omega),← h.cnt]
    omega
   ·show (s.1.set _ _).getD v 0=_;rw[tT hv];split
    ·rename_i e; rw[e,hz] at hvz; exact absurd rfl hvz
    ·rfl
   ·show (s.1.set _ _).getD _ 0≠0;rw[tT hv,if_pos rfl];omega
   ·rw[hexp];have hf2:=hf (-1 - c).toNat (by
     show (s.1.set _ _).getD _ 0≠0;rw[tT hv,if_pos rfl];omega)
    have hf2:f.1.getD (-1 - c).toNat 0=(s.1.set (-1 - c).toNat (s.2+1)).getD (-1 - c).toNat 0:=hf2;rw[tT hv,if_pos rfl] at hf2;unfold rho;rw[hf2];show [-(s.2+1)]=_
    congr 1
    omega
  ·rw[show (s.1.getD (-1 - c).toNat 0==0)=false from by simpa using hz,cond_false]
   refine ⟨h,ExtS.refl s,fun _=>hz,fun f hf => ?_⟩;rw[hexp];have hf2:f.1.getD (-1 - c).toNat 0=s.1.getD (-1 - c).toNat 0:=hf _ hz;have:=h.rng (-1 - c).toNat;unfold rho;rw[hf2];show [-(s.1.getD (-1 - c).toNat 0)]=_
   congr 1
   omega
theorem Yd:(r:List Int)->{s:Jf}->RenI s->(∀ c∈r,-24<=c)->RenI (sH s r).2∧ExtS s (sH s r).2∧(∀ x,Eu r x->(sH s r).2.1.getD x.toNat 0≠0)∧∀ f,ExtS (sH s r).2 f->(sH s r).1=uX (fun v=>.v (rho f v)) r
 | [],s,h,_=>⟨h,ExtS.refl s,fun x ⟨c,hc,_⟩=>(nomatch hc),fun _ _=>rfl⟩
 | c::r,s,h,hc=>by
  obtain⟨h1,h2,h3,h4⟩:=I9 h (hc c (aj ..));obtain⟨g1,g2,g3,g4⟩:=Yd r h1 fun d hd=>hc d (ai _ hd);refine ⟨g1,h2.trans g2,fun x ⟨d,hd,hd0,hx⟩ => ?_,fun f hf => ?_⟩
  ·rcases aC.1 hd with rfl | hd
   ·subst hx;show (sH (WR s d).2 r).2.1.getD (-1 - d).toNat 0≠0;rw[g2 _ (h3 hd0)];exact h3 hd0
   ·exact g3 x ⟨d,hd,hd0,hx⟩
  ·have hf:ExtS (sH (WR s c).2 r).2 f:=hf;show (WR s c).1::(sH (WR s c).2 r).1=_;unfold uX;rw[bt,← h4 f (g2.trans hf),g4 f hf];rfl
theorem jt:(ls:List zc)->{s:Jf}->RenI s->(∀ l∈ls,∀ c∈l.2,-24<=c)->RenI (wz s ls).2∧ExtS s (wz s ls).2∧(∀ x,jH (ls.map (·.2)) x->(wz s ls).2.1.getD x.toNat 0≠0)∧∀ f,ExtS (wz s ls).2 f->(wz s ls).1=vL (fun v=>.v (rho f v)) ls
 | [],s,h,_=>⟨h,ExtS.refl s,fun x ⟨c,hc,_⟩=>(nomatch hc),fun _ _=>rfl⟩
 | l::ls,s,h,hc=>by
  obtain⟨h1,h2,h3,h4⟩:=Yd l.2 h (hc l (aj ..));obtain⟨g1,g2,g3,g4⟩:=jt ls h1 fun d hd=>hc d (ai _ hd);refine ⟨g1,h2.trans g2,fun x hx => ?_,fun f hf => ?_⟩
  ·rw[aN,Xg] at hx;rcases hx with hx | hx
   ·show (wz (sH s l.2).2 ls).2.1.getD x.toNat 0≠0;rw[g2 _ (h3 x hx)];exact h3 x hx
   ·exact g3 x hx
  ·have hf:ExtS (wz (sH s l.2).2 ls).2 f:=hf;show (l.1,(sH s l.2).1)::(wz (sH s l.2).2 ls).1=_;rw[h4 f (g2.trans hf),g4 f hf];rfl
theorem XH:(ls:List jI)->{s:Jf}->RenI s->(∀ l∈ls,∀ c∈l,-24<=c)->RenI (uY s ls).2∧ExtS s (uY s ls).2∧(∀ x,jH ls x->(uY s ls).2.1.getD x.toNat 0≠0)∧∀ f,ExtS (uY s ls).2 f->(uY s ls).1=ls.map (uX (fun v=>.v (rho f v)))
 | [],s,h,_=>⟨h,ExtS.refl s,fun x ⟨c,hc,_⟩=>(nomatch hc),fun _ _=>rfl⟩
 | l::ls,s,h,hc=>by
  obtain⟨h1,h2,h3,h4⟩:=Yd l h (hc l (aj ..));obtain⟨g1,g2,g3,g4⟩:=XH ls h1 fun d hd=>hc d (ai _ hd);refine ⟨g1,h2.trans g2,fun x hx => ?_,fun f hf => ?_⟩
  ·rw[Xg] at hx;rcases hx with hx | hx
   ·show (uY (sH s l).2 ls).2.1.getD x.toNat 0≠0;rw[g2 _ (h3 x hx)];exact h3 x hx
   ·exact g3 x hx
  ·have hf:ExtS (uY (sH s l).2 ls).2 f:=hf;show (sH s l).1::(uY (sH s l).2 ls).1=_;rw[h4 f (g2.trans hf),g4 f hf];rfl
theorem Hk {L:List zc} {T:List jI} {C:List zc} (hc:∀ r∈yd L T C,∀ c∈r,-24<=c):∃ ρ:Nat->Nat,
  uV L T C=(vL (fun v=>.v (ρ v)) (zS L []),(zS T []).map (uX (fun v=>.v (ρ v))),vL (fun v=>.v (ρ v)) (zS C [])) ∧
  (∀ x,jH (yd L T C) x->ρ x.toNat<24)∧∀ x y,jH (yd L T C) x->jH (yd L T C) y->ρ x.toNat=ρ y.toNat->x.toNat=y.toNat:=by
 have mL:∀ l,l∈zS L []↔l∈L:=fun l=>by simpa using q7 (x:=l) L []
 have mT:∀ l,l∈zS T []↔l∈T:=fun l=>by simpa using q7 (x:=l) T []
 have mC:∀ l,l∈zS C []↔l∈C:=fun l=>by simpa using q7 (x:=l) C []
 obtain⟨a1,a2,a3,a4⟩:=jt (zS L []) zcK fun l hl=>hc _ (yH ((mL l).1 hl));obtain⟨b1,b2,b3,b4⟩:=XH (zS T []) a1 fun l hl=>hc _ (qX ((mT l).1 hl));obtain⟨c1,c2,c3,c4⟩:=jt (zS C []) b1 fun l hl=>hc _ (qS ((mC l).1 hl));have nz:∀ x,jH (yd L T C) x->(wz (uY (wz (ax 24 0,0) (zS L [])).2 (zS T [])).2 (zS C [])).2.1.getD x.toNat 0≠0:=by
  intro x hx;unfold yd at hx;rw[uB,uB] at hx;rcases hx with (⟨r,hr,hx⟩ | ⟨r,hr,hx⟩) | ⟨r,hr,hx⟩
  ·obtain⟨l,hl,rfl⟩:=aX.1 hr;have:=a3 x ⟨_,bl ((mL l).2 hl),hx⟩;rw[c2 _ (by rw[b2 _ this]; exact this),b2 _ this]
   exact this
  ·obtain⟨l,hl,rfl⟩:=aX.1 hr;exact c3 x ⟨_,bl ((mC l).2 hl),hx⟩
  ·have:=b3 x ⟨_,(mT r).2 hr,hx⟩;rw[c2 _ this];exact this
 refine ⟨rho (wz (uY (wz (ax 24 0,0) (zS L [])).2 (zS T [])).2 (zS C [])).2,?_,fun x hx=>c1.rho_lt (nz x hx),fun x y hx hy he=>c1.rho_inj (nz x hx) (nz y hy) he⟩;unfold uV Uu;rw[a4 _ (b2.trans c2),b4 _ c2,c4 _ (ExtS.refl _)]
def XN (s:Sb) (l:KC):KC:=(l.1,l.2.1,wl s l.2.2)
theorem Gr (s:Sb) (ls:List KC):vL s (ls.map cl)=(ls.map (XN s)).map cl:=by
 unfold vL;rw[cK,cK];refine bY fun l _ => ?_;show (l.1,uX s ((l.2.1:Int)::za l.2.2))=(l.1,(l.2.1:Int)::za (wl s l.2.2));rw[rq];unfold uX;rw[bt];have:j5 s (l.2.1:Int)=[(l.2.1:Int)]:=by unfold j5; rw[if_neg (by omega)]
 rw[this];rfl
theorem Vv (s:Sb) (rs:List (List Tm)):(rs.map za).map (uX s)=(rs.map (wl s)).map za:=by
 rw[cK,cK];refine bY fun r _ => ?_;show uX s (za r)=za (wl s r);rw[rq];rfl
theorem Jz {a0:List zh} (hb:ug a0=true) {ts:List Tm} (h:WfR a0 ts):ZR a0 (za ts)=some ts.length:=by
 unfold ZR vG;rw[hb,decide_eq_true h.2,yM ts h.1];simp
theorem NY {a0:List zh} {rs:List jI} {n:Nat} (h:∀ r∈rs,ZR a0 r=some n):j4 a0 rs=true:=by
 cases rs with
 | nil=>rfl
 | cons r rs =>
  unfold j4;show (match ZR a0 r with | none=>false | some n=>rs.all fun q=>ZR a0 q==some n)=true
  rw[h r (aj ..)];exact aH.2 fun q hq=>by rw[h q (ai _ hq)]; simp
theorem JB {a0:List zh} (hb:ug a0=true) {l:KC} (h:WfL a0 l):ua a0 (cl l).2=true:=by
 obtain⟨h1,⟨e,h2,h3,h4⟩,h5⟩:=h;exact Ow h1 h2 h3 h4 h5 hb
theorem OL {a0:List zh} {l k:KC} (hl:WfL a0 l) (hk:WfL a0 k) (h:cl l=cl k):l=k:=by
 obtain⟨n,c,ts⟩:=l;obtain⟨n',c',us⟩:=k;have h:((n,(c:Int)::za ts):zc)=(n',(c':Int)::za us):=h;injection h with h1 h2;injection h2 with h2 h3;have h3:=uj _ ts us (aE _) hl.1 hk.1 h3;have:c=c':=by omega
 rw[h1,this,h3]
theorem Xf {α β:Type} (f:α->β) {as:List α}:(bs:List β)->(∀ b∈bs,b∈as.map f)->∃ as':List α,bs=as'.map f∧∀ a∈as',a∈as
 | [],_=>⟨[],rfl,fun _ h=>(nomatch h)⟩
 | b::bs,h=>by
  obtain⟨as',h1,h2⟩:=Xf f bs fun x hx=>h x (ai _ hx);obtain⟨a,ha,rfl⟩:=aX.1 (h b (aj ..));refine ⟨a::as',by rw[aN,← h1],fun x hx => ?_⟩
  rcases aC.1 hx with rfl | hx
  ·exact ha
  ·exact h2 x hx
theorem Zg {α:Type} [DecidableEq α] (f:α->Nat):(es out:List α)->((zS es out).map f).sum<=(out.map f).sum+(es.map f).sum
 | [],out=>by simp [zS]
 | e::es,out=>by
  unfold zS;by_cases h:e∈out
  ·rw[decide_eq_true h,cond_true];have:=Zg f es out;simp only[aN,cB];omega
  ·rw[decide_eq_false h,cond_false];have:=Zg f es (out++[e]);simp only[aN,cB,dg,List.sum_append,List.map_nil,List.sum_nil] at this ⊢;omega
abbrev vS (ρ:Nat->Nat):Sb:=fun v=>.v (ρ v)
theorem Fz (ρ:Nat->Nat) (r:List Int):(uX (vS ρ) r).length=r.length:=by
 unfold uX
 induction r with
 | nil=>rfl
 | cons c r ih =>
  rw[bt,al,ih,ak];unfold j5;split
  ·simp [Tm.codes]; omega
  ·simp; omega
theorem PD {a0:List zh} {ρ:Nat->Nat} {ts:List Tm} (h:WfR a0 ts) (hρ:∀ x,jE x ts->ρ x<24):WfR a0 (wl (vS ρ) ts):=by
 refine ⟨Gb ts h.1 fun x hx=>hρ x hx,?_⟩;rw[rq];have:=Fz ρ (za ts);unfold uX at this;rw[this];exact h.2
theorem OE {a0:List zh} {ρ:Nat->Nat} {l:KC} (h:WfL a0 l) (hρ:∀ x,jE x l.2.2->ρ x<24):WfL a0 (XN (vS ρ) l):=by
 obtain⟨h1,⟨e,h2,h3,h4⟩,h5⟩:=h;have:=PD (a0:=a0) ⟨h1,h5⟩ hρ;exact ⟨this.1,⟨e,h2,h3,by show (((wl (vS ρ) l.2.2).length:Nat):Int)=_; rw[rZ]; exact h4⟩,this.2⟩
theorem Bu {a0:List zh} {L:List KC} {T:List (List Tm)} {C:List KC} (hmay:wm a0 (L.map cl) (T.map za) (C.map cl)=true) (hL:∀ l∈L,WfL a0 l) (hT:∀ r∈T,WfR a0 r) (hC:∀ l∈C,WfL a0 l) :
  ∃(L1:List KC) (T1:List (List Tm)) (C1:List KC) (ρ:Nat->Nat),uV (L.map cl) (T.map za) (C.map cl)=((L1.map (XN (vS ρ))).map cl,(T1.map (wl (vS ρ))).map za,(C1.map (XN (vS ρ))).map cl)∧(∀ l∈L1.map (XN (vS ρ)),WfL a0 l)∧(∀ r∈T1.map (wl (vS ρ)),WfR a0 r)∧(∀ l∈C1.map (XN (vS ρ)),WfL a0 l) ∧
   wm a0 ((L1.map (XN (vS ρ))).map cl) ((T1.map (wl (vS ρ))).map za) ((C1.map (XN (vS ρ))).map cl)=true∧(∀ x,OB L T C x->ρ x<24)∧(∀ x y,OB L T C x->OB L T C y->ρ x=ρ y->x=y)∧(∀ x,OB (L1.map (XN (vS ρ))) (T1.map (wl (vS ρ))) (C1.map (XN (vS ρ))) x↔∃ y,OB L T C y∧ρ y=x) ∧
   (∀ l,l∈L1↔l∈L)∧(∀ l,l∈T1↔l∈T)∧∀ l,l∈C1↔l∈C:=by
 obtain⟨hsb,g1,g2,g3,g4,g5,g6,g7⟩:=zK hmay;obtain⟨ρ,hn,hr1,hr2⟩:=Hk (L:=L.map cl) (T:=T.map za) (C:=C.map cl) fun r hr c hc=>(VE hmay r hr).2 c hc;have hρ:∀ x,OB L T C x->ρ x<24:=fun x hx=>by
  have:=hr1 x (Vt.2 hx);rwa [bh] at this
 have mL:∀ l,l∈zS (L.map cl) []↔l∈L.map cl:=fun l=>by simpa using q7 (x:=l) (L.map cl) []
 have mT:∀ l,l∈zS (T.map za) []↔l∈T.map za:=fun l=>by simpa using q7 (x:=l) (T.map za) []
 have mC:∀ l,l∈zS (C.map cl) []↔l∈C.map cl:=fun l=>by simpa using q7 (x:=l) (C.map cl) []
 obtain⟨L1,eL,sL⟩:=Xf cl (zS (L.map cl) []) fun b hb=>(mL b).1 hb;obtain⟨T1,eT,sT⟩:=Xf za (zS (T.map za) []) fun b hb=>(mT b).1 hb;obtain⟨C1,eC,sC⟩:=Xf cl (zS (C.map cl) []) fun b hb=>(mC b).1 hb;have bL:∀ l,l∈L1↔l∈L:=fun l=>⟨sL l,fun hl=>by
  have h1:=(mL (cl l)).2 (bl hl);rw[eL] at h1;obtain⟨k,hk,he⟩:=aX.1 h1;rw[← OL (hL k (sL k hk)) (hL l hl) he];exact hk⟩
 have bC:∀ l,l∈C1↔l∈C:=fun l=>⟨sC l,fun hl=>by
  have h1:=(mC (cl l)).2 (bl hl);rw[eC] at h1;obtain⟨k,hk,he⟩:=aX.1 h1;rw[← OL (hC k (sC k hk)) (hC l hl) he];exact hk⟩
 have bT:∀ l,l∈T1↔l∈T:=fun l=>⟨sT l,fun hl=>by
  have h1:=(mT (za l)).2 (bl hl);rw[eT] at h1;obtain⟨k,hk,he⟩:=aX.1 h1;rw[← uj _ k l (aE _) (hT k (sT k hk)).1 (hT l hl).1 he];exact hk⟩
 have wL:∀ l∈L1.map (XN (vS ρ)),WfL a0 l:=fun l hl=>by
  obtain⟨k,hk,rfl⟩:=aX.1 hl;exact OE (hL k (sL k hk)) fun x hx=>hρ x (.inl ⟨k,sL k hk,hx⟩)
 have wC:∀ l∈C1.map (XN (vS ρ)),WfL a0 l:=fun l hl=>by
  obtain⟨k,hk,rfl⟩:=aX.1 hl;exact OE (hC k (sC k hk)) fun x hx=>hρ x (.inr (.inr ⟨k,sC k hk,hx⟩))
 have wT:∀ l∈T1.map (wl (vS ρ)),WfR a0 l:=fun l hl=>by
  obtain⟨k,hk,rfl⟩:=aX.1 hl;exact PD (hT k (sT k hk)) fun x hx=>hρ x (.inr (.inl ⟨k,sT k hk,hx⟩))
 have lL:L1.length<=5:=by
  have h1:=congrArg aa eL;have h2:=wo (L.map cl) [];rw[aL] at h1 h2 g1;simp at h2; omega
 have lT:T1.length<=3:=by
  have h1:=congrArg aa eT;have h2:=wo (T.map za) [];rw[aL] at h1 h2 g2;simp at h2; omega
 have lC:C1.length<=3:=by
  have h1:=congrArg aa eC;have h2:=wo (C.map cl) [];rw[aL] at h1 h2 g3;simp at h2; omega
 refine ⟨L1,T1,C1,ρ,?_,wL,wT,wC,?_,hρ,fun x y hx hy he => ?_,fun x => ?_,bL,bT,bC⟩
 ·rw[hn,eL,eT,eC,Gr,Vv,Gr]
 ·refine DE hsb (by simpa using lL) (by simpa using lT) (by simpa using lC) ?_ ?_ ?_ ?_
  ·refine aH.2 fun l hl => ?_;obtain⟨k,hk,rfl⟩:=aX.1 hl;exact JB hsb (wL k hk)
  ·obtain⟨n,hw⟩:=Q8 g5;refine NY (n:=n) fun r hr => ?_;obtain⟨k,hk,rfl⟩:=aX.1 hr;rw[Jz hsb (wT k hk)];obtain⟨j,hj,rfl⟩:=aX.1 hk;rw[rZ];have:=hw (za j) (bl (sT j hj));rwa [Jz hsb (hT j (sT j hj))] at this
  ·refine aH.2 fun l hl => ?_;obtain⟨k,hk,rfl⟩:=aX.1 hl;exact JB hsb (wC k hk)
  ·have sumL:∀(X X1:List KC),zS (X.map cl) []=X1.map cl->zi (((X1.map (XN (vS ρ))).map cl).map (·.2))<=zi ((X.map cl).map (·.2)):=by
    intro X X1 he;rw[← Gr];have h1:(vL (vS ρ) (X1.map cl)).map (·.2.length)=(X1.map cl).map (·.2.length):=by
     unfold vL;rw[cK];exact bY fun l _=>Fz ρ l.2
    unfold zi;rw[cK,cK];have h2:=Zg (fun l:zc=>l.2.length) (X.map cl) [];rw[he] at h2;have h3:c5 (aa ∘ fun x=>x.2) (vL (vS ρ) (X1.map cl))=(X1.map cl).map (·.2.length):=h1;rw[h3];have h4:(([]:List zc).map (fun l:zc=>l.2.length)).sum=0:=rfl;have h5:c5 (aa ∘ fun x=>x.2) (X.map cl)=(X.map cl).map (fun l:zc=>l.2.length):=rfl;rw[h4,aR] at h2;exact h2
   have sumT:zi ((T1.map (wl (vS ρ))).map za)<=zi (T.map za):=by
    rw[← Vv];have h2:=Zg aa (T.map za) [];rw[eT] at h2;unfold zi;rw[cK];have h3:c5 (aa ∘ uX (vS ρ)) (T1.map za)=(T1.map za).map aa:=bY fun r _=>Fz ρ r;rw[h3];simpa using h2
   have h1:=sumL L L1 eL;have h2:=sumL C C1 eC;omega
 ·have:=hr2 x y (Vt.2 hx) (Vt.2 hy) (by rw[bh,bh]; exact he)
  rwa [bh,bh] at this
 ·constructor
  ·rintro (⟨l,hl,hx⟩ | ⟨r,hr,hx⟩ | ⟨l,hl,hx⟩)
   ·obtain⟨k,hk,rfl⟩:=aX.1 hl;obtain⟨y,hy,he⟩:=(kD k.2.2).1 hx;exact ⟨y,.inl ⟨k,sL k hk,hy⟩,he⟩
   ·obtain⟨k,hk,rfl⟩:=aX.1 hr;obtain⟨y,hy,he⟩:=(kD k).1 hx;exact ⟨y,.inr (.inl ⟨k,sT k hk,hy⟩),he⟩
   ·obtain⟨k,hk,rfl⟩:=aX.1 hl;obtain⟨y,hy,he⟩:=(kD k.2.2).1 hx;exact ⟨y,.inr (.inr ⟨k,sC k hk,hy⟩),he⟩
  ·rintro⟨y,⟨l,hl,hy⟩ | ⟨r,hr,hy⟩ | ⟨l,hl,hy⟩,he⟩
   ·exact .inl ⟨_,bl ((bL l).2 hl),(kD l.2.2).2 ⟨y,hy,he⟩⟩
   ·exact .inr (.inl ⟨_,bl ((bT r).2 hr),(kD r).2 ⟨y,hy,he⟩⟩)
   ·exact .inr (.inr ⟨_,bl ((bC l).2 hl),(kD l.2.2).2 ⟨y,hy,he⟩⟩)
mutual
theorem Tm.sub_id:(t:Tm)->t.sub (fun n=>Tm.v n)=t
 | .v n=>rfl
 | .f c as=>by rw[Tm.sub,L4 as]
theorem L4:(ts:List Tm)->wl (fun n=>Tm.v n) ts=ts
 | []=>rfl
 | t::ts=>by rw[wl,Tm.sub_id t,L4 ts]
end
theorem VF {a0:List zh} (hs:SignOk a0) {L:List zc} {T:List jI} {C:List zc} (h:wm a0 L T C=true) {i j:Int} {n n':Bool} {A A':List Int} (hi:gx L i=some (n,A)) (hj:gx L j=some (n',A')) :
  (∃ k,jf a0 L T C i j=wY k) ∨
  (n=n'∧∃(c:Nat) (ts us:List Tm) (σ:Sb),A=(c:Int)::za ts∧A'=(c:Int)::za us∧okR a0 24 ts∧okR a0 24 us∧ts.length=us.length∧Mgu σ (ts.zip us)∧(∀ x,x<24->(σ x).ok a0 24)∧jf a0 L T C i j=ZJ a0 σ (zv j L 0) T C 1401):=by
 obtain⟨hsb,l1,l2,l3,l4,l5,l6,-⟩:=zK h;have hA:=aH.1 l4 (n,A) (kx hi);have hA':=aH.1 l4 (n',A') (kx hj);obtain⟨c,ts,e,rfl,ho,he,-,hlen,hl48,-⟩:=vM hA;obtain⟨c',us,e',rfl,ho',he',-,hlen',hl48',-⟩:=vM hA';unfold jf;rw[hi,af,hj,af];simp only;by_cases hn:n=n'
 ·subst hn;rw[show (!(n==n))=false from by simp,cond_false]
  simp only[yh,aB,af];by_cases hc:c=c'
  ·subst hc;rw[show ((c:Int) != (c:Int))=false from by simp,cond_false,wE,af,wE,af]
   rcases Y5 hs (xs:=za ts) (ys:=za us) rfl rfl ho ho' hsb hl48 hl48' with ⟨hu,-⟩ | ⟨hll,σ,hm,hok,hu⟩
   ·rw[hu];exact .inl ⟨0,rfl⟩
   ·rw[hu];cases hsh:qO σ (aJ 24) with
    | false=>exact .inl ⟨1401,rfl⟩
    | true =>
     refine .inr ⟨trivial,c,ts,us,σ,rfl,rfl,ho,ho',hll,hm,hok,?_⟩;simp only[cond_true,af,show ((0:Int) != 0)=false from rfl,cond_false,az]
     have hcd:=j8 hs h;have hwl:=tQ j L 0;rw[vY j (-1) (by omega) (by omega) (by omega) (by simp) (by simp) (by simp),af]
     simp only[bG,zv];rw[Ae hsh (fun l hl=>hcd _ (yH (vZ L 0 hl))) (fun r hr=>hcd _ (qX hr)) (fun l hl=>hcd _ (qS hl)) (by omega) (by omega) (by omega),af,xk,af]
     unfold ZJ;cases wm a0 (vL σ (zv j L 0)) (T.map (uX σ)) (vL σ C) with
     | true=>rfl
     | false=>rfl
  ·rw[show ((c:Int) != (c':Int))=true from by simp; omega,cond_true]
   exact .inl ⟨0,rfl⟩
 ·rw[show (!(n==n'))=true from by simp [hn],cond_true]
  exact .inl ⟨0,rfl⟩
section
variable {m:Nat} (hm:0<m) (hm3:m<=3) {nums:List Int} (hn:I5 nums) {a0:List zh} (hs:SignOk a0)
include hm hm3 hn hs
end
section
variable {m:Nat} (hm:0<m) (hm3:m<=3) {nums:List Int} (hn:I5 nums) {a0:List zh} (hs:SignOk a0)
include hm hm3 hn hs
end
theorem JT {α:Type} (xs:List α) {i:Nat} (h:i<=xs.length):vI xs none (some (i:Int))=some (xs.take i):=by
 show slc xs 0 (i:Int)=some _;unfold slc;rw[decide_eq_true (show (0:Int)<=0 by omega),decide_eq_true (show (0:Int)<=(i:Int) by omega),decide_eq_true (show (i:Int)<=((xs.length:Nat):Int) by omega)]
 simp
section
variable {m:Nat} (hm:0<m) (hm3:m<=3) {nums:List Int} (hn:I5 nums) {a0:List zh} (hs:SignOk a0)
include hm hm3 hn hs
end
def rC (a0:jQ) (_a1:jR) (_a2:jQ) (a3:Int):Option Bool :=
 cond (decide (a3≥0))
 (some (decide (a3<((aa a0:Nat):Int))))
 (some false)
def je (rec:((List (Int×jI))×Int×Int)->Option (Unit⊕Int)) (x:((List (Int×jI))×Int×Int)):Option (Unit⊕Int) :=
 cond (decide (x.2.2<((aa x.1:Nat):Int)))
 ((gx x.1 x.2.2).bind fun e2 =>
  cond (e2.1==x.2.1)
  (some (aF x.2.2))
  (rec (x.1,x.2.1,(ag .i64 (x.2.2+1)))))
 (some (aW ()))
def XF (a0:(List (Int×jI))) (a1:Int):Option Int :=
 ((lp je zd) (a0,a1,0)).bind fun r6 =>
 yl r6
 (fun _z7=>some (-1))
 (fun z8=>some z8)
def rI (rec:((List (Int×jI))×jI×Int×jI)->Option jI) (x:((List (Int×jI))×jI×Int×jI)):Option jI :=
 cond (decide (x.2.2.1<((aa x.2.1:Nat):Int)))
 ((gx x.2.1 x.2.2.1).bind fun e16 =>
  cond (decide (e16<0))
  ((gx x.2.1 x.2.2.1).bind fun e17 =>
   (XF x.1 (ag .i64 ((-1) - e17))).bind fun r18 =>
   cond (decide (r18<0))
   ((gx x.2.1 x.2.2.1).bind fun e19 =>
    cond (yb (aa x.2.2.2+aa ([e19]:List Int)) 8)
    (rec (x.1,x.2.1,(ag .i64 (x.2.2.1+1)),(x.2.2.2++([e19]:List Int))))
    (none))
   ((gx x.1 r18).bind fun e20 =>
    cond (yb (aa x.2.2.2+aa e20.2) 8)
    (rec (x.1,x.2.1,(ag .i64 (x.2.2.1+1)),(x.2.2.2++e20.2)))
    (none)))
  ((gx x.2.1 x.2.2.1).bind fun e21 =>
   cond (yb (aa x.2.2.2+aa ([e21]:List Int)) 8)
   (rec (x.1,x.2.1,(ag .i64 (x.2.2.1+1)),(x.2.2.2++([e21]:List Int))))
   (none)))
 (some x.2.2.2)
def uA (a0:(List (Int×jI))) (a1:jI):Option jI :=
 ((lp rI zd) (a0,a1,0,([]:jI))).bind fun r23 =>
 some r23
def sD (rec:((List (Int×jI))×Int×jQ×jR×jQ×jQ×jR×jQ)->Option (jQ×jR×jQ)) (x:((List (Int×jI))×Int×jQ×jR×jQ×jQ×jR×jQ)):Option (jQ×jR×jQ) :=
 cond (decide (x.2.1<((aa x.2.2.2.2.1:Nat):Int)))
 ((gx x.2.2.2.2.1 x.2.1).bind fun e24 =>
  (gx x.2.2.2.2.1 x.2.1).bind fun e25 =>
  (uA x.1 e25.2).bind fun r26 =>
  cond (yb (aa x.2.2.2.2.2.2.2+aa ([(e24.1,r26)]:List zc)) 32)
  (rec (x.1,(ag .i64 (x.2.1+1)),x.2.2.1,x.2.2.2.1,x.2.2.2.2.1,x.2.2.2.2.2.1,x.2.2.2.2.2.2.1,(x.2.2.2.2.2.2.2++([(e24.1,r26)]:List zc))))
  (none))
 (some (x.2.2.2.2.2.1,x.2.2.2.2.2.2.1,x.2.2.2.2.2.2.2))
def tZ (rec:((List (Int×jI))×Int×jQ×jR×jQ×jQ×jR)->Option (jQ×jR)) (x:((List (Int×jI))×Int×jQ×jR×jQ×jQ×jR)):Option (jQ×jR) :=
 cond (decide (x.2.1<((aa x.2.2.2.1:Nat):Int)))
 ((gx x.2.2.2.1 x.2.1).bind fun e15 =>
  (uA x.1 e15).bind fun r16 =>
  cond (yb (aa x.2.2.2.2.2.2+aa ([r16]:List jI)) 24)
  (rec (x.1,(ag .i64 (x.2.1+1)),x.2.2.1,x.2.2.2.1,x.2.2.2.2.1,x.2.2.2.2.2.1,(x.2.2.2.2.2.2++([r16]:List jI))))
  (none))
 (some (x.2.2.2.2.2.1,x.2.2.2.2.2.2))
def sj (rec:((List (Int×jI))×Int×jQ×jR×jQ×jQ)->Option jQ) (x:((List (Int×jI))×Int×jQ×jR×jQ×jQ)):Option jQ :=
 cond (decide (x.2.1<((aa x.2.2.1:Nat):Int)))
 ((gx x.2.2.1 x.2.1).bind fun e7 =>
  (gx x.2.2.1 x.2.1).bind fun e8 =>
  (uA x.1 e8.2).bind fun r9 =>
  cond (yb (aa x.2.2.2.2.2+aa ([(e7.1,r9)]:List zc)) 32)
  (rec (x.1,(ag .i64 (x.2.1+1)),x.2.2.1,x.2.2.2.1,x.2.2.2.2.1,(x.2.2.2.2.2++([(e7.1,r9)]:List zc))))
  (none))
 (some x.2.2.2.2.2)
def sE (a0:(List (Int×jI))) (a1:jQ) (a2:jR) (a3:jQ):Option (jQ×jR×jQ) :=
 ((lp sj zd) (a0,0,a1,a2,a3,([]:jQ))).bind fun r28 =>
 ((lp tZ zd) (a0,0,a1,a2,a3,r28,([]:jR))).bind fun r29 =>
 ((lp sD zd) (a0,0,a1,a2,a3,r29.1,r29.2,([]:jQ))).bind fun r30 =>
 some (r30.1,r30.2.1,r30.2.2)
def ww (rec:(Int×jI×Int×jQ×jR×jQ×(List (Int×jI)))->Option ((List (Int×jI))⊕Bool)) (x:(Int×jI×Int×jQ×jR×jQ×(List (Int×jI)))):Option ((List (Int×jI))⊕Bool) :=
 cond (decide (x.2.2.1<((aa x.2.1:Nat):Int)))
 ((gx x.2.1 x.2.2.1).bind fun e11 =>
  cond (decide ((ag .i64 (e11+x.1))>23))
  (some (aF false))
  ((gx x.2.1 x.2.2.1).bind fun e12 =>
   (gx x.2.1 x.2.2.1).bind fun e13 =>
   cond (yb (aa x.2.2.2.2.2.2+aa ([(e12,([(ag .i64 ((ag .i64 ((-1) - e13)) - x.1))]:List Int))]:List (Int×jI))) 32)
   (rec (x.1,x.2.1,(ag .i64 (x.2.2.1+1)),x.2.2.2.1,x.2.2.2.2.1,x.2.2.2.2.2.1,(x.2.2.2.2.2.2++([(e12,([(ag .i64 ((ag .i64 ((-1) - e13)) - x.1))]:List Int))]:List (Int×jI)))))
   (none)))
 (some (aW x.2.2.2.2.2.2))
def rT (a0:jQ) (a1:jR) (a2:jQ) (a3:jQ) (a4:jR) (a5:jQ):Option (jQ×jR×Bool×jQ) :=
 (rM a0 a1 a2).bind fun r23 =>
 cond (decide (((aa r23:Nat):Int)>0))
 ((inR (ag .i64 (((aa r23:Nat):Int) - 1)) (aa r23)).bind fun k24 =>
  (r23[k24]?).bind fun x25 =>
  (rM a3 a4 a5).bind fun r26 =>
  ((lp ww zd) ((ag .i64 (x25+1)),r26,0,a3,a4,a5,([]:(List (Int×jI))))).bind fun r27 =>
  yl r27
  (fun z28=>(sE z28 a3 a4 a5).bind fun r29 =>
   some (r29.1,r29.2.1,true,r29.2.2))
  (fun z30=>some (([]:jQ),([]:jR),z30,([]:jQ))))
 ((rM a3 a4 a5).bind fun r31 =>
  ((lp ww zd) (0,r31,0,a3,a4,a5,([]:(List (Int×jI))))).bind fun r32 =>
  yl r32
  (fun z33=>(sE z33 a3 a4 a5).bind fun r34 =>
   some (r34.1,r34.2.1,true,r34.2.2))
  (fun z35=>some (([]:jQ),([]:jR),z35,([]:jQ))))
def vJ (rec:(jI×jR)->Option jI) (x:(jI×jR)):Option jI :=
 cond (((aa x.1:Nat):Int)==1)
 ((gx x.1 0).bind fun e8 =>
  cond (decide (e8<0))
  ((gx x.1 0).bind fun e9 =>
   (inR (ag .i64 ((-1) - e9)) 48).bind fun k10 =>
   (x.2[k10]?).bind fun x11 =>
   cond (decide (((aa x11:Nat):Int)>0))
   ((gx x.1 0).bind fun e12 =>
    (inR (ag .i64 ((-1) - e12)) 48).bind fun k13 =>
    (x.2[k13]?).bind fun x14 =>
    rec (x14,x.2))
   (some x.1))
  (some x.1))
 (some x.1)
def u7 (a0:jI) (a1:jR):Option jI :=
 ((lp vJ zd) (a0,a1)).bind fun r16 =>
 some r16
def sd (rec:(jI×jI×Int)->Option (Unit⊕Bool)) (x:(jI×jI×Int)):Option (Unit⊕Bool) :=
 cond (decide (x.2.2<((aa x.1:Nat):Int)))
 ((gx x.1 x.2.2).bind fun e3 =>
  (gx x.2.1 x.2.2).bind fun e4 =>
  cond (e3 != e4)
  (some (aF false))
  (rec (x.1,x.2.1,(ag .i64 (x.2.2+1)))))
 (some (aW ()))
def th (a0:jI) (a1:jI):Option Bool :=
 cond (((aa a0:Nat):Int) != ((aa a1:Nat):Int))
 (some false)
 (((lp sd zd) (a0,a1,0)).bind fun r8 =>
  yl r8
  (fun _z9=>some true)
  (fun z10=>some z10))
def xl (rf:((Int×jI×jR)->Option Bool)) (rec:(Int×jI×Int×jR)->Option (Unit⊕Bool)) (x:(Int×jI×Int×jR)):Option (Unit⊕Bool) :=
 cond (decide (x.2.2.1<((aa x.2.1:Nat):Int)))
 ((gx x.2.1 x.2.2.1).bind fun e8 =>
  cond (decide (e8≥0))
  (rec (x.1,x.2.1,(ag .i64 (x.2.2.1+1)),x.2.2.2))
  ((gx x.2.1 x.2.2.1).bind fun e9 =>
   cond ((ag .i64 ((-1) - e9))==x.1)
   (some (aF true))
   ((inR (ag .i64 ((-1) - e9)) 48).bind fun k10 =>
    (x.2.2.2[k10]?).bind fun x11 =>
    cond (decide (((aa x11:Nat):Int)>0))
    ((inR (ag .i64 ((-1) - e9)) 48).bind fun k12 =>
     (x.2.2.2[k12]?).bind fun x13 =>
     (rf (x.1,x13,x.2.2.2)).bind fun r14 =>
     cond r14
     (some (aF true))
     (rec (x.1,x.2.1,(ag .i64 (x.2.2.1+1)),x.2.2.2)))
    (rec (x.1,x.2.1,(ag .i64 (x.2.2.1+1)),x.2.2.2)))))
 (some (aW ()))
def uG (rf:((Int×jI×jR)->Option Bool)) (a0:Int) (a1:jI) (a2:jR):Option Bool :=
 ((lp (xl rf) zd) (a0,a1,0,a2)).bind fun r18 =>
 yl r18
 (fun _z19=>some false)
 (fun z20=>some z20)
def jk (rf:((Int×jI×jR)->Option Bool)):((Int×jI×jR)->Option Bool) :=
 fun (x:(Int×jI×jR))=>uG rf x.1 x.2.1 x.2.2
def ji:((Int×jI×jR)->Option Bool):=fun _=>none
def xK (k:Nat):((Int×jI×jR)->Option Bool):=lpR ji jk k
def jm (a0:Int) (a1:jI) (a2:jR):Option Bool:=(xK zd) (a0,a1,a2)
def zz (a0:jI) (a1:jI) (a2:Bool) (a3:jR):Option (Bool×jR) :=
 (gx a0 0).bind fun e8 =>
 cond a2
 ((gx a1 0).bind fun e9 =>
  (inR (ag .i64 ((-1) - e9)) 48).bind fun k10 =>
  (a3[k10]?).bind fun _x11 =>
  some (true,(bn a3 k10 a0)))
 ((jm (ag .i64 ((-1) - e8)) a1 a3).bind fun r12 =>
  cond r12
  (some (false,a3))
  ((inR (ag .i64 ((-1) - e8)) 48).bind fun k13 =>
   (a3[k13]?).bind fun _x14 =>
   some (true,(bn a3 k13 a1))))
def vf (rf:(((jS×jI×jI×jR)->Option (Bool×jR))×((jS×jR×jR×jR)->Option (Bool×jR)))) (a0:jS) (a1:jI) (a2:jI) (a3:jR):Option (Bool×jR) :=
 (u7 a1 a3).bind fun r82 =>
 (u7 a2 a3).bind fun r83 =>
 (th r82 r83).bind fun r84 =>
 cond r84
 (some (true,a3))
 ((gx r82 0).bind fun e85 =>
  cond (decide (e85<0))
  ((gx r83 0).bind fun e86 =>
   cond (decide (e86<0))
   ((gx r82 0).bind fun e87 =>
    (gx r83 0).bind fun e88 =>
    cond (decide (e87<e88))
    ((gx r82 0).bind fun e89 =>
     (zz r83 r82 (decide (e89<0)) a3).bind fun r90 =>
     some (r90.1,r90.2))
    ((gx r82 0).bind fun e91 =>
     cond (decide (e91≥0))
     ((gx r83 0).bind fun e92 =>
      cond (decide (e92<0))
      ((gx r82 0).bind fun e93 =>
       (zz r83 r82 (decide (e93<0)) a3).bind fun r94 =>
       some (r94.1,r94.2))
      ((gx r82 0).bind fun e95 =>
       cond (decide (e95<0))
       ((gx r83 0).bind fun e96 =>
        (zz r82 r83 (decide (e96<0)) a3).bind fun r97 =>
        some (r97.1,r97.2))
       ((gx r82 0).bind fun e98 =>
        (gx r83 0).bind fun e99 =>
        cond (e98 != e99)
        (some (false,a3))
        ((vI r82 (some 1) none).bind fun y100 =>
         (ya a0 y100).bind fun r101 =>
         (vI r83 (some 1) none).bind fun y102 =>
         (ya a0 y102).bind fun r103 =>
         (rf.2 (a0,r101,r103,a3)).bind fun r104 =>
         some (r104.1,r104.2)))))
     ((gx r82 0).bind fun e105 =>
      cond (decide (e105<0))
      ((gx r83 0).bind fun e106 =>
       (zz r82 r83 (decide (e106<0)) a3).bind fun r107 =>
       some (r107.1,r107.2))
      ((gx r82 0).bind fun e108 =>
       (gx r83 0).bind fun e109 =>
       cond (e108 != e109)
       (some (false,a3))
       ((vI r82 (some 1) none).bind fun y110 =>
        (ya a0 y110).bind fun r111 =>
        (vI r83 (some 1) none).bind fun y112 =>
        (ya a0 y112).bind fun r113 =>
        (rf.2 (a0,r111,r113,a3)).bind fun r114 =>
        some (r114.1,r114.2))))))
   ((gx r82 0).bind fun e115 =>
    cond (decide (e115≥0))
    ((gx r83 0).bind fun e116 =>
     cond (decide (e116<0))
     ((gx r82 0).bind fun e117 =>
      (zz r83 r82 (decide (e117<0)) a3).bind fun r118 =>
      some (r118.1,r118.2))
     ((gx r82 0).bind fun e119 =>
      cond (decide (e119<0))
      ((gx r83 0).bind fun e120 =>
       (zz r82 r83 (decide (e120<0)) a3).bind fun r121 =>
       some (r121.1,r121.2))
      ((gx r82 0).bind fun e122 =>
       (gx r83 0).bind fun e123 =>
       cond (e122 != e123)
       (some (false,a3))
       ((vI r82 (some 1) none).bind fun y124 =>
        (ya a0 y124).bind fun r125 =>
        (vI r83 (some 1) none).bind fun y126 =>
        (ya a0 y126).bind fun r127 =>
        (rf.2 (a0,r125,r127,a3)).bind fun r128 =>
        some (r128.1,r128.2)))))
    ((gx r82 0).bind fun e129 =>
     cond (decide (e129<0))
     ((gx r83 0).bind fun e130 =>
      (zz r82 r83 (decide (e130<0)) a3).bind fun r131 =>
      some (r131.1,r131.2))
     ((gx r82 0).bind fun e132 =>
      (gx r83 0).bind fun e133 =>
      cond (e132 != e133)
      (some (false,a3))
      ((vI r82 (some 1) none).bind fun y134 =>
       (ya a0 y134).bind fun r135 =>
       (vI r83 (some 1) none).bind fun y136 =>
       (ya a0 y136).bind fun r137 =>
       (rf.2 (a0,r135,r137,a3)).bind fun r138 =>
       some (r138.1,r138.2))))))
  ((gx r82 0).bind fun e139 =>
   cond (decide (e139≥0))
   ((gx r83 0).bind fun e140 =>
    cond (decide (e140<0))
    ((gx r82 0).bind fun e141 =>
     (zz r83 r82 (decide (e141<0)) a3).bind fun r142 =>
     some (r142.1,r142.2))
    ((gx r82 0).bind fun e143 =>
     cond (decide (e143<0))
     ((gx r83 0).bind fun e144 =>
      (zz r82 r83 (decide (e144<0)) a3).bind fun r145 =>
      some (r145.1,r145.2))
     ((gx r82 0).bind fun e146 =>
      (gx r83 0).bind fun e147 =>
      cond (e146 != e147)
      (some (false,a3))
      ((vI r82 (some 1) none).bind fun y148 =>
       (ya a0 y148).bind fun r149 =>
       (vI r83 (some 1) none).bind fun y150 =>
       (ya a0 y150).bind fun r151 =>
       (rf.2 (a0,r149,r151,a3)).bind fun r152 =>
       some (r152.1,r152.2)))))
   ((gx r82 0).bind fun e153 =>
    cond (decide (e153<0))
    ((gx r83 0).bind fun e154 =>
     (zz r82 r83 (decide (e154<0)) a3).bind fun r155 =>
     some (r155.1,r155.2))
    ((gx r82 0).bind fun e156 =>
     (gx r83 0).bind fun e157 =>
     cond (e156 != e157)
     (some (false,a3))
     ((vI r82 (some 1) none).bind fun y158 =>
      (ya a0 y158).bind fun r159 =>
      (vI r83 (some 1) none).bind fun y160 =>
      (ya a0 y160).bind fun r161 =>
      (rf.2 (a0,r159,r161,a3)).bind fun r162 =>
      some (r162.1,r162.2))))))
def xN (rf:(((jS×jI×jI×jR)->Option (Bool×jR))×((jS×jR×jR×jR)->Option (Bool×jR)))) (rec:(jS×jR×jR×Int×jR)->Option (jR⊕(Bool×jR))) (x:(jS×jR×jR×Int×jR)):Option (jR⊕(Bool×jR)) :=
 cond (decide (x.2.2.2.1<((aa x.2.1:Nat):Int)))
 ((gx x.2.1 x.2.2.2.1).bind fun e7 =>
  (gx x.2.2.1 x.2.2.2.1).bind fun e8 =>
  (rf.1 (x.1,e7,e8,x.2.2.2.2)).bind fun r9 =>
  cond (!r9.1)
  (some (aF (false,r9.2)))
  (rec (x.1,x.2.1,x.2.2.1,(ag .i64 (x.2.2.2.1+1)),r9.2)))
 (some (aW x.2.2.2.2))
def tm (rf:(((jS×jI×jI×jR)->Option (Bool×jR))×((jS×jR×jR×jR)->Option (Bool×jR)))) (a0:jS) (a1:jR) (a2:jR) (a3:jR):Option (Bool×jR) :=
 ((lp (xN rf) zd) (a0,a1,a2,0,a3)).bind fun r13 =>
 yl r13
 (fun z14=>some (true,z14))
 (fun z15=>some (z15.1,z15.2))
def Zv (rf:(((jS×jI×jI×jR)->Option (Bool×jR))×((jS×jR×jR×jR)->Option (Bool×jR)))):(((jS×jI×jI×jR)->Option (Bool×jR))×((jS×jR×jR×jR)->Option (Bool×jR))) :=
 (fun (x:(jS×jI×jI×jR))=>vf rf x.1 x.2.1 x.2.2.1 x.2.2.2,fun (x:(jS×jR×jR×jR))=>tm rf x.1 x.2.1 x.2.2.1 x.2.2.2)
def jM:(((jS×jI×jI×jR)->Option (Bool×jR))×((jS×jR×jR×jR)->Option (Bool×jR))):=(fun _=>none,fun _=>none)
def yG (k:Nat):(((jS×jI×jI×jR)->Option (Bool×jR))×((jS×jR×jR×jR)->Option (Bool×jR))):=lpR jM Zv k
def ZM (a0:jS) (a1:jR) (a2:jR) (a3:jR):Option (Bool×jR):=(yG zd).2 (a0,a1,a2,a3)
def xm (rf:((jI×jR×jI)->Option jI)) (rec:(jI×Int×jR×jI)->Option jI) (x:(jI×Int×jR×jI)):Option jI :=
 cond (decide (x.2.1<((aa x.1:Nat):Int)))
 (cond (decide (((aa x.2.2.2:Nat):Int)<=48))
  ((gx x.1 x.2.1).bind fun e19 =>
   cond (decide (e19<0))
   ((gx x.1 x.2.1).bind fun e20 =>
    (inR (ag .i64 ((-1) - e20)) 48).bind fun k21 =>
    (x.2.2.1[k21]?).bind fun x22 =>
    cond (decide (((aa x22:Nat):Int)>0))
    ((gx x.1 x.2.1).bind fun e23 =>
     (inR (ag .i64 ((-1) - e23)) 48).bind fun k24 =>
     (x.2.2.1[k24]?).bind fun x25 =>
     (rf (x25,x.2.2.1,x.2.2.2)).bind fun r26 =>
     rec (x.1,(ag .i64 (x.2.1+1)),x.2.2.1,r26))
    ((gx x.1 x.2.1).bind fun e27 =>
     cond (yb (aa x.2.2.2+aa ([e27]:List Int)) 8)
     (rec (x.1,(ag .i64 (x.2.1+1)),x.2.2.1,(x.2.2.2++([e27]:List Int))))
     (none)))
   ((gx x.1 x.2.1).bind fun e28 =>
    cond (yb (aa x.2.2.2+aa ([e28]:List Int)) 8)
    (rec (x.1,(ag .i64 (x.2.1+1)),x.2.2.1,(x.2.2.2++([e28]:List Int))))
    (none)))
  (some x.2.2.2))
 (some x.2.2.2)
def uJ (rf:((jI×jR×jI)->Option jI)) (a0:jI) (a1:jR) (a2:jI):Option jI :=
 ((lp (xm rf) zd) (a0,0,a1,a2)).bind fun r30 =>
 some r30
def jw (rf:((jI×jR×jI)->Option jI)):((jI×jR×jI)->Option jI) :=
 fun (x:(jI×jR×jI))=>uJ rf x.1 x.2.1 x.2.2
def jp:((jI×jR×jI)->Option jI):=fun _=>none
def qF (k:Nat):((jI×jR×jI)->Option jI):=lpR jp jw k
def tH (a0:jI) (a1:jR) (a2:jI):Option jI:=(qF zd) (a0,a1,a2)
def wi (rec:(Int×jR×(List (Int×jI)))->Option ((List (Int×jI))⊕(Bool×Bool))) (x:(Int×jR×(List (Int×jI)))):Option ((List (Int×jI))⊕(Bool×Bool)) :=
 cond (decide (x.1<=23))
 ((inR x.1 48).bind fun k14 =>
  (x.2.1[k14]?).bind fun x15 =>
  cond (((aa x15:Nat):Int)==0)
  (rec ((ag .i64 (x.1+1)),x.2.1,x.2.2))
  ((inR x.1 48).bind fun k16 =>
   (x.2.1[k16]?).bind fun x17 =>
   (tH x17 x.2.1 ([]:jI)).bind fun r18 =>
   cond (decide (((aa r18:Nat):Int)>48))
   (some (aF (true,false)))
   (cond (yb (aa x.2.2+aa ([(x.1,r18)]:List (Int×jI))) 32)
    (rec ((ag .i64 (x.1+1)),x.2.1,(x.2.2++([(x.1,r18)]:List (Int×jI)))))
    (none))))
 (some (aW x.2.2))
def uk (a0:jS) (a1:jI) (a2:jI):Option (Bool×Bool×(List (Int×jI))) :=
 (ya a0 a1).bind fun r22 =>
 (ya a0 a2).bind fun r23 =>
 cond (((aa r22:Nat):Int) != ((aa r23:Nat):Int))
 (some (false,true,([]:(List (Int×jI)))))
 ((ZM a0 r22 r23 (ax 48 ([]:jI))).bind fun r24 =>
  cond (!r24.1)
  (some (false,true,([]:(List (Int×jI)))))
  (((lp wi zd) (0,r24.2,([]:(List (Int×jI))))).bind fun r25 =>
   yl r25
   (fun z26=>some (true,true,z26))
   (fun z27=>some (z27.1,z27.2,([]:(List (Int×jI)))))))
def uZ (a0:jQ) (a1:Int):Option jQ :=
 (vI a0 none (some a1)).bind fun y3 =>
 cond (yb (aa ([]:List zc)+aa y3) 32)
 ((vI a0 (some (ag .i64 (a1+1))) none).bind fun y4 =>
  cond (yb (aa (([]:List zc)++y3)+aa y4) 32)
  (some ((([]:List zc)++y3)++y4))
  (none))
 (none)
def XW (a0:jQ) (_a1:jQ) (a2:jR) (a3:jQ) (_a4:jQ) (a5:jR) (a6:jQ):Option (jQ×jR×jQ) :=
 cond (yb (aa a2) 24)
 (cond (yb (aa a2+aa a5) 24)
  (cond (yb (aa a3) 32)
   (cond (yb (aa a3+aa a6) 32)
    (some (a0,(a2++a5),(a3++a6)))
    (none))
   (none))
  (none))
 (none)
def kA (a0:Bool) (a1:jI) (a2:Bool) (a3:jI):Option Bool :=
 cond (a0==a2)
 ((th a1 a3).bind fun r2 =>
  some r2)
 (some false)
def uR (rec:(jQ×Int×Bool×Int×jQ)->Option (Bool×jQ)) (x:(jQ×Int×Bool×Int×jQ)):Option (Bool×jQ) :=
 cond (decide (x.2.2.2.1<((aa x.2.2.2.2:Nat):Int)))
 (cond x.2.2.1
  (rec (x.1,x.2.1,true,(ag .i64 (x.2.2.2.1+1)),x.2.2.2.2))
  ((inR x.2.2.2.1 (aa x.2.2.2.2)).bind fun k7 =>
   (x.2.2.2.2[k7]?).bind fun x8 =>
   (gx x.1 x.2.1).bind fun e9 =>
   (kA x8.1 x8.2 e9.1 e9.2).bind fun r10 =>
   rec (x.1,x.2.1,r10,(ag .i64 (x.2.2.2.1+1)),x.2.2.2.2)))
 (some (x.2.2.1,x.2.2.2.2))
def t7 (rec:(jQ×Int×jQ)->Option jQ) (x:(jQ×Int×jQ)):Option jQ :=
 cond (decide (x.2.1<((aa x.1:Nat):Int)))
 (((lp uR zd) (x.1,x.2.1,false,0,x.2.2)).bind fun r13 =>
  cond (!r13.1)
  ((gx x.1 x.2.1).bind fun e14 =>
   cond (yb (aa r13.2+aa ([(e14.1,e14.2)]:List zc)) 32)
   (rec (x.1,(ag .i64 (x.2.1+1)),(r13.2++([(e14.1,e14.2)]:List zc))))
   (none))
  (rec (x.1,(ag .i64 (x.2.1+1)),r13.2)))
 (some x.2.2)
def Xj (a0:jQ):Option jQ :=
 ((lp t7 zd) (a0,0,([]:jQ))).bind fun r16 =>
 some r16
def vO (rec:(jR×Int×Int×jQ×jR×jQ×(List (Int×jI)))->Option (List (Int×jI))) (x:(jR×Int×Int×jQ×jR×jQ×(List (Int×jI)))):Option (List (Int×jI)) :=
 (gx x.1 x.2.1).bind fun e29 =>
 cond (decide (x.2.2.1<((aa e29:Nat):Int)))
 ((gx x.1 x.2.1).bind fun e30 =>
  (gx e30 x.2.2.1).bind fun e31 =>
  cond (decide (e31<0))
  ((XF x.2.2.2.2.2.2 (ag .i64 ((-1) - e31))).bind fun r32 =>
   cond (decide (r32<0))
   (cond (yb (aa x.2.2.2.2.2.2+aa ([((ag .i64 ((-1) - e31)),([(ag .i64 ((-1) - ((aa x.2.2.2.2.2.2:Nat):Int)))]:List Int))]:List (Int×jI))) 32)
    (rec (x.1,x.2.1,(ag .i64 (x.2.2.1+1)),x.2.2.2.1,x.2.2.2.2.1,x.2.2.2.2.2.1,(x.2.2.2.2.2.2++([((ag .i64 ((-1) - e31)),([(ag .i64 ((-1) - ((aa x.2.2.2.2.2.2:Nat):Int)))]:List Int))]:List (Int×jI)))))
    (none))
   (rec (x.1,x.2.1,(ag .i64 (x.2.2.1+1)),x.2.2.2.1,x.2.2.2.2.1,x.2.2.2.2.2.1,x.2.2.2.2.2.2)))
  (rec (x.1,x.2.1,(ag .i64 (x.2.2.1+1)),x.2.2.2.1,x.2.2.2.2.1,x.2.2.2.2.2.1,x.2.2.2.2.2.2)))
 (some x.2.2.2.2.2.2)
def uT (rec:(Int×Bool×Int×jQ×jR×jQ×jQ×jQ×jR)->Option (Bool×jQ×jQ×jR)) (x:(Int×Bool×Int×jQ×jR×jQ×jQ×jQ×jR)):Option (Bool×jQ×jQ×jR) :=
 cond (decide (x.2.2.1<((aa x.2.2.2.2.2.2.2.2:Nat):Int)))
 (cond x.2.1
  (rec (x.1,true,(ag .i64 (x.2.2.1+1)),x.2.2.2.1,x.2.2.2.2.1,x.2.2.2.2.2.1,x.2.2.2.2.2.2.1,x.2.2.2.2.2.2.2.1,x.2.2.2.2.2.2.2.2))
  ((inR x.2.2.1 (aa x.2.2.2.2.2.2.2.2)).bind fun k9 =>
   (x.2.2.2.2.2.2.2.2[k9]?).bind fun x10 =>
   (gx x.2.2.2.2.1 x.1).bind fun e11 =>
   (th x10 e11).bind fun r12 =>
   rec (x.1,r12,(ag .i64 (x.2.2.1+1)),x.2.2.2.1,x.2.2.2.2.1,x.2.2.2.2.2.1,x.2.2.2.2.2.2.1,x.2.2.2.2.2.2.2.1,x.2.2.2.2.2.2.2.2)))
 (some (x.2.1,x.2.2.2.2.2.2.1,x.2.2.2.2.2.2.2.1,x.2.2.2.2.2.2.2.2))
def sw (rec:(jR×Int×jQ×jR×jQ×(List (Int×jI)))->Option (List (Int×jI))) (x:(jR×Int×jQ×jR×jQ×(List (Int×jI)))):Option (List (Int×jI)) :=
 cond (decide (x.2.1<((aa x.1:Nat):Int)))
 (((lp vO zd) (x.1,x.2.1,0,x.2.2.1,x.2.2.2.1,x.2.2.2.2.1,x.2.2.2.2.2)).bind fun r35 =>
  rec (x.1,(ag .i64 (x.2.1+1)),x.2.2.1,x.2.2.2.1,x.2.2.2.2.1,r35))
 (some x.2.2.2.2.2)
def sx (rec:(Int×jQ×jR×jQ×jQ×jQ×jR)->Option (jQ×jQ×jR)) (x:(Int×jQ×jR×jQ×jQ×jQ×jR)):Option (jQ×jQ×jR) :=
 cond (decide (x.1<((aa x.2.2.1:Nat):Int)))
 (((lp uT zd) (x.1,false,0,x.2.1,x.2.2.1,x.2.2.2.1,x.2.2.2.2.1,x.2.2.2.2.2.1,x.2.2.2.2.2.2)).bind fun r17 =>
  cond (!r17.1)
  ((gx x.2.2.1 x.1).bind fun e18 =>
   cond (yb (aa r17.2.2.2+aa ([e18]:List jI)) 24)
   (rec ((ag .i64 (x.1+1)),x.2.1,x.2.2.1,x.2.2.2.1,r17.2.1,r17.2.2.1,(r17.2.2.2++([e18]:List jI))))
   (none))
  (rec ((ag .i64 (x.1+1)),x.2.1,x.2.2.1,x.2.2.2.1,r17.2.1,r17.2.2.1,r17.2.2.2)))
 (some (x.2.2.2.2.1,x.2.2.2.2.2.1,x.2.2.2.2.2.2))
def Kv (a0:jQ) (a1:jR) (a2:jQ):Option (jQ×jR×jQ) :=
 (Xj a0).bind fun r38 =>
 (Xj a2).bind fun r39 =>
 ((lp sx zd) (0,a0,a1,a2,r38,r39,([]:jR))).bind fun r40 =>
 (Ys r40.1 r40.2.2 r40.2.1).bind fun r41 =>
 ((lp sw zd) (r41,0,r40.1,r40.2.2,r40.2.1,([]:(List (Int×jI))))).bind fun r42 =>
 (sE r42 r40.1 r40.2.2 r40.2.1).bind fun r43 =>
 some (r43.1,r43.2.1,r43.2.2)
def jr (a0:jS) (a1:(List (Int×jI))) (a2:jQ) (a3:jR) (a4:jQ):Option (jQ×jR×Bool×jQ) :=
 (sE a1 a2 a3 a4).bind fun r4 =>
 (YS a0 r4.1 r4.2.1 r4.2.2).bind fun r5 =>
 cond (!r5)
 (some (([]:jQ),([]:jR),false,([]:jQ)))
 ((Kv r4.1 r4.2.1 r4.2.2).bind fun r6 =>
  some (r6.1,r6.2.1,true,r6.2.2))
def wn (s1:Int):List (Int×jI)->Nat->Option (Unit⊕Int)
 | [],_i=>some (aW ())
 | e::es,i =>
  cond (e.1==s1)
  (some (aF (i:Int)))
  (wn s1 es (i+1))
theorem XV (s0:(List (Int×jI))) (s1:Int) (hl:aa s0<=maxLen):lp je zd (s0,s1,0)=wn s1 s0 0:=sV je (fun i=>(s0,s1,i)) (fun es i=>wn s1 es i) hl (fun r i h=>by unfold je wn; simp only[h,cond_false]) (fun r i e es h g w k=>by unfold je wn; simp only[h,cond_true,g,af,w,k])
def yR (s0:(List (Int×jI))):List Int->jI->Option jI
 | [],s3=>some s3
 | e::es,s3 =>
  cond (decide (e<0))
  ((XF s0 (ag .i64 ((-1) - e))).bind fun r18 =>
   cond (decide (r18<0))
   (cond (yb (aa s3+aa ([e]:List Int)) 8)
    (yR s0 es (s3++([e]:List Int)))
    (none))
   ((gx s0 r18).bind fun e20 =>
    cond (yb (aa s3+aa e20.2) 8)
    (yR s0 es (s3++e20.2))
    (none)))
  (cond (yb (aa s3+aa ([e]:List Int)) 8)
   (yR s0 es (s3++([e]:List Int)))
   (none))
theorem Q3 (s0:(List (Int×jI))) (s1:jI) (s3:jI) (hl:aa s1<=maxLen):lp rI zd (s0,s1,0,s3)=yR s0 s1 s3:=xB rI (fun i s3=>(s0,s1,i,s3)) (fun es i s3=>yR s0 es s3) hl (fun r i s3 h=>by unfold rI yR; simp only[h,cond_false]) (fun r i s3 e es h g w k=>by unfold rI yR; simp only[h,cond_true,g,af,w,k]) s3
def q5 (s0:(List (Int×jI))) (s5:jQ) (s6:jR):List zc->jQ->Option (jQ×jR×jQ)
 | [],s7=>some (s5,s6,s7)
 | e::es,s7 =>
  (uA s0 e.2).bind fun r26 =>
  cond (yb (aa s7+aa ([(e.1,r26)]:List zc)) 32)
  (q5 s0 s5 s6 es (s7++([(e.1,r26)]:List zc)))
  (none)
theorem QS (s0:(List (Int×jI))) (s2:jQ) (s3:jR) (s4:jQ) (s5:jQ) (s6:jR) (s7:jQ) (hl:aa s4<=maxLen):lp sD zd (s0,0,s2,s3,s4,s5,s6,s7)=q5 s0 s5 s6 s4 s7:=xB sD (fun i s7=>(s0,i,s2,s3,s4,s5,s6,s7)) (fun es i s7=>q5 s0 s5 s6 es s7) hl (fun r i s7 h=>by unfold sD q5; simp only[h,cond_false]) (fun r i s7 e es h g w k=>by unfold sD q5; simp only[h,cond_true,g,af,w,k]) s7
def q9 (s0:(List (Int×jI))) (s5:jQ):List jI->jR->Option (jQ×jR)
 | [],s6=>some (s5,s6)
 | e::es,s6 =>
  (uA s0 e).bind fun r16 =>
  cond (yb (aa s6+aa ([r16]:List jI)) 24)
  (q9 s0 s5 es (s6++([r16]:List jI)))
  (none)
theorem QI (s0:(List (Int×jI))) (s2:jQ) (s3:jR) (s4:jQ) (s5:jQ) (s6:jR) (hl:aa s3<=maxLen):lp tZ zd (s0,0,s2,s3,s4,s5,s6)=q9 s0 s5 s3 s6:=xB tZ (fun i s6=>(s0,i,s2,s3,s4,s5,s6)) (fun es i s6=>q9 s0 s5 es s6) hl (fun r i s6 h=>by unfold tZ q9; simp only[h,cond_false]) (fun r i s6 e es h g w k=>by unfold tZ q9; simp only[h,cond_true,g,af,w,k]) s6
def qZ (s0:(List (Int×jI))):List zc->jQ->Option jQ
 | [],s5=>some s5
 | e::es,s5 =>
  (uA s0 e.2).bind fun r9 =>
  cond (yb (aa s5+aa ([(e.1,r9)]:List zc)) 32)
  (qZ s0 es (s5++([(e.1,r9)]:List zc)))
  (none)
theorem QQ (s0:(List (Int×jI))) (s2:jQ) (s3:jR) (s4:jQ) (s5:jQ) (hl:aa s2<=maxLen):lp sj zd (s0,0,s2,s3,s4,s5)=qZ s0 s2 s5:=xB sj (fun i s5=>(s0,i,s2,s3,s4,s5)) (fun es i s5=>qZ s0 es s5) hl (fun r i s5 h=>by unfold sj qZ; simp only[h,cond_false]) (fun r i s5 e es h g w k=>by unfold sj qZ; simp only[h,cond_true,g,af,w,k]) s5
def y9 (s0:Int):List Int->(List (Int×jI))->Option ((List (Int×jI))⊕Bool)
 | [],s6=>some (aW s6)
 | e::es,s6 =>
  cond (decide ((ag .i64 (e+s0))>23))
  (some (aF false))
  (cond (yb (aa s6+aa ([(e,([(ag .i64 ((ag .i64 ((-1) - e)) - s0))]:List Int))]:List (Int×jI))) 32)
   (y9 s0 es (s6++([(e,([(ag .i64 ((ag .i64 ((-1) - e)) - s0))]:List Int))]:List (Int×jI))))
   (none))
theorem Yb (s0:Int) (s1:jI) (s3:jQ) (s4:jR) (s5:jQ) (s6:(List (Int×jI))) (hl:aa s1<=maxLen):lp ww zd (s0,s1,0,s3,s4,s5,s6)=y9 s0 s1 s6:=xB ww (fun i s6=>(s0,s1,i,s3,s4,s5,s6)) (fun es i s6=>y9 s0 es s6) hl (fun r i s6 h=>by unfold ww y9; simp only[h,cond_false]) (fun r i s6 e es h g w k=>by unfold ww y9; simp only[h,cond_true,g,af,w,k]) s6
def xO (s1:jI):List Int->Nat->Option (Unit⊕Bool)
 | [],_i=>some (aW ())
 | e::es,i =>
  (gx s1 (i:Int)).bind fun e4 =>
  cond (e != e4)
  (some (aF false))
  (xO s1 es (i+1))
theorem Qt (s0:jI) (s1:jI) (hl:aa s0<=maxLen):lp sd zd (s0,s1,0)=xO s1 s0 0:=sV sd (fun i=>(s0,s1,i)) (fun es i=>xO s1 es i) hl (fun r i h=>by unfold sd xO; simp only[h,cond_false]) (fun r i e es h g w k=>by unfold sd xO; simp only[h,cond_true,g,af,w,k])
def zE (rf:((Int×jI×jR)->Option Bool)) (s0:Int) (s3:jR):List Int->Option (Unit⊕Bool)
 | []=>some (aW ())
 | e::es =>
  cond (decide (e≥0))
  (zE rf s0 s3 es)
  (cond ((ag .i64 ((-1) - e))==s0)
   (some (aF true))
   ((inR (ag .i64 ((-1) - e)) 48).bind fun k10 =>
    (s3[k10]?).bind fun x11 =>
    cond (decide (((aa x11:Nat):Int)>0))
    ((inR (ag .i64 ((-1) - e)) 48).bind fun k12 =>
     (s3[k12]?).bind fun x13 =>
     (rf (s0,x13,s3)).bind fun r14 =>
     cond r14
     (some (aF true))
     (zE rf s0 s3 es))
    (zE rf s0 s3 es)))
theorem kg (rf:((Int×jI×jR)->Option Bool)) (s0:Int) (s1:jI) (s3:jR) (hl:aa s1<=maxLen):lp (xl rf) zd (s0,s1,0,s3)=zE rf s0 s3 s1:=sV (xl rf) (fun i=>(s0,s1,i,s3)) (fun es i=>zE rf s0 s3 es) hl (fun r i h=>by unfold xl zE; simp only[h,cond_false]) (fun r i e es h g w k=>by unfold xl zE; simp only[h,cond_true,g,af,w,k])
def zR (rf:(((jS×jI×jI×jR)->Option (Bool×jR))×((jS×jR×jR×jR)->Option (Bool×jR)))) (s0:jS) (s2:jR):List jI->Nat->jR->Option (jR⊕(Bool×jR))
 | [],_i,s4=>some (aW s4)
 | e::es,i,s4 =>
  (gx s2 (i:Int)).bind fun e8 =>
  (rf.1 (s0,e,e8,s4)).bind fun r9 =>
  cond (!r9.1)
  (some (aF (false,r9.2)))
  (zR rf s0 s2 es (i+1) r9.2)
theorem kj (rf:(((jS×jI×jI×jR)->Option (Bool×jR))×((jS×jR×jR×jR)->Option (Bool×jR)))) (s0:jS) (s1:jR) (s2:jR) (s4:jR) (hl:aa s1<=maxLen):lp (xN rf) zd (s0,s1,s2,0,s4)=zR rf s0 s2 s1 0 s4:=xB (xN rf) (fun i s4=>(s0,s1,s2,i,s4)) (fun es i s4=>zR rf s0 s2 es i s4) hl (fun r i s4 h=>by unfold xN zR; simp only[h,cond_false]) (fun r i s4 e es h g w k=>by unfold xN zR; simp only[h,cond_true,g,af,w,k]) s4
def zC (rf:((jI×jR×jI)->Option jI)) (s2:jR):List Int->jI->Option jI
 | [],s3=>some s3
 | e::es,s3 =>
  cond (decide (((aa s3:Nat):Int)<=48))
  (cond (decide (e<0))
   ((inR (ag .i64 ((-1) - e)) 48).bind fun k21 =>
    (s2[k21]?).bind fun x22 =>
    cond (decide (((aa x22:Nat):Int)>0))
    ((inR (ag .i64 ((-1) - e)) 48).bind fun k24 =>
     (s2[k24]?).bind fun x25 =>
     (rf (x25,s2,s3)).bind fun r26 =>
     zC rf s2 es r26)
    (cond (yb (aa s3+aa ([e]:List Int)) 8)
     (zC rf s2 es (s3++([e]:List Int)))
     (none)))
   (cond (yb (aa s3+aa ([e]:List Int)) 8)
    (zC rf s2 es (s3++([e]:List Int)))
    (none)))
  (some s3)
theorem rG (rf:((jI×jR×jI)->Option jI)) (s0:jI) (s2:jR) (s3:jI) (hl:aa s0<=maxLen):lp (xm rf) zd (s0,0,s2,s3)=zC rf s2 s0 s3:=xB (xm rf) (fun i s3=>(s0,i,s2,s3)) (fun es i s3=>zC rf s2 es s3) hl (fun r i s3 h=>by unfold xm zC; simp only[h,cond_false]) (fun r i s3 e es h g w k=>by unfold xm zC; simp only[h,cond_true,g,af,w,k]) s3
def qv (s0:jQ) (s1:Int) (s4:jQ):List zc->Nat->Bool->Option (Bool×jQ)
 | [],_i,s2=>some (s2,s4)
 | _e::es,i,s2 =>
  cond s2
  (qv s0 s1 s4 es (i+1) true)
  ((inR (i:Int) (aa s4)).bind fun k7 =>
   (s4[k7]?).bind fun x8 =>
   (gx s0 s1).bind fun e9 =>
   (kA x8.1 x8.2 e9.1 e9.2).bind fun r10 =>
   qv s0 s1 s4 es (i+1) r10)
theorem Qp (s0:jQ) (s1:Int) (s4:jQ) (s2:Bool) (hl:aa s4<=maxLen):lp uR zd (s0,s1,s2,0,s4)=qv s0 s1 s4 s4 0 s2:=xB uR (fun i s2=>(s0,s1,s2,i,s4)) (fun es i s2=>qv s0 s1 s4 es i s2) hl (fun r i s2 h=>by unfold uR qv; simp only[h,cond_false]) (fun r i s2 e es h _ w k=>by unfold uR qv; simp only[h,cond_true,w,k]) s2
def xa (s0:jQ):List zc->Nat->jQ->Option jQ
 | [],_i,s2=>some s2
 | e::es,i,s2 =>
  ((lp uR zd) (s0,(i:Int),false,0,s2)).bind fun r13 =>
  cond (!r13.1)
  (cond (yb (aa r13.2+aa ([(e.1,e.2)]:List zc)) 32)
   (xa s0 es (i+1) (r13.2++([(e.1,e.2)]:List zc)))
   (none))
  (xa s0 es (i+1) r13.2)
theorem QL (s0:jQ) (s2:jQ) (hl:aa s0<=maxLen):lp t7 zd (s0,0,s2)=xa s0 s0 0 s2:=xB t7 (fun i s2=>(s0,i,s2)) (fun es i s2=>xa s0 es i s2) hl (fun r i s2 h=>by unfold t7 xa; simp only[h,cond_false]) (fun r i s2 e es h g w k=>by unfold t7 xa; simp only[h,cond_true,g,af,w,k]) s2
def qw (s0:Int) (s4:jR) (s6:jQ) (s7:jQ) (s8:jR):List jI->Nat->Bool->Option (Bool×jQ×jQ×jR)
 | [],_i,s1=>some (s1,s6,s7,s8)
 | _e::es,i,s1 =>
  cond s1
  (qw s0 s4 s6 s7 s8 es (i+1) true)
  ((inR (i:Int) (aa s8)).bind fun k9 =>
   (s8[k9]?).bind fun x10 =>
   (gx s4 s0).bind fun e11 =>
   (th x10 e11).bind fun r12 =>
   qw s0 s4 s6 s7 s8 es (i+1) r12)
theorem Qr (s0:Int) (s3:jQ) (s4:jR) (s5:jQ) (s6:jQ) (s7:jQ) (s8:jR) (s1:Bool) (hl:aa s8<=maxLen):lp uT zd (s0,s1,0,s3,s4,s5,s6,s7,s8)=qw s0 s4 s6 s7 s8 s8 0 s1:=xB uT (fun i s1=>(s0,s1,i,s3,s4,s5,s6,s7,s8)) (fun es i s1=>qw s0 s4 s6 s7 s8 es i s1) hl (fun r i s1 h=>by unfold uT qw; simp only[h,cond_false]) (fun r i s1 e es h _ w k=>by unfold uT qw; simp only[h,cond_true,w,k]) s1
def xJ (s0:jR) (s2:jQ) (s3:jR) (s4:jQ):List jI->Nat->(List (Int×jI))->Option (List (Int×jI))
 | [],_i,s5=>some s5
 | _e::es,i,s5 =>
  ((lp vO zd) (s0,(i:Int),0,s2,s3,s4,s5)).bind fun r35 =>
  xJ s0 s2 s3 s4 es (i+1) r35
theorem QJ (s0:jR) (s2:jQ) (s3:jR) (s4:jQ) (s5:(List (Int×jI))) (hl:aa s0<=maxLen):lp sw zd (s0,0,s2,s3,s4,s5)=xJ s0 s2 s3 s4 s0 0 s5:=xB sw (fun i s5=>(s0,i,s2,s3,s4,s5)) (fun es i s5=>xJ s0 s2 s3 s4 es i s5) hl (fun r i s5 h=>by unfold sw xJ; simp only[h,cond_false]) (fun r i s5 e es h _ w k=>by unfold sw xJ; simp only[h,cond_true,w,k]) s5
def qW (s1:jQ) (s2:jR) (s3:jQ):List jI->Nat->jQ->jQ->jR->Option (jQ×jQ×jR)
 | [],_i,s4,s5,s6=>some (s4,s5,s6)
 | e::es,i,s4,s5,s6 =>
  ((lp uT zd) ((i:Int),false,0,s1,s2,s3,s4,s5,s6)).bind fun r17 =>
  cond (!r17.1)
  (cond (yb (aa r17.2.2.2+aa ([e]:List jI)) 24)
   (qW s1 s2 s3 es (i+1) r17.2.1 r17.2.2.1 (r17.2.2.2++([e]:List jI)))
   (none))
  (qW s1 s2 s3 es (i+1) r17.2.1 r17.2.2.1 r17.2.2.2)
theorem QG (s1:jQ) (s2:jR) (s3:jQ) (s4:jQ) (s5:jQ) (s6:jR) (hl:aa s2<=maxLen):lp sx zd (0,s1,s2,s3,s4,s5,s6)=qW s1 s2 s3 s2 0 s4 s5 s6:=Nj sx (fun i s4 s5 s6=>(i,s1,s2,s3,s4,s5,s6)) (fun es i s4 s5 s6=>qW s1 s2 s3 es i s4 s5 s6) hl (fun r i s4 s5 s6 h=>by unfold sx qW; simp only[h,cond_false]) (fun r i s4 s5 s6 e es h g w k=>by unfold sx qW; simp only[h,cond_true,g,af,w,k]) s4 s5 s6
theorem Ar (b:List Int):(es:List Int)->(i:Nat)->i+es.length=b.length->xO b es i=some (cond (decide (es=b.drop i)) (.inl ()) (.inr false))
 | [],i,h=>by
  rw[List.drop_of_length_le (by simp at h; omega)]
  rfl
 | e::es,i,h=>by
  simp only[ak] at h;obtain⟨x,hx⟩:∃ x,b[i]? = some x:=⟨_,am (by omega)⟩
  have hd:b.drop i=x::b.drop (i+1):=by
   have h1:=(au.1 hx).1;rw[aY h1];rw[(au.1 hx).2]
  unfold xO;rw[yE,hx,af,Ar b es (i+1) (by omega),hd]
  by_cases he:e=x
  ·subst he;rw[show (e != e)=false from by simp,cond_false]
   simp
  ·rw[show (e != x)=true from by simp [he],cond_true]
   simp [he]
theorem Xc {a b:List Int} (h:a.length<=1000000):th a b=some (decide (a=b)):=by
 unfold th;by_cases hl:a.length=b.length
 ·rw[show (((aa a:Nat):Int) != ((aa b:Nat):Int))=false from by simp [hl],cond_false,Qt _ _ (by unfold maxLen; omega),Ar b a 0 (by omega),af,bP]
  cases decide (a=b)<;>rfl
 ·rw[show (((aa a:Nat):Int) != ((aa b:Nat):Int))=true from by simp; omega,cond_true]
  have:a≠b:=fun e=>hl (by rw[e])
  simp [this]
def Tc (o:Option Tm):List Int:=match o with
 | none=>[]
 | some t=>t.codes
structure RepW (a0:List zh) (w:List jI) (B:Bd):Prop where
 len:w.length=48
 at_:∀ x,x<48->w[x]? = some (Tc (B x))
 ok:∀ x t,B x=some t->x<24∧t.ok a0 24∧t.codes.length<=48
theorem RepW.small {a0:List zh} {w:List jI} {B:Bd} (h:RepW a0 w B):WA B:=fun x t ht=>by
 obtain⟨h1,h2,h3⟩:=h.ok x t ht;rw[Tm.codes_len] at h3;exact ⟨by omega,h3⟩
theorem RepW.set {a0:List zh} {w:List jI} {B:Bd} (h:RepW a0 w B) {x:Nat} (hx:x<24) {t:Tm} (ht:t.ok a0 24) (hl:t.codes.length<=48):RepW a0 (w.set x t.codes) (M3 B x t) where
 len:=by rw[bX]; exact h.len
 at_:=fun y hy=>by
  have:=h.len;by_cases he:y=x
  ·subst he;rw[bH (by omega),su]
   rfl
  ·rw[cd (dN he),j3 _ _ he];exact h.at_ y hy
 ok:=fun y u hy=>by
  by_cases he:y=x
  ·subst he;rw[su] at hy;injection hy with hy;subst hy;exact ⟨hx,ht,hl⟩
  ·rw[j3 _ _ he] at hy;exact h.ok y u hy
theorem vq (t:Tm):0<t.codes.length:=by rw[Tm.codes_len]; exact t.size_pos
section
variable {a0:List zh} {w:List jI} {B:Bd} {σ:Sb} (hT:RepW a0 w B) (hG:Good B σ)
include hT hG
theorem Or:∀(m k:Nat) (t:Tm),Qc t<=m->m<=k->t.ok a0 24->t.codes.length<=48 ->
  ∃ u:Tm,lp vJ k (t.codes,w)=some u.codes∧u.ok a0 24∧u.codes.length<=48∧(∀ θ,SolB θ B->t.sub θ=u.sub θ)∧∀ y,u = .v y->B y=none:=by
 intro m
 induction m with
 | zero=>intro k t hm; cases t<;>simp [Qc] at hm
 | succ m ih =>
  intro k t hm hk ho hl;obtain⟨k,rfl⟩:∃ k',k=k'+1:=⟨k - 1,by omega⟩
  rw[zx];have key:=fun t (h1:Qc t<=m) h2 h3=>ih k t h1 (by omega) h2 h3
  generalize lp vJ k=rec at key ⊢;unfold vJ;cases t with
  | v x =>
   have hx:x<24:=ho;have hc:(Tm.v x).codes=[-1 - (x:Int)]:=rfl;have w1:ag .i64 ((-1) - (-1 - (x:Int)))=(x:Int):=by rw[zn]<;>omega
   rw[hc];simp only[ak,bc,yh,aB,af,w1];rw[show ((((0+1:Nat):Int))==1)=true from rfl,cond_true,decide_eq_true (show -1 - (x:Int)<0 by omega),cond_true,zO (show x<48 by omega),af,hT.at_ x (by omega),af]
   cases hb:B x with
   | none =>
    refine ⟨.v x,rfl,ho,hl,fun θ _=>rfl,fun y hy=>by injection hy with hy; rw[← hy]; exact hb⟩
   | some u =>
    obtain⟨-,h2,h3⟩:=hT.ok x u hb;have hp:=vq u;show ∃ u1,(cond (decide (((aa u.codes:Nat):Int)>0)) _ _)=_∧_;rw[decide_eq_true (show ((aa u.codes:Nat):Int)>0 by omega),cond_true]
    obtain⟨u',g1,g2,g3,g4,g5⟩:=key u (by
     cases u with
     | v y=>have:=hG.down _ y hb; simp only[Qc] at hm ⊢; omega
     | f c as=>simp only[Qc] at hm ⊢; omega) h2 h3
    refine ⟨u',?_,g2,g3,fun θ hθ=>(hθ _ u hb).trans (g4 θ hθ),g5⟩;show (w[x]?).bind _=_;rw[hT.at_ x (by omega),hb]
    exact g1
  | f c as =>
   refine ⟨.f c as,?_,ho,hl,fun θ _=>rfl,fun y hy=>by cases hy⟩
   have hc:(Tm.f c as).codes=(c:Int)::za as:=rfl;rw[hc];simp only[yh,aB,af];rw[decide_eq_false (show ¬(c:Int)<0 by omega),cond_false]
   cases (((aa ((c:Int)::za as):Nat):Int)==1)<;>rfl
theorem G5 {t:Tm} (ho:t.ok a0 24) (hl:t.codes.length<=48) :
  ∃ u:Tm,u7 t.codes w=some u.codes∧u.ok a0 24∧u.codes.length<=48∧(∀ θ,SolB θ B->t.sub θ=u.sub θ)∧∀ y,u = .v y->B y=none:=by
 obtain⟨u,h1,h2⟩:=Or hT hG (Qc t) zd t (aE _) (by
  cases t with
  | v x=>have:x<24:=ho; simp only[Qc]; unfold zd; omega
  | f c as=>simp only[Qc]; unfold zd; omega) ho hl
 refine ⟨u,?_,h2⟩;unfold u7;rw[h1];rfl
theorem Cg {v:Nat} (hv0:B v=none):∀(k m:Nat) (es:List Int),(∀ c∈es,-24<=c)->es.length<=1000->(∀ c∈es,c<0->B (-1 - c).toNat≠none->Good.rank σ (-1 - c).toNat<m)->m<k ->
  ∃ b,xK k ((v:Int),es,w)=some b∧(b=true↔∃ c∈es,c<0∧(σ (-1 - c).toNat).has v):=by
 intro k
 induction k with
 | zero=>intro m es _ _ _ h; omega
 | succ k ih =>
  intro m es hc hl hr hm;show ∃ b,uG (xK k) (v:Int) es w=some b∧_;unfold uG;rw[kg _ _ _ _ (by unfold maxLen; omega)]
  have go:∀ es:List Int,(∀ c∈es,-24<=c)->(∀ c∈es,c<0->B (-1 - c).toNat≠none->Good.rank σ (-1 - c).toNat<m) ->
    ∃ b,zE (xK k) (v:Int) w es=some (cond b (.inr true) (.inl ()))∧(b=true↔∃ c∈es,c<0∧(σ (-1 - c).toNat).has v):=by
   intro es
   induction es with
   | nil=>intro _ _; exact ⟨false,rfl,by simp⟩
   | cons e es ihe =>
    intro hc hr;obtain⟨b,g1,g2⟩:=ihe (fun c h=>hc c (ai _ h)) fun c h=>hr c (ai _ h);have he:=hc e (aj ..);unfold zE;by_cases h0:e≥0
    ·rw[decide_eq_true h0,cond_true];refine ⟨b,g1,g2.trans ?_⟩;constructor
     ·rintro⟨c,h1,h2⟩; exact ⟨c,ai _ h1,h2⟩
     ·rintro⟨c,h1,h2,h3⟩;rcases aC.1 h1 with rfl | h1
      ·omega
      ·exact ⟨c,h1,h2,h3⟩
    ·rw[decide_eq_false h0,cond_false];obtain⟨u,rfl⟩:∃ u:Nat,e = -1 - (u:Int):=⟨(-1 - e).toNat,by omega⟩
     have hu:u<24:=by omega
     have hn:(-1 - (-1 - (u:Int))).toNat=u:=by omega
     have w1:ag .i64 ((-1) - (-1 - (u:Int)))=(u:Int):=by rw[zn]<;>omega
     rw[w1];by_cases huv:u=v
     ·subst huv;rw[show (((u:Nat):Int)==((u:Nat):Int))=true from by simp,cond_true]
      exact ⟨true,rfl,⟨fun _=>⟨_,aj ..,by omega,by rw[hn,hG.free _ hv0]; rfl⟩,fun _=>rfl⟩⟩
     ·rw[show (((u:Nat):Int)==((v:Nat):Int))=false from by simp; omega,cond_false]
      simp only[zO (show u<48 by omega),af,hT.at_ u (by omega)]
      cases hb:B u with
      | none =>
       show ∃ b,(cond (decide (((aa ([]:List Int):Nat):Int)>0)) _ _)=_∧_;refine ⟨b,g1,g2.trans ?_⟩;constructor
       ·rintro⟨c,h1,h2⟩; exact ⟨c,ai _ h1,h2⟩
       ·rintro⟨c,h1,h2,h3⟩;rcases aC.1 h1 with rfl | h1
        ·rw[hn,hG.free _ hb] at h3;have h3:u=v:=h3;exact absurd h3 huv
        ·exact ⟨c,h1,h2,h3⟩
      | some t =>
       obtain⟨-,h2,h3⟩:=hT.ok u t hb;have hp:=vq t;show ∃ b,(cond (decide (((aa t.codes:Nat):Int)>0)) _ _)=_∧_;rw[decide_eq_true (show ((aa t.codes:Nat):Int)>0 by omega),cond_true]
       have hcodes:∀ c∈t.codes,-24<=c∧(c<0->t.has (-1 - c).toNat):=fun c hcm=>by
        have h1:c∈za [t]:=by simp [za,hcm]
        by_cases hc0:c<0
        ·have h4:=(rp hc0 [t]).1 h1;have h5:t.has (-1 - c).toNat:=by rcases h4 with h4 | h4; exact h4; exact absurd h4 (by simp [jE])
         have h6:=Tm.ok_has t h2 h5;exact ⟨by omega,fun _=>h5⟩
        ·exact ⟨by omega,fun h=>absurd h hc0⟩
       obtain⟨b1,k1,k2⟩:=ih (Good.rank σ u) t.codes (fun c h=>(hcodes c h).1) (by omega) (fun c hcm h0 _=>hG.rank_lt hb ((hcodes c hcm).2 h0) (by have:=(hcodes c hcm).1; omega)) (by
        have:=hr _ (aj ..) (by omega) (by rw[hn,hb]; simp)
        rw[hn] at this;omega)
       have k1:xK k ((v:Int),Tc (some t),w)=some b1:=k1;rw[k1,af];have hb1:b1=true↔(σ u).has v:=by
        rw[k2,hG.bound u t hb,Tm.has_sub];constructor
        ·rintro⟨c,h4,h5,h6⟩;exact ⟨_,(hcodes c h4).2 h5,h6⟩
        ·rintro⟨y,h4,h5⟩;refine ⟨-1 - (y:Int),?_,by omega,by rw[show (-1 - (-1 - (y:Int))).toNat=y by omega]; exact h5⟩
         have:=(rp (c := -1 - (y:Int)) (by omega) [t]).2 (by rw[show (-1 - (-1 - (y:Int))).toNat=y by omega]; exact .inl h4)
         simpa[za] using this
       cases b1 with
       | true =>
        refine ⟨true,rfl,⟨fun _=>⟨_,aj ..,by omega,?_⟩,fun _=>rfl⟩⟩
        rw[hn];exact hb1.1 rfl
       | false =>
        refine ⟨b,g1,g2.trans ?_⟩;constructor
        ·rintro⟨c,h1,h2⟩; exact ⟨c,ai _ h1,h2⟩
        ·rintro⟨c,h1,h2,h3⟩;rcases aC.1 h1 with rfl | h1
         ·rw[hn] at h3;exact absurd (hb1.2 h3) (by simp)
         ·exact ⟨c,h1,h2,h3⟩
  obtain⟨b,g1,g2⟩:=go es hc hr;rw[g1,af];exact ⟨b,by cases b<;>rfl,g2⟩
end
structure Qf (out E r:List Int):Prop where
 fits:out.length+E.length<=48->r=out++E
 over:48<out.length+E.length->48<r.length
 len:r.length<=max out.length 49
theorem Qf.step {out E1 E2 r1 r:List Int} (h:Qf out E1 r1) (h':Qf r1 E2 r):Qf out (E1++E2) r where
 fits:=fun hl=>by
  rw[al] at hl;have e:=h.fits (by omega)
  have e2:=h'.fits (by rw[e,al]; omega)
  rw[e2,e,aU]
 over:=fun hl=>by
  rw[al] at hl;by_cases h1:out.length+E1.length<=48
  ·have e:=h.fits h1;refine h'.over ?_;rw[e,al]; omega
  ·exact h'.over (by have:=h.over (by omega); omega)
 len:=by have:=h.len; have:=h'.len; omega
theorem Qf.full {out E:List Int} (h:48<out.length):Qf out E out:=⟨fun hl=>by omega,fun _=>h,by omega⟩
theorem Qf.one {out:List Int} (c:Int) (h:out.length<=48):Qf out [c] (out++[c]):=⟨fun _=>rfl,fun hl=>by rw[al]; exact hl,by rw[al]; simp; omega⟩
theorem Qf.nil (out:List Int):Qf out [] out:=⟨fun _=>by simp,fun h=>by simpa using h,by omega⟩
theorem jv {a0:List zh} {t:Tm} (ho:t.ok a0 24):∀ c∈t.codes,-24<=c∧(c<0->t.has (-1 - c).toNat):=fun c hcm=>by
 by_cases hc0:c<0
 ·have h5:=(Tm.mem_codes hc0 t).1 hcm;have h6:=Tm.ok_has t ho h5;exact ⟨by omega,fun _=>h5⟩
 ·exact ⟨by omega,fun h=>absurd h hc0⟩
section
variable {a0:List zh} {w:List jI} {B:Bd} {σ:Sb} (hT:RepW a0 w B) (hG:Good B σ)
include hT hG
theorem Ot:∀(k m:Nat) (es out:List Int),(∀ c∈es,-24<=c)->es.length<=1000->(∀ c∈es,c<0->B (-1 - c).toNat≠none->Good.rank σ (-1 - c).toNat<m)->m<k->out.length<=1000 ->
  ∃ r,qF k (es,w,out)=some r∧Qf out (es.flatMap (j5 σ)) r:=by
 intro k
 induction k with
 | zero=>intro m es out _ _ _ h; omega
 | succ k ih =>
  intro m es out hc hl hr hm ho;show ∃ r,uJ (qF k) es w out=some r∧_;unfold uJ;rw[rG _ _ _ _ (by unfold maxLen; omega)]
  have go:∀(es out:List Int),(∀ c∈es,-24<=c)->(∀ c∈es,c<0->B (-1 - c).toNat≠none->Good.rank σ (-1 - c).toNat<m)->out.length<=1000 ->
    ∃ r,zC (qF k) w es out=some r∧Qf out (es.flatMap (j5 σ)) r:=by
   intro es
   induction es with
   | nil=>intro out _ _ _; exact ⟨out,rfl,Qf.nil out⟩
   | cons e es ihe =>
    intro out hc hr ho;have ihe:=fun out ho=>ihe out (fun c h=>hc c (ai _ h)) (fun c h=>hr c (ai _ h)) ho;have he:=hc e (aj ..);unfold zC;by_cases h48:out.length<=48
    ·rw[decide_eq_true (show ((aa out:Nat):Int)<=48 by omega),cond_true,bt]
     have plain:j5 σ e=[e]->∃ r,(cond (yb (aa out+aa ([e]:List Int)) 8) (zC (qF k) w es (out++([e]:List Int))) none)=some r∧Qf out (j5 σ e++es.flatMap (j5 σ)) r:=fun hx=>by
      obtain⟨r,g1,g2⟩:=ihe (out++[e]) (by simp; omega)
      rw[zm (by simp; omega),cond_true,g1,hx]
      exact ⟨r,rfl,(Qf.one e h48).step g2⟩
     by_cases h0:e<0
     ·rw[decide_eq_true h0,cond_true];obtain⟨u,rfl⟩:∃ u:Nat,e = -1 - (u:Int):=⟨(-1 - e).toNat,by omega⟩
      have hu:u<24:=by omega
      have hn:(-1 - (-1 - (u:Int))).toNat=u:=by omega
      have w1:ag .i64 ((-1) - (-1 - (u:Int)))=(u:Int):=by rw[zn]<;>omega
      rw[w1];simp only[zO (show u<48 by omega),af,hT.at_ u (by omega)]
      cases hb:B u with
      | none =>
       show ∃ r,(cond (decide (((aa ([]:List Int):Nat):Int)>0)) _ _)=_∧_;refine plain ?_;unfold j5;rw[if_pos h0,hn,hG.free u hb];rfl
      | some t =>
       obtain⟨-,h2,h3⟩:=hT.ok u t hb;have hp:=vq t;show ∃ r,(cond (decide (((aa t.codes:Nat):Int)>0)) _ _)=_∧_;rw[decide_eq_true (show ((aa t.codes:Nat):Int)>0 by omega),cond_true]
       have hcodes:=jv h2;obtain⟨r1,k1,k2⟩:=ih (Good.rank σ u) t.codes out (fun c h=>(hcodes c h).1) (by omega) (fun c hcm h0 _=>hG.rank_lt hb ((hcodes c hcm).2 h0) (by have:=(hcodes c hcm).1; omega)) (by
        have:=hr _ (aj ..) (by omega) (by rw[hn,hb]; simp)
        rw[hn] at this;omega) ho
       have k1:qF k (Tc (some t),w,out)=some r1:=k1;rw[k1,af];obtain⟨r,g1,g2⟩:=ihe r1 (by have:=k2.len; omega)
       refine ⟨r,g1,Qf.step (r1:=r1) ?_ g2⟩;have:j5 σ (-1 - (u:Int))=t.codes.flatMap (j5 σ):=by
        unfold j5;rw[if_pos h0,hn,hG.bound u t hb,Tm.codes_sub];rfl
       rw[this];exact k2
     ·rw[decide_eq_false h0,cond_false];refine plain ?_;unfold j5;rw[if_neg h0]
    ·rw[decide_eq_false (show ¬((aa out:Nat):Int)<=48 by omega),cond_false]
     exact ⟨out,rfl,Qf.full (by omega)⟩
  obtain⟨r,g1,g2⟩:=go es out hc hr ho;rw[g1,af];exact ⟨r,rfl,g2⟩
theorem ME {t:Tm} (ho:t.ok a0 24) (hl:t.codes.length<=48):∃ r,tH t.codes w []=some r∧Qf [] (t.sub σ).codes r:=by
 rw[Tm.codes_sub];refine Ot hT hG zd 100 t.codes [] (fun c h=>(jv ho c h).1) (by omega) (fun c _ _ _ => ?_) (by unfold zd; omega) (by simp)
 have:=Good.rank_le σ (-1 - c).toNat;omega
theorem BH {v:Nat} (hv0:B v=none) {t:Tm} (ho:t.ok a0 24) (hl:t.codes.length<=48):∃ b,jm (v:Int) t.codes w=some b∧(b=true↔(t.sub σ).has v):=by
 obtain⟨b,h1,h2⟩:=Cg hT hG hv0 zd 100 t.codes (fun c h=>(jv ho c h).1) (by omega) (fun c _ _ _=>by have:=Good.rank_le σ (-1 - c).toNat; omega) (by unfold zd; omega)
 refine ⟨b,h1,h2.trans ?_⟩;rw[Tm.has_sub];constructor
 ·rintro⟨c,h4,h5,h6⟩;exact ⟨_,(jv ho c h4).2 h5,h6⟩
 ·rintro⟨y,h4,h5⟩;refine ⟨-1 - (y:Int),(Tm.mem_codes (by omega) t).2 (by rw[show (-1 - (-1 - (y:Int))).toNat=y by omega]; exact h4),by omega,by rw[show (-1 - (-1 - (y:Int))).toNat=y by omega]; exact h5⟩
end
structure OutW (a0:List zh) (B:Bd) (E:List (Tm×Tm)) (r:Bool×List jI):Prop where
 yes:r.1=true->∃ B' σ',RepW a0 r.2 B'∧Good B' σ'∧∀ θ,SolB θ B'↔SolB θ B∧Sol θ E
 no:r.1=false->∀ θ,SolB θ B->Sol θ E->False
theorem tG {θ:Sb} {t u:Tm}:Sol θ [(t,u)]↔t.sub θ=u.sub θ:=by simp [Sol]
theorem Js {a0:List zh} {w:List jI} {B:Bd} {σ:Sb} (hT:RepW a0 w B) (hG:Good B σ) {x:Nat} (hx:x<24) (hb:B x=none) {c:Nat} {as:List Tm} (ho:(Tm.f c as).ok a0 24) (hl:(Tm.f c as).codes.length<=48) :
  ∃ r,zz [-1 - (x:Int)] (Tm.f c as).codes false w=some r∧OutW a0 B [(.v x,.f c as)] r:=by
 unfold zz;have w1:ag .i64 ((-1) - (-1 - (x:Int)))=(x:Int):=by rw[zn]<;>omega
 simp only[yh,aB,af,cond_false,w1];obtain⟨b,h1,h2⟩:=BH hT hG hb ho hl;rw[h1,af];cases b with
 | true =>
  refine ⟨_,rfl,⟨fun h=>(nomatch h),fun _ θ h3 h4=>hG.occurs (h2.1 rfl) h3 (tG.1 h4)⟩⟩
 | false =>
  simp only[cond_false,zO (show x<48 by omega),af,hT.at_ x (by omega)]
  have hn:¬((Tm.f c as).sub σ).has x:=fun h=>by have:=h2.2 h; cases this
  refine ⟨_,rfl,⟨fun _=>⟨_,_,hT.set hx ho hl,hG.bind hb hn (fun y hy=>by cases hy),fun θ => ?_⟩,fun h=>(nomatch h)⟩⟩
  rw[SolB.upd hb,tG];rfl
theorem GR {a0:List zh} {w:List jI} {B:Bd} {σ:Sb} (hT:RepW a0 w B) (hG:Good B σ) {x y:Nat} (hx:x<24) (hy:y<x) (hbx:B x=none) (hby:B y=none) :
  ∃ r,zz [-1 - (y:Int)] [-1 - (x:Int)] true w=some r∧OutW a0 B [(.v x,.v y)] r:=by
 unfold zz;have w1:ag .i64 ((-1) - (-1 - (x:Int)))=(x:Int):=by rw[zn]<;>omega
 simp only[yh,aB,af,cond_true,w1,zO (show x<48 by omega),hT.at_ x (by omega)]
 have hn:¬((Tm.v y).sub σ).has x:=by
  show ¬(σ y).has x;rw[hG.free y hby];intro h;have h:y=x:=h;omega
 have hset:RepW a0 (w.set x (Tm.v y).codes) (M3 B x (.v y)):=hT.set hx (show y<24 by omega) (by show 1<=48; omega)
 refine ⟨_,rfl,⟨fun _=>⟨_,_,hset,hG.bind hbx hn (fun z hz=>by injection hz with hz; omega),fun θ => ?_⟩,fun h=>(nomatch h)⟩⟩
 rw[SolB.upd hbx,tG];rfl
theorem OutW.via {a0:List zh} {B:Bd} {E E':List (Tm×Tm)} {r:Bool×List jI} (h:OutW a0 B E r) (he:∀ θ,SolB θ B->(Sol θ E↔Sol θ E')):OutW a0 B E' r where
 yes:=fun hr=>by
  obtain⟨B',σ',h1,h2,h3⟩:=h.yes hr;exact ⟨B',σ',h1,h2,fun θ=>(h3 θ).trans ⟨fun ⟨a,b⟩=>⟨a,(he θ a).1 b⟩,fun ⟨a,b⟩=>⟨a,(he θ a).2 b⟩⟩⟩
 no:=fun hr θ h1 h2=>h.no hr θ h1 ((he θ h1).2 h2)
def Dep (R:List Tm) (B:Bd) (δ:Nat) (t:Tm):Prop:=∀ θ,SolB θ B->∃ c∈R,δ+(t.sub θ).ht<=(c.sub θ).ht
theorem Dep.mono {R:List Tm} {B B':Bd} {δ:Nat} {t:Tm} (h:Dep R B δ t) (hB:∀ θ,SolB θ B'->SolB θ B):Dep R B' δ t:=fun θ hθ=>h θ (hB θ hθ)
theorem Dep.lt {R:List Tm} {B:Bd} {σ:Sb} {δ:Nat} {t:Tm} (h:Dep R B δ t) (hG:Good B σ) (hS:WA B) (hR:∀ c∈R,c.size<=48):δ<2500:=by
 obtain⟨c,hc,h1⟩:=h σ hG.bound;have h2:=Tm.ht_sub (s:=σ) (M:=49*49) c fun x _=>hG.low hS x;have h3:=c.ht_size;have h4:=hR c hc;have h5:=zah (t.sub σ);omega
theorem If {a0:List zh} {t u:Tm} (ht:t.ok a0 24) (hu:u.ok a0 24) (h:t.codes=u.codes):t=u:=by
 have:=uj (a0:=a0) _ [t] [u] (aE _) ⟨ht,trivial⟩ ⟨hu,trivial⟩ (by simp [za,h])
 injection this
def Sm (a0:List zh) (t:Tm):Prop:=t.ok a0 24∧t.codes.length<=48
def EU (a0:List zh) (R:List Tm) (k:Nat):Prop:=∀(δ:Nat) (w:List jI) (B:Bd) (σ:Sb) (t u:Tm),RepW a0 w B->Good B σ->Sm a0 t->Sm a0 u->Dep R B δ t->2*(2600 - δ)<=k ->
 ∃ r,(yG k).1 (a0,t.codes,u.codes,w)=some r∧OutW a0 B [(t,u)] r
def SY (a0:List zh) (R:List Tm) (k:Nat):Prop:=∀(δ:Nat) (w:List jI) (B:Bd) (σ:Sb) (ts us:List Tm),RepW a0 w B->Good B σ->(∀ t∈ts,Sm a0 t)->(∀ t∈us,Sm a0 t)->ts.length=us.length->ts.length<=1000->(∀ t∈ts,Dep R B δ t)->2*(2600 - δ)+1<=k ->
 ∃ r,(yG k).2 (a0,ts.map Tm.codes,us.map Tm.codes,w)=some r∧OutW a0 B (ts.zip us) r
theorem M0 {a0:List zh} {R:List Tm} {k:Nat} (hp:EU a0 R k):SY a0 R (k+1):=by
 intro δ w B σ ts us hT hG hts hus hl hlen hd hk;show ∃ r,tm (yG k) a0 (ts.map Tm.codes) (us.map Tm.codes) w=some r∧_;unfold tm;rw[kj _ _ _ _ _ (by rw[aL]; unfold maxLen; omega)]
 have go:∀(ts vs:List Tm) (i:Nat) (w:List jI) (B:Bd) (σ:Sb),RepW a0 w B->Good B σ->us.drop i=vs->(∀ t∈ts,Sm a0 t)->ts.length=vs.length->(∀ t∈ts,Dep R B δ t) ->
   (∃ w',zR (yG k) a0 (us.map Tm.codes) (ts.map Tm.codes) i w=some (.inl w')∧OutW a0 B (ts.zip vs) (true,w')) ∨
   (∃ w',zR (yG k) a0 (us.map Tm.codes) (ts.map Tm.codes) i w=some (.inr (false,w'))∧OutW a0 B (ts.zip vs) (false,w')):=by
  intro ts
  induction ts with
  | nil =>
   intro vs i w B σ hT hG hdr _ hl _;exact .inl ⟨w,rfl,⟨fun _=>⟨B,σ,hT,hG,fun θ=>⟨fun h=>⟨h,Sol.nil⟩,fun h=>h.1⟩⟩,fun h=>(nomatch h)⟩⟩
  | cons t ts ih =>
   intro vs i w B σ hT hG hdr hts hl hd;cases vs with
   | nil=>simp at hl
   | cons v vs =>
    have hgv:us[i]? = some v:=zr hdr;have hvm:v∈us:=aP hgv;obtain⟨r,h1,h2⟩:=hp δ w B σ t v hT hG (hts t (aj ..)) (hus v hvm) (hd t (aj ..)) (by omega)
    rw[aN];unfold zR;rw[yE,br,hgv];simp only[bx,af];rw[h1,af];obtain⟨b,w1⟩:=r;cases b with
    | false =>
     refine .inr ⟨w1,rfl,⟨fun h=>(nomatch h),fun _ θ h3 h4=>h2.no rfl θ h3 ?_⟩⟩;rw[ec,Sol.cons] at h4;exact tG.2 h4.1
    | true =>
     obtain⟨B',σ',g1,g2,g3⟩:=h2.yes rfl;have comb:∀{r2:Bool×List jI},OutW a0 B' (ts.zip vs) r2->OutW a0 B ((t::ts).zip (v::vs)) r2:=fun {r2} h=>by
      rw[ec];refine ⟨fun hr => ?_,fun hr θ h3 h4 => ?_⟩
      ·obtain⟨B2,σ2,k1,k2,k3⟩:=h.yes hr;refine ⟨B2,σ2,k1,k2,fun θ => ?_⟩;rw[k3,g3,tG,and_assoc,Sol.cons (p:=(t,v)) (E:=ts.zip vs)]
      ·rw[Sol.cons] at h4;exact h.no hr θ ((g3 θ).2 ⟨h3,tG.2 h4.1⟩) h4.2
     rcases ih vs (i+1) w1 B' σ' g1 g2 (zj hdr) (fun t h=>hts t (ai _ h)) (by simpa using hl) (fun t h=>(hd t (ai _ h)).mono fun θ hθ=>((g3 θ).1 hθ).1) with ⟨w',q1,q2⟩ | ⟨w',q1,q2⟩
     ·exact .inl ⟨w',q1,comb q2⟩
     ·exact .inr ⟨w',q1,comb q2⟩
 rcases go ts us 0 w B σ hT hG rfl hts hl hd with ⟨w',h1,h2⟩ | ⟨w',h1,h2⟩
 ·rw[h1]; exact ⟨_,rfl,h2⟩
 ·rw[h1]; exact ⟨_,rfl,h2⟩
theorem Hu {a0:List zh} (hs:SignOk a0) {R:List Tm} (hR:∀ c∈R,c.size<=48) {k:Nat} (ha:SY a0 R k):EU a0 R (k+1):=by
 intro δ w B σ t u hT hG ht hu hd hk;show ∃ r,vf (yG k) a0 t.codes u.codes w=some r∧_;obtain⟨t1,a1,a2,a3,a4,a5⟩:=G5 hT hG ht.1 ht.2;obtain⟨u1,b1,b2,b3,b4,b5⟩:=G5 hT hG hu.1 hu.2
 -- it is enough to speak of these
 suffices h:∃ r,vf (yG k) a0 t.codes u.codes w=some r∧OutW a0 B [(t1,u1)] r by
  obtain⟨r,h1,h2⟩:=h;exact ⟨r,h1,h2.via fun θ hθ=>by rw[tG,tG,a4 θ hθ,b4 θ hθ]⟩
 have eta:∀{o:Option (Bool×List jI)} {E:List (Tm×Tm)},(∃ r,o=some r∧OutW a0 B E r)->∃ r,(o.bind fun r=>some (r.1,r.2))=some r∧OutW a0 B E r:=fun ⟨r,h1,h2⟩=>⟨r,by rw[h1]; rfl,h2⟩
 have flip:∀{o:Option (Bool×List jI)} {p q:Tm},(∃ r,o=some r∧OutW a0 B [(p,q)] r)->∃ r,o=some r∧OutW a0 B [(q,p)] r:=fun ⟨r,h1,h2⟩=>⟨r,h1,h2.via fun θ _=>by rw[tG,tG]; exact eq_comm⟩
 unfold vf;rw[a1,af,b1,af,Xc (by omega),af]
 by_cases he:t1.codes=u1.codes
 ·have:=If a2 b2 he;subst this;rw[decide_eq_true he,cond_true];exact ⟨_,rfl,⟨fun _=>⟨B,σ,hT,hG,fun θ=>⟨fun h=>⟨h,tG.2 rfl⟩,fun h=>h.1⟩⟩,fun h=>(nomatch h)⟩⟩
 rw[decide_eq_false he,cond_false];have hne:t1≠u1:=fun h=>he (by rw[h])
 clear he a1 b1;cases t1 with
 | v x =>
  have hx:x<24:=a2;have hbx:=a5 x rfl;have c1:(Tm.v x).codes=[-1 - (x:Int)]:=rfl;have d1:decide (-1 - (x:Int)<0)=true:=decide_eq_true (by omega)
  have d2:decide (-1 - (x:Int)≥0)=false:=decide_eq_false (by omega)
  cases u1 with
  | v y =>
   have hy:y<24:=b2;have hby:=b5 y rfl;have c2:(Tm.v y).codes=[-1 - (y:Int)]:=rfl;have d3:decide (-1 - (y:Int)<0)=true:=decide_eq_true (by omega)
   have hxy:x≠y:=fun h=>hne (by rw[h])
   rw[c1,c2];by_cases hlt:y<x
   ·have d4:decide (-1 - (x:Int) < -1 - (y:Int))=true:=decide_eq_true (by omega)
    simp only[yh,aB,af,d1,d3,d4,cond_true];exact eta (GR hT hG hx hlt hbx hby)
   ·have d4:decide (-1 - (x:Int) < -1 - (y:Int))=false:=decide_eq_false (by omega)
    simp only[yh,aB,af,d1,d2,d3,d4,cond_true,cond_false];exact eta (flip (GR hT hG hy (by omega) hby hbx))
  | f c as =>
   have c2:(Tm.f c as).codes=(c:Int)::za as:=rfl;have d3:decide ((c:Int)<0)=false:=decide_eq_false (by omega)
   have h1:=Js hT hG hx hbx b2 b3;rw[c2] at h1;rw[c1,c2];simp only[yh,aB,af,d1,d2,d3,cond_true,cond_false];exact eta h1
 | f c as =>
  have c1:(Tm.f c as).codes=(c:Int)::za as:=rfl;have d1:decide ((c:Int)<0)=false:=decide_eq_false (by omega)
  have d2:decide ((c:Int)≥0)=true:=decide_eq_true (by omega)
  cases u1 with
  | v y =>
   have hy:y<24:=b2;have hby:=b5 y rfl;have c2:(Tm.v y).codes=[-1 - (y:Int)]:=rfl;have d3:decide (-1 - (y:Int)<0)=true:=decide_eq_true (by omega)
   have h1:=Js hT hG hy hby a2 a3;rw[c1] at h1;rw[c1,c2];simp only[yh,aB,af,d1,d2,d3,cond_true,cond_false];exact eta (flip h1)
  | f d bs =>
   have c2:(Tm.f d bs).codes=(d:Int)::za bs:=rfl;have d3:decide ((d:Int)<0)=false:=decide_eq_false (by omega)
   rw[c1,c2];simp only[yh,aB,af,d1,d2,d3,cond_true,cond_false];by_cases hcd:c=d
   ·subst hcd;rw[show ((c:Int) != (c:Int))=false from by simp,cond_false]
    have hla:as.length=bs.length:=by
     have h1:=a2.1;have h2:=b2.1;rw[h1] at h2;injection h2
    rw[c1,ak] at a3;rw[c2,ak] at b3;have hw:∀{xs:List Tm},(za xs).length<=48->∀ t∈xs,t.codes.length<=48:=fun h t ht=>aV (uz ht) h;rw[wE,af,vd hs (by omega) (yM as a2.2),af,wE,af,vd hs (by omega) (yM bs b2.2),af]
    have hlt:=hd.lt hG hT.small hR;obtain⟨r,h1,h2⟩:=ha (δ+1) w B σ as bs hT hG (fun t h=>⟨wU.1 a2.2 t h,hw (by omega) t h⟩) (fun t h=>⟨wU.1 b2.2 t h,hw (by omega) t h⟩) hla (by
      have:=YY (yM as a2.2);rw[aL] at this;omega) (fun a ham θ hθ=>by
      obtain⟨c',hc',h5⟩:=hd θ hθ;refine ⟨c',hc',?_⟩;rw[a4 θ hθ] at h5;have h6:((Tm.f c as).sub θ).ht=htR (wl θ as)+1:=rfl;have h7:=D8 (ts:=wl θ as) (t:=a.sub θ) (by rw[YE]; exact bl ham)
      omega) (by omega)
    rw[h1,af];refine ⟨_,rfl,h2.via fun θ _ => ?_⟩;rw[Sol.zip hla,tG,za1];simp
   ·rw[show ((c:Int) != (d:Int))=true from by simp; omega,cond_true]
    refine ⟨_,rfl,⟨fun h=>(nomatch h),fun _ θ _ h4 => ?_⟩⟩;rw[tG,za1] at h4;exact hcd h4.1
theorem NU {a0:List zh} (hs:SignOk a0) {R:List Tm} (hR:∀ c∈R,c.size<=48):∀ k,EU a0 R k∧SY a0 R k:=by
 intro k
 induction k with
 | zero =>
  refine ⟨fun δ w B σ t u hT hG _ _ hd hk => ?_,fun δ w B σ ts us _ _ _ _ _ _ _ hk=>by omega⟩
  have:=hd.lt hG hT.small hR;omega
 | succ k ih=>exact ⟨Hu hs hR ih.2,M0 ih.1⟩
theorem zdl (a0:List zh):RepW a0 (ax 48 ([]:List Int)) (fun _=>none) where
 len:=by simp
 at_:=fun x hx=>by rw[bA,if_pos hx]; rfl
 ok:=fun x t h=>by cases h
theorem IK {a0:List zh} {w:List jI} {B:Bd} {σ:Sb} (hT:RepW a0 w B) (hG:Good B σ):∀(m v k:Nat) (out:List (Int×List Int)),24 - v=m->v<=24->m<k->out.length<=v ->
  lp wi k ((v:Int),w,out)=some (cond (qO σ ((aJ 24).drop v)) (.inl (out++vo B σ ((aJ 24).drop v))) (.inr (true,false))):=by
 intro m
 induction m with
 | zero =>
  intro v k out hm hv hk ho;obtain⟨k,rfl⟩:∃ k',k=k'+1:=⟨k - 1,by omega⟩
  rw[zx];generalize lp wi k=rec;unfold wi;have:v=24:=by omega
  subst this;rw[show (aJ 24).drop 24=[] from rfl]
  simp [vo,qO]
 | succ m ih =>
  intro v k out hm hv hk ho;obtain⟨k,rfl⟩:∃ k',k=k'+1:=⟨k - 1,by omega⟩
  rw[zx];have key:=fun out' ho'=>ih (v+1) k out' (by omega) (by omega) (by omega) ho'
  generalize lp wi k=rec at key ⊢;unfold wi;have w1:ag .i64 ((v:Int)+1)=((v+1:Nat):Int):=by rw[zn]<;>omega
  have hdr:(aJ 24).drop v=v::(aJ 24).drop (v+1):=by
   rw[aY (by simp; omega)]
   simp
  simp only[decide_eq_true (show (v:Int)<=23 by omega),cond_true,zO (show v<48 by omega),af,hT.at_ v (by omega),w1]
  rw[hdr];cases hb:B v with
  | none =>
   show (cond (((aa ([]:List Int):Nat):Int)==0) _ _)=_;rw[show (((aa ([]:List Int):Nat):Int)==0)=true from rfl,cond_true,key out (by omega)]
   have hs:(σ v).size<=48:=by rw[hG.free v hb]; simp [Tm.size]
   have hb:CZ B v=false:=by simp [CZ,hb]
   simp [vo,qO,hb,hs]
  | some t =>
   obtain⟨-,h2,h3⟩:=hT.ok v t hb;have hp:=vq t;show (cond (((aa t.codes:Nat):Int)==0) _ ((tH t.codes w []).bind _))=_;rw[show (((aa t.codes:Nat):Int)==0)=false from by simp; intro h; rw[h] at hp; simp at hp,cond_false]
   obtain⟨r,g1,g2⟩:=ME hT hG h2 h3;rw[← hG.bound v t hb] at g2;rw[g1,af];by_cases hs:(σ v).size<=48
   ·have hr:=g2.fits (by rw[Tm.codes_len]; simpa using hs)
    rw[bj] at hr;subst hr;rw[decide_eq_false (show ¬((aa (σ v).codes:Nat):Int)>48 by rw[Tm.codes_len]; omega),cond_false,zm (by simp only[aD]; omega),cond_true,key _ (by simp only[al,aD]; omega)]
    have hb:CZ B v=true:=by simp [CZ,hb]
    simp [vo,qO,hb,hs]
   ·have hr:=g2.over (by rw[Tm.codes_len]; simp; omega)
    rw[decide_eq_true (show ((aa r:Nat):Int)>48 by omega),cond_true]
    simp [qO,hs]
theorem sW {a0:List zh} (hs:SignOk a0) {ts us:List Tm} (ht:okR a0 24 ts) (hu:okR a0 24 us) (hlx:(za ts).length<=48) (hly:(za us).length<=48) :
  (uk a0 (za ts) (za us)=some (false,true,[])∧(ts.length≠us.length∨∀ θ,¬ Sol θ (ts.zip us))) ∨
  (ts.length=us.length∧∃ σ,Mgu σ (ts.zip us)∧uk a0 (za ts) (za us)=some (true,qO σ (aJ 24),cond (qO σ (aJ 24)) (un σ) [])):=by
 unfold uk;rw[vd hs (by omega) (yM ts ht),af,vd hs (by omega) (yM us hu),af]
 by_cases hl:ts.length=us.length
 ·rw[show (((aa (ts.map Tm.codes):Nat):Int) != ((aa (us.map Tm.codes):Nat):Int))=false from by simp [hl],cond_false]
  have sm:∀{xs:List Tm},okR a0 24 xs->(za xs).length<=48->∀ t∈xs,Sm a0 t:=fun h1 h2 t h=>⟨wU.1 h1 t h,aV (uz h) h2⟩;have hR:∀ c∈ts,c.size<=48:=fun c hc=>by have:=(sm ht hlx c hc).2; rwa [Tm.codes_len] at this
  obtain⟨r,h1,h2⟩:=(NU hs hR zd).2 0 (ax 48 []) (fun _=>none) .v ts us (zdl a0) Good.empty (sm ht hlx) (sm hu hly) hl (by
   have:=YY (yM ts ht);rw[aL] at this;omega) (fun t h θ _=>⟨t,h,by omega⟩) (by unfold zd; omega)
  have h1:ZM a0 (ts.map Tm.codes) (us.map Tm.codes) (ax 48 [])=some r:=h1;rw[h1,af];cases hb:r.1 with
  | false=>exact .inl ⟨rfl,.inr fun θ h=>h2.no hb θ (fun _ _ h=>(nomatch h)) h⟩
  | true =>
   obtain⟨B',σ,g1,g2,g3⟩:=h2.yes hb;refine .inr ⟨hl,σ,Mgu.of g2 g3,?_⟩;have:=IK g1 g2 24 0 zd [] rfl (by omega) (by unfold zd; omega) (by simp)
   rw[show ((0:Nat):Int)=0 from rfl] at this
   rw[az,cond_false,this,bP];have he:vo B' σ (aJ 24)=un σ:=by
    unfold vo un;rw[show CZ B'=moved σ from funext (LE g2)]
   cases qO σ (aJ 24) with
   | true=>simp only[cond_true,af,u2,bj,he]
   | false=>rfl
 ·rw[show (((aa (ts.map Tm.codes):Nat):Int) != ((aa (us.map Tm.codes):Nat):Int))=true from by simp; omega,cond_true]
  exact .inl ⟨rfl,.inl hl⟩
theorem zaS (v:Int):(es:List (Int×List Int))->(i:Nat)->(sG es v=none∧wn v es i=some (.inl ()))∨∃(j:Nat) (e:Int×List Int),wn v es i=some (.inr ((i+j:Nat):Int))∧es[j]? = some e∧sG es v=some e.2
 | [],i=>.inl ⟨rfl,rfl⟩
 | e::es,i=>by
  unfold wn sG;rw[d6];cases h:e.1==v with
  | true=>exact .inr ⟨0,e,rfl,rfl,rfl⟩
  | false =>
   rw[cond_false];rcases zaS v es (i+1) with ⟨h1,h2⟩ | ⟨j,e',h1,h2,h3⟩
   ·exact .inl ⟨h1,h2⟩
   ·exact .inr ⟨j+1,e',by rw[h1,show i+1+j=i+(j+1) from by omega],by simpa using h2,h3⟩
theorem EQ {s:List (Int×List Int)} (hl:s.length<=1000) (v:Int):(sG s v=none∧XF s v=some (-1))∨∃(j:Nat) (e:Int×List Int),XF s v=some (j:Int)∧s[j]? = some e∧sG s v=some e.2:=by
 unfold XF;rw[XV _ _ (by unfold maxLen; omega)]
 rcases zaS v s 0 with ⟨h1,h2⟩ | ⟨j,e,h1,h2,h3⟩
 ·exact .inl ⟨h1,by rw[h2]; rfl⟩
 ·exact .inr ⟨j,e,by rw[h1,aR]; rfl,h2,h3⟩
theorem PH {s:List (Int×List Int)} (h:BindsOk s):(es out:List Int)->(∀ c∈es,-1000000<=c∧c<=1000000)->out.length+1000*es.length<=1000000000->yR s es out=some (out++onB s es)
 | [],out,_,_=>by simp [yR,onB]
 | c::es,out,hc,hl=>by
  have hc0:=hc c (aj ..);simp only[ak] at hl;have ih:=fun out hl=>PH h es out (fun c h=>hc c (ai _ h)) hl;unfold yR;have plain:onC s c=[c]->(cond (yb (aa out+aa ([c]:List Int)) 8) (yR s es (out++([c]:List Int))) none)=some (out++onB s (c::es)):=fun hx=>by
   rw[zm (by simp; omega),cond_true,ih _ (by simp; omega)]
   unfold onB;rw[bt,hx,aU]
  by_cases h0:c<0
  ·rw[decide_eq_true h0,cond_true];have w1:ag .i64 ((-1) - c) = -1 - c:=by rw[zn]<;>omega
   rw[w1];rcases EQ h.len (-1 - c) with ⟨h1,h2⟩ | ⟨j,e,h1,h2,h3⟩
   ·rw[h2,af,show decide ((-1:Int)<0)=true from rfl,cond_true]
    refine plain ?_;unfold onC;rw[h1,decide_eq_false (show ¬ c≥0 by omega)]
    rfl
   ·have he:=(h.all e (aP h2)).2;rw[h1,af,decide_eq_false (show ¬(j:Int)<0 by omega),cond_false,yE,h2,af,zm (by omega),cond_true,ih _ (by rw[al]; omega)]
    unfold onB;have:onC s c=e.2:=by
     unfold onC;rw[h3,decide_eq_false (show ¬ c≥0 by omega)]
     rfl
    rw[bt,this,aU]
  ·rw[decide_eq_false h0,cond_false];refine plain ?_;unfold onC;rw[decide_eq_true (show c≥0 by omega)]
   rfl
theorem I8 {s:List (Int×List Int)} (h:BindsOk s) {r:List Int} (hr:uW r):uA s r=some (onB s r):=by
 have:=hr.1;unfold uA;rw[Q3 _ _ _ (by unfold maxLen; omega),PH h r [] hr.2 (by simp; omega)]
 rfl
theorem EX {s:List (Int×List Int)} (h:BindsOk s):(es out:List zc)->(∀ l∈es,uW l.2)->out.length+es.length<=1000000->qZ s es out=some (out++KB s es)
 | [],out,_,_=>by simp [qZ,KB]
 | e::es,out,hn,hl=>by
  simp only[ak] at hl;unfold qZ;rw[I8 h (hn e (aj ..)),af,zm (by simp; omega),cond_true,EX h es _ (fun l hl=>hn l (ai _ hl)) (by simp; omega)]
  simp [KB]
theorem HV {s:List (Int×List Int)} (h:BindsOk s) (s5:List zc):(es out:List jI)->(∀ l∈es,uW l)->out.length+es.length<=1000000->q9 s s5 es out=some (s5,out++Et s es)
 | [],out,_,_=>by simp [q9,Et]
 | e::es,out,hn,hl=>by
  simp only[ak] at hl;unfold q9;rw[I8 h (hn e (aj ..)),af,zm (by simp; omega),cond_true,HV h s5 es _ (fun l hl=>hn l (ai _ hl)) (by simp; omega)]
  simp [Et]
theorem L8 {s:List (Int×List Int)} (h:BindsOk s) (s5:List zc) (s6:List jI):(es out:List zc)->(∀ l∈es,uW l.2)->out.length+es.length<=1000000->q5 s s5 s6 es out=some (s5,s6,out++KB s es)
 | [],out,_,_=>by simp [q5,KB]
 | e::es,out,hn,hl=>by
  simp only[ak] at hl;unfold q5;rw[I8 h (hn e (aj ..)),af,zm (by simp; omega),cond_true,L8 h s5 s6 es _ (fun l hl=>hn l (ai _ hl)) (by simp; omega)]
  simp [KB]
theorem Dm {s:List (Int×List Int)} (h:BindsOk s) {L:List zc} {T:List jI} {C:List zc} (hL:∀ l∈L,uW l.2) (hT:∀ l∈T,uW l) (hC:∀ l∈C,uW l.2) (h1:L.length<=1000) (h2:T.length<=1000) (h3:C.length<=1000) :
  sE s L T C=some (KB s L,Et s T,KB s C):=by
 unfold sE;rw[QQ _ _ _ _ _ (by unfold maxLen; omega),EX h L [] hL (by simp; omega),af,
  QI _ _ _ _ _ _ (by unfold maxLen; omega),HV h _ T [] hT (by simp; omega),af,
  QS _ _ _ _ _ _ _ (by unfold maxLen; omega),L8 h _ _ C [] hC (by simp; omega),af]
 simp
theorem Cz {l k:zc} (h:l.2.length<=1000000):kA l.1 l.2 k.1 k.2=some (decide (l=k)):=by
 obtain⟨n,r⟩:=l;obtain⟨n',r'⟩:=k;unfold kA;by_cases hn:n=n'
 ·subst hn;simp only[beq_self_eq_true,cond_true];rw[Xc h,af];simp
 ·rw[show (n==n')=false from by simp [hn],cond_false]
  simp [hn]
theorem Fa {s0 out:List zc} {i0:Nat} {e0:zc} (he:s0[i0]? = some e0) (ho:∀ l∈out,l.2.length<=1000000):(es:List zc)->(i:Nat)->(b:Bool)->out.drop i=es->qv s0 (i0:Int) out es i b=some (b||decide (e0∈es),out)
 | [],i,b,_=>by simp [qv]
 | e::es,i,b,hd=>by
  have ih:=fun b=>Fa he ho es (i+1) b (zj hd);unfold qv;cases b with
  | true=>rw[cond_true,ih true]; rfl
  | false =>
   have hi:=qg hd;have hg:=zr hd;rw[cond_false,zO hi,af,hg,af,yE,he,af,Cz (ho e (aP hg)),af,ih]
   congr 2
   rw[fw,eu,cj,decide_eq_true_iff,decide_eq_true_iff,decide_eq_true_iff,aC];exact ⟨fun h=>h.imp fH id,fun h=>h.imp fH id⟩
theorem Bz {s0:List zc} (hs:∀ l∈s0,l.2.length<=1000000):(es:List zc)->(i:Nat)->(out:List zc)->s0.drop i=es->(∀ l∈out,l.2.length<=1000000)->out.length+es.length<=1000000->xa s0 es i out=some (zS es out)
 | [],i,out,_,_,_=>rfl
 | e::es,i,out,hd,ho,hl=>by
  simp only[ak] at hl;have hg:=zr hd;have hem:=aP hg;unfold xa zS;rw[Qp _ _ _ _ (by unfold maxLen; omega),Fa hg ho out 0 false rfl,af,eu]
  by_cases hm:e∈out
  ·have e1:∀ inst:Decidable (e∈out),@decide (e∈out) inst=true:=fun _=>decide_eq_true hm;simp only[e1,az,cond_false,cond_true];exact Bz hs es (i+1) out (zj hd) ho (by omega)
  ·have e1:∀ inst:Decidable (e∈out),@decide (e∈out) inst=false:=fun _=>decide_eq_false hm;simp only[e1,bN,cond_true,cond_false];rw[zm (by simp; omega),cond_true]
   exact Bz hs es (i+1) _ (zj hd) (fun l hl=>by
    rcases aI.1 hl with hl | hl
    ·exact ho l hl
    ·rw[ba.1 hl]; exact hs e hem) (by simp; omega)
theorem F3 {L:List zc} (hs:∀ l∈L,l.2.length<=1000000) (hl:L.length<=1000):Xj L=some (zS L []):=by
 unfold Xj;rw[QL _ _ (by unfold maxLen; omega),Bz hs L 0 [] rfl (fun _ h=>(nomatch h)) (by simp; omega)]
 rfl
theorem Hj {s4 out:List jI} {s6 s7:List zc} {i0:Nat} {e0:List Int} (he:s4[i0]? = some e0) (ho:∀ l∈out,l.length<=1000000):(es:List jI)->(i:Nat)->(b:Bool)->out.drop i=es->qw (i0:Int) s4 s6 s7 out es i b=some (b||decide (e0∈es),s6,s7,out)
 | [],i,b,_=>by simp [qw]
 | e::es,i,b,hd=>by
  have ih:=fun b=>Hj (s6:=s6) (s7:=s7) he ho es (i+1) b (zj hd);unfold qw;cases b with
  | true=>rw[cond_true,ih true]; rfl
  | false =>
   have hi:=qg hd;have hg:=zr hd;rw[cond_false,zO hi,af,hg,af,yE,he,af,Xc (ho e (aP hg)),af,ih]
   congr 2
   rw[fw,eu,cj,decide_eq_true_iff,decide_eq_true_iff,decide_eq_true_iff,aC];exact ⟨fun h=>h.imp fH id,fun h=>h.imp fH id⟩
theorem DN {s1 s3 s4 s5:List zc} {s2:List jI} (hs:∀ l∈s2,l.length<=1000000):(es:List jI)->(i:Nat)->(out:List jI)->s2.drop i=es->(∀ l∈out,l.length<=1000000)->out.length+es.length<=1000000->qW s1 s2 s3 es i s4 s5 out=some (s4,s5,zS es out)
 | [],i,out,_,_,_=>rfl
 | e::es,i,out,hd,ho,hl=>by
  simp only[ak] at hl;have hg:=zr hd;have hem:=aP hg;unfold qW zS;rw[Qr _ _ _ _ _ _ _ _ (by unfold maxLen; omega),Hj hg ho out 0 false rfl,af,eu]
  by_cases hm:e∈out
  ·have e1:∀ inst:Decidable (e∈out),@decide (e∈out) inst=true:=fun _=>decide_eq_true hm;simp only[e1,az,cond_false,cond_true];exact DN hs es (i+1) out (zj hd) ho (by omega)
  ·have e1:∀ inst:Decidable (e∈out),@decide (e∈out) inst=false:=fun _=>decide_eq_false hm;simp only[e1,bN,cond_true,cond_false];rw[zm (by simp; omega),cond_true]
   exact DN hs es (i+1) _ (zj hd) (fun l hl=>by
    rcases aI.1 hl with hl | hl
    ·exact ho l hl
    ·rw[ba.1 hl]; exact hs e hem) (by simp; omega)
end Go.Abs.Q
