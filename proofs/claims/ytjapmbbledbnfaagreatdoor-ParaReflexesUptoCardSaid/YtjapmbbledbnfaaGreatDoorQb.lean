import Derived.Test.YtjapmbbledbnfaaGreatDoorQa
/-
  What the functions make of plain values, and what the law says of that.
-/
open Bool renaming and_eq_true -> ap, eq_iff_iff -> eg, false_and -> bl, false_or -> cV, not_false -> bM, not_true -> aH, or_eq_true -> bO, true_and -> aU
open Eq renaming symm -> f0
open Function renaming comp_apply -> gK
open Go.IntKind renaming wrap -> ah
open Int renaming tmod -> fH, toNat_natCast -> bx
open List renaming all_cons -> b9, all_eq_true -> aK, append_assoc -> bn, append_nil -> b7, append_of_mem -> dM, concat_eq_append -> fc, countP_append -> fA, countP_cons_of_neg -> dQ, countP_cons_of_pos -> dh, countP_le_length -> dY, drop_eq_getElem_cons -> aV, drop_zero -> bV, eq_nil_or_concat -> fb, find?_cons -> ef, flatMap -> gA, flatMap_cons -> bv, foldl_append -> ew, getD_eq_getElem?_getD -> aA, getElem?_append_left -> bp, getElem?_append_right -> bi, getElem?_cons_zero -> ay, getElem?_eq_getElem -> al, getElem?_eq_some_iff -> aq, getElem?_map -> bt, getElem?_replicate -> bD, getElem?_set_ne -> cw, getElem?_set_self -> cD, length -> aa, length_append -> az, length_cons -> au, length_map -> aT, length_nil -> bH, length_range -> ey, length_set -> cM, length_singleton -> aX, length_zip -> fY, map -> dx, map_congr_left -> bY, map_cons -> aM, map_id -> gI, map_map -> cp, mem_append -> aW, mem_append_left -> bk, mem_append_right -> bf, mem_cons -> aI, mem_cons_of_mem -> ai, mem_cons_self -> am, mem_map -> ba, mem_map_of_mem -> bg, mem_of_getElem? -> aO, mem_range -> cE, mem_singleton -> bF, nil_append -> bG, of_mem_zip -> fZ, range -> aR, replicate -> ax, set -> cJ, set_eq_take_append_cons_drop -> dR, sum_cons -> cA, take_append_drop -> bR, zip_cons_cons -> dN
open Nat renaming add_assoc -> bz, add_mul -> bc, le_refl -> aE, le_trans -> aF, lt_or_ge -> bI, mul_le_mul_left -> dI, mul_le_mul_right -> aN, pow_le_pow_right -> fm, pow_pos -> fW, strongRecOn -> cN, zero_add -> aL
open Ne renaming symm -> db
open Option renaming bind_some -> af, getD_some -> bm, isNone_none -> c5, isNone_some -> cr, map_some -> bu
open Sum renaming inl -> aS, inr -> aD
namespace Go.Abs.Q
open Go Go.Abs
inductive Tm where
 | v (n:Nat)
 | f (c:Nat) (as:List Tm)
mutual
def Tm.codes:Tm->List Int
 | .v n=>[-1 - (n:Int)]
 | .f c as=>(c:Int)::zc as
def zc:List Tm->List Int
 | []=>[]
 | t::ts=>t.codes++zc ts
end
mutual
def Tm.size:Tm->Nat
 | .v _=>1
 | .f _ as=>xY as+1
def xY:List Tm->Nat
 | []=>0
 | t::ts=>t.size+xY ts
end
abbrev Sb:=Nat->Tm
mutual
def Tm.sub (s:Sb):Tm->Tm
 | .v n=>s n
 | .f c as=>.f c (wF s as)
def wF (s:Sb):List Tm->List Tm
 | []=>[]
 | t::ts=>t.sub s::wF s ts
end
mutual
def Tm.has (x:Nat):Tm->Prop
 | .v n=>n=x
 | .f _ as=>QW x as
def QW (x:Nat):List Tm->Prop
 | []=>False
 | t::ts=>t.has x∨QW x ts
end
mutual
def Tm.ok (a0:List zl) (N:Nat):Tm->Prop
 | .v n=>n<N
 | .f c as=>vm a0 (c:Int)=some as.length∧okR a0 N as
def okR (a0:List zl) (N:Nat):List Tm->Prop
 | []=>True
 | t::ts=>t.ok a0 N∧okR a0 N ts
end
theorem kB (s:Sb):(ts:List Tm)->(wF s ts).length=ts.length
 | []=>rfl
 | t::ts=>by simp [wF,kB s ts]
theorem vZ {a0:List zl} {N:Nat}:{ts:List Tm}->(okR a0 N ts↔∀ t∈ts,t.ok a0 N)
 | []=>by simp [okR]
 | t::ts=>by simp [okR,vZ (ts:=ts)]
theorem WF (s:Sb):(ts:List Tm)->wF s ts=ts.map (Tm.sub s)
 | []=>rfl
 | t::ts=>by simp [wF,WF s ts]
theorem YZ:(ts:List Tm)->zc ts=ts.flatMap Tm.codes
 | []=>rfl
 | t::ts=>by simp [zc,YZ ts]
theorem KC:(ts:List Tm)->xY ts=(ts.map Tm.size).sum
 | []=>rfl
 | t::ts=>by simp [xY,KC ts]
theorem Qi (ts us:List Tm):zc (ts++us)=zc ts++zc us:=by simp [YZ]
theorem ES (ts us:List Tm):xY (ts++us)=xY ts+xY us:=by simp [KC]
mutual
theorem Tm.codes_len:(t:Tm)->t.codes.length=t.size
 | .v _=>rfl
 | .f c as=>by simp [Tm.codes,Tm.size,vu as]
theorem vu:(ts:List Tm)->(zc ts).length=xY ts
 | []=>rfl
 | t::ts=>by simp [zc,xY,Tm.codes_len t,vu ts]
end
theorem Tm.size_pos (t:Tm):0<t.size:=by cases t<;>simp [Tm.size]
mutual
theorem Tm.sub_ext {s u:Sb}:(t:Tm)->(∀ x,t.has x->s x=u x)->t.sub s=t.sub u
 | .v n,h=>h n rfl
 | .f c as,h=>by rw[Tm.sub,Tm.sub,Dq as h]
theorem Dq {s u:Sb}:(ts:List Tm)->(∀ x,QW x ts->s x=u x)->wF s ts=wF u ts
 | [],_=>rfl
 | t::ts,h=>by rw[wF,wF,Tm.sub_ext t fun x hx=>h x (.inl hx),Dq ts fun x hx=>h x (.inr hx)]
end
mutual
theorem Tm.sub_sub (s u:Sb):(t:Tm)->(t.sub s).sub u=t.sub fun x=>(s x).sub u
 | .v n=>rfl
 | .f c as=>by rw[Tm.sub,Tm.sub,Tm.sub,Gj s u as]
theorem Gj (s u:Sb):(ts:List Tm)->wF u (wF s ts)=wF (fun x=>(s x).sub u) ts
 | []=>rfl
 | t::ts=>by rw[wF,wF,wF,Tm.sub_sub s u t,Gj s u ts]
end
mutual
theorem Tm.sub_v:(t:Tm)->t.sub .v=t
 | .v n=>rfl
 | .f c as=>by rw[Tm.sub,R6 as]
theorem R6:(ts:List Tm)->wF .v ts=ts
 | []=>rfl
 | t::ts=>by rw[wF,Tm.sub_v t,R6 ts]
end
mutual
theorem Tm.has_sub {s:Sb} {y:Nat}:(t:Tm)->((t.sub s).has y↔∃ x,t.has x∧(s x).has y)
 | .v n=>⟨fun h=>⟨n,rfl,h⟩,fun ⟨x,hx,h⟩=>by cases hx; exact h⟩
 | .f c as=>by show QW y (wF s as)↔_; rw[sy as]; rfl
theorem sy {s:Sb} {y:Nat}:(ts:List Tm)->(QW y (wF s ts)↔∃ x,QW x ts∧(s x).has y)
 | []=>⟨fun h=>h.elim,fun ⟨_,h,_⟩=>h.elim⟩
 | t::ts=>by
  show (t.sub s).has y∨QW y (wF s ts)↔∃ x,(t.has x∨QW x ts)∧_;rw[Tm.has_sub t,sy ts];constructor
  ·rintro (⟨x,h1,h2⟩ | ⟨x,h1,h2⟩)
   ·exact ⟨x,.inl h1,h2⟩
   ·exact ⟨x,.inr h1,h2⟩
  ·rintro⟨x,h1 | h1,h2⟩
   ·exact .inl ⟨x,h1,h2⟩
   ·exact .inr ⟨x,h1,h2⟩
end
mutual
theorem Tm.size_has {s:Sb} {x:Nat}:(t:Tm)->t.has x->(s x).size<=(t.sub s).size
 | .v n,h=>by cases h; exact aE _
 | .f c as,h=>by have:=rz (s:=s) as h; show _<=xY (wF s as)+1; omega
theorem rz {s:Sb} {x:Nat}:(ts:List Tm)->QW x ts->(s x).size<=xY (wF s ts)
 | [],h=>h.elim
 | t::ts,h=>by
  show _<=(t.sub s).size+xY (wF s ts);rcases h with h | h
  ·have:=Tm.size_has (s:=s) t h; omega
  ·have:=rz (s:=s) ts h; omega
end
mutual
theorem Tm.size_sub {s:Sb} {M:Nat}:(t:Tm)->(1<=M)->(∀ x,t.has x->(s x).size<=M)->(t.sub s).size<=t.size*M
 | .v n,_,h=>by have:=h n rfl; simpa[Tm.sub,Tm.size] using this
 | .f c as,hM,h=>by
  have:=Jc (s:=s) as hM h;show xY (wF s as)+1<=(xY as+1)*M;rw[bc]; omega
theorem Jc {s:Sb} {M:Nat}:(ts:List Tm)->(1<=M)->(∀ x,QW x ts->(s x).size<=M)->xY (wF s ts)<=xY ts*M
 | [],_,_=>by simp [wF,xY]
 | t::ts,hM,h=>by
  have h1:=Tm.size_sub (s:=s) t hM fun x hx=>h x (.inl hx);have h2:=Jc (s:=s) ts hM fun x hx=>h x (.inr hx);show (t.sub s).size+xY (wF s ts)<=(t.size+xY ts)*M;rw[bc]; omega
end
mutual
theorem Tm.ok_sub {a0:List zl} {N M:Nat} {s:Sb}:(t:Tm)->t.ok a0 N->(∀ x,t.has x->(s x).ok a0 M)->(t.sub s).ok a0 M
 | .v n,_,h=>h n rfl
 | .f c as,ho,h=>⟨by rw[kB]; exact ho.1,Ip as ho.2 h⟩
theorem Ip {a0:List zl} {N M:Nat} {s:Sb}:(ts:List Tm)->okR a0 N ts->(∀ x,QW x ts->(s x).ok a0 M)->okR a0 M (wF s ts)
 | [],_,_=>trivial
 | t::ts,ho,h=>⟨Tm.ok_sub t ho.1 fun x hx=>h x (.inl hx),Ip ts ho.2 fun x hx=>h x (.inr hx)⟩
end
mutual
theorem Tm.ok_has {a0:List zl} {N x:Nat}:(t:Tm)->t.ok a0 N->t.has x->x<N
 | .v n,ho,h=>by cases h; exact ho
 | .f c as,ho,h=>Eu as ho.2 h
theorem Eu {a0:List zl} {N x:Nat}:(ts:List Tm)->okR a0 N ts->QW x ts->x<N
 | [],_,h=>h.elim
 | t::ts,ho,h=>h.elim (Tm.ok_has t ho.1) (Eu ts ho.2)
end
mutual
theorem Tm.ok_mono {a0:List zl} {N M:Nat} (hNM:N<=M):(t:Tm)->t.ok a0 N->t.ok a0 M
 | .v _n,ho=>Nat.lt_of_lt_of_le ho hNM
 | .f _c as,ho=>⟨ho.1,Ba hNM as ho.2⟩
theorem Ba {a0:List zl} {N M:Nat} (hNM:N<=M):(ts:List Tm)->okR a0 N ts->okR a0 M ts
 | [],_=>trivial
 | t::ts,ho=>⟨Tm.ok_mono hNM t ho.1,Ba hNM ts ho.2⟩
end
mutual
theorem Tm.mem_codes {c:Int} (hc:c<0):(t:Tm)->(c∈t.codes↔t.has (-1 - c).toNat)
 | .v n=>by
  show c∈[-1 - (n:Int)]↔n=_;rw[bF];omega
 | .f d as=>by
  show c∈(d:Int)::zc as↔QW _ as;rw[aI,← tM hc as];have:c≠(d:Int):=by omega
  simp [this]
theorem tM {c:Int} (hc:c<0):(ts:List Tm)->(c∈zc ts↔QW (-1 - c).toNat ts)
 | []=>by simp [zc,QW]
 | t::ts=>by
  show c∈t.codes++zc ts↔_∨_;rw[aW,Tm.mem_codes hc t,tM hc ts]
end
theorem AO {a0:List zl} {x:Int} {q:Nat} (h:vm a0 x=some q):(x<0 ∧ -24<=x∧q=0)∨∃ c:Nat,x=(c:Int):=by
 unfold vm at h;by_cases h0:x<0
 ·rw[decide_eq_true h0,cond_true] at h;by_cases h1 : -24<=x
  ·rw[decide_eq_true h1] at h; injection h with h; exact .inl ⟨h0,h1,h.symm⟩
  ·rw[decide_eq_false h1] at h; cases h
 ·exact .inr ⟨x.toNat,by omega⟩
theorem Nn {a0:List zl}:∀(n:Nat) (ps:List jI),(∀ p∈ps,p.length<=n)->(∀ p∈ps,sk a0 1 p=some p.length)->∃ ts:List Tm,okR a0 24 ts∧ps=ts.map Tm.codes:=by
 intro n
 induction n with
 | zero =>
  intro ps h hs;cases ps with
  | nil=>exact ⟨[],trivial,rfl⟩
  | cons p ps =>
   have h1:=h p (am ..);have h2:=WU (hs p (am ..));omega
 | succ n ih =>
  intro ps
  induction ps with
  | nil=>intro _ _; exact ⟨[],trivial,rfl⟩
  | cons p ps ihp =>
   intro h hs;obtain⟨ts,h1,h2⟩:=ihp (fun q hq=>h q (ai _ hq)) (fun q hq=>hs q (ai _ hq));obtain⟨x,r,q,rfl,ha,hr⟩:=IZ (hs p (am ..));have hl:=h _ (am ..);rw[au] at hl;rcases AO ha with ⟨h3,h4,rfl⟩ | ⟨c,rfl⟩
   ·have hr0:r=[]:=by
     have:sk a0 0 r=some 0:=by cases r<;>rfl
     rw[this] at hr;exact List.length_eq_zero_iff.1 (by injection hr with hr; omega)
    subst hr0;refine ⟨.v (-1 - x).toNat::ts,⟨by show (-1 - x).toNat<24; omega,h1⟩,?_⟩
    rw[aM,← h2];show [x]::ps=[-1 - (((-1 - x).toNat:Nat):Int)]::ps;rw[show -1 - (((-1 - x).toNat:Nat):Int)=x from by omega]
   ·obtain⟨qs,hq,hql⟩:=T5 q r hr;obtain⟨hf,hqs⟩:=jz r.length r qs (aE _) hq;have hlen:∀ p∈qs,p.length<=n:=fun p hp=>by
     have h5:p.length<=qs.flatten.length:=by
      obtain⟨l1,l2,rfl⟩:=dM hp;simp; omega
     rw[hf] at h5;omega
    obtain⟨us,h5,h6⟩:=ih qs hlen fun p hp=>(hqs p hp).2;refine ⟨.f c us::ts,⟨⟨by rw[ha,← hql,h6,aT],h5⟩,h1⟩,?_⟩
    rw[aM,← h2];show ((c:Int)::r)::ps=((c:Int)::zc us)::ps;rw[YZ,gA,← h6,hf]
theorem RH {a0:List zl} {xs:List Int} {ps:List jI} (h:Xg a0 xs=some ps):∃ ts:List Tm,okR a0 24 ts∧ps=ts.map Tm.codes∧xs=zc ts:=by
 obtain⟨h1,h2⟩:=jz xs.length xs ps (aE _) h;obtain⟨ts,h3,h4⟩:=Nn (a0:=a0) xs.length ps (fun p hp=>by
  have:p.length<=ps.flatten.length:=by
   obtain⟨l1,l2,rfl⟩:=dM hp;simp; omega
  rwa [h1] at this) fun p hp=>(h2 p hp).2
 exact ⟨ts,h3,h4,by rw[YZ,gA,← h4,h1]⟩
theorem HL {a0:List zl} {n:Nat} (h:n<24):vm a0 (-1 - (n:Int))=some 0:=by
 unfold vm;rw[decide_eq_true (show -1 - (n:Int)<0 by omega),cond_true,decide_eq_true (show -24 <= -1 - (n:Int) by omega)]
 rfl
mutual
theorem Tm.sk_codes {a0:List zl}:(t:Tm)->t.ok a0 24->sk a0 1 t.codes=some t.codes.length
 | .v n,h=>by
  show sk a0 1 [-1 - (n:Int)]=some 1;unfold sk;rw[HL h];rfl
 | .f c as,h=>by
  have:=Gy as h.2;show sk a0 1 ((c:Int)::zc as)=some (zc as).length.succ;unfold sk;rw[h.1];simp only[aL,this,bu]
theorem Gy {a0:List zl}:(ts:List Tm)->okR a0 24 ts->sk a0 ts.length (zc ts)=some (zc ts).length
 | [],_=>rfl
 | t::ts,h=>by
  show sk a0 (ts.length+1) (t.codes++zc ts)=_;rw[Nat.add_comm];exact PN (Tm.sk_codes t h.1) (Gy ts h.2)
end
theorem Cl {a0:List zl}:{xs:List Int}->{n k:Nat}->(ys:List Int)->sk a0 n xs=some k->sk a0 n (xs++ys)=some k
 | [],0,k,ys,h=>by simp [sk] at h; subst h; cases ys<;>rfl
 | [],n+1,k,ys,h=>by simp [sk] at h
 | x::xs,0,k,ys,h=>by simp [sk] at h; subst h; rfl
 | x::xs,n+1,k,ys,h=>by
  unfold sk at h;cases ha:vm a0 x with
  | none=>rw[ha] at h; cases h
  | some m =>
   rw[ha] at h;simp only[Option.map_eq_some_iff] at h;obtain⟨j,hj,rfl⟩:=h;rw[List.cons_append];unfold sk;rw[ha];simp only[Cl ys hj,bu]
theorem yp {a0:List zl}:(ts:List Tm)->okR a0 24 ts->Xg a0 (zc ts)=some (ts.map Tm.codes)
 | [],_=>rfl
 | t::ts,h=>by
  have hp:=t.size_pos;have hl:=t.codes_len;have h1:=Tm.sk_codes t h.1;show Xg a0 (t.codes++zc ts)=_;have hne:t.codes++zc ts≠[]:=fun e=>by
   have:=congrArg aa e;rw[az,bH] at this;omega
  rw[tf hne,Cl _ h1];simp only[List.drop_left,List.take_left,yp ts h.2,bu,aM]
def Tm.up (d:Nat) (t:Tm):Tm:=t.sub fun n=>.v (n+d)
theorem Tm.up_zero (t:Tm):t.up 0=t:=t.sub_v
theorem Tm.up_size (d:Nat) (t:Tm):(t.up d).size=t.size:=by
 have h1:(t.up d).size<=t.size*1:=Tm.size_sub t (aE _) fun x _=>aE _;have h2:((t.up d).sub fun n=>.v (n - d)).size<=(t.up d).size*1:=Tm.size_sub _ (aE _) fun x _=>aE _;have h3:(t.up d).sub (fun n=>.v (n - d))=t:=by
  unfold Tm.up;rw[Tm.sub_sub,show (fun x=>(Tm.v (x+d)).sub fun n=>.v (n - d))=Tm.v from by
   funext x
   show Tm.v (x+d - d)=_;rw[Nat.add_sub_cancel],Tm.sub_v]
 rw[h3] at h2;omega
theorem Tm.up_ok {a0:List zl} {N d:Nat} {t:Tm} (h:t.ok a0 N):(t.up d).ok a0 (N+d):=Tm.ok_sub t h fun x hx=>by
 have:=Tm.ok_has t h hx;show x+d<N+d;omega
theorem Tm.up_has {d y:Nat} {t:Tm}:(t.up d).has y↔∃ x,t.has x∧x+d=y:=Tm.has_sub t
abbrev Bd:=Nat->Option Tm
def SolB (θ:Sb) (B:Bd):Prop:=∀ x t,B x=some t->θ x=t.sub θ
def Sol (θ:Sb) (E:List (Tm×Tm)):Prop:=∀ p∈E,p.1.sub θ=p.2.sub θ
theorem Sol.nil {θ:Sb}:Sol θ []:=fun _ h=>nomatch h
theorem Sol.cons {θ:Sb} {p:Tm×Tm} {E:List (Tm×Tm)}:Sol θ (p::E)↔p.1.sub θ=p.2.sub θ∧Sol θ E:=by simp [Sol]
theorem Sol.append {θ:Sb} {E F:List (Tm×Tm)}:Sol θ (E++F)↔Sol θ E∧Sol θ F:=by
 simp only[Sol,aW];exact ⟨fun h=>⟨fun p hp=>h p (.inl hp),fun p hp=>h p (.inr hp)⟩,fun h p hp=>hp.elim (h.1 p) (h.2 p)⟩
theorem Sol.zip {θ:Sb}:{ts us:List Tm}->ts.length=us.length->(Sol θ (ts.zip us)↔wF θ ts=wF θ us)
 | [],[],_=>by simp [Sol,wF]
 | [],_::_,h=>by simp at h
 | _::_,[],h=>by simp at h
 | t::ts,u::us,h=>by
  rw[dN,Sol.cons,Sol.zip (by simpa using h)]
  simp [wF]
structure Good (B:Bd) (σ:Sb):Prop where
 free:∀ x,B x=none->σ x = .v x
 bound:∀ x t,B x=some t->σ x=t.sub σ
 down:∀ x y,B x=some (.v y)->y<x
theorem Good.empty:Good (fun _=>none) .v:=⟨fun _ _=>rfl,fun _ _ h=>(nomatch h),fun _ _ h=>(nomatch h)⟩
theorem Good.ind {B:Bd} {σ:Sb} (h:Good B σ) {P:Nat->Prop} (hf:∀ x,B x=none->P x) (hb:∀ x t,B x=some t->(∀ y,t.has y->P y)->P x):∀ x,P x:=by
 have key:∀ n x,(σ x).size=n->P x:=by
  intro n
  induction n using cN with
  | _ n ihn =>
   intro x
   induction x using cN with
   | _ x ihx =>
    intro hn;cases hx:B x with
    | none=>exact hf x hx
    | some t =>
     refine hb x t hx fun y hy => ?_;have hs:=h.bound x t hx;cases t with
     | v z =>
      have hz:z=y:=hy;subst hz;exact ihx z (h.down x z hx) (by rw[← hn,hs]; rfl)
     | f c as =>
      have:=rz (s:=σ) as hy;refine ihn (σ y).size ?_ y rfl;rw[← hn,hs];show _<xY (wF σ as)+1;omega
 exact fun x=>key _ x rfl
theorem Good.fac {B:Bd} {σ θ:Sb} (h:Good B σ) (hθ:SolB θ B):∀ x,(σ x).sub θ=θ x:=by
 refine h.ind (fun x hx=>by rw[h.free x hx]; rfl) fun x t hx ih => ?_
 rw[h.bound x t hx,Tm.sub_sub,hθ x t hx];exact Tm.sub_ext t fun y hy=>ih y hy
theorem Good.facT {B:Bd} {σ θ:Sb} (h:Good B σ) (hθ:SolB θ B) (t:Tm):(t.sub σ).sub θ=t.sub θ:=by
 rw[Tm.sub_sub];exact Tm.sub_ext t fun y _=>h.fac hθ y
theorem Good.root {B:Bd} {σ:Sb} (h:Good B σ):∀ x y,(σ x).has y->B y=none:=by
 refine h.ind (fun x hx y hy => ?_) fun x t hx ih y hy => ?_
 ·rw[h.free x hx] at hy;have hy:x=y:=hy;exact hy▸hx
 ·rw[h.bound x t hx] at hy;obtain⟨z,h1,h2⟩:=(Tm.has_sub t).1 hy;exact ih z h1 y h2
theorem Good.idem {B:Bd} {σ:Sb} (h:Good B σ) (t:Tm):(t.sub σ).sub σ=t.sub σ:=h.facT h.bound t
theorem Good.le {B:Bd} {σ:Sb} (h:Good B σ):∀ x y,σ x = .v y->y<=x:=by
 refine h.ind (fun x hx y hy => ?_) fun x t hx ih y hy => ?_
 ·rw[h.free x hx] at hy; injection hy with hy; omega
 ·rw[h.bound x t hx] at hy;cases t with
  | v z =>
   have h1:=h.down x z hx;have h2:=ih z rfl y hy;omega
  | f c as=>cases hy
theorem Good.moved {B:Bd} {σ:Sb} (h:Good B σ) {x:Nat}:B x≠none↔σ x ≠ .v x:=by
 constructor
 ·intro hb he;cases hx:B x with
  | none=>exact hb hx
  | some t =>
   have h1:=h.bound x t hx;rw[he] at h1;cases t with
   | v z =>
    have h2:=h.down x z hx;have h3:=h.le z x h1.symm;omega
   | f c as=>cases h1
 ·intro hs hb;exact hs (h.free x hb)
theorem Good.unique {B B':Bd} {σ σ':Sb} (h:Good B σ) (h':Good B' σ') (hs:∀ θ,SolB θ B↔SolB θ B'):σ=σ':=by
 have f1:∀ x,(σ x).sub σ'=σ' x:=h.fac ((hs σ').2 h'.bound);have f2:∀ x,(σ' x).sub σ=σ x:=h'.fac ((hs σ).1 h.bound);have root:∀ y,B y=none->σ' y = .v y:=by
  intro y hy;have h1:(σ' y).sub σ = .v y:=by rw[f2,h.free y hy]
  cases hz:σ' y with
  | f c as=>rw[hz] at h1; cases h1
  | v z =>
   rw[hz] at h1;have h2:=h'.le y z hz;have h3:=h.le z y h1;have:z=y:=by omega
   rw[this]
 funext x
 rw[← f1 x]
 conv=>lhs; rw[← Tm.sub_v (σ x)]
 exact Tm.sub_ext _ fun y hy=>(root y (h.root x y hy)).symm
def one (x:Nat) (u:Tm):Sb:=fun y=>if y=x then u else .v y
def MD (B:Bd) (x:Nat) (t:Tm):Bd:=fun y=>if y=x then some t else B y
theorem u6 (B:Bd) (x:Nat) (t:Tm):MD B x t x=some t:=by simp [MD]
theorem kt (B:Bd) {x y:Nat} (t:Tm) (h:y≠x):MD B x t y=B y:=by simp [MD,h]
theorem SolB.upd {B:Bd} {x:Nat} {t:Tm} {θ:Sb} (hx:B x=none):SolB θ (MD B x t)↔SolB θ B∧θ x=t.sub θ:=by
 constructor
 ·intro h;refine ⟨fun y u hy=>h y u ?_,h x t (u6 ..)⟩;rw[kt _ _ fun e=>by rw[e,hx] at hy; cases hy]
  exact hy
 ·rintro⟨h1,h2⟩ y u hy;by_cases he:y=x
  ·subst he;rw[u6] at hy;injection hy with hy;subst hy;exact h2
  ·rw[kt _ _ he] at hy;exact h1 y u hy
theorem UT {x:Nat} {u t:Tm} (h:¬ t.has x):t.sub (one x u)=t:=by
 conv=>rhs; rw[← Tm.sub_v t]
 refine Tm.sub_ext t fun y hy => ?_;have hne:y≠x:=fun e=>h (e▸hy);unfold one;rw[if_neg hne]
theorem Good.bind {B:Bd} {σ:Sb} (h:Good B σ) {x:Nat} {t:Tm} (hx:B x=none) (hn:¬(t.sub σ).has x) (hd:∀ y,t = .v y->y<x):Good (MD B x t) fun y=>(σ y).sub (one x (t.sub σ)) where
 free:=fun y hy=>by
  have hne:y≠x:=fun e=>by rw[e,u6] at hy; cases hy
  rw[kt _ _ hne] at hy;rw[h.free y hy];show one x _ y=_;simp [one,hne]
 bound:=fun y u hy=>by
  by_cases he:y=x
  ·subst he;rw[u6] at hy;injection hy with hy;subst hy;rw[h.free y hx,← Tm.sub_sub,UT hn];show one y _ y=_;simp [one]
  ·rw[kt _ _ he] at hy;rw[h.bound y u hy,Tm.sub_sub]
 down:=fun y z hy=>by
  by_cases he:y=x
  ·subst he;rw[u6] at hy;injection hy with hy;exact hd z hy
  ·rw[kt _ _ he] at hy;exact h.down y z hy
theorem Good.occurs {B:Bd} {σ θ:Sb} (h:Good B σ) {x c:Nat} {as:List Tm} (hh:((Tm.f c as).sub σ).has x) (hθ:SolB θ B) (he:θ x=(Tm.f c as).sub θ):False:=by
 have h1:=h.facT hθ (.f c as);rw[← he] at h1;have h2:=rz (s:=θ) (wF σ as) hh;have h3:(((Tm.f c as).sub σ).sub θ).size=(θ x).size:=by rw[h1]
 have h4:xY (wF θ (wF σ as))+1=(θ x).size:=h3;omega
def Xh (B:Bd):Prop:=∀ x t,B x=some t->x<48∧t.size<=48
def Good.less (σ:Sb) (y x:Nat):Bool:=decide ((σ y).size<(σ x).size)||(decide ((σ y).size=(σ x).size)&&decide (y<x))
def Good.rank (σ:Sb) (x:Nat):Nat:=(aR 48).countP fun y=>Good.less σ y x
theorem WK {α:Type} {p q:α->Bool} {a:α}:{l:List α}->a∈l->(∀ x∈l,p x=true->q x=true)->p a=false->q a=true->l.countP p<l.countP q
 | [],h,_,_,_=>nomatch h
 | b::l,hm,hi,hp,hq=>by
  have h2:l.countP p<=l.countP q:=List.countP_mono_left fun x hx h=>hi x (ai _ hx) h;rcases aI.1 hm with rfl | hm
  ·rw[dQ (by simp [hp]),dh hq]
   omega
  ·have h1:=WK hm (fun x hx=>hi x (ai _ hx)) hp hq;cases hb:p b with
   | true=>rw[dh hb,dh (hi b (am ..) hb)]; omega
   | false =>
    rw[dQ (by simp [hb])]
    cases hc:q b with
    | true=>rw[dh hc]; omega
    | false=>rw[dQ (by simp [hc])]; exact h1
theorem Good.small {B:Bd} {σ:Sb} (h:Good B σ) (hb:Xh B):∀ x,(σ x).size<=48 ^ 49:=by
 have key:∀ x,B x≠none->(σ x).size<=48 ^ (Good.rank σ x+1):=by
  refine h.ind (fun x hx hn=>absurd hx hn) fun x t hx ih _ => ?_;obtain⟨hx48,ht⟩:=hb x t hx;rw[h.bound x t hx];have h1:1<=48 ^ Good.rank σ x:=fW (by omega)
  refine aF (Tm.size_sub t h1 fun y hy => ?_) ?_
  ·cases hy0:B y with
   | none=>rw[h.free y hy0]; exact h1
   | some u =>
    refine aF (ih y hy (by rw[hy0]; simp)) (fm (by omega) ?_)
    have hlt:Good.less σ y x=true:=by
     unfold Good.less;have hs:=h.bound x t hx;cases t with
     | v z =>
      have hz:z=y:=hy;subst hz;have h2:=h.down x z hx;have h3:(σ z).size=(σ x).size:=by rw[hs]; rfl
      simp [h3,h2]
     | f c as =>
      have h2:=rz (s:=σ) as hy;have h3:(σ x).size=xY (wF σ as)+1:=by rw[hs]; rfl
      rw[decide_eq_true (show (σ y).size<(σ x).size by omega)]
      rfl
    refine WK (a:=y) (cE.2 (hb y u hy0).1) (fun z _ hz => ?_) (by simp [Good.less]) hlt
    simp only[Good.less,bO,ap,decide_eq_true_eq] at hz hlt ⊢;omega
  ·rw[Nat.pow_succ,Nat.mul_comm];exact dI _ ht
 intro x;by_cases hx:B x=none
 ·rw[h.free x hx];exact fW (by omega)
 ·refine aF (key x hx) (fm (by omega) ?_)
  have:Good.rank σ x<=(aR 48).length:=dY;rw[ey] at this;omega
theorem Good.small_sub {B:Bd} {σ:Sb} (h:Good B σ) (hb:Xh B) (t:Tm):(t.sub σ).size<=t.size*48 ^ 49 :=
 Tm.size_sub t (fW (by omega)) fun x _=>h.small hb x
def Out (B:Bd) (E:List (Tm×Tm)):Option Bd->Prop
 | none=>∀ θ,SolB θ B->Sol θ E->False
 | some B'=>(∃ σ,Good B' σ)∧Xh B'∧∀ θ,SolB θ B'↔SolB θ B∧Sol θ E
theorem Out.via {B B1:Bd} {E E1:List (Tm×Tm)} (h:∀ θ,(SolB θ B1∧Sol θ E1)↔(SolB θ B∧Sol θ E)) {o:Option Bd} (ho:Out B1 E1 o):Out B E o:=by
 cases o with
 | none=>exact fun θ h1 h2=>ho θ ((h θ).2 ⟨h1,h2⟩).1 ((h θ).2 ⟨h1,h2⟩).2
 | some B'=>exact ⟨ho.1,ho.2.1,fun θ=>(ho.2.2 θ).trans (h θ)⟩
theorem Out.done {B:Bd} {σ:Sb} (h:Good B σ) (hs:Xh B):Out B [] (some B):=⟨⟨σ,h⟩,hs,fun _=>⟨fun h=>⟨h,Sol.nil⟩,fun h=>h.1⟩⟩
theorem zcR {θ:Sb} {c d:Nat} {as bs:List Tm}:(Tm.f c as).sub θ=(Tm.f d bs).sub θ↔c=d∧wF θ as=wF θ bs:=by
 simp [Tm.sub]
abbrev PI:=List Int×Int
abbrev PO:=Option jI×Int
def Pc (a0:List zl) (N:Nat) (p:List Int) (d:Int) (t:Tm):Prop:=∃ u n,Tm.ok a0 24 u∧p=u.codes∧d=((n:Nat):Int)∧n<=N∧t=u.up n∧p.length<=48
def Pr (a0:List zl) (N:Nat) (p:List Int) (d:Int) (ts:List Tm):Prop:=∃ us n,okR a0 24 us∧p=zc us∧d=((n:Nat):Int)∧n<=N∧ts=us.map (Tm.up n)∧p.length<=48
theorem Pc.size {a0:List zl} {N:Nat} {p:List Int} {d:Int} {t:Tm} (h:Pc a0 N p d t):t.size=p.length∧t.size<=48:=by
 obtain⟨u,n,h1,rfl,h2,h3,rfl,h4⟩:=h;rw[Tm.up_size,Tm.codes_len];rw[Tm.codes_len] at h4;exact ⟨rfl,h4⟩
theorem Pc.lt {a0:List zl} {N:Nat} (hN:N<=24) {p:List Int} {d:Int} {t:Tm} (h:Pc a0 N p d t) {x:Nat} (hx:t.has x):x<48:=by
 obtain⟨u,n,h1,rfl,h2,h3,rfl,h4⟩:=h;have:=Tm.ok_has _ (Tm.up_ok (d:=n) h1) hx;omega
theorem Pc.cases {a0:List zl} {N:Nat} {p:List Int} {d:Int} {t:Tm} (h:Pc a0 N p d t) :
  (∃ k n:Nat,p=[-1 - (k:Int)]∧d=(n:Int)∧k<24∧n<=N∧t = .v (k+n))∨∃ c r ts,p=((c:Nat):Int)::r∧t = .f c ts∧vm a0 (c:Int)=some ts.length∧Pr a0 N r d ts:=by
 obtain⟨u,n,h1,rfl,h2,h3,rfl,h4⟩:=h;cases u with
 | v k=>exact .inl ⟨k,n,rfl,h2,h1,h3,rfl⟩
 | f c as =>
  have h4:(zc as).length+1<=48:=h4;refine .inr ⟨c,zc as,as.map (Tm.up n),rfl,?_,by rw[aT]; exact h1.1,as,n,h1.2,rfl,h2,h3,rfl,by omega⟩
  show Tm.f c (wF _ as)=_;rw[WF];rfl
def Pq (a0:List zl) (N:Nat) (q:List Int×Int×List Int×Int) (e:Tm×Tm):Prop:=Pc a0 N q.1 q.2.1 e.1∧Pc a0 N q.2.2.1 q.2.2.2 e.2
def PqL (a0:List zl) (N:Nat):List (List Int×Int×List Int×Int)->List (Tm×Tm)->Prop
 | [],es=>es=[]
 | q::qs,es=>∃ e es',es=e::es'∧Pq a0 N q e∧PqL a0 N qs es'
theorem PqL.append {a0:List zl} {N:Nat}:{qs:List (List Int×Int×List Int×Int)}->{es:List (Tm×Tm)}->{qs':List (List Int×Int×List Int×Int)}->{es':List (Tm×Tm)}->PqL a0 N qs es->PqL a0 N qs' es'->PqL a0 N (qs++qs') (es++es')
 | [],_,_,_,h,h'=>by have h:_=[]:=h; subst h; exact h'
 | q::qs,_,_,_,h,h'=>by
  obtain⟨e,es,rfl,h1,h2⟩:=h;exact ⟨e,_,rfl,h1,PqL.append h2 h'⟩
theorem PqL.length {a0:List zl} {N:Nat}:{qs:List (List Int×Int×List Int×Int)}->{es:List (Tm×Tm)}->PqL a0 N qs es->es.length=qs.length
 | [],_,h=>by have h:_=[]:=h; subst h; rfl
 | q::qs,_,h=>by
  obtain⟨e,es,rfl,h1,h2⟩:=h;simp [PqL.length h2]
theorem PqL.split {a0:List zl} {N:Nat}:{qs:List (List Int×Int×List Int×Int)}->{qs':List (List Int×Int×List Int×Int)}->{es:List (Tm×Tm)}->PqL a0 N (qs++qs') es->∃ e1 e2,es=e1++e2∧PqL a0 N qs e1∧PqL a0 N qs' e2
 | [],_,es,h=>⟨[],es,rfl,rfl,h⟩
 | q::qs,_,_,h=>by
  obtain⟨e,es,rfl,h1,h2⟩:=h;obtain⟨e1,e2,rfl,h3,h4⟩:=PqL.split h2;exact ⟨e::e1,e2,rfl,⟨e,e1,rfl,h1,h3⟩,h4⟩
def PcO (a0:List zl) (N:Nat) (e:PO) (o:Option Tm):Prop:=match e.1 with
 | none=>o=none
 | some p=>∃ t,o=some t∧Pc a0 N p e.2 t
structure RepT (a0:List zl) (N:Nat) (to:List PO) (B:Bd):Prop where
 len:to.length=48
 at_:∀ x e,to[x]? = some e->PcO a0 N e (B x)
 out:∀ x,48<=x->B x=none
theorem RepT.small {a0:List zl} {N:Nat} {to:List PO} {B:Bd} (h:RepT a0 N to B):Xh B:=by
 intro x t hx;have hlt:x<48:=by
  rcases bI x 48 with h' | h'
  ·exact h'
  ·rw[h.out x h'] at hx; cases hx
 refine ⟨hlt,?_⟩;have hl:x<to.length:=by rw[h.len]; exact hlt
 have hg:to[x]? = some to[x]:=al hl;have:=h.at_ x _ hg;unfold PcO at this;split at this
 ·rw[hx] at this; cases this
 ·obtain⟨u,h1,h2⟩:=this;rw[hx] at h1; injection h1 with h1; subst h1;exact h2.size.2
theorem RepT.get {a0:List zl} {N:Nat} {to:List PO} {B:Bd} (h:RepT a0 N to B) {x:Nat} (hx:x<48):∃ e,to[x]? = some e∧PcO a0 N e (B x):=by
 have hl:x<to.length:=by rw[h.len]; exact hx
 have hg:to[x]? = some to[x]:=al hl;exact ⟨_,hg,h.at_ x _ hg⟩
theorem RepT.set {a0:List zl} {N:Nat} {to:List PO} {B:Bd} (h:RepT a0 N to B) {x:Nat} (hx:x<48) {p:List Int} {d:Int} {t:Tm} (hp:Pc a0 N p d t):RepT a0 N (to.set x (some p,d)) (MD B x t) where
 len:=by rw[cM]; exact h.len
 at_:=fun y e hy=>by
  by_cases he:y=x
  ·subst he;rw[cD (by rw[h.len]; exact hx)] at hy
   injection hy with hy;subst hy;rw[u6];exact ⟨t,rfl,hp⟩
  ·rw[cw (db he)] at hy;rw[kt _ _ he];exact h.at_ y e hy
 out:=fun y hy=>by
  rw[kt _ _ (by omega)]
  exact h.out y hy
theorem Yx {N:Nat} (hN:N<=24) {k n:Nat} (hk:k<24) (hn:n<=N) (p:List Int):ym p (n:Int) (-1 - (k:Int))=some ((k+n:Nat):Int):=by
 unfold ym;rw[wl (by omega) (by omega),af]
 congr 1
 rw[zC]<;>omega
def ZC:Tm->Nat
 | .v x=>x+2
 | .f _ _=>1
theorem MY {a0:List zl} {N:Nat} (hN:N<=24) {to:List PO} {B:Bd} {σ:Sb} (hT:RepT a0 N to B) (hG:Good B σ):∀(m k:Nat) (p:List Int) (d:Int) (t:Tm) (z:Int),ZC t<=m->m<=k->Pc a0 N p d t ->
  ∃ p' d' t',lp xS k (a0,to,p,d,z)=some (p',d')∧Pc a0 N p' d' t'∧(∀ θ,SolB θ B->t.sub θ=t'.sub θ)∧∀ y,t' = .v y->B y=none:=by
 intro m
 induction m with
 | zero=>intro k p d t z hm; cases t<;>simp [ZC] at hm
 | succ m ih =>
  intro k p d t z hm hk hp;obtain⟨k,rfl⟩:∃ k',k=k'+1:=⟨k - 1,by omega⟩
  rw[zK];have key:=fun p d t (h1:ZC t<=m) h2=>ih k p d t z h1 (by omega) h2
  generalize lp xS k=rec at key ⊢;unfold xS;rcases hp.cases with ⟨x,n,rfl,rfl,hx,hn,rfl⟩ | ⟨c,r,ts,rfl,rfl,hc,hr⟩
  ·simp only[y5,ay,af];rw[decide_eq_true (show -1 - (x:Int)<0 by omega),cond_true,Yx hN hx hn,af,xb (by omega),af]
   obtain⟨e,he,hpe⟩:=hT.get (x:=x+n) (by omega)
   rw[he,af];unfold PcO at hpe;split at hpe
   ·rename_i h1;rw[h1];exact ⟨_,_,_,rfl,hp,fun θ _=>rfl,fun y hy=>by injection hy with hy; rw[← hy]; exact hpe⟩
   ·rename_i q h1;obtain⟨u,hu,hq⟩:=hpe;rw[h1];simp only[cr,cond_false,bm];obtain⟨p',d',t',h2,h3,h4,h5⟩:=key q e.2 u (by
     cases u with
     | v y=>have:=hG.down _ y hu; simp only[ZC] at hm ⊢; omega
     | f c as=>simp only[ZC] at hm ⊢; omega) hq
    exact ⟨p',d',t',h2,h3,fun θ hθ=>(hθ _ u hu).trans (h4 θ hθ),h5⟩
  ·simp only[y5,ay,af];rw[decide_eq_false (show ¬(c:Int)<0 by omega),cond_false]
   exact ⟨_,_,_,rfl,hp,fun θ _=>rfl,fun y hy=>by cases hy⟩
theorem Jj {a0:List zl} {N:Nat} (hN:N<=24) {to:List PO} {B:Bd} {σ:Sb} (hT:RepT a0 N to B) (hG:Good B σ) {p:List Int} {d:Int} {t:Tm} (hp:Pc a0 N p d t) :
  ∃ p' d' t',xA p d a0 to=some (p',d')∧Pc a0 N p' d' t'∧(∀ θ,SolB θ B->t.sub θ=t'.sub θ)∧∀ y,t' = .v y->B y=none:=by
 obtain⟨p',d',t',h1,h2⟩:=MY hN hT hG (ZC t) zd p d t 0 (aE _) (by
  cases t with
  | v x=>have:=hp.lt hN (x:=x) rfl; simp only[ZC]; unfold zd; omega
  | f c as=>simp only[ZC]; unfold zd; omega) hp
 refine ⟨p',d',t',?_,h2⟩;unfold xA;rw[h1];rfl
section
variable {a0:List zl} {N:Nat} {to:List PO} {B:Bd} {σ:Sb} {v:Nat}
def DoneV (B:Bd) (v:Nat) (seen:List Bool) (y:Nat):Prop:=y≠v∧(B y≠none->seen[y]? = some true)
def PcL (a0:List zl) (N:Nat):List PI->List Tm->Prop
 | [],ts=>ts=[]
 | p::ps,ts=>∃ t ts',ts=t::ts'∧Pc a0 N p.1 p.2 t∧PcL a0 N ps ts'
theorem PcL.append:{ps:List PI}->{ts:List Tm}->{ps':List PI}->{ts':List Tm}->PcL a0 N ps ts->PcL a0 N ps' ts'->PcL a0 N (ps++ps') (ts++ts')
 | [],_,_,_,h,h'=>by have h:_=[]:=h; subst h; exact h'
 | q::qs,_,_,_,h,h'=>by
  obtain⟨e,es,rfl,h1,h2⟩:=h;exact ⟨e,_,rfl,h1,PcL.append h2 h'⟩
theorem PcL.split:{ps:List PI}->{ps':List PI}->{ts:List Tm}->PcL a0 N (ps++ps') ts->∃ t1 t2,ts=t1++t2∧PcL a0 N ps t1∧PcL a0 N ps' t2
 | [],_,ts,h=>⟨[],ts,rfl,rfl,h⟩
 | q::qs,_,_,h=>by
  obtain⟨e,es,rfl,h1,h2⟩:=h;obtain⟨e1,e2,rfl,h3,h4⟩:=PcL.split h2;exact ⟨e::e1,e2,rfl,⟨e,e1,rfl,h1,h3⟩,h4⟩
theorem PcL.length:{ps:List PI}->{ts:List Tm}->PcL a0 N ps ts->ts.length=ps.length
 | [],_,h=>by have h:_=[]:=h; subst h; rfl
 | q::qs,_,h=>by
  obtain⟨e,es,rfl,h1,h2⟩:=h;simp [PcL.length h2]
def jO (seen:List Bool):Nat:=seen.countP fun b => !b
theorem BU {seen:List Bool} {x:Nat} (h:seen[x]? = some false):jO (seen.set x true)+1=jO seen:=by
 unfold jO;obtain⟨hx,he⟩:=aq.1 h;have h1:=bR x seen;have h2:seen.drop x=false::seen.drop (x+1):=by rw[aV hx,he]
 have h3:seen.set x true=seen.take x++true::seen.drop (x+1):=by rw[dR,if_pos hx]
 conv=>rhs; rw[← h1,h2]
 rw[h3];simp [fA];omega
theorem X3 (hN:N<=24) (hT:RepT a0 N to B) {n:Nat} (hn:n<=N) (p0:List Int):∀(es:List Int) (seen:List Bool) (todo:List PI) (ts:List Tm),(∀ c∈es,-24<=c)->seen.length=48->todo.length+jO seen<=1000->PcL a0 N todo ts ->
  (zi (v:Int) to p0 (n:Int) es seen todo=some (.inr true)∧∃ c∈es,c<0∧(-1 - c).toNat+n=v) ∨
  ∃ seen' more us,zi (v:Int) to p0 (n:Int) es seen todo=some (.inl (seen',todo++more))∧seen'.length=48∧more.length+jO seen'=jO seen∧PcL a0 N more us ∧
   (∀ y:Nat,seen[y]? = some true->seen'[y]? = some true)∧(∀ c∈es,c<0->DoneV B v seen' ((-1 - c).toNat+n))∧(∀ y:Nat,seen'[y]? = some true->seen[y]? = some true∨∃ u,B y=some u∧u∈us) ∧
   (∀ u∈us,∃ c∈es,c<0∧B ((-1 - c).toNat+n)=some u)
 | [],seen,todo,ts,_,hs,_,_=>.inr ⟨seen,[],[],by rw[b7]; rfl,hs,by simp,rfl,fun _ h=>h,fun c h=>(nomatch h),fun y h=>.inl h,fun u h=>(nomatch h)⟩
 | e::es,seen,todo,ts,hc,hs,hl,hp=>by
  have he:=hc e (am ..);have hc':∀ c∈es,-24<=c:=fun c h=>hc c (ai _ h)
  -- the variable is passed over
  have pass:∀ f:List Bool->List PI->Option ((List Bool×List PI)⊕Bool),f seen todo=zi (v:Int) to p0 (n:Int) es seen todo->(e<0->DoneV B v seen ((-1 - e).toNat+n)) ->
    ((f seen todo=some (.inr true)∧∃ c∈e::es,c<0∧(-1 - c).toNat+n=v) ∨
    ∃ seen' more us,f seen todo=some (.inl (seen',todo++more))∧seen'.length=48∧more.length+jO seen'=jO seen∧PcL a0 N more us ∧
     (∀ y:Nat,seen[y]? = some true->seen'[y]? = some true)∧(∀ c∈e::es,c<0->DoneV B v seen' ((-1 - c).toNat+n))∧(∀ y:Nat,seen'[y]? = some true->seen[y]? = some true∨∃ u,B y=some u∧u∈us) ∧
     (∀ u∈us,∃ c∈e::es,c<0∧B ((-1 - c).toNat+n)=some u)):=by
   intro f hf hd;rw[hf];rcases X3 hN hT hn p0 es seen todo ts hc' hs hl hp with ⟨h1,c,h2,h3⟩ | ⟨seen',more,us,h1,h2,h3,h4,h5,h6,h7,h8⟩
   ·exact .inl ⟨h1,c,ai _ h2,h3⟩
   ·refine .inr ⟨seen',more,us,h1,h2,h3,h4,h5,fun c hcm hc0 => ?_,h7,fun u hu => ?_⟩
    ·rcases aI.1 hcm with rfl | hcm
     ·exact ⟨(hd hc0).1,fun hb=>h5 _ ((hd hc0).2 hb)⟩
     ·exact h6 c hcm hc0
    ·obtain⟨c,h9,h10⟩:=h8 u hu;exact ⟨c,ai _ h9,h10⟩
  unfold zi;by_cases h0:e≥0
  ·rw[decide_eq_true h0,cond_true];exact pass (fun seen todo=>zi (v:Int) to p0 (n:Int) es seen todo) rfl fun h=>by omega
  ·rw[decide_eq_false h0,cond_false];obtain⟨k,hk,rfl⟩:∃ k:Nat,k<24∧e = -1 - (k:Int):=⟨(-1 - e).toNat,by omega,by omega⟩
   have hk2:(-1 - (-1 - (k:Int))).toNat=k:=by omega
   rw[Yx hN hk hn,af];by_cases hv:k+n=v
   ·rw[hv,show (((v:Nat):Int)==(v:Int))=true from by simp,cond_true]
    exact .inl ⟨rfl,_,am ..,by omega,by rw[hk2]; exact hv⟩
   ·rw[show (((k+n:Nat):Int)==(v:Int))=false from by simp; omega,cond_false,xb (show k+n<48 by omega),af]
    obtain⟨b,hb⟩:∃ b,seen[k+n]? = some b:=⟨seen[k+n]'(by omega),al (by omega)⟩
    rw[hb,af];obtain⟨q,hq,hpq⟩:=hT.get (x:=k+n) (by omega)
    cases b with
    | true =>
     simp only[aH,cond_false];exact pass (fun seen todo=>zi (v:Int) to p0 (n:Int) es seen todo) rfl fun _=>by rw[hk2]; exact ⟨hv,fun _=>hb⟩
    | false =>
     simp only[bM,cond_true,af,hq];unfold PcO at hpq;split at hpq
     ·rename_i h1;rw[h1];simp only[c5,aH,cond_false];exact pass (fun seen todo=>zi (v:Int) to p0 (n:Int) es seen todo) rfl fun _=>by rw[hk2]; exact ⟨hv,fun hn=>absurd hpq hn⟩
     ·rename_i q1 h1;obtain⟨u,hu,hpu⟩:=hpq;rw[h1];simp only[cr,bM,cond_true,bm,hb,af];have hun:=BU hb;rw[zy (show (todo.length+([(q1,q.2)]:List PI).length)*32<=140737488351232 by simp; omega),cond_true]
      have hset:(seen.set (k+n) true)[k+n]? = some true:=cD (by omega)
      have hmono:∀ y:Nat,seen[y]? = some true->(seen.set (k+n) true)[y]? = some true:=fun y hy=>by
       by_cases hyk:y=k+n
       ·subst hyk; exact hset
       ·rw[cw (db hyk)]; exact hy
      have hbk:∀ y:Nat,(seen.set (k+n) true)[y]? = some true->seen[y]? = some true∨y=k+n:=fun y hy=>by
       by_cases hyk:y=k+n
       ·exact .inr hyk
       ·rw[cw (db hyk)] at hy; exact .inl hy
      rcases X3 hN hT hn p0 es (seen.set (k+n) true) (todo++[(q1,q.2)]) (ts++[u]) hc' (by rw[cM]; exact hs) (by simp; omega) (hp.append ⟨u,[],rfl,hpu,rfl⟩) with ⟨h2,c,h3,h4⟩ | ⟨seen',more,us,h2,h3,h4,h5,h6,h7,h8,h9⟩
      ·exact .inl ⟨h2,c,ai _ h3,h4⟩
      ·refine .inr ⟨seen',(q1,q.2)::more,u::us,by rw[h2,bn]; rfl,h3,by simp; omega,⟨u,us,rfl,hpu,h5⟩,fun y hy=>h6 y (hmono y hy),fun c hcm hc0 => ?_,fun y hy => ?_,fun w hw => ?_⟩
       ·rcases aI.1 hcm with rfl | hcm
        ·rw[hk2]; exact ⟨hv,fun _=>h6 _ hset⟩
        ·exact h7 c hcm hc0
       ·rcases h8 y hy with h10 | ⟨w,h10,h11⟩
        ·rcases hbk y h10 with h12 | rfl
         ·exact .inl h12
         ·exact .inr ⟨u,hu,am ..⟩
        ·exact .inr ⟨w,h10,ai _ h11⟩
       ·rcases aI.1 hw with rfl | hw
        ·exact ⟨_,am ..,by omega,by rw[hk2]; exact hu⟩
        ·obtain⟨c,h10,h11⟩:=h9 w hw;exact ⟨c,ai _ h10,h11⟩
theorem Pc.vars {p:List Int} {d:Int} {t:Tm} (h:Pc a0 N p d t):∃ n:Nat,d=(n:Int)∧n<=N∧(∀ c∈p,-24<=c)∧∀ y,t.has y↔∃ c∈p,c<0∧(-1 - c).toNat+n=y:=by
 obtain⟨u,n,h1,rfl,h2,h3,rfl,h4⟩:=h;refine ⟨n,h2,h3,fun c hc => ?_,fun y => ?_⟩
 ·by_cases h0:c<0
  ·have:=Tm.ok_has u h1 ((Tm.mem_codes h0 u).1 hc); omega
  ·omega
 ·rw[Tm.up_has];constructor
  ·rintro⟨x,hx,rfl⟩;have hc:(-1 - (x:Int))<0:=by omega
   refine ⟨-1 - (x:Int),(Tm.mem_codes hc u).2 (by rw[show (-1 - (-1 - (x:Int))).toNat=x from by omega]; exact hx),hc,by omega⟩
  ·rintro⟨c,hc,h0,rfl⟩;exact ⟨_,(Tm.mem_codes h0 u).1 hc,rfl⟩
structure WInv (B:Bd) (σ:Sb) (v:Nat) (t:Tm) (seen:List Bool) (ts:List Tm):Prop where
 snd:∀ u∈ts,(u.sub σ).has v->(t.sub σ).has v
 top:t∈ts∨∀ y,t.has y->DoneV B v seen y
 cls:∀ x u,seen[x]? = some true->B x=some u->u∈ts∨∀ y,u.has y->DoneV B v seen y
theorem DoneV.mono {seen seen':List Bool} (h:∀ y:Nat,seen[y]? = some true->seen'[y]? = some true) {y:Nat} (hd:DoneV B v seen y):DoneV B v seen' y:=⟨hd.1,fun hb=>h y (hd.2 hb)⟩
theorem Aw (hN:N<=24) (hT:RepT a0 N to B) (hG:Good B σ) (hv:B v=none) (t:Tm):∀(m k:Nat) (seen:List Bool) (todo:List PI) (ts:List Tm) (z:List Int) (z2:Int),todo.length+jO seen=m->m<k->m<=100->seen.length=48->PcL a0 N todo ts->WInv B σ v t seen ts ->
  ∃ r,lp q8 k ((v:Int),a0,to,z,z2,seen,todo)=some r∧((r = .inr true∧(t.sub σ).has v)∨(r = .inl ()∧¬(t.sub σ).has v)):=by
 intro m
 induction m using cN with
 | _ m ih =>
  intro k seen todo ts z z2 hm hk hm1 hs hp hI;obtain⟨k,rfl⟩:∃ k',k=k'+1:=⟨k - 1,by omega⟩
  rw[zK];have key:=fun (m':Nat) (h:m'<m) seen todo ts z z2 h1 h2 h3 h4=>ih m' h k seen todo ts z z2 h1 (by omega) (by omega) h2 h3 h4
  generalize lp q8 k=rec at key ⊢;unfold q8;rcases fb todo with rfl | ⟨todo',p,rfl⟩
  ·have hts:ts=[]:=hp;subst hts;refine ⟨_,rfl,.inr ⟨rfl,?_⟩⟩;have hcl:∀ x u,seen[x]? = some true->B x=some u->∀ y,u.has y->DoneV B v seen y:=fun x u h1 h2=>(hI.cls x u h1 h2).resolve_left (fun h=>nomatch h);have hno:∀ x,DoneV B v seen x->¬(σ x).has v:=by
    refine hG.ind (fun x hx hd hh => ?_) fun x u hx ihx hd hh => ?_
    ·rw[hG.free x hx] at hh;exact hd.1 hh
    ·rw[hG.bound x u hx] at hh;obtain⟨y,h1,h2⟩:=(Tm.has_sub u).1 hh;exact ihx y h1 (hcl x u (hd.2 (by rw[hx]; simp)) hx y h1) h2
   intro hh;obtain⟨y,h1,h2⟩:=(Tm.has_sub t).1 hh;exact hno y ((hI.top.resolve_left fun h=>nomatch h) y h1) h2
  ·rw[fc] at *;obtain⟨ts',us0,rfl,hp1,hp2⟩:=PcL.split hp;obtain⟨u0,us1,rfl,hu0,hus1⟩:=hp2;have hus1:us1=[]:=hus1;subst hus1;simp only[az,aX] at hm;obtain⟨q,d⟩:=p;obtain⟨n,rfl,hn,hcs,hvars⟩:=hu0.vars;have e1:ah .i64 (((aa (todo'++[(q,(n:Int))]):Nat):Int) - 1)=((todo'.length:Nat):Int):=by
    rw[az,aX,zC]<;>omega
   have e2:inR ((todo'.length:Nat):Int) (aa (todo'++[(q,(n:Int))]))=some todo'.length:=xb (by simp)
   have e3:(todo'++[(q,(n:Int))])[todo'.length]? = some (q,(n:Int)):=Iq _ [] _;have e4:decide (((aa (todo'++[(q,(n:Int))]):Nat):Int)>0)=true:=decide_eq_true (by rw[az,aX]; omega)
   simp only[e1,e2,e3,e4,af,cond_true,DP];have hsz:u0.size=q.length∧u0.size<=48:=hu0.size;rw[sn _ _ _ _ _ _ _ _ (by unfold maxLen; omega)]
   rcases X3 (v:=v) hN hT hn q q seen todo' ts' hcs hs (by omega) hp1 with ⟨h1,c,h2,h3,h4⟩ | ⟨seen',more,us,h1,h2,h3,h4,h5,h6,h7,h8⟩
   ·rw[h1];refine ⟨_,rfl,.inl ⟨rfl,hI.snd u0 (by simp) ?_⟩⟩
    refine (Tm.has_sub u0).2 ⟨v,(hvars v).2 ⟨c,h2,h3,h4⟩,?_⟩;rw[hG.free v hv];rfl
   ·rw[h1];simp only[af,te];refine key (todo'.length+more.length+jO seen') (by omega) seen' (todo'++more) (ts'++us) q (n:Int) (by simp) h2 (hp1.append h4) ⟨fun w hw hh => ?_,?_,fun x w hx hw => ?_⟩
    ·rcases aW.1 hw with hw | hw
     ·exact hI.snd w (by simp [hw]) hh
     ·obtain⟨c,h9,h10,h11⟩:=h8 w hw;refine hI.snd u0 (by simp) ((Tm.has_sub u0).2 ⟨_,(hvars _).2 ⟨c,h9,h10,rfl⟩,?_⟩)
      rw[hG.bound _ w h11];exact hh
    ·have hdone:∀ y,u0.has y->DoneV B v seen' y:=fun y hy=>by
      obtain⟨c,h9,h10,rfl⟩:=(hvars y).1 hy;exact h6 c h9 h10
     rcases hI.top with ht | ht
     ·rcases aW.1 ht with ht | ht
      ·exact .inl (by simp [ht])
      ·rw[bF.1 ht]; exact .inr hdone
     ·exact .inr fun y hy=>(ht y hy).mono h5
    ·have hdone:∀ y,u0.has y->DoneV B v seen' y:=fun y hy=>by
      obtain⟨c,h9,h10,rfl⟩:=(hvars y).1 hy;exact h6 c h9 h10
     rcases h7 x hx with h9 | ⟨w',h9,h10⟩
     ·rcases hI.cls x w h9 hw with ht | ht
      ·rcases aW.1 ht with ht | ht
       ·exact .inl (by simp [ht])
       ·rw[bF.1 ht]; exact .inr hdone
      ·exact .inr fun y hy=>(ht y hy).mono h5
     ·rw[hw] at h9; injection h9 with h9; subst h9;exact .inl (by simp [h10])
theorem II (hN:N<=24) (hT:RepT a0 N to B) (hG:Good B σ) (hv:B v=none) {p:List Int} {d:Int} {t:Tm} (hp:Pc a0 N p d t) :
  ∃ r,vd (v:Int) p d a0 to=some r∧(r=true↔(t.sub σ).has v):=by
 have hun:jO (ax 48 false)=48:=by decide
 obtain⟨r,h1,h2⟩:=Aw hN hT hG hv t 49 zd (ax 48 false) [(p,d)] [t] p d (by rw[hun]; rfl) (by unfold zd; omega) (by omega) (by simp) ⟨t,[],rfl,hp,rfl⟩
  ⟨fun u hu h=>by rw[bF.1 hu] at h; exact h,.inl (by simp),fun x u hx _=>by
   rw[bD] at hx;split at hx<;>simp at hx⟩
 unfold vd;rw[h1];rcases h2 with ⟨rfl,h2⟩ | ⟨rfl,h2⟩
 ·exact ⟨true,rfl,by simp [h2]⟩
 ·exact ⟨false,rfl,by simp [h2]⟩
end
mutual
def Tm.ht:Tm->Nat
 | .v _=>1
 | .f _ as=>htR as+1
def htR:List Tm->Nat
 | []=>0
 | t::ts=>max t.ht (htR ts)
end
mutual
theorem Tm.ht_size:(t:Tm)->t.ht<=t.size
 | .v _=>aE _
 | .f _ as=>by have:=DR as; simp only[Tm.ht,Tm.size]; omega
theorem DR:(ts:List Tm)->htR ts<=xY ts
 | []=>aE _
 | t::ts=>by have:=t.ht_size; have:=DR ts; simp only[htR,xY]; omega
end
mutual
theorem Tm.ht_sub {s:Sb} {M:Nat}:(t:Tm)->(∀ x,t.has x->(s x).ht<=M)->(t.sub s).ht<=t.ht+M
 | .v n,h=>by have:=h n rfl; simp only[Tm.sub,Tm.ht]; omega
 | .f _ as,h=>by have:=FC as h; simp only[Tm.sub,Tm.ht]; omega
theorem FC {s:Sb} {M:Nat}:(ts:List Tm)->(∀ x,QW x ts->(s x).ht<=M)->htR (wF s ts)<=htR ts+M
 | [],_=>by simp [wF,htR]
 | t::ts,h=>by
  have h1:=Tm.ht_sub t fun x hx=>h x (.inl hx);have h2:=FC ts fun x hx=>h x (.inr hx);simp only[wF,htR]; omega
end
theorem In:{ts:List Tm}->{t:Tm}->t∈ts->t.ht<=htR ts
 | u::us,t,h=>by
  rcases aI.1 h with rfl | h
  ·simp only[htR]; omega
  ·have:=In h; simp only[htR]; omega
theorem Good.rank_lt {B:Bd} {σ:Sb} (h:Good B σ) {x y:Nat} {t:Tm} (hx:B x=some t) (hy:t.has y) (h48:y<48):Good.rank σ y<Good.rank σ x:=by
 have hlt:Good.less σ y x=true:=by
  unfold Good.less;have hs:=h.bound x t hx;cases t with
  | v z =>
   have hz:z=y:=hy;subst hz;have h2:=h.down x z hx;have h3:(σ z).size=(σ x).size:=by rw[hs]; rfl
   simp [h3,h2]
  | f c as =>
   have h2:=rz (s:=σ) as hy;have h3:(σ x).size=xY (wF σ as)+1:=by rw[hs]; rfl
   rw[decide_eq_true (show (σ y).size<(σ x).size by omega)]
   rfl
 refine WK (a:=y) (cE.2 h48) (fun z _ hz => ?_) (by simp [Good.less]) hlt
 simp only[Good.less,bO,ap,decide_eq_true_eq] at hz hlt ⊢;omega
theorem Good.rank_le (σ:Sb) (x:Nat):Good.rank σ x<=48:=by
 have:Good.rank σ x<=(aR 48).length:=dY;rwa [ey] at this
theorem Good.low {B:Bd} {σ:Sb} (h:Good B σ) (hb:Xh B):∀ x,(σ x).ht<=49*49:=by
 have key:∀ x,B x≠none->(σ x).ht<=49*(Good.rank σ x+1):=by
  refine h.ind (fun x hx hn=>absurd hx hn) fun x t hx ih _ => ?_;obtain⟨hx48,ht⟩:=hb x t hx;rw[h.bound x t hx];have h0:=t.ht_size;have:=Tm.ht_sub (s:=σ) (M:=49*Good.rank σ x+1) t fun y hy=>(by
   cases hy0:B y with
   | none=>rw[h.free y hy0]; simp only[Tm.ht]; omega
   | some u =>
    have h1:=ih y hy (by rw[hy0]; simp)
    have h2:=h.rank_lt hx hy (hb y u hy0).1;have:49*(Good.rank σ y+1)<=49*Good.rank σ x:=dI _ (by omega)
    omega)
  omega
 intro x;by_cases hx:B x=none
 ·rw[h.free x hx]; simp [Tm.ht]
 ·have h1:=key x hx;have h2:=Good.rank_le σ x;have:49*(Good.rank σ x+1)<=49*49:=dI _ (by omega)
  omega
def zbR (n m:Nat) (us ws:List Tm):List (List Int×Int×List Int×Int):=List.zipWith (fun a b=>(a.codes,(n:Int),b.codes,(m:Int))) us ws
theorem tA {ts:List Tm} {t:Tm} (h:t∈ts):t.codes.length<=(zc ts).length:=by
 obtain⟨l1,l2,rfl⟩:=dM h;rw[Qi];simp [zc];omega
theorem Bh {a0:List zl} {N n m:Nat} (hn:n<=N) (hm:m<=N):{us ws:List Tm}->okR a0 24 us->okR a0 24 ws->(∀ t∈us,t.codes.length<=48)->(∀ t∈ws,t.codes.length<=48) ->
  PqL a0 N (zbR n m us ws) ((us.map (Tm.up n)).zip (ws.map (Tm.up m)))
 | [],_,_,_,_,_=>rfl
 | _::_,[],_,_,_,_=>rfl
 | u::_us,w::_ws,hu,hw,hlu,hlw =>
  ⟨(u.up n,w.up m),_,rfl,⟨⟨u,n,hu.1,rfl,rfl,hn,rfl,hlu u (am ..)⟩,⟨w,m,hw.1,rfl,rfl,hm,rfl,hlw w (am ..)⟩⟩,
   Bh hn hm hu.2 hw.2 (fun t h=>hlu t (ai _ h)) fun t h=>hlw t (ai _ h)⟩
theorem Jx (ps2:List jI) (n m:Nat):(us ws:List Tm)->(i:Nat)->(out:List (List Int×Int×List Int×Int))->ps2.drop i=ws.map Tm.codes->us.length=ws.length->out.length+us.length<=1000000 ->
  zB ps2 (n:Int) (m:Int) (us.map Tm.codes) i out=some (out++zbR n m us ws)
 | [],ws,i,out,_,_,_=>by simp [zB,zbR]
 | u::us,[],i,out,_,h,_=>by simp at h
 | u::us,w::ws,i,out,h,hl,hr=>by
  simp only[au] at hl hr;rw[aM] at h;rw[aM];unfold zB;rw[qJ,zv h,af,zy (by simp only[aX]; omega),cond_true,Jx ps2 n m us ws (i+1) _ (zm h) (by omega) (by simp only[az,aX]; omega)]
  simp [zbR]
theorem VI {a0:List zl} (h:SignOk a0) {N:Nat} {p q:List Int} {d e:Int} {ts us:List Tm} (hp:Pr a0 N p d ts) (hq:Pr a0 N q e us) (hl:ts.length=us.length) (to:List PO) {out:List (List Int×Int×List Int×Int)} (ho:out.length<=100000) :
  ∃ more,qf p d q e a0 to out=some (out++more)∧PqL a0 N more (ts.zip us):=by
 obtain⟨us0,n,h1,rfl,rfl,h2,rfl,h3⟩:=hp;obtain⟨ws0,m,h4,rfl,rfl,h5,rfl,h6⟩:=hq;simp only[aT] at hl;have hls:us0.length<=48:=by
  have:=Zw (yp us0 h1);rw[aT] at this;omega
 refine ⟨zbR n m us0 ws0,?_,Bh h2 h5 h1 h4 (fun t ht=>aF (tA ht) h3) fun t ht=>aF (tA ht) h6⟩;unfold qf;rw[wn h (by omega) (yp us0 h1),af,wn h (by omega) (yp ws0 h4),af,
  sg _ _ _ _ _ _ _ (by rw[aT]; unfold maxLen; omega),Jx _ n m us0 ws0 0 out rfl hl (by omega)]
 rfl
theorem KS {a0:List zl} {N:Nat} {p:List Int} {d:Int} {t:Tm} (h:Pc a0 N p d t):nn p=some p:=by
 have h1:=h.size;have h2:=t.size_pos;cases p with
 | nil=>simp at h1; omega
 | cons x r=>rfl
theorem D2 {a0:List zl} {N:Nat} (hN:N<=24) {to:List PO} {B:Bd} {σ:Sb} (hT:RepT a0 N to B) (hG:Good B σ) {p q:List Int} {d e:Int} {v:Nat} {u:Tm} (hp:Pc a0 N p d (.v v)) (hq:Pc a0 N q e u) (hv:B v=none) (hu:∀ y,u = .v y->B y=none) :
  ∃ r to',yQ p d q e a0 to=some (r,a0,to')∧((r=false∧∀ θ,SolB θ B->θ v=u.sub θ->False)∨(r=true∧∃ B' σ',RepT a0 N to' B'∧Good B' σ'∧∀ θ,SolB θ B'↔SolB θ B∧θ v=u.sub θ)):=by
 have hv48:v<48:=hp.lt hN rfl;rcases hp.cases with ⟨k,n,rfl,rfl,hk,hn,he⟩ | ⟨_,_,_,_,he,_⟩
 case inr=>cases he
 injection he with he;subst he;unfold yQ;simp only[y5,ay,af,Yx hN hk hn];rcases hq.cases with ⟨k2,n2,rfl,rfl,hk2,hn2,rfl⟩ | ⟨c,r,ts,rfl,rfl,hc,hr⟩
 ·simp only[ay,af,Yx hN hk2 hn2];rw[decide_eq_false (show ¬(-1 - (k2:Int)≥0) by omega),cond_false]
  have hw:=hu _ rfl;by_cases h1:k2+n2>k+n
  ·rw[decide_eq_true (show ((k2+n2:Nat):Int)>((k+n:Nat):Int) by omega),cond_true,xb (by omega),af]
   obtain⟨x,hx,-⟩:=hT.get (x:=k2+n2) (by omega)
   rw[hx,af,KS hp,af];refine ⟨true,_,rfl,.inr ⟨rfl,_,_,hT.set (by omega) hp,hG.bind hw ?_ ?_,fun θ=>(SolB.upd hw).trans ?_⟩⟩
   ·show ¬(σ (k+n)).has (k2+n2);rw[hG.free _ hv];show ¬(k+n=k2+n2);omega
   ·intro y hy;injection hy with hy;omega
   ·show _∧θ (k2+n2)=θ (k+n)↔_∧θ (k+n)=θ (k2+n2);exact ⟨fun h=>⟨h.1,h.2.symm⟩,fun h=>⟨h.1,h.2.symm⟩⟩
  ·rw[decide_eq_false (show ¬(((k2+n2:Nat):Int)>((k+n:Nat):Int)) by omega),cond_false]
   by_cases h2:k2+n2<k+n
   ·rw[decide_eq_true (show ((k2+n2:Nat):Int)<((k+n:Nat):Int) by omega),cond_true,xb (by omega),af]
    obtain⟨x,hx,-⟩:=hT.get (x:=k+n) (by omega)
    rw[hx,af,KS hq,af];refine ⟨true,_,rfl,.inr ⟨rfl,_,_,hT.set (by omega) hq,hG.bind hv ?_ ?_,fun θ=>SolB.upd hv⟩⟩
    ·show ¬(σ (k2+n2)).has (k+n);rw[hG.free _ hw];show ¬(k2+n2=k+n);omega
    ·intro y hy;injection hy with hy;omega
   ·rw[decide_eq_false (show ¬(((k2+n2:Nat):Int)<((k+n:Nat):Int)) by omega),cond_false]
    have:k2+n2=k+n:=by omega
    refine ⟨true,_,rfl,.inr ⟨rfl,B,σ,hT,hG,fun θ=>⟨fun h=>⟨h,?_⟩,fun h=>h.1⟩⟩⟩;show θ (k+n)=θ (k2+n2);rw[this]
 ·simp only[ay,af];rw[decide_eq_true (show (c:Int)≥0 by omega),cond_true]
  obtain⟨w,hw1,hw2⟩:=II hN hT hG hv hq;rw[hw1,af];cases w with
  | true =>
   refine ⟨false,_,rfl,.inl ⟨rfl,fun θ h1 h2=>hG.occurs (hw2.1 rfl) h1 h2⟩⟩
  | false =>
   rw[cond_false,xb (by omega),af]
   obtain⟨x,hx,-⟩:=hT.get (x:=k+n) (by omega)
   rw[hx,af,KS hq,af];refine ⟨true,_,rfl,.inr ⟨rfl,_,_,hT.set (by omega) hq,hG.bind hv (fun h=>by have:=hw2.2 h; cases this) (fun y hy=>by cases hy),fun θ=>SolB.upd hv⟩⟩
def wt (σ:Sb) (E:List (Tm×Tm)):Nat:=(E.map fun e=>(e.1.sub σ).size).sum
theorem WB (σ:Sb) (E F:List (Tm×Tm)):wt σ (E++F)=wt σ E+wt σ F:=by simp [wt]
theorem Rq (σ:Sb) (e:Tm×Tm):wt σ [e]=(e.1.sub σ).size:=by simp [wt]
theorem Eo (σ:Sb):{ts us:List Tm}->ts.length=us.length->wt σ (ts.zip us)=xY (wF σ ts)
 | [],_,_=>rfl
 | _::_,[],h=>by simp at h
 | t::ts,u::us,h=>by
  have:=Eo σ (ts:=ts) (us:=us) (by simpa using h)
  simp only[wt] at this ⊢;simp only[dN,aM,cA,wF,xY,this]
def HtOk (R:List Tm) (B:Bd) (i:Nat) (t:Tm):Prop:=∃ δ:Nat,i<=47+3*δ∧∀ θ,SolB θ B->∃ c∈R,δ+(t.sub θ).ht<=(c.sub θ).ht
def StkOk (R:List Tm) (B:Bd) (E:List (Tm×Tm)):Prop:=∀(i:Nat) e,E[i]? = some e->HtOk R B i e.1
theorem HtOk.mono {R:List Tm} {B B':Bd} {i:Nat} {t:Tm} (h:HtOk R B i t) (hB:∀ θ,SolB θ B'->SolB θ B):HtOk R B' i t:=by
 obtain⟨δ,h1,h2⟩:=h;exact ⟨δ,h1,fun θ hθ=>h2 θ (hB θ hθ)⟩
theorem StkOk.mono {R:List Tm} {B B':Bd} {E:List (Tm×Tm)} (h:StkOk R B E) (hB:∀ θ,SolB θ B'->SolB θ B):StkOk R B' E:=fun i e he=>(h i e he).mono hB
theorem StkOk.left {R:List Tm} {B:Bd} {E F:List (Tm×Tm)} (h:StkOk R B (E++F)):StkOk R B E:=fun i e he=>h i e (by
 rw[bp (aq.1 he).1]; exact he)
theorem StkOk.len {R:List Tm} {B:Bd} {σ:Sb} {E:List (Tm×Tm)} (h:StkOk R B E) (hG:Good B σ) (hS:Xh B) (hR:∀ c∈R,c.size<=48):E.length<=8000:=by
 rcases Nat.eq_zero_or_pos E.length with h0 | h0
 ·omega
 ·obtain⟨δ,h1,h2⟩:=h (E.length - 1) E[E.length - 1] (al (by omega))
  obtain⟨c,hc,h3⟩:=h2 σ hG.bound;have h4:=Tm.ht_sub (s:=σ) c fun x _=>hG.low hS x;have h5:=c.ht_size;have h6:=hR c hc;omega
theorem zdk (t:Tm):0<t.ht:=by cases t<;>simp [Tm.ht]
def SameR (a0:List zl) (N:Nat) (B:Bd) (E:List (Tm×Tm)) (r:Bool×List zl×List PO):Prop :=
 r.2.1=a0∧((r.1=false∧Out B E none)∨(r.1=true∧∃ B',RepT a0 N r.2.2 B'∧Out B E (some B')))
theorem SameR.via {a0:List zl} {N:Nat} {B B1:Bd} {E E1:List (Tm×Tm)} (h:∀ θ,(SolB θ B1∧Sol θ E1)↔(SolB θ B∧Sol θ E)) {r:Bool×List zl×List PO} (hr:SameR a0 N B1 E1 r):SameR a0 N B E r :=
 ⟨hr.1,hr.2.imp (fun h1=>⟨h1.1,Out.via h h1.2⟩) fun ⟨h1,B',h2,h3⟩=>⟨h1,B',h2,Out.via h h3⟩⟩
theorem Nd {a0:List zl} (hs:SignOk a0) {N:Nat} (hN:N<=24) (R:List Tm) (hR:∀ c∈R,c.size<=48):∀(n:Nat) (to:List PO) (B:Bd) (σ:Sb) (todo:List (List Int×Int×List Int×Int)) (E:List (Tm×Tm)),
  RepT a0 N to B->Good B σ->PqL a0 N todo E->StkOk R B E ->
  (∃ r,(∀ k,lp zr (k+n) (a0,to,todo)=some r)∧SameR a0 N B E r)∨∃ B' σ',Good B' σ'∧Xh B'∧(∀ θ,SolB θ B'->SolB θ B)∧n<=wt σ' E:=by
 intro n
 induction n with
 | zero=>intro to B σ todo E hT hG _ _; exact .inr ⟨B,σ,hG,hT.small,fun _ h=>h,Nat.zero_le _⟩
 | succ n ih =>
  intro to B σ todo E hT hG hP hK;have hlen:=hK.len hG hT.small hR;have hpl:=hP.length
  -- one round, and what is left
  have go:∀(to1:List PO) (B1:Bd) (σ1:Sb) (todo1:List (List Int×Int×List Int×Int)) (E1:List (Tm×Tm)),RepT a0 N to1 B1->Good B1 σ1->PqL a0 N todo1 E1->StkOk R B1 E1 ->
    (∀ θ,(SolB θ B1∧Sol θ E1)↔(SolB θ B∧Sol θ E))->(∀ θ,SolB θ B1->SolB θ B)->(∀ σ',SolB σ' B1->wt σ' E1+1<=wt σ' E)->(∀ rec,zr rec (a0,to,todo)=rec (a0,to1,todo1)) ->
    ((∃ r,(∀ k,lp zr (k+(n+1)) (a0,to,todo)=some r)∧SameR a0 N B E r)∨∃ B' σ',Good B' σ'∧Xh B'∧(∀ θ,SolB θ B'->SolB θ B)∧n+1<=wt σ' E):=by
   intro to1 B1 σ1 todo1 E1 h1 h2 h3 h4 h5 h6 h7 h8;rcases ih to1 B1 σ1 todo1 E1 h1 h2 h3 h4 with ⟨r,h9,h10⟩ | ⟨B',σ',h9,h10,h11,h12⟩
   ·refine .inl ⟨r,fun k => ?_,h10.via h5⟩;rw[← bz,zK,h8];exact h9 k
   ·have:=h7 σ' (h11 _ h9.bound);exact .inr ⟨B',σ',h9,h10,fun θ hθ=>h6 θ (h11 θ hθ),by omega⟩
  have stop:∀ r,SameR a0 N B E r->(∀ rec,zr rec (a0,to,todo)=some r) ->
    ((∃ r,(∀ k,lp zr (k+(n+1)) (a0,to,todo)=some r)∧SameR a0 N B E r)∨∃ B' σ',Good B' σ'∧Xh B'∧(∀ θ,SolB θ B'->SolB θ B)∧n+1<=wt σ' E) :=
   fun r h1 h2=>.inl ⟨r,fun k=>by rw[← bz,zK,h2],h1⟩
  rcases fb todo with rfl | ⟨todo',t,rfl⟩
  ·have hE:E=[]:=hP;subst hE;exact stop (true,a0,to) ⟨rfl,.inr ⟨rfl,B,hT,Out.done hG hT.small⟩⟩ fun rec=>rfl
  ·rw[fc] at *;obtain⟨p,d,q,e⟩:=t;obtain⟨E',F,rfl,hP',hF⟩:=PqL.split hP;obtain⟨⟨s,u⟩,F',rfl,⟨hps,hqu⟩,hF'⟩:=hF;have hF':F'=[]:=hF';subst hF';have hps:Pc a0 N p d s:=hps;have hqu:Pc a0 N q e u:=hqu;obtain⟨p1,d1,s1,hw1,hp1,hs1,hb1⟩:=Jj hN hT hG hps;obtain⟨q1,e1,u1,hw2,hq1,hu1,hb2⟩:=Jj hN hT hG hqu;simp only[az,aX] at hlen hpl;have x1:ah .i64 (((aa (todo'++[(p,d,q,e)]):Nat):Int) - 1)=((todo'.length:Nat):Int):=by
    rw[az,aX,zC]<;>omega
   have x2:inR ((todo'.length:Nat):Int) (aa (todo'++[(p,d,q,e)]))=some todo'.length:=xb (by simp)
   have x3:(todo'++[(p,d,q,e)])[todo'.length]? = some (p,d,q,e):=Iq _ [] _;have x4:(((aa (todo'++[(p,d,q,e)]):Nat):Int)==0)=false:=by simp; omega
   have hsol:∀ θ,SolB θ B->(Sol θ (E'++[(s,u)])↔Sol θ E'∧s1.sub θ=u1.sub θ):=fun θ hθ=>by
    rw[Sol.append,Sol.cons,hs1 θ hθ,hu1 θ hθ];exact ⟨fun h=>⟨h.1,h.2.1⟩,fun h=>⟨h.1,h.2,Sol.nil⟩⟩
   -- one round
   have round:∀ rec,zr rec (a0,to,todo'++[(p,d,q,e)])=(gx p1 0).bind fun e34=>cond (decide (e34<0))
     ((yQ p1 d1 q1 e1 a0 to).bind fun r35=>cond r35.1 (rec (r35.2.1,r35.2.2,todo')) (some (false,r35.2.1,r35.2.2)))
     ((gx q1 0).bind fun e36=>cond (decide (e36<0))
      ((yQ q1 e1 p1 d1 a0 to).bind fun r37=>cond r37.1 (rec (r37.2.1,r37.2.2,todo')) (some (false,r37.2.1,r37.2.2)))
      ((gx p1 0).bind fun e38=>(gx q1 0).bind fun e39=>cond (e38 != e39) (some (false,a0,to))
       ((vJ p1 (some 1) none).bind fun y40=>(vJ q1 (some 1) none).bind fun y41=>(qf y40 d1 y41 e1 a0 to todo').bind fun r42=>rec (a0,to,r42)))):=by
    intro rec;unfold zr;simp only[x1,x2,x3,x4,af,cond_false,DP,hw1,hw2]
   have hbind:∀{B1:Bd} {v:Nat} {w:Tm},(∀ θ,SolB θ B1↔SolB θ B∧θ v=w.sub θ)->(∀ θ,SolB θ B->(s1.sub θ=u1.sub θ↔θ v=w.sub θ))->∀ θ,(SolB θ B1∧Sol θ E')↔(SolB θ B∧Sol θ (E'++[(s,u)])):=by
    intro B1 v w h1 h2 θ;rw[h1 θ];constructor
    ·rintro⟨⟨h3,h4⟩,h5⟩;exact ⟨h3,(hsol θ h3).2 ⟨h5,(h2 θ h3).2 h4⟩⟩
    ·rintro⟨h3,h4⟩;have h6:=(hsol θ h3).1 h4;exact ⟨⟨h3,(h2 θ h3).1 h6.2⟩,h6.1⟩
   have hwt:∀ σ',wt σ' E'+1<=wt σ' (E'++[(s,u)]):=fun σ'=>by
    rw[WB,Rq];have:=(s.sub σ').size_pos;show wt σ' E'+1<=wt σ' E'+(s.sub σ').size;omega
   rcases hp1.cases with ⟨k1,n1,rfl,rfl,hk1,hn1,rfl⟩ | ⟨c1,r1,ts1,rfl,rfl,hc1,hr1⟩
   ·-- a variable on the left
    obtain⟨r,to1,hput,hres⟩:=D2 hN hT hG hp1 hq1 (hb1 _ rfl) hb2;rcases hres with ⟨rfl,hno⟩ | ⟨rfl,B1,σ1,hT1,hG1,hB1⟩
    ·refine stop (false,a0,to1) ⟨rfl,.inl ⟨rfl,fun θ h1 h2=>hno θ h1 ((hsol θ h1).1 h2).2⟩⟩ fun rec => ?_;rw[round,y5,ay,af,decide_eq_true (show -1 - (k1:Int)<0 by omega),cond_true,hput]
     rfl
    ·refine go to1 B1 σ1 todo' E' hT1 hG1 hP' (hK.left.mono fun θ h=>((hB1 θ).1 h).1) (hbind hB1 fun θ _=>Iff.rfl) (fun θ h=>((hB1 θ).1 h).1) (fun σ' _=>hwt σ') fun rec => ?_;rw[round,y5,ay,af,decide_eq_true (show -1 - (k1:Int)<0 by omega),cond_true,hput]
     rfl
   ·rcases hq1.cases with ⟨k2,n2,rfl,rfl,hk2,hn2,rfl⟩ | ⟨c2,r2,ts2,rfl,rfl,hc2,hr2⟩
    ·obtain⟨r,to1,hput,hres⟩:=D2 hN hT hG hq1 hp1 (hb2 _ rfl) hb1;rcases hres with ⟨rfl,hno⟩ | ⟨rfl,B1,σ1,hT1,hG1,hB1⟩
     ·refine stop (false,a0,to1) ⟨rfl,.inl ⟨rfl,fun θ h1 h2=>hno θ h1 ((hsol θ h1).1 h2).2.symm⟩⟩ fun rec => ?_;rw[round];simp only[y5,ay,af];rw[decide_eq_false (show ¬(c1:Int)<0 by omega),cond_false,decide_eq_true (show -1 - (k2:Int)<0 by omega),cond_true,hput]
      rfl
     ·refine go to1 B1 σ1 todo' E' hT1 hG1 hP' (hK.left.mono fun θ h=>((hB1 θ).1 h).1) (hbind hB1 fun θ _=>⟨fun h=>h.symm,fun h=>h.symm⟩) (fun θ h=>((hB1 θ).1 h).1) (fun σ' _=>hwt σ') fun rec => ?_;rw[round];simp only[y5,ay,af];rw[decide_eq_false (show ¬(c1:Int)<0 by omega),cond_false,decide_eq_true (show -1 - (k2:Int)<0 by omega),cond_true,hput]
      rfl
    ·by_cases hcc:c1=c2
     ·subst hcc;have hl:ts1.length=ts2.length:=by rw[hc1] at hc2; injection hc2
      have hl3:ts1.length<=3:=KN hs hc1;obtain⟨more,hm1,hm2⟩:=VI hs hr1 hr2 hl to (out:=todo') (by omega)
      refine go to B σ (todo'++more) (E'++ts1.zip ts2) hT hG (hP'.append hm2) ?_ ?_ (fun _ h=>h) ?_ fun rec => ?_
      ·intro i e hi;rcases bI i E'.length with hlt | hge
       ·rw[bp hlt] at hi;exact hK.left i e hi
       ·rw[bi hge] at hi;have hi3:i - E'.length<3:=by
         have:=(aq.1 hi).1;rw[fY] at this;omega
        obtain⟨δ,h1,h2⟩:=hK E'.length (s,u) (by rw[bi (aE _),Nat.sub_self]; rfl)
        refine ⟨δ+1,by omega,fun θ hθ => ?_⟩
        obtain⟨c,hc,h3⟩:=h2 θ hθ;refine ⟨c,hc,?_⟩;have h3:δ+(s.sub θ).ht<=(c.sub θ).ht:=h3;rw[hs1 θ hθ] at h3;have h4:e.1∈ts1:=(fZ (a:=e.1) (b:=e.2) (aO hi)).1;have h5:(e.1.sub θ).ht<=htR (wF θ ts1):=In (by rw[WF]; exact bg h4)
        have h6:((Tm.f c1 ts1).sub θ).ht=htR (wF θ ts1)+1:=rfl;omega
      ·intro θ;rw[Sol.append,Sol.zip hl];constructor
       ·rintro⟨h1,h2,h3⟩;exact ⟨h1,(hsol θ h1).2 ⟨h2,zcR.2 ⟨rfl,h3⟩⟩⟩
       ·rintro⟨h1,h2⟩;have h3:=(hsol θ h1).1 h2;exact ⟨h1,h3.1,(zcR.1 h3.2).2⟩
      ·intro σ' hσ';rw[WB,WB,Rq,Eo σ' hl];show _<=wt σ' E'+(s.sub σ').size;rw[hs1 σ' hσ'];show _<=wt σ' E'+(xY (wF σ' ts1)+1);omega
      ·rw[round];simp only[y5,ay,af];rw[decide_eq_false (show ¬(c1:Int)<0 by omega),cond_false,cond_false,show ((c1:Int) != (c1:Int))=false from by simp,cond_false,v8,af,v8,af,hm1]
       rfl
     ·refine stop (false,a0,to) ⟨rfl,.inl ⟨rfl,fun θ h1 h2=>hcc (zcR.1 ((hsol θ h1).1 h2).2).1⟩⟩ fun rec => ?_;rw[round];simp only[y5,ay,af];rw[decide_eq_false (show ¬(c1:Int)<0 by omega),cond_false,decide_eq_false (show ¬(c2:Int)<0 by omega),cond_false,show ((c1:Int) != (c2:Int))=true from by simp; omega,cond_true]
theorem FI {a0:List zl} (hs:SignOk a0) {N:Nat} (hN:N<=24) {to:List PO} {B:Bd} {σ:Sb} (hT:RepT a0 N to B) (hG:Good B σ) {p q:List Int} {d e:Int} {ts us:List Tm} (hp:Pr a0 N p d ts) (hq:Pr a0 N q e us) (hl:ts.length=us.length) :
  ∃ r,xc p d q e a0 to=some r∧SameR a0 N B (ts.zip us) r:=by
 have eta:∀ o:Option (Bool×List zl×List PO),(o.bind fun r=>some (r.1,r.2.1,r.2.2))=o:=fun o=>by cases o<;>rfl
 obtain⟨more,hm1,hm2⟩:=VI hs hp hq hl to (out:=[]) (by simp)
 have e0:xc p d q e a0 to=lp zr (zd+1) (a0,to,more):=by
  unfold xc;rw[hm1,af,zK,bG];generalize lp zr zd=rec;unfold zr;simp only[eta]
 have hsz:∀ c∈ts,c.size<=48:=fun c hc=>by
  obtain⟨us0,n,h1,rfl,h2,h3,rfl,h4⟩:=hp;obtain⟨c0,h5,rfl⟩:=ba.1 hc;rw[Tm.up_size,← Tm.codes_len];exact aF (tA h5) h4
 have hlen:ts.length<=48:=by
  obtain⟨us0,n,h1,rfl,h2,h3,rfl,h4⟩:=hp;have:=Zw (yp us0 h1);rw[aT] at this ⊢;omega
 have hK:StkOk ts B (ts.zip us):=fun i x hi=>by
  have hi0:=(aq.1 hi).1;rw[fY] at hi0;exact ⟨0,by omega,fun θ _=>⟨x.1,(fZ (a:=x.1) (b:=x.2) (aO hi)).1,by omega⟩⟩
 rw[e0];rcases Nd hs hN ts hsz (48*(48*48 ^ 49)+1) to B σ more (ts.zip us) hT hG hm2 hK with ⟨r,h1,h2⟩ | ⟨B',σ',h1,h2,h3,h4⟩
 ·have:=h1 (zd+1 - (48*(48*48 ^ 49)+1));rw[show zd+1 - (48*(48*48 ^ 49)+1)+(48*(48*48 ^ 49)+1)=zd+1 from by unfold zd; omega] at this
  exact ⟨r,this,h2⟩
 ·exfalso;rw[Eo σ' hl,WF,KC,cp] at h4;have h5:∀ l:List Tm,(∀ c∈l,c.size<=48)->(l.map (Tm.size ∘ Tm.sub σ')).sum<=l.length*(48*48 ^ 49):=by
   intro l
   induction l with
   | nil=>intro _; simp
   | cons c l ih =>
    intro h;have h6:=ih fun c hc=>h c (ai _ hc);have h7:=h1.small_sub h2 c;have h8:=h c (am ..);have h9:c.size*48 ^ 49<=48*48 ^ 49:=aN _ h8;simp only[aM,cA,au,gK];rw[bc,Nat.one_mul];omega
  have h6:=h5 ts hsz;have h7:ts.length*(48*48 ^ 49)<=48*(48*48 ^ 49):=aN _ hlen;omega
def kY (s:Sb) (c:Int):List Int:=if c<0 then (s (-1 - c).toNat).codes else [c]
mutual
theorem Tm.codes_sub (s:Sb):(t:Tm)->(t.sub s).codes=t.codes.flatMap (kY s)
 | .v n=>by
  show (s n).codes=[-1 - (n:Int)].flatMap (kY s);simp only[bv,List.flatMap_nil,b7,kY];rw[if_pos (by omega),show (-1 - (-1 - (n:Int))).toNat=n from by omega]
 | .f c as=>by
  show (c:Int)::zc (wF s as)=((c:Int)::zc as).flatMap (kY s);rw[bv,rb s as];unfold kY;rw[if_neg (by omega)]
  rfl
theorem rb (s:Sb):(ts:List Tm)->zc (wF s ts)=(zc ts).flatMap (kY s)
 | []=>rfl
 | t::ts=>by
  show (t.sub s).codes++zc (wF s ts)=(t.codes++zc ts).flatMap (kY s);rw[Tm.codes_sub s t,rb s ts,List.flatMap_append]
end
theorem BD {k:Nat} (hk:k<24) (p:Option jI):qL p 0 (-1 - (k:Int))=some (k:Int):=by
 unfold qL;rw[wl (by omega) (by omega),af]
 congr 1
 rw[zC]<;>omega
section
variable {a0:List zl} {to:List PO} {B:Bd} {σ:Sb}
def U8 (o:List Int):Option jI:=if o.length<=48 then some o else none
theorem G9 (hT:RepT a0 0 to B) (hG:Good B σ) (p:List Int) (hp48:p.length<=48) (rf:((Option jI)×Int×jS×(List PO))->Option (Option jI))
  (hrf:∀(y:Nat) q d u,(-1 - (y:Int))∈p->to[y]? = some (some q,d)->B y=some u->rf (some q,d,a0,to)=some (U8 (u.sub σ).codes)):∀(es:List Int) (i k:Nat) (out:List Int),p.drop i=es->es.length<k->(∀ c∈es,-24<=c)->out.length<=48 ->
  lp (yl rf) k (some p,((p.length:Nat):Int),(i:Int),a0,to,some p,0,out)=some (if out.length+(es.flatMap (kY σ)).length<=48 then .inl (out++es.flatMap (kY σ)) else .inr ()):=by
 intro es
 induction es with
 | nil =>
  intro i k out h hk _ ho;obtain⟨k,rfl⟩:∃ k',k=k'+1:=⟨k - 1,by simp at hk; omega⟩
  rw[zK];generalize lp (yl rf) k=rec;unfold yl;have hi:p.length<=i:=by
   have:=congrArg aa h;simp at this; omega
  rw[decide_eq_false (show ¬((i:Int)<((p.length:Nat):Int)) by omega),cond_false]
  simp [ho]
 | cons c es ih =>
  intro i k out h hk hc ho;obtain⟨k,rfl⟩:∃ k',k=k'+1:=⟨k - 1,by simp at hk; omega⟩
  rw[zK];have key:=fun out' ho'=>ih (i+1) k out' (zm h) (by simp at hk; omega) (fun c h=>hc c (ai _ h)) ho'
  generalize lp (yl rf) k=rec at key ⊢;unfold yl;have hget:=zv h;have hi:i<p.length:=(aq.1 hget).1;have hmem:c∈p:=aO hget;have hw:ah .i64 ((i:Int)+1)=((i+1:Nat):Int):=by rw[zC]<;>omega
  rw[decide_eq_true (show ((i:Int)<((p.length:Nat):Int)) by omega),cond_true]
  simp only[bm,qJ,hget,af,hw]
  -- one code that stays
  have stay:kY σ c=[c]->(((nn ([c]:List Int)).bind fun _=>some false).bind fun z=>cond z (some (aD ()))
    (cond (decide ((ah .i64 (((aa out:Nat):Int)+((aa ([c]:List Int):Nat):Int)))>48)) (some (aD ()))
     (cond (y9 (aa out+aa ([c]:List Int)) 8) (rec (some p,((p.length:Nat):Int),((i+1:Nat):Int),a0,to,some p,0,(out++([c]:List Int)))) none))) =
    some (if out.length+((c::es).flatMap (kY σ)).length<=48 then .inl (out++(c::es).flatMap (kY σ)) else .inr ()):=by
   intro he;have e1:(nn ([c]:List Int))=some [c]:=rfl;rw[e1,bv,he];have w2:ah .i64 (((aa out:Nat):Int)+((aa ([c]:List Int):Nat):Int))=((out.length+1:Nat):Int):=by
    rw[zC]<;>simp only[aX]<;>omega
   simp only[af,cond_false,w2];simp only[az,aX];by_cases h48:out.length+1<=48
   ·rw[decide_eq_false (show ¬(((out.length+1:Nat):Int)>48) by omega),cond_false,zy (by omega),cond_true,key _ (by simp; omega)]
    simp only[az,aX,bn];have:out.length+1+(es.flatMap (kY σ)).length=out.length+(1+(es.flatMap (kY σ)).length):=by omega
    rw[this]
   ·rw[decide_eq_true (show (((out.length+1:Nat):Int)>48) by omega),cond_true,if_neg (by omega)]
  by_cases h0:c<0
  ·obtain⟨y,hy,rfl⟩:∃ y:Nat,y<24∧c = -1 - (y:Int):=⟨(-1 - c).toNat,by have:=hc c (am ..); omega,by omega⟩
   rw[decide_eq_true h0,cond_true,BD hy,af,xb (show y<48 by omega),af]
   obtain⟨e,he,hpe⟩:=hT.get (x:=y) (by omega)
   rw[he,af];have hexp:kY σ (-1 - (y:Int))=(σ y).codes:=by
    unfold kY;rw[if_pos h0,show (-1 - (-1 - (y:Int))).toNat=y from by omega]
   unfold PcO at hpe;split at hpe
   ·rename_i h1;rw[h1];simp only[c5,aH,cond_false];exact stay (by rw[hexp,hG.free y hpe]; rfl)
   ·rename_i q h1;obtain⟨u,hu,hq⟩:=hpe;rw[h1];simp only[cr,bM,cond_true,af,xb (show y<48 by omega),he]
    rw[h1,hrf y q e.2 u hmem (by rw[he,← h1]) hu,af]
    rw[bv,hexp,hG.bound y u hu];unfold U8;by_cases hsz:(u.sub σ).codes.length<=48
    ·rw[if_pos hsz];have w2:ah .i64 (((aa out:Nat):Int)+(((u.sub σ).codes.length:Nat):Int))=((out.length+(u.sub σ).codes.length:Nat):Int):=by
      rw[zC]<;>omega
     simp only[cr,cond_false,bm,w2];simp only[az];by_cases h48:out.length+(u.sub σ).codes.length<=48
     ·rw[decide_eq_false (show ¬(((out.length+(u.sub σ).codes.length:Nat):Int)>48) by omega),cond_false,zy (by omega),cond_true,key _ (by simp; omega)]
      simp only[az,bn];rw[bz]
     ·rw[decide_eq_true (show (((out.length+(u.sub σ).codes.length:Nat):Int)>48) by omega),cond_true,if_neg (by omega)]
    ·rw[if_neg hsz];simp only[c5,cond_true,az];rw[if_neg (by omega)]
  ·rw[decide_eq_false h0,cond_false];exact stay (by unfold kY; rw[if_neg h0])
theorem H4 (hT:RepT a0 0 to B) (hG:Good B σ):∀(k m:Nat) (p:List Int) (d:Int) (t:Tm),Pc a0 0 p d t->(∀ y,t.has y->B y≠none->Good.rank σ y<m)->m<k ->
  qe k (some p,d,a0,to)=some (U8 (t.sub σ).codes):=by
 intro k
 induction k with
 | zero=>intro m p d t _ _ h; omega
 | succ k ih =>
  intro m p d t hp hm hk;obtain⟨u,n,h1,rfl,rfl,h2,rfl,h3⟩:=hp;have hn:n=0:=by omega
  subst hn;rw[Tm.up_zero] at hm ⊢;have hsmall:∀ c∈u.codes,-24<=c:=fun c hc=>by
   by_cases h0:c<0
   ·have:=Tm.ok_has u h1 ((Tm.mem_codes h0 u).1 hc); omega
   ·omega
  show uH (qe k) (some u.codes) ((0:Nat):Int) a0 to=_;unfold uH;have hr:=G9 hT hG u.codes h3 (qe k) (fun y q d w hy hto hw=>by
   have hyu:u.has y:=by
    have:=(Tm.mem_codes (by omega) u).1 hy
    rwa [show (-1 - (-1 - (y:Int))).toNat=y from by omega] at this
   have hpc:Pc a0 0 q d w:=by
    have:=hT.at_ y _ hto;obtain⟨t',h5,h6⟩:=(show ∃ t,B y=some t∧Pc a0 0 q d t from this)
    rw[hw] at h5; injection h5 with h5; subst h5;exact h6
   have hlt:=hm y hyu (by rw[hw]; simp)
   exact ih (Good.rank σ y) q d w hpc (fun z hz hb=>hG.rank_lt hw hz (by
    cases hbz:B z with
    | none=>exact absurd hbz hb
    | some x=>exact (hT.small z x hbz).1)) (by omega)) u.codes 0 zd [] rfl (by unfold zd; omega) hsmall (by simp)
  simp only[bm];have hr:lp (yl (qe k)) zd (some u.codes,((u.codes.length:Nat):Int),0,a0,to,some u.codes,((0:Nat):Int),[])=_:=hr;rw[hr,← Tm.codes_sub];unfold U8;have hne:nn (u.sub σ).codes=some (u.sub σ).codes:=QO fun e=>by
   have:=congrArg aa e;rw[Tm.codes_len] at this;have:=(u.sub σ).size_pos;simp at *; omega
  by_cases h48:(u.sub σ).codes.length<=48
  ·simp only[bH,aL,bG];rw[if_pos h48,if_pos h48];simp only[af,te,hne]
  ·simp only[bH,aL];rw[if_neg h48,if_neg h48];rfl
theorem AQ (hT:RepT a0 0 to B) (hG:Good B σ) {p:List Int} {d:Int} {t:Tm} (hp:Pc a0 0 p d t):tZ (some p) d a0 to=some (U8 (t.sub σ).codes):=by
 refine H4 hT hG zd 49 p d t hp (fun y _ _ => ?_) (by unfold zd; omega)
 have:=Good.rank_le σ y;omega
def Aa (B:Bd) (v:Nat):Bool:=(B v).isSome
def wh (B:Bd) (σ:Sb) (vs:List Nat):List (Int×List Int):=(vs.filter (Aa B)).map fun v:Nat=>((v:Int),(σ v).codes)
def xR (σ:Sb) (vs:List Nat):Bool:=vs.all fun x=>decide ((σ x).size<=48)
theorem ID (hT:RepT a0 0 to B) (hG:Good B σ):∀(m v k:Nat) (out:List (Int×List Int)),24 - v=m->v<=24->m<k->out.length<=v ->
  lp xE k ((v:Int),a0,to,out)=some (cond (xR σ ((aR 24).drop v)) (.inl (out++wh B σ ((aR 24).drop v))) (.inr (false,401))):=by
 intro m
 induction m with
 | zero =>
  intro v k out hm hv hk ho;obtain⟨k,rfl⟩:∃ k',k=k'+1:=⟨k - 1,by omega⟩
  rw[zK];generalize lp xE k=rec;unfold xE;have:v=24:=by omega
  subst this;rw[show (aR 24).drop 24=[] from rfl]
  simp [wh,xR]
 | succ m ih =>
  intro v k out hm hv hk ho;obtain⟨k,rfl⟩:∃ k',k=k'+1:=⟨k - 1,by omega⟩
  rw[zK];have key:=fun out' ho'=>ih (v+1) k out' (by omega) (by omega) (by omega) ho'
  generalize lp xE k=rec at key ⊢;unfold xE;have w:ah .i64 ((v:Int)+1)=((v+1:Nat):Int):=by rw[zC]<;>omega
  obtain⟨e,he,hpe⟩:=hT.get (x:=v) (by omega)
  have hdr:(aR 24).drop v=v::(aR 24).drop (v+1):=by
   rw[aV (by simp; omega)]
   simp
  simp only[decide_eq_true (show (v:Int)<24 by omega),cond_true,xb (show v<48 by omega),af,he,w]
  rw[hdr];unfold PcO at hpe;split at hpe
  ·rename_i h1;rw[h1];simp only[c5,cond_true];rw[key out (by omega)]
   have hs:(σ v).size<=48:=by rw[hG.free v hpe]; simp [Tm.size]
   have hb:Aa B v=false:=by simp [Aa,hpe]
   simp [wh,xR,hb,hs]
  ·rename_i q h1;obtain⟨u,hu,hq⟩:=hpe;rw[h1];simp only[cr,cond_false];rw[AQ hT hG hq,af,← hG.bound v u hu];unfold U8;rw[Tm.codes_len];by_cases hs:(σ v).size<=48
   ·rw[if_pos hs];simp only[cr,cond_false,bm];rw[kG (by rw[Tm.codes_len]; omega),af,zy (by simp only[aX]; omega),cond_true,key _ (by simp only[az,aX]; omega)]
    have hb:Aa B v=true:=by simp [Aa,hu]
    simp [wh,xR,hb,hs]
   ·rw[if_neg hs];simp only[c5,cond_true];simp [xR,hs]
end
structure Mgu (σ:Sb) (E:List (Tm×Tm)):Prop where
 sol:Sol σ E
 gen:∀ θ,Sol θ E->∀ x,(σ x).sub θ=θ x
 le:∀ x y,σ x = .v y->y<=x
 idem:∀ x,(σ x).sub σ=σ x
theorem Mgu.of {B:Bd} {σ:Sb} {E:List (Tm×Tm)} (hG:Good B σ) (h:∀ θ,SolB θ B↔SolB θ (fun _=>none)∧Sol θ E):Mgu σ E where
 sol:=((h σ).1 hG.bound).2
 gen:=fun θ hθ=>hG.fac ((h θ).2 ⟨fun _ _ h=>(nomatch h),hθ⟩)
 le:=hG.le
 idem:=fun x=>by rw[← hG.fac hG.bound x]; exact hG.idem _
theorem Mgu.unique {σ σ':Sb} {E:List (Tm×Tm)} (h:Mgu σ E) (h':Mgu σ' E):σ=σ':=by
 have f1:∀ x,(σ x).sub σ'=σ' x:=h.gen σ' h'.sol;have f2:∀ x,(σ' x).sub σ=σ x:=h'.gen σ h.sol;have root:∀ y,σ y = .v y->σ' y = .v y:=by
  intro y hy;have h1:(σ' y).sub σ = .v y:=by rw[f2,hy]
  cases hz:σ' y with
  | f c as=>rw[hz] at h1; cases h1
  | v z =>
   rw[hz] at h1;have h2:=h'.le y z hz;have h3:=h.le z y h1;have:z=y:=by omega
   rw[this]
 have fix:∀ t:Tm,t.sub σ=t->∀ y,t.has y->σ y = .v y:=by
  intro t;have key:∀ n,(∀ t:Tm,t.size<=n->t.sub σ=t->∀ y,t.has y->σ y = .v y)∧∀ ts:List Tm,xY ts<=n->wF σ ts=ts->∀ y,QW y ts->σ y = .v y:=by
   intro n
   induction n with
   | zero =>
    refine ⟨fun t ht=>absurd t.size_pos (by omega),fun ts hts he y hy => ?_⟩
    cases ts with
    | nil=>exact hy.elim
    | cons t ts=>have:=t.size_pos; simp only[xY] at hts; omega
   | succ n ih =>
    have h1:∀ t:Tm,t.size<=n+1->t.sub σ=t->∀ y,t.has y->σ y = .v y:=by
     intro t ht he y hy;cases t with
     | v z =>
      have hy:z=y:=hy;subst hy;exact he
     | f c as =>
      have he:Tm.f c (wF σ as)=Tm.f c as:=he;injection he with _ he;simp only[Tm.size] at ht;exact ih.2 as (by omega) he y hy
    refine ⟨h1,fun ts => ?_⟩
    induction ts with
    | nil=>intro _ _ y hy; exact hy.elim
    | cons t ts iht =>
     intro hts he y hy;have he:t.sub σ::wF σ ts=t::ts:=he;injection he with he1 he2;simp only[xY] at hts;have:=t.size_pos;rcases hy with hy | hy
     ·exact h1 t (by omega) he1 y hy
     ·exact ih.2 ts (by omega) he2 y hy
  exact (key t.size).1 t (aE _)
 funext x
 rw[← f1 x]
 conv=>lhs; rw[← Tm.sub_v (σ x)]
 exact Tm.sub_ext _ fun y hy=>(root y (fix _ (h.idem x) y hy)).symm
def moved (σ:Sb) (v:Nat):Bool:=match σ v with
 | .v y => !(y==v)
 | .f _ _=>true
theorem E9 {B:Bd} {σ:Sb} (h:Good B σ) (v:Nat):Aa B v=moved σ v:=by
 have:=h.moved (x:=v);unfold Aa moved;cases hb:B v with
 | none =>
  rw[h.free v hb];simp
 | some t =>
  have h1:=this.1 (by rw[hb]; simp)
  cases hs:σ v with
  | f c as=>rfl
  | v y =>
   rw[hs] at h1;have:y≠v:=fun e=>h1 (by rw[e])
   simp [this]
def tt (σ:Sb):List (Int×List Int):=((aR 24).filter (moved σ)).map fun v:Nat=>((v:Int),(σ v).codes)
theorem zfA (a0:List zl) (N:Nat):RepT a0 N to0 (fun _=>none) where
 len:=by simp [to0]
 at_:=fun x e h=>by
  have hx:x<48:=by
   have:=(aq.1 h).1;simpa[to0] using this
  rw[TP hx] at h;injection h with h;rw[← h];rfl
 out:=fun _ _=>rfl
theorem AP {a0:List zl} {xs ys:List Int} {ts us:List Tm} (hs:SignOk a0) (hx:xs=zc ts) (hy:ys=zc us) (ht:okR a0 24 ts) (hu:okR a0 24 us) (hb:uf a0=true) (hlx:xs.length<=48) (hly:ys.length<=48) :
  (uy a0 xs ys=some (false,0,[])∧(ts.length≠us.length∨∀ θ,¬ Sol θ (ts.zip us))) ∨
  (ts.length=us.length∧∃ σ,Mgu σ (ts.zip us)∧(∀ x,x<24->(σ x).ok a0 24)∧uy a0 xs ys=some (cond (xR σ (aR 24)) (true,0,tt σ) (false,401,[]))):=by
 have hr:∀{zs:List Int} {ws:List Tm},zs=zc ws->okR a0 24 ws->zs.length<=48->jb a0 zs=some ws.length:=by
  intro zs ws h1 h2 h3;unfold jb wA;rw[hb,decide_eq_true h3,h1,yp ws h2];simp
 unfold uy;rw[kq,hr hx ht hlx,af,kq,hr hy hu hly,af];simp only;rw[show ((0:Int) != 0)=false from rfl,cond_false,cond_false]
 by_cases hl:ts.length=us.length
 ·rw[hl,show (((us.length:Nat):Int) != ((us.length:Nat):Int))=false from by simp,cond_false]
  obtain⟨r,h1,h2,h3⟩:=FI hs (N:=0) (by omega) (zfA a0 0) Good.empty (p:=xs) (q:=ys) (d:=0) (e:=0) (ts:=ts) (us:=us)
   ⟨ts,0,ht,hx,rfl,aE _,by rw[show Tm.up 0=id from funext Tm.up_zero,gI],hlx⟩ ⟨us,0,hu,hy,rfl,aE _,by rw[show Tm.up 0=id from funext Tm.up_zero,gI],hly⟩ hl
  have h1:xc xs 0 ys 0 a0 (ax 48 ((none:Option jI),(0:Int)))=some r:=h1;rw[h1,af];rcases h3 with ⟨h3,h4⟩ | ⟨h3,B',h4,⟨σ,h5⟩,-,h6⟩
  ·rw[h3];exact .inl ⟨rfl,.inr fun θ h=>h4 θ (fun _ _ h=>(nomatch h)) h⟩
  ·rw[h3];have hok:∀ x,x<24->(σ x).ok a0 24:=by
    refine h5.ind (fun x hx hlt=>by rw[h5.free x hx]; exact hlt) fun x t hx ih _ => ?_
    have hto:Pc a0 0 t.codes 0 t:=by
     obtain⟨e,he,hpe⟩:=h4.get (x:=x) (h4.small x t hx).1;unfold PcO at hpe;split at hpe
     ·rw[hx] at hpe; cases hpe
     ·obtain⟨u,hu,hq⟩:=hpe;rw[hx] at hu; injection hu with hu; subst hu;obtain⟨u0,n,g1,g2,g3,g4,g5,g6⟩:=hq;have:n=0:=by omega
      subst this;rw[Tm.up_zero] at g5;subst g5;exact ⟨t,0,g1,rfl,rfl,aE _,(Tm.up_zero t).symm,by rw[← g2]; exact g6⟩
    obtain⟨u0,n,g1,g2,g3,g4,g5,g6⟩:=hto;have:n=0:=by omega
    subst this;rw[Tm.up_zero] at g5;subst g5;rw[h5.bound x t hx];exact Tm.ok_sub t g1 fun y hy=>ih y hy (Tm.ok_has t g1 hy)
   refine .inr ⟨rfl,σ,Mgu.of h5 h6,hok,?_⟩;simp only[aH,cond_false];have:=ID (a0:=r.2.1) (by rw[h2]; exact h4) h5 24 0 zd [] rfl (by omega) (by unfold zd; omega) (by simp)
   rw[show ((0:Nat):Int)=0 from rfl] at this
   rw[this,bV];have he:wh B' σ (aR 24)=tt σ:=by
    unfold wh tt;rw[show Aa B'=moved σ from funext (E9 h5)]
   cases xR σ (aR 24) with
   | true=>simp only[cond_true,af,te,bG,he]
   | false=>rfl
 ·rw[show (((ts.length:Nat):Int) != ((us.length:Nat):Int))=true from by simp; omega,cond_true]
  exact .inl ⟨rfl,.inl hl⟩
def zad (r:List Int) (x:Int):Prop:=∃ c∈r,c<0∧x = -1 - c
def GP (rs:List jI) (x:Int):Prop:=∃ r∈rs,zad r x
theorem JC {r:List Int} {rs:List jI} {x:Int}:GP (r::rs) x↔zad r x∨GP rs x:=by simp [GP]
theorem rY {rs ss:List jI} {x:Int}:GP (rs++ss) x↔GP rs x∨GP ss x:=by
 simp only[GP,aW];constructor
 ·rintro⟨r,h | h,h2⟩
  ·exact .inl ⟨r,h,h2⟩
  ·exact .inr ⟨r,h,h2⟩
 ·rintro (⟨r,h,h2⟩ | ⟨r,h,h2⟩)
  ·exact ⟨r,.inl h,h2⟩
  ·exact ⟨r,.inr h,h2⟩
theorem Y2 (rs ss:List jI):zu (rs++ss)=zu rs+zu ss:=by simp [zu]
def v5 (L:List zg) (T:List jI) (C:List zg):List jI:=L.map (·.2)++C.map (·.2)++T
def uv (s:Sb) (r:List Int):List Int:=r.flatMap (kY s)
theorem VA (σ:Sb) (v:Nat):(vs:List Nat)->t9 ((vs.filter (moved σ)).map fun v:Nat=>((v:Int),(σ v).codes)) (v:Int)=if v∈vs∧moved σ v=true then some (σ v).codes else none
 | []=>by simp [t9]
 | w::vs=>by
  have ih:=VA σ v vs;cases hm:moved σ w with
  | false =>
   rw[List.filter_cons_of_neg (by simp [hm]),ih]
   by_cases hv:v=w
   ·subst hv;simp [hm]
   ·simp [hv]
  | true =>
   rw[List.filter_cons_of_pos hm,aM];unfold t9 at ih ⊢;rw[ef];by_cases hv:v=w
   ·subst hv;simp [hm]
   ·rw[show (((w:Nat):Int)==(v:Int))=false from by simp; omega,ih]
    simp [hv]
theorem Cv {σ:Sb} {r:List Int} (h:∀ c∈r,-24<=c):onB (tt σ) r=uv σ r:=by
 unfold onB uv
 induction r with
 | nil=>rfl
 | cons c r ih =>
  rw[bv,bv,ih fun c hc=>h c (ai _ hc)]
  congr 1
  have hc:=h c (am ..);unfold onC kY;by_cases h0:c≥0
  ·rw[decide_eq_true h0,cond_true,if_neg (by omega)]
  ·rw[decide_eq_false h0,cond_false,if_pos (by omega)]
   obtain⟨k,hk,rfl⟩:∃ k:Nat,k<24∧c = -1 - (k:Int):=⟨(-1 - c).toNat,by omega,by omega⟩
   have e1:(-1:Int) - (-1 - (k:Int))=(k:Int):=by omega
   rw[e1,bx];unfold tt;rw[VA σ k];cases hm:moved σ k with
   | true=>simp [hk]
   | false =>
    have:σ k = .v k:=by
     unfold moved at hm;split at hm
     ·rename_i y hy;have:y=k:=by simpa using hm
      rw[hy,this]
     ·cases hm
    rw[this];simp [Tm.codes]
theorem Du {σ:Sb} (h:xR σ (aR 24)=true):BindsOk (tt σ) where
 len:=by
  unfold tt;rw[aT];have:=List.length_filter_le (moved σ) (aR 24);simp at this;omega
 all:=fun b hb=>by
  unfold tt at hb;obtain⟨v,hv,rfl⟩:=ba.1 hb;have hv:=(List.mem_filter.1 hv).1;have h1:=aK.1 h v hv;have h2:=(σ v).size_pos;have h3:=(σ v).codes_len;have h4:(σ v).size<=48:=of_decide_eq_true h1;refine ⟨fun e => ?_,?_⟩
  ·have:=congrArg aa e;simp only[bH] at this;omega
  ·show (σ v).codes.length<=1000;omega
def vI (s:Sb) (ls:List zg):List zg:=ls.map fun l=>(l.1,uv s l.2)
theorem XC {σ:Sb} {ls:List zg} (h:∀ l∈ls,∀ c∈l.2,-24<=c):VE (tt σ) ls=vI σ ls:=by
 unfold VE vI;exact bY fun l hl=>by rw[Cv (h l hl)]
theorem DJ {σ:Sb} {rs:List jI} (h:∀ r∈rs,∀ c∈r,-24<=c):Cb (tt σ) rs=rs.map (uv σ):=by
 unfold Cb;exact bY fun r hr=>Cv (h r hr)
theorem rA {a0:List zl} {xs:List Int} (h:qI a0 xs=true):∃(c:Nat) (ts:List Tm) (e:zl),xs=(c:Int)::zc ts∧okR a0 24 ts∧a0[c]? = some e∧e.2.1=0∧((ts.length:Nat):Int)=e.2.2.1∧(zc ts).length<=48∧uf a0=true:=by
 obtain⟨x,r,e,ps,rfl,h0,h1,-,h2,h3,h4,h5,h6⟩:=Zp h;obtain⟨ts,h7,h8,h9⟩:=RH h5;refine ⟨x.toNat,ts,e,by rw[← h9,Int.toNat_of_nonneg h0],h7,h1,h2,?_,by rw[← h9]; exact h4,h3⟩
 rw[← h6,h8,aT]
theorem MR {a0:List zl} {c:Nat} {ts:List Tm} {e:zl} (h1:okR a0 24 ts) (h2:a0[c]? = some e) (h3:e.2.1=0) (h4:((ts.length:Nat):Int)=e.2.2.1) (h5:(zc ts).length<=48) (h6:uf a0=true):qI a0 ((c:Int)::zc ts)=true:=by
 unfold qI;simp only[bx,h2];unfold wA;rw[h6,decide_eq_true h5];simp [h3,yp ts h1,h4]
theorem Zj {ts:List Tm} {x:Int}:zad (zc ts) x↔∃ k:Nat,x=(k:Int)∧QW k ts:=by
 constructor
 ·rintro⟨c,h1,h2,rfl⟩;exact ⟨(-1 - c).toNat,by omega,(tM h2 ts).1 h1⟩
 ·rintro⟨k,rfl,hk⟩;refine ⟨-1 - (k:Int),(tM (by omega) ts).2 (by rwa [show (-1 - (-1 - (k:Int))).toNat=k from by omega]),by omega,by omega⟩
theorem Ga {a0:List zl} {L:List zg} {T:List jI} {C:List zg} (h:sx a0 L T C=true):∀ r∈v5 L T C,uY r:=by
 obtain⟨-,-,-,-,h4,h5,h6,-⟩:=qw h;intro r hr;unfold v5 at hr;rcases aW.1 hr with hr | hr
 ·rcases aW.1 hr with hr | hr
  ·obtain⟨l,hl,rfl⟩:=ba.1 hr; exact uJ h4 l hl
  ·obtain⟨l,hl,rfl⟩:=ba.1 hr; exact uJ h6 l hl
 ·exact ZX h5 r hr
abbrev A1:=List zg×List jI×Bool×Int×List zg
def Gv (k:Int):Option A1:=some ([],[],false,k,[])
theorem KZ {α:Type} {xs:List α} {i:Int} {x:α} (h:gx xs i=some x):x∈xs:=by
 unfold gx at h;cases hd:decide (0<=i) with
 | false=>rw[hd] at h; cases h
 | true =>
  rw[hd,cond_true] at h;exact aO h
def Cds (r:List Int):Prop:=r.length<=1000∧∀ c∈r,-24<=c∧c<=1000000
theorem Cds.near {r:List Int} (h:Cds r):kj r:=⟨h.1,fun c hc=>by have:=h.2 c hc; omega⟩
theorem Fz {a0:List zl} (hs:SignOk a0) {L:List zg} {T:List jI} {C:List zg} (h:sx a0 L T C=true):∀ r∈v5 L T C,Cds r:=by
 intro r hr;have h1:=Ga h r hr;obtain⟨-,-,-,-,h4,h5,h6,-⟩:=qw h;have h2:kj r:=by
  unfold v5 at hr;rcases aW.1 hr with hr | hr
  ·rcases aW.1 hr with hr | hr
   ·obtain⟨l,hl,rfl⟩:=ba.1 hr; exact VC hs h4 l hl
   ·obtain⟨l,hl,rfl⟩:=ba.1 hr; exact VC hs h6 l hl
  ·exact BK hs h5 r hr
 exact ⟨h2.1,fun c hc=>⟨h1.2 c hc,(h2.2 c hc).2⟩⟩
theorem jC {L:List zg} {T:List jI} {C:List zg} {l:zg} (h:l∈L):l.2∈v5 L T C:=by
 unfold v5;exact bk _ (bk _ (bg h))
theorem ki {L:List zg} {T:List jI} {C:List zg} {l:zg} (h:l∈C):l.2∈v5 L T C:=by
 unfold v5;exact bk _ (bf _ (bg h))
theorem j9 {L:List zg} {T:List jI} {C:List zg} {r:List Int} (h:r∈T):r∈v5 L T C:=by
 unfold v5;exact bf _ h
theorem zc7 {σ:Sb} (hsh:xR σ (aR 24)=true) {L:List zg} {T:List jI} {C:List zg} (hL:∀ l∈L,Cds l.2) (hT:∀ r∈T,Cds r) (hC:∀ l∈C,Cds l.2) (h1:L.length<=1000) (h2:T.length<=1000) (h3:C.length<=1000) :
  sZ (tt σ) L T C=some (vI σ L,T.map (uv σ),vI σ C):=by
 rw[KY (Du hsh) (fun l hl=>(hL l hl).near) (fun r hr=>(hT r hr).near) (fun l hl=>(hC l hl).near) h1 h2 h3,
  XC fun l hl c hc=>((hL l hl).2 c hc).1,XC fun l hl c hc=>((hC l hl).2 c hc).1,DJ fun r hr c hc=>((hT r hr).2 c hc).1]
def Ke (a0:List zl) (σ:Sb) (L:List zg) (T:List jI) (C:List zg) (k:Int):Option A1 :=
 cond (sx a0 (vI σ L) (T.map (uv σ)) (vI σ C)) (some ((tV (vI σ L) (T.map (uv σ)) (vI σ C)).1,(tV (vI σ L) (T.map (uv σ)) (vI σ C)).2.1,true,0,(tV (vI σ L) (T.map (uv σ)) (vI σ C)).2.2)) (Gv k)
theorem uw {a0:List zl}:∀(n:Nat) (ts us:List Tm),xY ts<=n->okR a0 24 ts->okR a0 24 us->zc ts=zc us->ts=us:=by
 intro n
 induction n with
 | zero =>
  intro ts us hn _ _ he;cases ts with
  | cons t ts=>have:=t.size_pos; simp only[xY] at hn; omega
  | nil =>
   cases us with
   | nil=>rfl
   | cons u us =>
    have:=congrArg aa he;rw[vu,vu] at this;have:=u.size_pos;simp only[xY] at *; omega
 | succ n ih =>
  intro ts us hn ho ho' he;cases ts with
  | nil =>
   cases us with
   | nil=>rfl
   | cons u us =>
    have:=congrArg aa he;rw[vu,vu] at this;have:=u.size_pos;simp only[xY] at *; omega
  | cons t ts =>
   cases us with
   | nil =>
    have:=congrArg aa he;rw[vu,vu] at this;have:=t.size_pos;simp only[xY] at *; omega
   | cons u us =>
    have he:t.codes++zc ts=u.codes++zc us:=he;cases t with
    | v k =>
     cases u with
     | v k' =>
      have he:(-1 - (k:Int))::zc ts=(-1 - (k':Int))::zc us:=he;injection he with h1 h2;have:k=k':=by omega
      rw[this,ih ts us (by simp only[xY,Tm.size] at hn; omega) ho.2 ho'.2 h2]
     | f c as =>
      have he:(-1 - (k:Int))::zc ts=(c:Int)::(zc as++zc us):=he;injection he with h1 h2;omega
    | f c as =>
     cases u with
     | v k' =>
      have he:(c:Int)::(zc as++zc ts)=(-1 - (k':Int))::zc us:=he;injection he with h1 h2;omega
     | f c' bs =>
      have he:(c:Int)::(zc as++zc ts)=(c':Int)::(zc bs++zc us):=he;injection he with h1 h2;have hc:c=c':=by omega
      subst hc;rw[← Qi,← Qi] at h2;have ha:=ho.1.1;have hb:=ho'.1.1;rw[ha] at hb;injection hb with hb;have:=ih (as++ts) (bs++us) (by rw[ES]; simp only[xY,Tm.size] at hn; omega)
       (vZ.2 fun t ht=>(aW.1 ht).elim (vZ.1 ho.1.2 t) (vZ.1 ho.2 t))
       (vZ.2 fun t ht=>(aW.1 ht).elim (vZ.1 ho'.1.2 t) (vZ.1 ho'.2 t)) h2
      obtain⟨h3,h4⟩:=List.append_inj this hb;rw[h3,h4]
theorem Jk {L:List zg} {i:Int} (h:vr L i=true):∃ l,gx L i=some l:=by
 unfold vr at h;simp only[ap,decide_eq_true_eq] at h;obtain⟨l,h1,-⟩:=Mf (xs:=L) h.1 h.2;exact ⟨l,h1⟩
def YE (rec:(jI×Int×Int×Int×jI)->Option Int) (x:(jI×Int×Int×Int×jI)):Option Int :=
 cond (decide (x.2.2.1<((aa x.1:Nat):Int)))
 ((gx x.1 x.2.2.1).bind fun e2 =>
  rec (x.1,(ah .u64 ((ah .u64 ((ah .u64 (x.2.1*5))+(ah .u64 e2)))+3)),(ah .i64 (x.2.2.1+1)),x.2.2.2.1,x.2.2.2.2))
 (some x.2.1)
def Wj (a0:Int) (a1:jI) (a2:Int) (a3:jI):Option Int :=
 cond (((aa a1:Nat):Int)==0)
 (some 0)
 (((lp YE zd) (a3,(ah .u64 (ah .i64 ((ah .i64 (a2*7))+1))),0,a0,a1)).bind fun r6 =>
  cond (decide ((ah .u64 ((aa a1:Nat):Int))=0))
  (none)
  ((gx a1 (ah .i64 (fH r6 (ah .u64 ((aa a1:Nat):Int))))).bind fun e7 =>
   (zfo .and .i64 e7 255).bind fun b8 =>
   some b8))
def GA (nums:List Int):Prop:=nums≠[]∧nums.length<=9223372036854775807
def ME (m:Int) (nums:List Int) (c:Int) (xs:List Int):Int:=(Wj m nums c xs).getD 0
section
variable (m:Int) (nums:List Int)
mutual
def GO (env:Nat->Int):Tm->Int
 | .v n=>env n
 | .f c ts=>fH (ME m nums (c:Int) (Bc env ts)) m
def Bc (env:Nat->Int):List Tm->List Int
 | []=>[]
 | t::ts=>GO env t::Bc env ts
end
mutual
theorem Nm (env:Nat->Int) (s:Sb):(t:Tm)->GO m nums env (t.sub s)=GO m nums (fun n=>GO m nums env (s n)) t
 | .v n=>rfl
 | .f c ts=>by
  show fH (ME m nums (c:Int) (Bc m nums env (wF s ts))) m=_;rw[Dz env s ts];rfl
theorem Dz (env:Nat->Int) (s:Sb):(ts:List Tm)->Bc m nums env (wF s ts)=Bc m nums (fun n=>GO m nums env (s n)) ts
 | []=>rfl
 | t::ts=>by
  show GO m nums env (t.sub s)::Bc m nums env (wF s ts)=_;rw[Nm env s t,Dz env s ts];rfl
end
mutual
theorem Ol {e e':Nat->Int}:(t:Tm)->(∀ x,t.has x->e x=e' x)->GO m nums e t=GO m nums e' t
 | .v n,h=>h n rfl
 | .f c ts,h=>by
  show fH (ME m nums (c:Int) (Bc m nums e ts)) m=fH (ME m nums (c:Int) (Bc m nums e' ts)) m;rw[DL ts h]
theorem DL {e e':Nat->Int}:(ts:List Tm)->(∀ x,QW x ts->e x=e' x)->Bc m nums e ts=Bc m nums e' ts
 | [],_=>rfl
 | t::ts,h=>by
  show GO m nums e t::Bc m nums e ts=GO m nums e' t::Bc m nums e' ts;rw[Ol t fun x hx=>h x (.inl hx),DL ts fun x hx=>h x (.inr hx)]
end
end
structure EnvOk (m:Int) (E:List Int):Prop where
 len:E.length=24
 rng:∀ x∈E,0<=x∧x<m
def zdB (E:List Int) (n:Nat):Int:=E.getD n 0
theorem EnvOk.get {m:Int} {E:List Int} (h:EnvOk m E) {n:Nat} (hn:n<24):E[n]? = some (zdB E n):=by
 unfold zdB;rw[aA,al (by rw[h.len]; exact hn)]
 rfl
theorem EnvOk.val {m:Int} {E:List Int} (h:EnvOk m E) {n:Nat} (hn:n<24):0<=zdB E n∧zdB E n<m:=h.rng _ (aO (h.get hn))
theorem DQ {a0:List zl} (hs:SignOk a0) {c q:Nat} (h:vm a0 (c:Int)=some q):∃ e,gx a0 (c:Int)=some e∧e.2.2.1=(q:Int):=by
 unfold vm at h;rw[decide_eq_false (show ¬(c:Int)<0 by omega),cond_false,bx] at h
 cases he:a0[c]? with
 | none=>rw[he] at h; cases h
 | some e =>
  rw[he] at h;simp only at h;refine ⟨e,by rw[qJ,he],?_⟩
  have:=hs.at he;cases hk:(e.2.1==0) with
  | true=>rw[hk] at h; cases h
  | false=>rw[hk] at h; injection h with h; omega
abbrev Vm:=Bool×Nat×List Tm
def cl (l:Vm):zg:=(l.1,(l.2.1:Int)::zc l.2.2)
def WfL (a0:List zl) (l:Vm):Prop:=okR a0 24 l.2.2∧(∃ e,a0[l.2.1]? = some e∧e.2.1=0∧((l.2.2.length:Nat):Int)=e.2.2.1)∧(zc l.2.2).length<=48
def WfR (a0:List zl) (ts:List Tm):Prop:=okR a0 24 ts∧(zc ts).length<=48
theorem WS {a0:List zl}:(ls:List zg)->tp a0 ls=true->∃ lt:List Vm,ls=lt.map cl∧∀ l∈lt,WfL a0 l
 | [],_=>⟨[],rfl,fun _ h=>(nomatch h)⟩
 | l::ls,h=>by
  unfold tp at h;rw[b9,ap] at h;obtain⟨lt,h1,h2⟩:=WS ls h.2;obtain⟨c,ts,e,h3,h4,h5,h6,h7,h8,-⟩:=rA h.1;refine ⟨(l.1,c,ts)::lt,by rw[aM,← h1]; show l::ls=(l.1,(c:Int)::zc ts)::ls; rw[← h3],fun x hx => ?_⟩
  rcases aI.1 hx with rfl | hx
  ·exact ⟨h4,⟨e,h5,h6,h7⟩,h8⟩
  ·exact h2 x hx
theorem CZ {a0:List zl} {rs:List jI} (h:kp a0 rs=true):∃ rt:List (List Tm),rs=rt.map zc∧∀ r∈rt,WfR a0 r:=by
 obtain⟨n,hn⟩:=YK h;clear h
 induction rs with
 | nil=>exact ⟨[],rfl,fun _ h=>(nomatch h)⟩
 | cons r rs ih =>
  obtain⟨rt,h1,h2⟩:=ih fun q hq=>hn q (ai _ hq);obtain⟨ps,hc,-,hl,-⟩:=Wu (hn r (am ..));obtain⟨ts,h3,-,h4⟩:=RH hc;refine ⟨ts::rt,by rw[aM,← h1,← h4],fun x hx => ?_⟩
  rcases aI.1 hx with rfl | hx
  ·exact ⟨h3,by rw[← h4]; exact hl⟩
  ·exact h2 x hx
theorem MH {a0:List zl} {L:List zg} {T:List jI} {C:List zg} (h:sx a0 L T C=true):∃(Lt:List Vm) (Tt:List (List Tm)) (Ct:List Vm),L=Lt.map cl∧T=Tt.map zc∧C=Ct.map cl∧(∀ l∈Lt,WfL a0 l)∧(∀ r∈Tt,WfR a0 r)∧∀ l∈Ct,WfL a0 l:=by
 obtain⟨-,-,-,-,h4,h5,h6,-⟩:=qw h;obtain⟨Lt,a1,a2⟩:=WS L h4;obtain⟨Tt,b1,b2⟩:=CZ h5;obtain⟨Ct,c1,c2⟩:=WS C h6;exact ⟨Lt,Tt,Ct,a1,b1,c1,a2,b2,c2⟩
section
variable {m:Int} (hm:0<m) {nums:List Int} (hn:GA nums) {a0:List zl} (hs:SignOk a0) {E:List Int} (hE:EnvOk m E)
include hm hn hs hE
end
theorem EnvOk.set {m:Int} {E:List Int} (h:EnvOk m E) {v:Nat} {x:Int} (hx:0<=x∧x<m):EnvOk m (E.set v x) where
 len:=by rw[cM]; exact h.len
 rng:=fun y hy=>by
  rcases List.mem_or_eq_of_mem_set hy with hy | hy
  ·exact h.rng y hy
  ·rw[hy]; exact hx
def Pd (L:List Vm) (T:List (List Tm)) (C:List Vm) (x:Nat):Prop:=(∃ l∈L,QW x l.2.2)∨(∃ r∈T,QW x r)∨∃ l∈C,QW x l.2.2
theorem KG {l:Vm} {x:Nat}:zad (cl l).2 (x:Int)↔QW x l.2.2:=by
 constructor
 ·rintro⟨c,hc,h0,he⟩;rcases aI.1 hc with rfl | hc
  ·omega
  ·obtain⟨k,h1,h2⟩:=Zj.1 ⟨c,hc,h0,he⟩;have:x=k:=by omega
   rw[this]; exact h2
 ·intro h;obtain⟨c,hc,h0,he⟩:=Zj.2 ⟨x,rfl,h⟩;exact ⟨c,ai _ hc,h0,he⟩
theorem Wf {L:List Vm} {T:List (List Tm)} {C:List Vm} {x:Nat}:GP (v5 (L.map cl) (T.map zc) (C.map cl)) (x:Int)↔Pd L T C x:=by
 unfold v5 Pd;rw[rY,rY];constructor
 ·rintro ((⟨r,hr,h⟩ | ⟨r,hr,h⟩) | ⟨r,hr,h⟩)
  ·obtain⟨q,hq,rfl⟩:=ba.1 hr;obtain⟨l,hl,rfl⟩:=ba.1 hq;exact .inl ⟨l,hl,KG.1 h⟩
  ·obtain⟨q,hq,rfl⟩:=ba.1 hr;obtain⟨l,hl,rfl⟩:=ba.1 hq;exact .inr (.inr ⟨l,hl,KG.1 h⟩)
  ·obtain⟨l,hl,rfl⟩:=ba.1 hr;obtain⟨k,h1,h2⟩:=Zj.1 h;have:x=k:=by omega
   exact .inr (.inl ⟨l,hl,by rw[this]; exact h2⟩)
 ·rintro (⟨l,hl,h⟩ | ⟨r,hr,h⟩ | ⟨l,hl,h⟩)
  ·exact .inl (.inl ⟨_,bg (bg hl),KG.2 h⟩)
  ·exact .inr ⟨_,bg hr,Zj.2 ⟨x,rfl,h⟩⟩
  ·exact .inl (.inr ⟨_,bg (bg hl),KG.2 h⟩)
abbrev VV:=List Int×Int
def rho (s:VV) (v:Nat):Nat:=(s.1.getD v 0).toNat - 1
structure RenI (s:VV):Prop where
 len:s.1.length=24
 rng:∀ v,0<=s.1.getD v 0∧s.1.getD v 0<=s.2
 inj:∀ v w,s.1.getD v 0=s.1.getD w 0->s.1.getD v 0≠0->v=w
 cnt:((s.1.countP (fun x=>x != 0):Nat):Int)=s.2
def ExtS (s s':VV):Prop:=∀ v,s.1.getD v 0≠0->s'.1.getD v 0=s.1.getD v 0
theorem ExtS.refl (s:VV):ExtS s s:=fun _ _=>rfl
theorem ExtS.trans {s t u:VV} (h:ExtS s t) (h':ExtS t u):ExtS s u:=fun v hv=>(h' v (by rw[h v hv]; exact hv)).trans (h v hv)
theorem RenI.next {s:VV} (h:RenI s):0<=s.2∧s.2<=24:=by
 have h1:=h.cnt;have h2:s.1.countP (fun x=>x != 0)<=s.1.length:=dY;rw[h.len] at h2;omega
theorem RenI.rho_lt {s:VV} (h:RenI s) {v:Nat} (_hv:s.1.getD v 0≠0):rho s v<24:=by
 have h1:=h.rng v;have h2:=h.next;unfold rho;omega
theorem RenI.rho_inj {s:VV} (h:RenI s) {v w:Nat} (hv:s.1.getD v 0≠0) (hw:s.1.getD w 0≠0) (he:rho s v=rho s w):v=w:=by
 have h1:=h.rng v;have h2:=h.rng w;unfold rho at he;exact h.inj v w (by omega) hv
theorem zeU:RenI (ax 24 (0:Int),0) where
 len:=by simp
 rng:=fun v=>by
  rw[aA,bD];split<;>simp
 inj:=fun v w _ h=>by
  exfalso;apply h;rw[aA,bD];split<;>rfl
 cnt:=by decide
theorem BN {xs:List Int} {v:Nat} {y:Int} (hv:xs[v]? = some 0) (hy:y≠0):(xs.set v y).countP (fun x=>x != 0)=xs.countP (fun x=>x != 0)+1:=by
 obtain⟨hx,he⟩:=aq.1 hv;have h1:=bR v xs;have h2:xs.drop v=0::xs.drop (v+1):=by rw[aV hx,he]
 have h3:xs.set v y=xs.take v++y::xs.drop (v+1):=by rw[dR,if_pos hx]
 conv=>rhs; rw[← h1,h2]
 rw[h3];simp [fA,hy];omega
theorem uM {xs:List Int} {v w:Nat} {y:Int} (hv:v<xs.length):(xs.set v y).getD w 0=if w=v then y else xs.getD w 0:=by
 rw[aA,aA];by_cases h:w=v
 ·subst h; rw[cD hv,if_pos rfl]; rfl
 ·rw[cw (db h),if_neg h]
theorem Jw {s:VV} (h:RenI s) {c:Int} (hc : -24<=c):RenI (Xy s c).2∧ExtS s (Xy s c).2∧(c<0->(Xy s c).2.1.getD (-1 - c).toNat 0≠0)∧∀ f,ExtS (Xy s c).2 f->[(Xy s c).1]=kY (fun v=>.v (rho f v)) c:=by
 unfold Xy;by_cases h0:c≥0
 ·rw[decide_eq_true h0,cond_true];refine ⟨h,ExtS.refl s,fun h1=>by omega,fun f _ => ?_⟩
  unfold kY;rw[if_neg (by omega)]
 ·rw[decide_eq_false h0,cond_false];have hv:(-1 - c).toNat<s.1.length:=by rw[h.len]; omega
  have hexp:∀ f:VV,kY (fun v=>.v (rho f v)) c=[-1 - ((rho f (-1 - c).toNat:Nat):Int)]:=fun f=>by
   unfold kY;rw[if_pos (by omega)]
   rfl
  by_cases hz:s.1.getD (-1 - c).toNat 0=0
  ·rw[show (s.1.getD (-1 - c).toNat 0==0)=true from by rw[hz]; rfl,cond_true]
   have hn:=h.next;have hget:s.1[(-1 - c).toNat]? = some 0:=by
    rw[aA,al hv] at hz;rw[al hv];exact congrArg some hz
   refine ⟨⟨by simpa using h.len,fun v => ?_,fun v w he hnz => ?_,?_⟩,fun v hvz => ?_,fun _ => ?_,fun f hf => ?_⟩
   ·show 0<=(s.1.set _ _).getD v 0∧(s.1.set _ _).getD v 0<=s.2+1;rw[uM hv];have:=h.rng v;split<;>omega
   ·have he:(s.1.set (-1 - c).toNat (s.2+1)).getD v 0=(s.1.set (-1 - c).toNat (s.2+1)).getD w 0:=he;have hnz:(s.1.set (-1 - c).toNat (s.2+1)).getD v 0≠0:=hnz;rw[uM hv] at he hnz;rw[uM hv] at he;have h1:=h.rng v;have h2:=h.rng w;by_cases e1:v=(-1 - c).toNat
    ·rw[if_pos e1] at he hnz;by_cases e2:w=(-1 - c).toNat
     ·rw[e1,e2]
     ·rw[if_neg e2] at he; omega
    ·rw[if_neg e1] at he hnz;by_cases e2:w=(-1 - c).toNat
     ·rw[if_pos e2] at he; omega
     ·rw[if_neg e2] at he;exact h.inj v w he hnz
   ·show (((s.1.set (-1 - c).toNat (s.2+1)).countP (fun x=>x != 0):Nat):Int)=s.2+1;rw[BN hget (by omega),← h.cnt]
    omega
   ·show (s.1.set _ _).getD v 0=_;rw[uM hv];split
    ·rename_i e; rw[e,hz] at hvz; exact absurd rfl hvz
    ·rfl
   ·show (s.1.set _ _).getD _ 0≠0;rw[uM hv,if_pos rfl];omega
   ·rw[hexp];have hf2:=hf (-1 - c).toNat (by
     show (s.1.set _ _).getD _ 0≠0;rw[uM hv,if_pos rfl];omega)
    have hf2:f.1.getD (-1 - c).toNat 0=(s.1.set (-1 - c).toNat (s.2+1)).getD (-1 - c).toNat 0:=hf2;rw[uM hv,if_pos rfl] at hf2;unfold rho;rw[hf2];show [-(s.2+1)]=_
    congr 1
    omega
  ·rw[show (s.1.getD (-1 - c).toNat 0==0)=false from by simpa using hz,cond_false]
   refine ⟨h,ExtS.refl s,fun _=>hz,fun f hf => ?_⟩;rw[hexp];have hf2:f.1.getD (-1 - c).toNat 0=s.1.getD (-1 - c).toNat 0:=hf _ hz;have:=h.rng (-1 - c).toNat;unfold rho;rw[hf2];show [-(s.1.getD (-1 - c).toNat 0)]=_
   congr 1
   omega
theorem jt:(r:List Int)->{s:VV}->RenI s->(∀ c∈r,-24<=c)->RenI (tq s r).2∧ExtS s (tq s r).2∧(∀ x,zad r x->(tq s r).2.1.getD x.toNat 0≠0)∧∀ f,ExtS (tq s r).2 f->(tq s r).1=uv (fun v=>.v (rho f v)) r
 | [],s,h,_=>⟨h,ExtS.refl s,fun x ⟨c,hc,_⟩=>(nomatch hc),fun _ _=>rfl⟩
 | c::r,s,h,hc=>by
  obtain⟨h1,h2,h3,h4⟩:=Jw h (hc c (am ..));obtain⟨g1,g2,g3,g4⟩:=jt r h1 fun d hd=>hc d (ai _ hd);refine ⟨g1,h2.trans g2,fun x ⟨d,hd,hd0,hx⟩ => ?_,fun f hf => ?_⟩
  ·rcases aI.1 hd with rfl | hd
   ·subst hx;show (tq (Xy s d).2 r).2.1.getD (-1 - d).toNat 0≠0;rw[g2 _ (h3 hd0)];exact h3 hd0
   ·exact g3 x ⟨d,hd,hd0,hx⟩
  ·have hf:ExtS (tq (Xy s c).2 r).2 f:=hf;show (Xy s c).1::(tq (Xy s c).2 r).1=_;unfold uv;rw[bv,← h4 f (g2.trans hf),g4 f hf];rfl
theorem sY:(ls:List zg)->{s:VV}->RenI s->(∀ l∈ls,∀ c∈l.2,-24<=c)->RenI (xD s ls).2∧ExtS s (xD s ls).2∧(∀ x,GP (ls.map (·.2)) x->(xD s ls).2.1.getD x.toNat 0≠0)∧∀ f,ExtS (xD s ls).2 f->(xD s ls).1=vI (fun v=>.v (rho f v)) ls
 | [],s,h,_=>⟨h,ExtS.refl s,fun x ⟨c,hc,_⟩=>(nomatch hc),fun _ _=>rfl⟩
 | l::ls,s,h,hc=>by
  obtain⟨h1,h2,h3,h4⟩:=jt l.2 h (hc l (am ..));obtain⟨g1,g2,g3,g4⟩:=sY ls h1 fun d hd=>hc d (ai _ hd);refine ⟨g1,h2.trans g2,fun x hx => ?_,fun f hf => ?_⟩
  ·rw[aM,JC] at hx;rcases hx with hx | hx
   ·show (xD (tq s l.2).2 ls).2.1.getD x.toNat 0≠0;rw[g2 _ (h3 x hx)];exact h3 x hx
   ·exact g3 x hx
  ·have hf:ExtS (xD (tq s l.2).2 ls).2 f:=hf;show (l.1,(tq s l.2).1)::(xD (tq s l.2).2 ls).1=_;rw[h4 f (g2.trans hf),g4 f hf];rfl
theorem Qn:(ls:List jI)->{s:VV}->RenI s->(∀ l∈ls,∀ c∈l,-24<=c)->RenI (vK s ls).2∧ExtS s (vK s ls).2∧(∀ x,GP ls x->(vK s ls).2.1.getD x.toNat 0≠0)∧∀ f,ExtS (vK s ls).2 f->(vK s ls).1=ls.map (uv (fun v=>.v (rho f v)))
 | [],s,h,_=>⟨h,ExtS.refl s,fun x ⟨c,hc,_⟩=>(nomatch hc),fun _ _=>rfl⟩
 | l::ls,s,h,hc=>by
  obtain⟨h1,h2,h3,h4⟩:=jt l h (hc l (am ..));obtain⟨g1,g2,g3,g4⟩:=Qn ls h1 fun d hd=>hc d (ai _ hd);refine ⟨g1,h2.trans g2,fun x hx => ?_,fun f hf => ?_⟩
  ·rw[JC] at hx;rcases hx with hx | hx
   ·show (vK (tq s l).2 ls).2.1.getD x.toNat 0≠0;rw[g2 _ (h3 x hx)];exact h3 x hx
   ·exact g3 x hx
  ·have hf:ExtS (vK (tq s l).2 ls).2 f:=hf;show (tq s l).1::(vK (tq s l).2 ls).1=_;rw[h4 f (g2.trans hf),g4 f hf];rfl
theorem Hy {L:List zg} {T:List jI} {C:List zg} (hc:∀ r∈v5 L T C,∀ c∈r,-24<=c):∃ ρ:Nat->Nat,
  tV L T C=(vI (fun v=>.v (ρ v)) (zF L []),(zF T []).map (uv (fun v=>.v (ρ v))),vI (fun v=>.v (ρ v)) (zF C [])) ∧
  (∀ x,GP (v5 L T C) x->ρ x.toNat<24)∧∀ x y,GP (v5 L T C) x->GP (v5 L T C) y->ρ x.toNat=ρ y.toNat->x.toNat=y.toNat:=by
 have mL:∀ l,l∈zF L []↔l∈L:=fun l=>by simpa using qr (x:=l) L []
 have mT:∀ l,l∈zF T []↔l∈T:=fun l=>by simpa using qr (x:=l) T []
 have mC:∀ l,l∈zF C []↔l∈C:=fun l=>by simpa using qr (x:=l) C []
 obtain⟨a1,a2,a3,a4⟩:=sY (zF L []) zeU fun l hl=>hc _ (jC ((mL l).1 hl));obtain⟨b1,b2,b3,b4⟩:=Qn (zF T []) a1 fun l hl=>hc _ (j9 ((mT l).1 hl));obtain⟨c1,c2,c3,c4⟩:=sY (zF C []) b1 fun l hl=>hc _ (ki ((mC l).1 hl));have nz:∀ x,GP (v5 L T C) x->(xD (vK (xD (ax 24 0,0) (zF L [])).2 (zF T [])).2 (zF C [])).2.1.getD x.toNat 0≠0:=by
  intro x hx;unfold v5 at hx;rw[rY,rY] at hx;rcases hx with (⟨r,hr,hx⟩ | ⟨r,hr,hx⟩) | ⟨r,hr,hx⟩
  ·obtain⟨l,hl,rfl⟩:=ba.1 hr;have:=a3 x ⟨_,bg ((mL l).2 hl),hx⟩;rw[c2 _ (by rw[b2 _ this]; exact this),b2 _ this]
   exact this
  ·obtain⟨l,hl,rfl⟩:=ba.1 hr;exact c3 x ⟨_,bg ((mC l).2 hl),hx⟩
  ·have:=b3 x ⟨_,(mT r).2 hr,hx⟩;rw[c2 _ this];exact this
 refine ⟨rho (xD (vK (xD (ax 24 0,0) (zF L [])).2 (zF T [])).2 (zF C [])).2,?_,fun x hx=>c1.rho_lt (nz x hx),fun x y hx hy he=>c1.rho_inj (nz x hx) (nz y hy) he⟩;unfold tV zc6;rw[a4 _ (b2.trans c2),b4 _ c2,c4 _ (ExtS.refl _)]
def QQ (s:Sb) (l:Vm):Vm:=(l.1,l.2.1,wF s l.2.2)
theorem KI (s:Sb) (ls:List Vm):vI s (ls.map cl)=(ls.map (QQ s)).map cl:=by
 unfold vI;rw[cp,cp];refine bY fun l _ => ?_;show (l.1,uv s ((l.2.1:Int)::zc l.2.2))=(l.1,(l.2.1:Int)::zc (wF s l.2.2));rw[rb];unfold uv;rw[bv];have:kY s (l.2.1:Int)=[(l.2.1:Int)]:=by unfold kY; rw[if_neg (by omega)]
 rw[this];rfl
theorem W5 (s:Sb) (rs:List (List Tm)):(rs.map zc).map (uv s)=(rs.map (wF s)).map zc:=by
 rw[cp,cp];refine bY fun r _ => ?_;show uv s (zc r)=zc (wF s r);rw[rb];rfl
theorem VL {a0:List zl} (hb:uf a0=true) {ts:List Tm} (h:WfR a0 ts):jb a0 (zc ts)=some ts.length:=by
 unfold jb wA;rw[hb,decide_eq_true h.2,yp ts h.1];simp
theorem N8 {a0:List zl} {rs:List jI} {n:Nat} (h:∀ r∈rs,jb a0 r=some n):kp a0 rs=true:=by
 cases rs with
 | nil=>rfl
 | cons r rs =>
  unfold kp;show (match jb a0 r with | none=>false | some n=>rs.all fun q=>jb a0 q==some n)=true
  rw[h r (am ..)];exact aK.2 fun q hq=>by rw[h q (ai _ hq)]; simp
theorem VU {a0:List zl} (hb:uf a0=true) {l:Vm} (h:WfL a0 l):qI a0 (cl l).2=true:=by
 obtain⟨h1,⟨e,h2,h3,h4⟩,h5⟩:=h;exact MR h1 h2 h3 h4 h5 hb
theorem OL {a0:List zl} {l k:Vm} (hl:WfL a0 l) (hk:WfL a0 k) (h:cl l=cl k):l=k:=by
 obtain⟨n,c,ts⟩:=l;obtain⟨n',c',us⟩:=k;have h:((n,(c:Int)::zc ts):zg)=(n',(c':Int)::zc us):=h;injection h with h1 h2;injection h2 with h2 h3;have h3:=uw _ ts us (aE _) hl.1 hk.1 h3;have:c=c':=by omega
 rw[h1,this,h3]
theorem Y7 {α β:Type} (f:α->β) {as:List α}:(bs:List β)->(∀ b∈bs,b∈as.map f)->∃ as':List α,bs=as'.map f∧∀ a∈as',a∈as
 | [],_=>⟨[],rfl,fun _ h=>(nomatch h)⟩
 | b::bs,h=>by
  obtain⟨as',h1,h2⟩:=Y7 f bs fun x hx=>h x (ai _ hx);obtain⟨a,ha,rfl⟩:=ba.1 (h b (am ..));refine ⟨a::as',by rw[aM,← h1],fun x hx => ?_⟩
  rcases aI.1 hx with rfl | hx
  ·exact ha
  ·exact h2 x hx
theorem kw {α:Type} [DecidableEq α] (f:α->Nat):(es out:List α)->((zF es out).map f).sum<=(out.map f).sum+(es.map f).sum
 | [],out=>by simp [zF]
 | e::es,out=>by
  unfold zF;by_cases h:e∈out
  ·rw[decide_eq_true h,cond_true];have:=kw f es out;simp only[aM,cA];omega
  ·rw[decide_eq_false h,cond_false];have:=kw f es (out++[e]);simp only[aM,cA,List.map_append,List.sum_append,List.map_nil,List.sum_nil] at this ⊢;omega
abbrev vS (ρ:Nat->Nat):Sb:=fun v=>.v (ρ v)
theorem ET (ρ:Nat->Nat) (r:List Int):(uv (vS ρ) r).length=r.length:=by
 unfold uv
 induction r with
 | nil=>rfl
 | cons c r ih =>
  rw[bv,az,ih,au];unfold kY;split
  ·simp [Tm.codes]; omega
  ·simp; omega
theorem Rm {a0:List zl} {ρ:Nat->Nat} {ts:List Tm} (h:WfR a0 ts) (hρ:∀ x,QW x ts->ρ x<24):WfR a0 (wF (vS ρ) ts):=by
 refine ⟨Ip ts h.1 fun x hx=>hρ x hx,?_⟩;rw[rb];have:=ET ρ (zc ts);unfold uv at this;rw[this];exact h.2
theorem Rf {a0:List zl} {ρ:Nat->Nat} {l:Vm} (h:WfL a0 l) (hρ:∀ x,QW x l.2.2->ρ x<24):WfL a0 (QQ (vS ρ) l):=by
 obtain⟨h1,⟨e,h2,h3,h4⟩,h5⟩:=h;have:=Rm (a0:=a0) ⟨h1,h5⟩ hρ;exact ⟨this.1,⟨e,h2,h3,by show (((wF (vS ρ) l.2.2).length:Nat):Int)=_; rw[kB]; exact h4⟩,this.2⟩
theorem I4 {a0:List zl} {L:List Vm} {T:List (List Tm)} {C:List Vm} (hmay:sx a0 (L.map cl) (T.map zc) (C.map cl)=true) (hL:∀ l∈L,WfL a0 l) (hT:∀ r∈T,WfR a0 r) (hC:∀ l∈C,WfL a0 l) :
  ∃(L1:List Vm) (T1:List (List Tm)) (C1:List Vm) (ρ:Nat->Nat),tV (L.map cl) (T.map zc) (C.map cl)=((L1.map (QQ (vS ρ))).map cl,(T1.map (wF (vS ρ))).map zc,(C1.map (QQ (vS ρ))).map cl)∧(∀ l∈L1.map (QQ (vS ρ)),WfL a0 l)∧(∀ r∈T1.map (wF (vS ρ)),WfR a0 r)∧(∀ l∈C1.map (QQ (vS ρ)),WfL a0 l) ∧
   sx a0 ((L1.map (QQ (vS ρ))).map cl) ((T1.map (wF (vS ρ))).map zc) ((C1.map (QQ (vS ρ))).map cl)=true∧(∀ x,Pd L T C x->ρ x<24)∧(∀ x y,Pd L T C x->Pd L T C y->ρ x=ρ y->x=y)∧(∀ x,Pd (L1.map (QQ (vS ρ))) (T1.map (wF (vS ρ))) (C1.map (QQ (vS ρ))) x↔∃ y,Pd L T C y∧ρ y=x) ∧
   (∀ l,l∈L1↔l∈L)∧(∀ l,l∈T1↔l∈T)∧∀ l,l∈C1↔l∈C:=by
 obtain⟨hsb,g1,g2,g3,g4,g5,g6,g7⟩:=qw hmay;obtain⟨ρ,hn,hr1,hr2⟩:=Hy (L:=L.map cl) (T:=T.map zc) (C:=C.map cl) fun r hr c hc=>(Ga hmay r hr).2 c hc;have hρ:∀ x,Pd L T C x->ρ x<24:=fun x hx=>by
  have:=hr1 x (Wf.2 hx);rwa [bx] at this
 have mL:∀ l,l∈zF (L.map cl) []↔l∈L.map cl:=fun l=>by simpa using qr (x:=l) (L.map cl) []
 have mT:∀ l,l∈zF (T.map zc) []↔l∈T.map zc:=fun l=>by simpa using qr (x:=l) (T.map zc) []
 have mC:∀ l,l∈zF (C.map cl) []↔l∈C.map cl:=fun l=>by simpa using qr (x:=l) (C.map cl) []
 obtain⟨L1,eL,sL⟩:=Y7 cl (zF (L.map cl) []) fun b hb=>(mL b).1 hb;obtain⟨T1,eT,sT⟩:=Y7 zc (zF (T.map zc) []) fun b hb=>(mT b).1 hb;obtain⟨C1,eC,sC⟩:=Y7 cl (zF (C.map cl) []) fun b hb=>(mC b).1 hb;have bL:∀ l,l∈L1↔l∈L:=fun l=>⟨sL l,fun hl=>by
  have h1:=(mL (cl l)).2 (bg hl);rw[eL] at h1;obtain⟨k,hk,he⟩:=ba.1 h1;rw[← OL (hL k (sL k hk)) (hL l hl) he];exact hk⟩
 have bC:∀ l,l∈C1↔l∈C:=fun l=>⟨sC l,fun hl=>by
  have h1:=(mC (cl l)).2 (bg hl);rw[eC] at h1;obtain⟨k,hk,he⟩:=ba.1 h1;rw[← OL (hC k (sC k hk)) (hC l hl) he];exact hk⟩
 have bT:∀ l,l∈T1↔l∈T:=fun l=>⟨sT l,fun hl=>by
  have h1:=(mT (zc l)).2 (bg hl);rw[eT] at h1;obtain⟨k,hk,he⟩:=ba.1 h1;rw[← uw _ k l (aE _) (hT k (sT k hk)).1 (hT l hl).1 he];exact hk⟩
 have wL:∀ l∈L1.map (QQ (vS ρ)),WfL a0 l:=fun l hl=>by
  obtain⟨k,hk,rfl⟩:=ba.1 hl;exact Rf (hL k (sL k hk)) fun x hx=>hρ x (.inl ⟨k,sL k hk,hx⟩)
 have wC:∀ l∈C1.map (QQ (vS ρ)),WfL a0 l:=fun l hl=>by
  obtain⟨k,hk,rfl⟩:=ba.1 hl;exact Rf (hC k (sC k hk)) fun x hx=>hρ x (.inr (.inr ⟨k,sC k hk,hx⟩))
 have wT:∀ l∈T1.map (wF (vS ρ)),WfR a0 l:=fun l hl=>by
  obtain⟨k,hk,rfl⟩:=ba.1 hl;exact Rm (hT k (sT k hk)) fun x hx=>hρ x (.inr (.inl ⟨k,sT k hk,hx⟩))
 have lL:L1.length<=5:=by
  have h1:=congrArg aa eL;have h2:=xv (L.map cl) [];rw[aT] at h1 h2 g1;simp at h2; omega
 have lT:T1.length<=3:=by
  have h1:=congrArg aa eT;have h2:=xv (T.map zc) [];rw[aT] at h1 h2 g2;simp at h2; omega
 have lC:C1.length<=3:=by
  have h1:=congrArg aa eC;have h2:=xv (C.map cl) [];rw[aT] at h1 h2 g3;simp at h2; omega
 refine ⟨L1,T1,C1,ρ,?_,wL,wT,wC,?_,hρ,fun x y hx hy he => ?_,fun x => ?_,bL,bT,bC⟩
 ·rw[hn,eL,eT,eC,KI,W5,KI]
 ·refine Ua hsb (by simpa using lL) (by simpa using lT) (by simpa using lC) ?_ ?_ ?_ ?_
  ·refine aK.2 fun l hl => ?_;obtain⟨k,hk,rfl⟩:=ba.1 hl;exact VU hsb (wL k hk)
  ·obtain⟨n,hw⟩:=YK g5;refine N8 (n:=n) fun r hr => ?_;obtain⟨k,hk,rfl⟩:=ba.1 hr;rw[VL hsb (wT k hk)];obtain⟨j,hj,rfl⟩:=ba.1 hk;rw[kB];have:=hw (zc j) (bg (sT j hj));rwa [VL hsb (hT j (sT j hj))] at this
  ·refine aK.2 fun l hl => ?_;obtain⟨k,hk,rfl⟩:=ba.1 hl;exact VU hsb (wC k hk)
  ·have sumL:∀(X X1:List Vm),zF (X.map cl) []=X1.map cl->zu (((X1.map (QQ (vS ρ))).map cl).map (·.2))<=zu ((X.map cl).map (·.2)):=by
    intro X X1 he;rw[← KI];have h1:(vI (vS ρ) (X1.map cl)).map (·.2.length)=(X1.map cl).map (·.2.length):=by
     unfold vI;rw[cp];exact bY fun l _=>ET ρ l.2
    unfold zu;rw[cp,cp];have h2:=kw (fun l:zg=>l.2.length) (X.map cl) [];rw[he] at h2;have h3:dx (aa ∘ fun x=>x.2) (vI (vS ρ) (X1.map cl))=(X1.map cl).map (·.2.length):=h1;rw[h3];have h4:(([]:List zg).map (fun l:zg=>l.2.length)).sum=0:=rfl;have h5:dx (aa ∘ fun x=>x.2) (X.map cl)=(X.map cl).map (fun l:zg=>l.2.length):=rfl;rw[h4,aL] at h2;exact h2
   have sumT:zu ((T1.map (wF (vS ρ))).map zc)<=zu (T.map zc):=by
    rw[← W5];have h2:=kw aa (T.map zc) [];rw[eT] at h2;unfold zu;rw[cp];have h3:dx (aa ∘ uv (vS ρ)) (T1.map zc)=(T1.map zc).map aa:=bY fun r _=>ET ρ r;rw[h3];simpa using h2
   have h1:=sumL L L1 eL;have h2:=sumL C C1 eC;omega
 ·have:=hr2 x y (Wf.2 hx) (Wf.2 hy) (by rw[bx,bx]; exact he)
  rwa [bx,bx] at this
 ·constructor
  ·rintro (⟨l,hl,hx⟩ | ⟨r,hr,hx⟩ | ⟨l,hl,hx⟩)
   ·obtain⟨k,hk,rfl⟩:=ba.1 hl;obtain⟨y,hy,he⟩:=(sy k.2.2).1 hx;exact ⟨y,.inl ⟨k,sL k hk,hy⟩,he⟩
   ·obtain⟨k,hk,rfl⟩:=ba.1 hr;obtain⟨y,hy,he⟩:=(sy k).1 hx;exact ⟨y,.inr (.inl ⟨k,sT k hk,hy⟩),he⟩
   ·obtain⟨k,hk,rfl⟩:=ba.1 hl;obtain⟨y,hy,he⟩:=(sy k.2.2).1 hx;exact ⟨y,.inr (.inr ⟨k,sC k hk,hy⟩),he⟩
  ·rintro⟨y,⟨l,hl,hy⟩ | ⟨r,hr,hy⟩ | ⟨l,hl,hy⟩,he⟩
   ·exact .inl ⟨_,bg ((bL l).2 hl),(sy l.2.2).2 ⟨y,hy,he⟩⟩
   ·exact .inr (.inl ⟨_,bg ((bT r).2 hr),(sy r).2 ⟨y,hy,he⟩⟩)
   ·exact .inr (.inr ⟨_,bg ((bC l).2 hl),(sy l.2.2).2 ⟨y,hy,he⟩⟩)
mutual
theorem Tm.sub_id:(t:Tm)->t.sub (fun n=>Tm.v n)=t
 | .v n=>rfl
 | .f c as=>by rw[Tm.sub,FV as]
theorem FV:(ts:List Tm)->wF (fun n=>Tm.v n) ts=ts
 | []=>rfl
 | t::ts=>by rw[wF,Tm.sub_id t,FV ts]
end
section
variable {m:Nat} (hm:0<m) (hm3:m<=3) {nums:List Int} (hn:GA nums) {a0:List zl} (hs:SignOk a0)
include hm hm3 hn hs
end
section
variable {m:Nat} (hm:0<m) (hm3:m<=3) {nums:List Int} (hn:GA nums) {a0:List zl} (hs:SignOk a0)
include hm hm3 hn hs
end
theorem NA {α:Type} (xs:List α) {i:Nat} (h:i<=xs.length):vJ xs none (some (i:Int))=some (xs.take i):=by
 show slc xs 0 (i:Int)=some _;unfold slc;rw[decide_eq_true (show (0:Int)<=0 by omega),decide_eq_true (show (0:Int)<=(i:Int) by omega),decide_eq_true (show (i:Int)<=((xs.length:Nat):Int) by omega)]
 simp
section
variable {m:Nat} (hm:0<m) (hm3:m<=3) {nums:List Int} (hn:GA nums) {a0:List zl} (hs:SignOk a0)
include hm hm3 hn hs
end
def rI (a0:jQ) (_a1:jR) (_a2:jQ) (a3:Int):Option Bool :=
 cond (decide (a3≥0))
 (some (decide (a3<((aa a0:Nat):Int))))
 (some false)
def tP (rec:((List (Int×jI))×Int×Int)->Option (Unit⊕Int)) (x:((List (Int×jI))×Int×Int)):Option (Unit⊕Int) :=
 cond (decide (x.2.2<((aa x.1:Nat):Int)))
 ((gx x.1 x.2.2).bind fun e2 =>
  cond (e2.1==x.2.1)
  (some (aD x.2.2))
  (rec (x.1,x.2.1,(ah .i64 (x.2.2+1)))))
 (some (aS ()))
def Z8 (a0:(List (Int×jI))) (a1:Int):Option Int :=
 ((lp tP zd) (a0,a1,0)).bind fun r6 =>
 yt r6
 (fun _z7=>some (-1))
 (fun z8=>some z8)
def uB (rec:((List (Int×jI))×jI×Int×jI)->Option jI) (x:((List (Int×jI))×jI×Int×jI)):Option jI :=
 cond (decide (x.2.2.1<((aa x.2.1:Nat):Int)))
 ((gx x.2.1 x.2.2.1).bind fun e16 =>
  cond (decide (e16<0))
  ((gx x.2.1 x.2.2.1).bind fun e17 =>
   (Z8 x.1 (ah .i64 ((-1) - e17))).bind fun r18 =>
   cond (decide (r18<0))
   ((gx x.2.1 x.2.2.1).bind fun e19 =>
    cond (y9 (aa x.2.2.2+aa ([e19]:List Int)) 8)
    (rec (x.1,x.2.1,(ah .i64 (x.2.2.1+1)),(x.2.2.2++([e19]:List Int))))
    (none))
   ((gx x.1 r18).bind fun e20 =>
    cond (y9 (aa x.2.2.2+aa e20.2) 8)
    (rec (x.1,x.2.1,(ah .i64 (x.2.2.1+1)),(x.2.2.2++e20.2)))
    (none)))
  ((gx x.2.1 x.2.2.1).bind fun e21 =>
   cond (y9 (aa x.2.2.2+aa ([e21]:List Int)) 8)
   (rec (x.1,x.2.1,(ah .i64 (x.2.2.1+1)),(x.2.2.2++([e21]:List Int))))
   (none)))
 (some x.2.2.2)
def tF (a0:(List (Int×jI))) (a1:jI):Option jI :=
 ((lp uB zd) (a0,a1,0,([]:jI))).bind fun r23 =>
 some r23
def vp (rec:((List (Int×jI))×Int×jQ×jR×jQ×jQ×jR×jQ)->Option (jQ×jR×jQ)) (x:((List (Int×jI))×Int×jQ×jR×jQ×jQ×jR×jQ)):Option (jQ×jR×jQ) :=
 cond (decide (x.2.1<((aa x.2.2.2.2.1:Nat):Int)))
 ((gx x.2.2.2.2.1 x.2.1).bind fun e24 =>
  (gx x.2.2.2.2.1 x.2.1).bind fun e25 =>
  (tF x.1 e25.2).bind fun r26 =>
  cond (y9 (aa x.2.2.2.2.2.2.2+aa ([(e24.1,r26)]:List zg)) 32)
  (rec (x.1,(ah .i64 (x.2.1+1)),x.2.2.1,x.2.2.2.1,x.2.2.2.2.1,x.2.2.2.2.2.1,x.2.2.2.2.2.2.1,(x.2.2.2.2.2.2.2++([(e24.1,r26)]:List zg))))
  (none))
 (some (x.2.2.2.2.2.1,x.2.2.2.2.2.2.1,x.2.2.2.2.2.2.2))
def vC (rec:((List (Int×jI))×Int×jQ×jR×jQ×jQ×jR)->Option (jQ×jR)) (x:((List (Int×jI))×Int×jQ×jR×jQ×jQ×jR)):Option (jQ×jR) :=
 cond (decide (x.2.1<((aa x.2.2.2.1:Nat):Int)))
 ((gx x.2.2.2.1 x.2.1).bind fun e15 =>
  (tF x.1 e15).bind fun r16 =>
  cond (y9 (aa x.2.2.2.2.2.2+aa ([r16]:List jI)) 24)
  (rec (x.1,(ah .i64 (x.2.1+1)),x.2.2.1,x.2.2.2.1,x.2.2.2.2.1,x.2.2.2.2.2.1,(x.2.2.2.2.2.2++([r16]:List jI))))
  (none))
 (some (x.2.2.2.2.2.1,x.2.2.2.2.2.2))
def vv (rec:((List (Int×jI))×Int×jQ×jR×jQ×jQ)->Option jQ) (x:((List (Int×jI))×Int×jQ×jR×jQ×jQ)):Option jQ :=
 cond (decide (x.2.1<((aa x.2.2.1:Nat):Int)))
 ((gx x.2.2.1 x.2.1).bind fun e7 =>
  (gx x.2.2.1 x.2.1).bind fun e8 =>
  (tF x.1 e8.2).bind fun r9 =>
  cond (y9 (aa x.2.2.2.2.2+aa ([(e7.1,r9)]:List zg)) 32)
  (rec (x.1,(ah .i64 (x.2.1+1)),x.2.2.1,x.2.2.2.1,x.2.2.2.2.1,(x.2.2.2.2.2++([(e7.1,r9)]:List zg))))
  (none))
 (some x.2.2.2.2.2)
def ru (a0:(List (Int×jI))) (a1:jQ) (a2:jR) (a3:jQ):Option (jQ×jR×jQ) :=
 ((lp vv zd) (a0,0,a1,a2,a3,([]:jQ))).bind fun r28 =>
 ((lp vC zd) (a0,0,a1,a2,a3,r28,([]:jR))).bind fun r29 =>
 ((lp vp zd) (a0,0,a1,a2,a3,r29.1,r29.2,([]:jQ))).bind fun r30 =>
 some (r30.1,r30.2.1,r30.2.2)
def xt (rec:(jI×jR)->Option jI) (x:(jI×jR)):Option jI :=
 cond (((aa x.1:Nat):Int)==1)
 ((gx x.1 0).bind fun e8 =>
  cond (decide (e8<0))
  ((gx x.1 0).bind fun e9 =>
   (inR (ah .i64 ((-1) - e9)) 48).bind fun k10 =>
   (x.2[k10]?).bind fun x11 =>
   cond (decide (((aa x11:Nat):Int)>0))
   ((gx x.1 0).bind fun e12 =>
    (inR (ah .i64 ((-1) - e12)) 48).bind fun k13 =>
    (x.2[k13]?).bind fun x14 =>
    rec (x14,x.2))
   (some x.1))
  (some x.1))
 (some x.1)
def wO (a0:jI) (a1:jR):Option jI :=
 ((lp xt zd) (a0,a1)).bind fun r16 =>
 some r16
def vq (rec:(jI×jI×Int)->Option (Unit⊕Bool)) (x:(jI×jI×Int)):Option (Unit⊕Bool) :=
 cond (decide (x.2.2<((aa x.1:Nat):Int)))
 ((gx x.1 x.2.2).bind fun e3 =>
  (gx x.2.1 x.2.2).bind fun e4 =>
  cond (e3 != e4)
  (some (aD false))
  (rec (x.1,x.2.1,(ah .i64 (x.2.2+1)))))
 (some (aS ()))
def qX (a0:jI) (a1:jI):Option Bool :=
 cond (((aa a0:Nat):Int) != ((aa a1:Nat):Int))
 (some false)
 (((lp vq zd) (a0,a1,0)).bind fun r8 =>
  yt r8
  (fun _z9=>some true)
  (fun z10=>some z10))
def yW (rf:((Int×jI×jR)->Option Bool)) (rec:(Int×jI×Int×jR)->Option (Unit⊕Bool)) (x:(Int×jI×Int×jR)):Option (Unit⊕Bool) :=
 cond (decide (x.2.2.1<((aa x.2.1:Nat):Int)))
 ((gx x.2.1 x.2.2.1).bind fun e8 =>
  cond (decide (e8≥0))
  (rec (x.1,x.2.1,(ah .i64 (x.2.2.1+1)),x.2.2.2))
  ((gx x.2.1 x.2.2.1).bind fun e9 =>
   cond ((ah .i64 ((-1) - e9))==x.1)
   (some (aD true))
   ((inR (ah .i64 ((-1) - e9)) 48).bind fun k10 =>
    (x.2.2.2[k10]?).bind fun x11 =>
    cond (decide (((aa x11:Nat):Int)>0))
    ((inR (ah .i64 ((-1) - e9)) 48).bind fun k12 =>
     (x.2.2.2[k12]?).bind fun x13 =>
     (rf (x.1,x13,x.2.2.2)).bind fun r14 =>
     cond r14
     (some (aD true))
     (rec (x.1,x.2.1,(ah .i64 (x.2.2.1+1)),x.2.2.2)))
    (rec (x.1,x.2.1,(ah .i64 (x.2.2.1+1)),x.2.2.2)))))
 (some (aS ()))
def vl (rf:((Int×jI×jR)->Option Bool)) (a0:Int) (a1:jI) (a2:jR):Option Bool :=
 ((lp (yW rf) zd) (a0,a1,0,a2)).bind fun r18 =>
 yt r18
 (fun _z19=>some false)
 (fun z20=>some z20)
def ri (rf:((Int×jI×jR)->Option Bool)):((Int×jI×jR)->Option Bool) :=
 fun (x:(Int×jI×jR))=>vl rf x.1 x.2.1 x.2.2
def sW:((Int×jI×jR)->Option Bool):=fun _=>none
def yz (k:Nat):((Int×jI×jR)->Option Bool):=lpR sW ri k
def uI (a0:Int) (a1:jI) (a2:jR):Option Bool:=(yz zd) (a0,a1,a2)
def zt (a0:jI) (a1:jI) (a2:Bool) (a3:jR):Option (Bool×jR) :=
 (gx a0 0).bind fun e8 =>
 cond a2
 ((gx a1 0).bind fun e9 =>
  (inR (ah .i64 ((-1) - e9)) 48).bind fun k10 =>
  (a3[k10]?).bind fun _x11 =>
  some (true,(cJ a3 k10 a0)))
 ((uI (ah .i64 ((-1) - e8)) a1 a3).bind fun r12 =>
  cond r12
  (some (false,a3))
  ((inR (ah .i64 ((-1) - e8)) 48).bind fun k13 =>
   (a3[k13]?).bind fun _x14 =>
   some (true,(cJ a3 k13 a1))))
def wg (rf:(((jS×jI×jI×jR)->Option (Bool×jR))×((jS×jR×jR×jR)->Option (Bool×jR)))) (a0:jS) (a1:jI) (a2:jI) (a3:jR):Option (Bool×jR) :=
 (wO a1 a3).bind fun r82 =>
 (wO a2 a3).bind fun r83 =>
 (qX r82 r83).bind fun r84 =>
 cond r84
 (some (true,a3))
 ((gx r82 0).bind fun e85 =>
  cond (decide (e85<0))
  ((gx r83 0).bind fun e86 =>
   cond (decide (e86<0))
   ((gx r82 0).bind fun e87 =>
    (gx r83 0).bind fun e88 =>
    cond (decide (e87<e88))
    ((gx r82 0).bind fun e89 =>
     (zt r83 r82 (decide (e89<0)) a3).bind fun r90 =>
     some (r90.1,r90.2))
    ((gx r82 0).bind fun e91 =>
     cond (decide (e91≥0))
     ((gx r83 0).bind fun e92 =>
      cond (decide (e92<0))
      ((gx r82 0).bind fun e93 =>
       (zt r83 r82 (decide (e93<0)) a3).bind fun r94 =>
       some (r94.1,r94.2))
      ((gx r82 0).bind fun e95 =>
       cond (decide (e95<0))
       ((gx r83 0).bind fun e96 =>
        (zt r82 r83 (decide (e96<0)) a3).bind fun r97 =>
        some (r97.1,r97.2))
       ((gx r82 0).bind fun e98 =>
        (gx r83 0).bind fun e99 =>
        cond (e98 != e99)
        (some (false,a3))
        ((vJ r82 (some 1) none).bind fun y100 =>
         (zD a0 y100).bind fun r101 =>
         (vJ r83 (some 1) none).bind fun y102 =>
         (zD a0 y102).bind fun r103 =>
         (rf.2 (a0,r101,r103,a3)).bind fun r104 =>
         some (r104.1,r104.2)))))
     ((gx r82 0).bind fun e105 =>
      cond (decide (e105<0))
      ((gx r83 0).bind fun e106 =>
       (zt r82 r83 (decide (e106<0)) a3).bind fun r107 =>
       some (r107.1,r107.2))
      ((gx r82 0).bind fun e108 =>
       (gx r83 0).bind fun e109 =>
       cond (e108 != e109)
       (some (false,a3))
       ((vJ r82 (some 1) none).bind fun y110 =>
        (zD a0 y110).bind fun r111 =>
        (vJ r83 (some 1) none).bind fun y112 =>
        (zD a0 y112).bind fun r113 =>
        (rf.2 (a0,r111,r113,a3)).bind fun r114 =>
        some (r114.1,r114.2))))))
   ((gx r82 0).bind fun e115 =>
    cond (decide (e115≥0))
    ((gx r83 0).bind fun e116 =>
     cond (decide (e116<0))
     ((gx r82 0).bind fun e117 =>
      (zt r83 r82 (decide (e117<0)) a3).bind fun r118 =>
      some (r118.1,r118.2))
     ((gx r82 0).bind fun e119 =>
      cond (decide (e119<0))
      ((gx r83 0).bind fun e120 =>
       (zt r82 r83 (decide (e120<0)) a3).bind fun r121 =>
       some (r121.1,r121.2))
      ((gx r82 0).bind fun e122 =>
       (gx r83 0).bind fun e123 =>
       cond (e122 != e123)
       (some (false,a3))
       ((vJ r82 (some 1) none).bind fun y124 =>
        (zD a0 y124).bind fun r125 =>
        (vJ r83 (some 1) none).bind fun y126 =>
        (zD a0 y126).bind fun r127 =>
        (rf.2 (a0,r125,r127,a3)).bind fun r128 =>
        some (r128.1,r128.2)))))
    ((gx r82 0).bind fun e129 =>
     cond (decide (e129<0))
     ((gx r83 0).bind fun e130 =>
      (zt r82 r83 (decide (e130<0)) a3).bind fun r131 =>
      some (r131.1,r131.2))
     ((gx r82 0).bind fun e132 =>
      (gx r83 0).bind fun e133 =>
      cond (e132 != e133)
      (some (false,a3))
      ((vJ r82 (some 1) none).bind fun y134 =>
       (zD a0 y134).bind fun r135 =>
       (vJ r83 (some 1) none).bind fun y136 =>
       (zD a0 y136).bind fun r137 =>
       (rf.2 (a0,r135,r137,a3)).bind fun r138 =>
       some (r138.1,r138.2))))))
  ((gx r82 0).bind fun e139 =>
   cond (decide (e139≥0))
   ((gx r83 0).bind fun e140 =>
    cond (decide (e140<0))
    ((gx r82 0).bind fun e141 =>
     (zt r83 r82 (decide (e141<0)) a3).bind fun r142 =>
     some (r142.1,r142.2))
    ((gx r82 0).bind fun e143 =>
     cond (decide (e143<0))
     ((gx r83 0).bind fun e144 =>
      (zt r82 r83 (decide (e144<0)) a3).bind fun r145 =>
      some (r145.1,r145.2))
     ((gx r82 0).bind fun e146 =>
      (gx r83 0).bind fun e147 =>
      cond (e146 != e147)
      (some (false,a3))
      ((vJ r82 (some 1) none).bind fun y148 =>
       (zD a0 y148).bind fun r149 =>
       (vJ r83 (some 1) none).bind fun y150 =>
       (zD a0 y150).bind fun r151 =>
       (rf.2 (a0,r149,r151,a3)).bind fun r152 =>
       some (r152.1,r152.2)))))
   ((gx r82 0).bind fun e153 =>
    cond (decide (e153<0))
    ((gx r83 0).bind fun e154 =>
     (zt r82 r83 (decide (e154<0)) a3).bind fun r155 =>
     some (r155.1,r155.2))
    ((gx r82 0).bind fun e156 =>
     (gx r83 0).bind fun e157 =>
     cond (e156 != e157)
     (some (false,a3))
     ((vJ r82 (some 1) none).bind fun y158 =>
      (zD a0 y158).bind fun r159 =>
      (vJ r83 (some 1) none).bind fun y160 =>
      (zD a0 y160).bind fun r161 =>
      (rf.2 (a0,r159,r161,a3)).bind fun r162 =>
      some (r162.1,r162.2))))))
def qc (rf:(((jS×jI×jI×jR)->Option (Bool×jR))×((jS×jR×jR×jR)->Option (Bool×jR)))) (rec:(jS×jR×jR×Int×jR)->Option (jR⊕(Bool×jR))) (x:(jS×jR×jR×Int×jR)):Option (jR⊕(Bool×jR)) :=
 cond (decide (x.2.2.2.1<((aa x.2.1:Nat):Int)))
 ((gx x.2.1 x.2.2.2.1).bind fun e7 =>
  (gx x.2.2.1 x.2.2.2.1).bind fun e8 =>
  (rf.1 (x.1,e7,e8,x.2.2.2.2)).bind fun r9 =>
  cond (!r9.1)
  (some (aD (false,r9.2)))
  (rec (x.1,x.2.1,x.2.2.1,(ah .i64 (x.2.2.2.1+1)),r9.2)))
 (some (aS x.2.2.2.2))
def vR (rf:(((jS×jI×jI×jR)->Option (Bool×jR))×((jS×jR×jR×jR)->Option (Bool×jR)))) (a0:jS) (a1:jR) (a2:jR) (a3:jR):Option (Bool×jR) :=
 ((lp (qc rf) zd) (a0,a1,a2,0,a3)).bind fun r13 =>
 yt r13
 (fun z14=>some (true,z14))
 (fun z15=>some (z15.1,z15.2))
def kl (rf:(((jS×jI×jI×jR)->Option (Bool×jR))×((jS×jR×jR×jR)->Option (Bool×jR)))):(((jS×jI×jI×jR)->Option (Bool×jR))×((jS×jR×jR×jR)->Option (Bool×jR))) :=
 (fun (x:(jS×jI×jI×jR))=>wg rf x.1 x.2.1 x.2.2.1 x.2.2.2,fun (x:(jS×jR×jR×jR))=>vR rf x.1 x.2.1 x.2.2.1 x.2.2.2)
def rU:(((jS×jI×jI×jR)->Option (Bool×jR))×((jS×jR×jR×jR)->Option (Bool×jR))):=(fun _=>none,fun _=>none)
def zz (k:Nat):(((jS×jI×jI×jR)->Option (Bool×jR))×((jS×jR×jR×jR)->Option (Bool×jR))):=lpR rU kl k
def QB (a0:jS) (a1:jI) (a2:jI) (a3:jR):Option (Bool×jR):=(zz zd).1 (a0,a1,a2,a3)
def th (a0:jS) (a1:jR) (a2:jR) (a3:jR):Option (Bool×jR):=(zz zd).2 (a0,a1,a2,a3)
def yX (rf:((jI×jR×jI)->Option jI)) (rec:(jI×Int×jR×jI)->Option jI) (x:(jI×Int×jR×jI)):Option jI :=
 cond (decide (x.2.1<((aa x.1:Nat):Int)))
 (cond (decide (((aa x.2.2.2:Nat):Int)<=48))
  ((gx x.1 x.2.1).bind fun e19 =>
   cond (decide (e19<0))
   ((gx x.1 x.2.1).bind fun e20 =>
    (inR (ah .i64 ((-1) - e20)) 48).bind fun k21 =>
    (x.2.2.1[k21]?).bind fun x22 =>
    cond (decide (((aa x22:Nat):Int)>0))
    ((gx x.1 x.2.1).bind fun e23 =>
     (inR (ah .i64 ((-1) - e23)) 48).bind fun k24 =>
     (x.2.2.1[k24]?).bind fun x25 =>
     (rf (x25,x.2.2.1,x.2.2.2)).bind fun r26 =>
     rec (x.1,(ah .i64 (x.2.1+1)),x.2.2.1,r26))
    ((gx x.1 x.2.1).bind fun e27 =>
     cond (y9 (aa x.2.2.2+aa ([e27]:List Int)) 8)
     (rec (x.1,(ah .i64 (x.2.1+1)),x.2.2.1,(x.2.2.2++([e27]:List Int))))
     (none)))
   ((gx x.1 x.2.1).bind fun e28 =>
    cond (y9 (aa x.2.2.2+aa ([e28]:List Int)) 8)
    (rec (x.1,(ah .i64 (x.2.1+1)),x.2.2.1,(x.2.2.2++([e28]:List Int))))
    (none)))
  (some x.2.2.2))
 (some x.2.2.2)
def vk (rf:((jI×jR×jI)->Option jI)) (a0:jI) (a1:jR) (a2:jI):Option jI :=
 ((lp (yX rf) zd) (a0,0,a1,a2)).bind fun r30 =>
 some r30
def rg (rf:((jI×jR×jI)->Option jI)):((jI×jR×jI)->Option jI) :=
 fun (x:(jI×jR×jI))=>vk rf x.1 x.2.1 x.2.2
def rm:((jI×jR×jI)->Option jI):=fun _=>none
def zX (k:Nat):((jI×jR×jI)->Option jI):=lpR rm rg k
def wU (a0:jI) (a1:jR) (a2:jI):Option jI:=(zX zd) (a0,a1,a2)
def qE (rec:(Int×jR×(List (Int×jI)))->Option ((List (Int×jI))⊕(Bool×Bool))) (x:(Int×jR×(List (Int×jI)))):Option ((List (Int×jI))⊕(Bool×Bool)) :=
 cond (decide (x.1<=23))
 ((inR x.1 48).bind fun k14 =>
  (x.2.1[k14]?).bind fun x15 =>
  cond (((aa x15:Nat):Int)==0)
  (rec ((ah .i64 (x.1+1)),x.2.1,x.2.2))
  ((inR x.1 48).bind fun k16 =>
   (x.2.1[k16]?).bind fun x17 =>
   (wU x17 x.2.1 ([]:jI)).bind fun r18 =>
   cond (decide (((aa r18:Nat):Int)>48))
   (some (aD (true,false)))
   (cond (y9 (aa x.2.2+aa ([(x.1,r18)]:List (Int×jI))) 32)
    (rec ((ah .i64 (x.1+1)),x.2.1,(x.2.2++([(x.1,r18)]:List (Int×jI)))))
    (none))))
 (some (aS x.2.2))
def vM (a0:jS) (a1:jI) (a2:jI):Option (Bool×Bool×(List (Int×jI))) :=
 (zD a0 a1).bind fun r22 =>
 (zD a0 a2).bind fun r23 =>
 cond (((aa r22:Nat):Int) != ((aa r23:Nat):Int))
 (some (false,true,([]:(List (Int×jI)))))
 ((th a0 r22 r23 (ax 48 ([]:jI))).bind fun r24 =>
  cond (!r24.1)
  (some (false,true,([]:(List (Int×jI)))))
  (((lp qE zd) (0,r24.2,([]:(List (Int×jI))))).bind fun r25 =>
   yt r25
   (fun z26=>some (true,true,z26))
   (fun z27=>some (z27.1,z27.2,([]:(List (Int×jI)))))))
def tx (a0:jQ) (a1:Int):Option jQ :=
 (vJ a0 none (some a1)).bind fun y3 =>
 cond (y9 (aa ([]:List zg)+aa y3) 32)
 ((vJ a0 (some (ah .i64 (a1+1))) none).bind fun y4 =>
  cond (y9 (aa (([]:List zg)++y3)+aa y4) 32)
  (some ((([]:List zg)++y3)++y4))
  (none))
 (none)
def uX (a0:Bool) (a1:jI) (a2:Bool) (a3:jI):Option Bool :=
 cond (a0==a2)
 ((qX a1 a3).bind fun r2 =>
  some r2)
 (some false)
def wN (rec:(jQ×Int×Bool×Int×jQ)->Option (Bool×jQ)) (x:(jQ×Int×Bool×Int×jQ)):Option (Bool×jQ) :=
 cond (decide (x.2.2.2.1<((aa x.2.2.2.2:Nat):Int)))
 (cond x.2.2.1
  (rec (x.1,x.2.1,true,(ah .i64 (x.2.2.2.1+1)),x.2.2.2.2))
  ((inR x.2.2.2.1 (aa x.2.2.2.2)).bind fun k7 =>
   (x.2.2.2.2[k7]?).bind fun x8 =>
   (gx x.1 x.2.1).bind fun e9 =>
   (uX x8.1 x8.2 e9.1 e9.2).bind fun r10 =>
   rec (x.1,x.2.1,r10,(ah .i64 (x.2.2.2.1+1)),x.2.2.2.2)))
 (some (x.2.2.1,x.2.2.2.2))
def vB (rec:(jQ×Int×jQ)->Option jQ) (x:(jQ×Int×jQ)):Option jQ :=
 cond (decide (x.2.1<((aa x.1:Nat):Int)))
 (((lp wN zd) (x.1,x.2.1,false,0,x.2.2)).bind fun r13 =>
  cond (!r13.1)
  ((gx x.1 x.2.1).bind fun e14 =>
   cond (y9 (aa r13.2+aa ([(e14.1,e14.2)]:List zg)) 32)
   (rec (x.1,(ah .i64 (x.2.1+1)),(r13.2++([(e14.1,e14.2)]:List zg))))
   (none))
  (rec (x.1,(ah .i64 (x.2.1+1)),r13.2)))
 (some x.2.2)
def jh (a0:jQ):Option jQ :=
 ((lp vB zd) (a0,0,([]:jQ))).bind fun r16 =>
 some r16
def xZ (rec:(jR×Int×Int×jQ×jR×jQ×(List (Int×jI)))->Option (List (Int×jI))) (x:(jR×Int×Int×jQ×jR×jQ×(List (Int×jI)))):Option (List (Int×jI)) :=
 (gx x.1 x.2.1).bind fun e29 =>
 cond (decide (x.2.2.1<((aa e29:Nat):Int)))
 ((gx x.1 x.2.1).bind fun e30 =>
  (gx e30 x.2.2.1).bind fun e31 =>
  cond (decide (e31<0))
  ((Z8 x.2.2.2.2.2.2 (ah .i64 ((-1) - e31))).bind fun r32 =>
   cond (decide (r32<0))
   (cond (y9 (aa x.2.2.2.2.2.2+aa ([((ah .i64 ((-1) - e31)),([(ah .i64 ((-1) - ((aa x.2.2.2.2.2.2:Nat):Int)))]:List Int))]:List (Int×jI))) 32)
    (rec (x.1,x.2.1,(ah .i64 (x.2.2.1+1)),x.2.2.2.1,x.2.2.2.2.1,x.2.2.2.2.2.1,(x.2.2.2.2.2.2++([((ah .i64 ((-1) - e31)),([(ah .i64 ((-1) - ((aa x.2.2.2.2.2.2:Nat):Int)))]:List Int))]:List (Int×jI)))))
    (none))
   (rec (x.1,x.2.1,(ah .i64 (x.2.2.1+1)),x.2.2.2.1,x.2.2.2.2.1,x.2.2.2.2.2.1,x.2.2.2.2.2.2)))
  (rec (x.1,x.2.1,(ah .i64 (x.2.2.1+1)),x.2.2.2.1,x.2.2.2.2.1,x.2.2.2.2.2.1,x.2.2.2.2.2.2)))
 (some x.2.2.2.2.2.2)
def wP (rec:(Int×Bool×Int×jQ×jR×jQ×jQ×jQ×jR)->Option (Bool×jQ×jQ×jR)) (x:(Int×Bool×Int×jQ×jR×jQ×jQ×jQ×jR)):Option (Bool×jQ×jQ×jR) :=
 cond (decide (x.2.2.1<((aa x.2.2.2.2.2.2.2.2:Nat):Int)))
 (cond x.2.1
  (rec (x.1,true,(ah .i64 (x.2.2.1+1)),x.2.2.2.1,x.2.2.2.2.1,x.2.2.2.2.2.1,x.2.2.2.2.2.2.1,x.2.2.2.2.2.2.2.1,x.2.2.2.2.2.2.2.2))
  ((inR x.2.2.1 (aa x.2.2.2.2.2.2.2.2)).bind fun k9 =>
   (x.2.2.2.2.2.2.2.2[k9]?).bind fun x10 =>
   (gx x.2.2.2.2.1 x.1).bind fun e11 =>
   (qX x10 e11).bind fun r12 =>
   rec (x.1,r12,(ah .i64 (x.2.2.1+1)),x.2.2.2.1,x.2.2.2.2.1,x.2.2.2.2.2.1,x.2.2.2.2.2.2.1,x.2.2.2.2.2.2.2.1,x.2.2.2.2.2.2.2.2)))
 (some (x.2.1,x.2.2.2.2.2.2.1,x.2.2.2.2.2.2.2.1,x.2.2.2.2.2.2.2.2))
def vx (rec:(jR×Int×jQ×jR×jQ×(List (Int×jI)))->Option (List (Int×jI))) (x:(jR×Int×jQ×jR×jQ×(List (Int×jI)))):Option (List (Int×jI)) :=
 cond (decide (x.2.1<((aa x.1:Nat):Int)))
 (((lp xZ zd) (x.1,x.2.1,0,x.2.2.1,x.2.2.2.1,x.2.2.2.2.1,x.2.2.2.2.2)).bind fun r35 =>
  rec (x.1,(ah .i64 (x.2.1+1)),x.2.2.1,x.2.2.2.1,x.2.2.2.2.1,r35))
 (some x.2.2.2.2.2)
def vw (rec:(Int×jQ×jR×jQ×jQ×jQ×jR)->Option (jQ×jQ×jR)) (x:(Int×jQ×jR×jQ×jQ×jQ×jR)):Option (jQ×jQ×jR) :=
 cond (decide (x.1<((aa x.2.2.1:Nat):Int)))
 (((lp wP zd) (x.1,false,0,x.2.1,x.2.2.1,x.2.2.2.1,x.2.2.2.2.1,x.2.2.2.2.2.1,x.2.2.2.2.2.2)).bind fun r17 =>
  cond (!r17.1)
  ((gx x.2.2.1 x.1).bind fun e18 =>
   cond (y9 (aa r17.2.2.2+aa ([e18]:List jI)) 24)
   (rec ((ah .i64 (x.1+1)),x.2.1,x.2.2.1,x.2.2.2.1,r17.2.1,r17.2.2.1,(r17.2.2.2++([e18]:List jI))))
   (none))
  (rec ((ah .i64 (x.1+1)),x.2.1,x.2.2.1,x.2.2.2.1,r17.2.1,r17.2.2.1,r17.2.2.2)))
 (some (x.2.2.2.2.1,x.2.2.2.2.2.1,x.2.2.2.2.2.2))
def Qc (a0:jQ) (a1:jR) (a2:jQ):Option (jQ×jR×jQ) :=
 (jh a0).bind fun r38 =>
 (jh a2).bind fun r39 =>
 ((lp vw zd) (0,a0,a1,a2,r38,r39,([]:jR))).bind fun r40 =>
 (jx r40.1 r40.2.2 r40.2.1).bind fun r41 =>
 ((lp vx zd) (r41,0,r40.1,r40.2.2,r40.2.1,([]:(List (Int×jI))))).bind fun r42 =>
 (ru r42 r40.1 r40.2.2 r40.2.1).bind fun r43 =>
 some (r43.1,r43.2.1,r43.2.2)
def Zz (a0:jS) (a1:(List (Int×jI))) (a2:jQ) (a3:jR) (a4:jQ):Option (jQ×jR×Bool×jQ) :=
 (ru a1 a2 a3 a4).bind fun r4 =>
 (ZA a0 r4.1 r4.2.1 r4.2.2).bind fun r5 =>
 cond (!r5)
 (some (([]:jQ),([]:jR),false,([]:jQ)))
 ((Qc r4.1 r4.2.1 r4.2.2).bind fun r6 =>
  some (r6.1,r6.2.1,true,r6.2.2))
def xu (s1:Int):List (Int×jI)->Nat->Option (Unit⊕Int)
 | [],_i=>some (aS ())
 | e::es,i =>
  cond (e.1==s1)
  (some (aD (i:Int)))
  (xu s1 es (i+1))
theorem Qe (s0:(List (Int×jI))) (s1:Int) (hl:aa s0<=maxLen):lp tP zd (s0,s1,0)=xu s1 s0 0:=u3 tP (fun i=>(s0,s1,i)) (fun es i=>xu s1 es i) hl (fun r i h=>by unfold tP xu; simp only[h,cond_false]) (fun r i e es h g w k=>by unfold tP xu; simp only[h,cond_true,g,af,w,k])
def yq (s0:(List (Int×jI))):List Int->jI->Option jI
 | [],s3=>some s3
 | e::es,s3 =>
  cond (decide (e<0))
  ((Z8 s0 (ah .i64 ((-1) - e))).bind fun r18 =>
   cond (decide (r18<0))
   (cond (y9 (aa s3+aa ([e]:List Int)) 8)
    (yq s0 es (s3++([e]:List Int)))
    (none))
   ((gx s0 r18).bind fun e20 =>
    cond (y9 (aa s3+aa e20.2) 8)
    (yq s0 es (s3++e20.2))
    (none)))
  (cond (y9 (aa s3+aa ([e]:List Int)) 8)
   (yq s0 es (s3++([e]:List Int)))
   (none))
theorem YS (s0:(List (Int×jI))) (s1:jI) (s3:jI) (hl:aa s1<=maxLen):lp uB zd (s0,s1,0,s3)=yq s0 s1 s3:=wG uB (fun i s3=>(s0,s1,i,s3)) (fun es i s3=>yq s0 es s3) hl (fun r i s3 h=>by unfold uB yq; simp only[h,cond_false]) (fun r i s3 e es h g w k=>by unfold uB yq; simp only[h,cond_true,g,af,w,k]) s3
def qv (s0:(List (Int×jI))) (s5:jQ) (s6:jR):List zg->jQ->Option (jQ×jR×jQ)
 | [],s7=>some (s5,s6,s7)
 | e::es,s7 =>
  (tF s0 e.2).bind fun r26 =>
  cond (y9 (aa s7+aa ([(e.1,r26)]:List zg)) 32)
  (qv s0 s5 s6 es (s7++([(e.1,r26)]:List zg)))
  (none)
theorem Z4 (s0:(List (Int×jI))) (s2:jQ) (s3:jR) (s4:jQ) (s5:jQ) (s6:jR) (s7:jQ) (hl:aa s4<=maxLen):lp vp zd (s0,0,s2,s3,s4,s5,s6,s7)=qv s0 s5 s6 s4 s7:=wG vp (fun i s7=>(s0,i,s2,s3,s4,s5,s6,s7)) (fun es i s7=>qv s0 s5 s6 es s7) hl (fun r i s7 h=>by unfold vp qv; simp only[h,cond_false]) (fun r i s7 e es h g w k=>by unfold vp qv; simp only[h,cond_true,g,af,w,k]) s7
def qu (s0:(List (Int×jI))) (s5:jQ):List jI->jR->Option (jQ×jR)
 | [],s6=>some (s5,s6)
 | e::es,s6 =>
  (tF s0 e).bind fun r16 =>
  cond (y9 (aa s6+aa ([r16]:List jI)) 24)
  (qu s0 s5 es (s6++([r16]:List jI)))
  (none)
theorem Z9 (s0:(List (Int×jI))) (s2:jQ) (s3:jR) (s4:jQ) (s5:jQ) (s6:jR) (hl:aa s3<=maxLen):lp vC zd (s0,0,s2,s3,s4,s5,s6)=qu s0 s5 s3 s6:=wG vC (fun i s6=>(s0,i,s2,s3,s4,s5,s6)) (fun es i s6=>qu s0 s5 es s6) hl (fun r i s6 h=>by unfold vC qu; simp only[h,cond_false]) (fun r i s6 e es h g w k=>by unfold vC qu; simp only[h,cond_true,g,af,w,k]) s6
def qk (s0:(List (Int×jI))):List zg->jQ->Option jQ
 | [],s5=>some s5
 | e::es,s5 =>
  (tF s0 e.2).bind fun r9 =>
  cond (y9 (aa s5+aa ([(e.1,r9)]:List zg)) 32)
  (qk s0 es (s5++([(e.1,r9)]:List zg)))
  (none)
theorem Yk (s0:(List (Int×jI))) (s2:jQ) (s3:jR) (s4:jQ) (s5:jQ) (hl:aa s2<=maxLen):lp vv zd (s0,0,s2,s3,s4,s5)=qk s0 s2 s5:=wG vv (fun i s5=>(s0,i,s2,s3,s4,s5)) (fun es i s5=>qk s0 es s5) hl (fun r i s5 h=>by unfold vv qk; simp only[h,cond_false]) (fun r i s5 e es h g w k=>by unfold vv qk; simp only[h,cond_true,g,af,w,k]) s5
def q7 (s1:jI):List Int->Nat->Option (Unit⊕Bool)
 | [],_i=>some (aS ())
 | e::es,i =>
  (gx s1 (i:Int)).bind fun e4 =>
  cond (e != e4)
  (some (aD false))
  (q7 s1 es (i+1))
theorem Yp (s0:jI) (s1:jI) (hl:aa s0<=maxLen):lp vq zd (s0,s1,0)=q7 s1 s0 0:=u3 vq (fun i=>(s0,s1,i)) (fun es i=>q7 s1 es i) hl (fun r i h=>by unfold vq q7; simp only[h,cond_false]) (fun r i e es h g w k=>by unfold vq q7; simp only[h,cond_true,g,af,w,k])
def zx (rf:((Int×jI×jR)->Option Bool)) (s0:Int) (s3:jR):List Int->Option (Unit⊕Bool)
 | []=>some (aS ())
 | e::es =>
  cond (decide (e≥0))
  (zx rf s0 s3 es)
  (cond ((ah .i64 ((-1) - e))==s0)
   (some (aD true))
   ((inR (ah .i64 ((-1) - e)) 48).bind fun k10 =>
    (s3[k10]?).bind fun x11 =>
    cond (decide (((aa x11:Nat):Int)>0))
    ((inR (ah .i64 ((-1) - e)) 48).bind fun k12 =>
     (s3[k12]?).bind fun x13 =>
     (rf (s0,x13,s3)).bind fun r14 =>
     cond r14
     (some (aD true))
     (zx rf s0 s3 es))
    (zx rf s0 s3 es)))
theorem tT (rf:((Int×jI×jR)->Option Bool)) (s0:Int) (s1:jI) (s3:jR) (hl:aa s1<=maxLen):lp (yW rf) zd (s0,s1,0,s3)=zx rf s0 s3 s1:=u3 (yW rf) (fun i=>(s0,s1,i,s3)) (fun es i=>zx rf s0 s3 es) hl (fun r i h=>by unfold yW zx; simp only[h,cond_false]) (fun r i e es h g w k=>by unfold yW zx; simp only[h,cond_true,g,af,w,k])
def zE (rf:(((jS×jI×jI×jR)->Option (Bool×jR))×((jS×jR×jR×jR)->Option (Bool×jR)))) (s0:jS) (s2:jR):List jI->Nat->jR->Option (jR⊕(Bool×jR))
 | [],_i,s4=>some (aS s4)
 | e::es,i,s4 =>
  (gx s2 (i:Int)).bind fun e8 =>
  (rf.1 (s0,e,e8,s4)).bind fun r9 =>
  cond (!r9.1)
  (some (aD (false,r9.2)))
  (zE rf s0 s2 es (i+1) r9.2)
theorem so (rf:(((jS×jI×jI×jR)->Option (Bool×jR))×((jS×jR×jR×jR)->Option (Bool×jR)))) (s0:jS) (s1:jR) (s2:jR) (s4:jR) (hl:aa s1<=maxLen):lp (qc rf) zd (s0,s1,s2,0,s4)=zE rf s0 s2 s1 0 s4:=wG (qc rf) (fun i s4=>(s0,s1,s2,i,s4)) (fun es i s4=>zE rf s0 s2 es i s4) hl (fun r i s4 h=>by unfold qc zE; simp only[h,cond_false]) (fun r i s4 e es h g w k=>by unfold qc zE; simp only[h,cond_true,g,af,w,k]) s4
def zw (rf:((jI×jR×jI)->Option jI)) (s2:jR):List Int->jI->Option jI
 | [],s3=>some s3
 | e::es,s3 =>
  cond (decide (((aa s3:Nat):Int)<=48))
  (cond (decide (e<0))
   ((inR (ah .i64 ((-1) - e)) 48).bind fun k21 =>
    (s2[k21]?).bind fun x22 =>
    cond (decide (((aa x22:Nat):Int)>0))
    ((inR (ah .i64 ((-1) - e)) 48).bind fun k24 =>
     (s2[k24]?).bind fun x25 =>
     (rf (x25,s2,s3)).bind fun r26 =>
     zw rf s2 es r26)
    (cond (y9 (aa s3+aa ([e]:List Int)) 8)
     (zw rf s2 es (s3++([e]:List Int)))
     (none)))
   (cond (y9 (aa s3+aa ([e]:List Int)) 8)
    (zw rf s2 es (s3++([e]:List Int)))
    (none)))
  (some s3)
theorem se (rf:((jI×jR×jI)->Option jI)) (s0:jI) (s2:jR) (s3:jI) (hl:aa s0<=maxLen):lp (yX rf) zd (s0,0,s2,s3)=zw rf s2 s0 s3:=wG (yX rf) (fun i s3=>(s0,i,s2,s3)) (fun es i s3=>zw rf s2 es s3) hl (fun r i s3 h=>by unfold yX zw; simp only[h,cond_false]) (fun r i s3 e es h g w k=>by unfold yX zw; simp only[h,cond_true,g,af,w,k]) s3
def yR (s0:jQ) (s1:Int) (s4:jQ):List zg->Nat->Bool->Option (Bool×jQ)
 | [],_i,s2=>some (s2,s4)
 | _e::es,i,s2 =>
  cond s2
  (yR s0 s1 s4 es (i+1) true)
  ((inR (i:Int) (aa s4)).bind fun k7 =>
   (s4[k7]?).bind fun x8 =>
   (gx s0 s1).bind fun e9 =>
   (uX x8.1 x8.2 e9.1 e9.2).bind fun r10 =>
   yR s0 s1 s4 es (i+1) r10)
theorem Yr (s0:jQ) (s1:Int) (s4:jQ) (s2:Bool) (hl:aa s4<=maxLen):lp wN zd (s0,s1,s2,0,s4)=yR s0 s1 s4 s4 0 s2:=wG wN (fun i s2=>(s0,s1,s2,i,s4)) (fun es i s2=>yR s0 s1 s4 es i s2) hl (fun r i s2 h=>by unfold wN yR; simp only[h,cond_false]) (fun r i s2 e es h _ w k=>by unfold wN yR; simp only[h,cond_true,w,k]) s2
def qn (s0:jQ):List zg->Nat->jQ->Option jQ
 | [],_i,s2=>some s2
 | e::es,i,s2 =>
  ((lp wN zd) (s0,(i:Int),false,0,s2)).bind fun r13 =>
  cond (!r13.1)
  (cond (y9 (aa r13.2+aa ([(e.1,e.2)]:List zg)) 32)
   (qn s0 es (i+1) (r13.2++([(e.1,e.2)]:List zg)))
   (none))
  (qn s0 es (i+1) r13.2)
theorem Z0 (s0:jQ) (s2:jQ) (hl:aa s0<=maxLen):lp vB zd (s0,0,s2)=qn s0 s0 0 s2:=wG vB (fun i s2=>(s0,i,s2)) (fun es i s2=>qn s0 es i s2) hl (fun r i s2 h=>by unfold vB qn; simp only[h,cond_false]) (fun r i s2 e es h g w k=>by unfold vB qn; simp only[h,cond_true,g,af,w,k]) s2
def yT (s0:Int) (s4:jR) (s6:jQ) (s7:jQ) (s8:jR):List jI->Nat->Bool->Option (Bool×jQ×jQ×jR)
 | [],_i,s1=>some (s1,s6,s7,s8)
 | _e::es,i,s1 =>
  cond s1
  (yT s0 s4 s6 s7 s8 es (i+1) true)
  ((inR (i:Int) (aa s8)).bind fun k9 =>
   (s8[k9]?).bind fun x10 =>
   (gx s4 s0).bind fun e11 =>
   (qX x10 e11).bind fun r12 =>
   yT s0 s4 s6 s7 s8 es (i+1) r12)
theorem Yf (s0:Int) (s3:jQ) (s4:jR) (s5:jQ) (s6:jQ) (s7:jQ) (s8:jR) (s1:Bool) (hl:aa s8<=maxLen):lp wP zd (s0,s1,0,s3,s4,s5,s6,s7,s8)=yT s0 s4 s6 s7 s8 s8 0 s1:=wG wP (fun i s1=>(s0,s1,i,s3,s4,s5,s6,s7,s8)) (fun es i s1=>yT s0 s4 s6 s7 s8 es i s1) hl (fun r i s1 h=>by unfold wP yT; simp only[h,cond_false]) (fun r i s1 e es h _ w k=>by unfold wP yT; simp only[h,cond_true,w,k]) s1
def qV (s0:jR) (s2:jQ) (s3:jR) (s4:jQ):List jI->Nat->(List (Int×jI))->Option (List (Int×jI))
 | [],_i,s5=>some s5
 | _e::es,i,s5 =>
  ((lp xZ zd) (s0,(i:Int),0,s2,s3,s4,s5)).bind fun r35 =>
  qV s0 s2 s3 s4 es (i+1) r35
theorem Yc (s0:jR) (s2:jQ) (s3:jR) (s4:jQ) (s5:(List (Int×jI))) (hl:aa s0<=maxLen):lp vx zd (s0,0,s2,s3,s4,s5)=qV s0 s2 s3 s4 s0 0 s5:=wG vx (fun i s5=>(s0,i,s2,s3,s4,s5)) (fun es i s5=>qV s0 s2 s3 s4 es i s5) hl (fun r i s5 h=>by unfold vx qV; simp only[h,cond_false]) (fun r i s5 e es h _ w k=>by unfold vx qV; simp only[h,cond_true,w,k]) s5
def qm (s1:jQ) (s2:jR) (s3:jQ):List jI->Nat->jQ->jQ->jR->Option (jQ×jQ×jR)
 | [],_i,s4,s5,s6=>some (s4,s5,s6)
 | e::es,i,s4,s5,s6 =>
  ((lp wP zd) ((i:Int),false,0,s1,s2,s3,s4,s5,s6)).bind fun r17 =>
  cond (!r17.1)
  (cond (y9 (aa r17.2.2.2+aa ([e]:List jI)) 24)
   (qm s1 s2 s3 es (i+1) r17.2.1 r17.2.2.1 (r17.2.2.2++([e]:List jI)))
   (none))
  (qm s1 s2 s3 es (i+1) r17.2.1 r17.2.2.1 r17.2.2.2)
theorem Yi (s1:jQ) (s2:jR) (s3:jQ) (s4:jQ) (s5:jQ) (s6:jR) (hl:aa s2<=maxLen):lp vw zd (0,s1,s2,s3,s4,s5,s6)=qm s1 s2 s3 s2 0 s4 s5 s6:=Ob vw (fun i s4 s5 s6=>(i,s1,s2,s3,s4,s5,s6)) (fun es i s4 s5 s6=>qm s1 s2 s3 es i s4 s5 s6) hl (fun r i s4 s5 s6 h=>by unfold vw qm; simp only[h,cond_false]) (fun r i s4 s5 s6 e es h g w k=>by unfold vw qm; simp only[h,cond_true,g,af,w,k]) s4 s5 s6
theorem DZ (b:List Int):(es:List Int)->(i:Nat)->i+es.length=b.length->q7 b es i=some (cond (decide (es=b.drop i)) (.inl ()) (.inr false))
 | [],i,h=>by
  rw[List.drop_of_length_le (by simp at h; omega)]
  rfl
 | e::es,i,h=>by
  simp only[au] at h;obtain⟨x,hx⟩:∃ x,b[i]? = some x:=⟨_,al (by omega)⟩
  have hd:b.drop i=x::b.drop (i+1):=by
   have h1:=(aq.1 hx).1;rw[aV h1];rw[(aq.1 hx).2]
  unfold q7;rw[qJ,hx,af,DZ b es (i+1) (by omega),hd]
  by_cases he:e=x
  ·subst he;rw[show (e != e)=false from by simp,cond_false]
   simp
  ·rw[show (e != x)=true from by simp [he],cond_true]
   simp [he]
theorem ks {a b:List Int} (h:a.length<=1000000):qX a b=some (decide (a=b)):=by
 unfold qX;by_cases hl:a.length=b.length
 ·rw[show (((aa a:Nat):Int) != ((aa b:Nat):Int))=false from by simp [hl],cond_false,Yp _ _ (by unfold maxLen; omega),DZ b a 0 (by omega),af,bV]
  cases decide (a=b)<;>rfl
 ·rw[show (((aa a:Nat):Int) != ((aa b:Nat):Int))=true from by simp; omega,cond_true]
  have:a≠b:=fun e=>hl (by rw[e])
  simp [this]
def Ul (o:Option Tm):List Int:=match o with
 | none=>[]
 | some t=>t.codes
structure RepW (a0:List zl) (w:List jI) (B:Bd):Prop where
 len:w.length=48
 at_:∀ x,x<48->w[x]? = some (Ul (B x))
 ok:∀ x t,B x=some t->x<24∧t.ok a0 24∧t.codes.length<=48
theorem RepW.small {a0:List zl} {w:List jI} {B:Bd} (h:RepW a0 w B):Xh B:=fun x t ht=>by
 obtain⟨h1,h2,h3⟩:=h.ok x t ht;rw[Tm.codes_len] at h3;exact ⟨by omega,h3⟩
theorem RepW.set {a0:List zl} {w:List jI} {B:Bd} (h:RepW a0 w B) {x:Nat} (hx:x<24) {t:Tm} (ht:t.ok a0 24) (hl:t.codes.length<=48):RepW a0 (w.set x t.codes) (MD B x t) where
 len:=by rw[cM]; exact h.len
 at_:=fun y hy=>by
  have:=h.len;by_cases he:y=x
  ·subst he;rw[cD (by omega),u6]
   rfl
  ·rw[cw (db he),kt _ _ he];exact h.at_ y hy
 ok:=fun y u hy=>by
  by_cases he:y=x
  ·subst he;rw[u6] at hy;injection hy with hy;subst hy;exact ⟨hx,ht,hl⟩
  ·rw[kt _ _ he] at hy;exact h.ok y u hy
theorem YP (t:Tm):0<t.codes.length:=by rw[Tm.codes_len]; exact t.size_pos
section
variable {a0:List zl} {w:List jI} {B:Bd} {σ:Sb} (hT:RepW a0 w B) (hG:Good B σ)
include hT hG
theorem M8:∀(m k:Nat) (t:Tm),ZC t<=m->m<=k->t.ok a0 24->t.codes.length<=48 ->
  ∃ u:Tm,lp xt k (t.codes,w)=some u.codes∧u.ok a0 24∧u.codes.length<=48∧(∀ θ,SolB θ B->t.sub θ=u.sub θ)∧∀ y,u = .v y->B y=none:=by
 intro m
 induction m with
 | zero=>intro k t hm; cases t<;>simp [ZC] at hm
 | succ m ih =>
  intro k t hm hk ho hl;obtain⟨k,rfl⟩:∃ k',k=k'+1:=⟨k - 1,by omega⟩
  rw[zK];have key:=fun t (h1:ZC t<=m) h2 h3=>ih k t h1 (by omega) h2 h3
  generalize lp xt k=rec at key ⊢;unfold xt;cases t with
  | v x =>
   have hx:x<24:=ho;have hc:(Tm.v x).codes=[-1 - (x:Int)]:=rfl;have w1:ah .i64 ((-1) - (-1 - (x:Int)))=(x:Int):=by rw[zC]<;>omega
   rw[hc];simp only[au,bH,y5,ay,af,w1];rw[show ((((0+1:Nat):Int))==1)=true from rfl,cond_true,decide_eq_true (show -1 - (x:Int)<0 by omega),cond_true,xb (show x<48 by omega),af,hT.at_ x (by omega),af]
   cases hb:B x with
   | none =>
    refine ⟨.v x,rfl,ho,hl,fun θ _=>rfl,fun y hy=>by injection hy with hy; rw[← hy]; exact hb⟩
   | some u =>
    obtain⟨-,h2,h3⟩:=hT.ok x u hb;have hp:=YP u;show ∃ u1,(cond (decide (((aa u.codes:Nat):Int)>0)) _ _)=_∧_;rw[decide_eq_true (show ((aa u.codes:Nat):Int)>0 by omega),cond_true]
    obtain⟨u',g1,g2,g3,g4,g5⟩:=key u (by
     cases u with
     | v y=>have:=hG.down _ y hb; simp only[ZC] at hm ⊢; omega
     | f c as=>simp only[ZC] at hm ⊢; omega) h2 h3
    refine ⟨u',?_,g2,g3,fun θ hθ=>(hθ _ u hb).trans (g4 θ hθ),g5⟩;show (w[x]?).bind _=_;rw[hT.at_ x (by omega),hb]
    exact g1
  | f c as =>
   refine ⟨.f c as,?_,ho,hl,fun θ _=>rfl,fun y hy=>by cases hy⟩
   have hc:(Tm.f c as).codes=(c:Int)::zc as:=rfl;rw[hc];simp only[y5,ay,af];rw[decide_eq_false (show ¬(c:Int)<0 by omega),cond_false]
   cases (((aa ((c:Int)::zc as):Nat):Int)==1)<;>rfl
theorem JS {t:Tm} (ho:t.ok a0 24) (hl:t.codes.length<=48) :
  ∃ u:Tm,wO t.codes w=some u.codes∧u.ok a0 24∧u.codes.length<=48∧(∀ θ,SolB θ B->t.sub θ=u.sub θ)∧∀ y,u = .v y->B y=none:=by
 obtain⟨u,h1,h2⟩:=M8 hT hG (ZC t) zd t (aE _) (by
  cases t with
  | v x=>have:x<24:=ho; simp only[ZC]; unfold zd; omega
  | f c as=>simp only[ZC]; unfold zd; omega) ho hl
 refine ⟨u,?_,h2⟩;unfold wO;rw[h1];rfl
theorem By {v:Nat} (hv0:B v=none):∀(k m:Nat) (es:List Int),(∀ c∈es,-24<=c)->es.length<=1000->(∀ c∈es,c<0->B (-1 - c).toNat≠none->Good.rank σ (-1 - c).toNat<m)->m<k ->
  ∃ b,yz k ((v:Int),es,w)=some b∧(b=true↔∃ c∈es,c<0∧(σ (-1 - c).toNat).has v):=by
 intro k
 induction k with
 | zero=>intro m es _ _ _ h; omega
 | succ k ih =>
  intro m es hc hl hr hm;show ∃ b,vl (yz k) (v:Int) es w=some b∧_;unfold vl;rw[tT _ _ _ _ (by unfold maxLen; omega)]
  have go:∀ es:List Int,(∀ c∈es,-24<=c)->(∀ c∈es,c<0->B (-1 - c).toNat≠none->Good.rank σ (-1 - c).toNat<m) ->
    ∃ b,zx (yz k) (v:Int) w es=some (cond b (.inr true) (.inl ()))∧(b=true↔∃ c∈es,c<0∧(σ (-1 - c).toNat).has v):=by
   intro es
   induction es with
   | nil=>intro _ _; exact ⟨false,rfl,by simp⟩
   | cons e es ihe =>
    intro hc hr;obtain⟨b,g1,g2⟩:=ihe (fun c h=>hc c (ai _ h)) fun c h=>hr c (ai _ h);have he:=hc e (am ..);unfold zx;by_cases h0:e≥0
    ·rw[decide_eq_true h0,cond_true];refine ⟨b,g1,g2.trans ?_⟩;constructor
     ·rintro⟨c,h1,h2⟩; exact ⟨c,ai _ h1,h2⟩
     ·rintro⟨c,h1,h2,h3⟩;rcases aI.1 h1 with rfl | h1
      ·omega
      ·exact ⟨c,h1,h2,h3⟩
    ·rw[decide_eq_false h0,cond_false];obtain⟨u,rfl⟩:∃ u:Nat,e = -1 - (u:Int):=⟨(-1 - e).toNat,by omega⟩
     have hu:u<24:=by omega
     have hn:(-1 - (-1 - (u:Int))).toNat=u:=by omega
     have w1:ah .i64 ((-1) - (-1 - (u:Int)))=(u:Int):=by rw[zC]<;>omega
     rw[w1];by_cases huv:u=v
     ·subst huv;rw[show (((u:Nat):Int)==((u:Nat):Int))=true from by simp,cond_true]
      exact ⟨true,rfl,⟨fun _=>⟨_,am ..,by omega,by rw[hn,hG.free _ hv0]; rfl⟩,fun _=>rfl⟩⟩
     ·rw[show (((u:Nat):Int)==((v:Nat):Int))=false from by simp; omega,cond_false]
      simp only[xb (show u<48 by omega),af,hT.at_ u (by omega)]
      cases hb:B u with
      | none =>
       show ∃ b,(cond (decide (((aa ([]:List Int):Nat):Int)>0)) _ _)=_∧_;refine ⟨b,g1,g2.trans ?_⟩;constructor
       ·rintro⟨c,h1,h2⟩; exact ⟨c,ai _ h1,h2⟩
       ·rintro⟨c,h1,h2,h3⟩;rcases aI.1 h1 with rfl | h1
        ·rw[hn,hG.free _ hb] at h3;have h3:u=v:=h3;exact absurd h3 huv
        ·exact ⟨c,h1,h2,h3⟩
      | some t =>
       obtain⟨-,h2,h3⟩:=hT.ok u t hb;have hp:=YP t;show ∃ b,(cond (decide (((aa t.codes:Nat):Int)>0)) _ _)=_∧_;rw[decide_eq_true (show ((aa t.codes:Nat):Int)>0 by omega),cond_true]
       have hcodes:∀ c∈t.codes,-24<=c∧(c<0->t.has (-1 - c).toNat):=fun c hcm=>by
        have h1:c∈zc [t]:=by simp [zc,hcm]
        by_cases hc0:c<0
        ·have h4:=(tM hc0 [t]).1 h1;have h5:t.has (-1 - c).toNat:=by rcases h4 with h4 | h4; exact h4; exact absurd h4 (by simp [QW])
         have h6:=Tm.ok_has t h2 h5;exact ⟨by omega,fun _=>h5⟩
        ·exact ⟨by omega,fun h=>absurd h hc0⟩
       obtain⟨b1,k1,k2⟩:=ih (Good.rank σ u) t.codes (fun c h=>(hcodes c h).1) (by omega) (fun c hcm h0 _=>hG.rank_lt hb ((hcodes c hcm).2 h0) (by have:=(hcodes c hcm).1; omega)) (by
        have:=hr _ (am ..) (by omega) (by rw[hn,hb]; simp)
        rw[hn] at this;omega)
       have k1:yz k ((v:Int),Ul (some t),w)=some b1:=k1;rw[k1,af];have hb1:b1=true↔(σ u).has v:=by
        rw[k2,hG.bound u t hb,Tm.has_sub];constructor
        ·rintro⟨c,h4,h5,h6⟩;exact ⟨_,(hcodes c h4).2 h5,h6⟩
        ·rintro⟨y,h4,h5⟩;refine ⟨-1 - (y:Int),?_,by omega,by rw[show (-1 - (-1 - (y:Int))).toNat=y by omega]; exact h5⟩
         have:=(tM (c := -1 - (y:Int)) (by omega) [t]).2 (by rw[show (-1 - (-1 - (y:Int))).toNat=y by omega]; exact .inl h4)
         simpa[zc] using this
       cases b1 with
       | true =>
        refine ⟨true,rfl,⟨fun _=>⟨_,am ..,by omega,?_⟩,fun _=>rfl⟩⟩
        rw[hn];exact hb1.1 rfl
       | false =>
        refine ⟨b,g1,g2.trans ?_⟩;constructor
        ·rintro⟨c,h1,h2⟩; exact ⟨c,ai _ h1,h2⟩
        ·rintro⟨c,h1,h2,h3⟩;rcases aI.1 h1 with rfl | h1
         ·rw[hn] at h3;exact absurd (hb1.2 h3) (by simp)
         ·exact ⟨c,h1,h2,h3⟩
  obtain⟨b,g1,g2⟩:=go es hc hr;rw[g1,af];exact ⟨b,by cases b<;>rfl,g2⟩
end
structure Qf (out E r:List Int):Prop where
 fits:out.length+E.length<=48->r=out++E
 over:48<out.length+E.length->48<r.length
 len:r.length<=max out.length 49
theorem Qf.step {out E1 E2 r1 r:List Int} (h:Qf out E1 r1) (h':Qf r1 E2 r):Qf out (E1++E2) r where
 fits:=fun hl=>by
  rw[az] at hl;have e:=h.fits (by omega)
  have e2:=h'.fits (by rw[e,az]; omega)
  rw[e2,e,bn]
 over:=fun hl=>by
  rw[az] at hl;by_cases h1:out.length+E1.length<=48
  ·have e:=h.fits h1;refine h'.over ?_;rw[e,az]; omega
  ·exact h'.over (by have:=h.over (by omega); omega)
 len:=by have:=h.len; have:=h'.len; omega
theorem Qf.full {out E:List Int} (h:48<out.length):Qf out E out:=⟨fun hl=>by omega,fun _=>h,by omega⟩
theorem Qf.one {out:List Int} (c:Int) (h:out.length<=48):Qf out [c] (out++[c]):=⟨fun _=>rfl,fun hl=>by rw[az]; exact hl,by rw[az]; simp; omega⟩
theorem Qf.nil (out:List Int):Qf out [] out:=⟨fun _=>by simp,fun h=>by simpa using h,by omega⟩
theorem Zt {a0:List zl} {t:Tm} (ho:t.ok a0 24):∀ c∈t.codes,-24<=c∧(c<0->t.has (-1 - c).toNat):=fun c hcm=>by
 by_cases hc0:c<0
 ·have h5:=(Tm.mem_codes hc0 t).1 hcm;have h6:=Tm.ok_has t ho h5;exact ⟨by omega,fun _=>h5⟩
 ·exact ⟨by omega,fun h=>absurd h hc0⟩
section
variable {a0:List zl} {w:List jI} {B:Bd} {σ:Sb} (hT:RepW a0 w B) (hG:Good B σ)
include hT hG
theorem M6:∀(k m:Nat) (es out:List Int),(∀ c∈es,-24<=c)->es.length<=1000->(∀ c∈es,c<0->B (-1 - c).toNat≠none->Good.rank σ (-1 - c).toNat<m)->m<k->out.length<=1000 ->
  ∃ r,zX k (es,w,out)=some r∧Qf out (es.flatMap (kY σ)) r:=by
 intro k
 induction k with
 | zero=>intro m es out _ _ _ h; omega
 | succ k ih =>
  intro m es out hc hl hr hm ho;show ∃ r,vk (zX k) es w out=some r∧_;unfold vk;rw[se _ _ _ _ (by unfold maxLen; omega)]
  have go:∀(es out:List Int),(∀ c∈es,-24<=c)->(∀ c∈es,c<0->B (-1 - c).toNat≠none->Good.rank σ (-1 - c).toNat<m)->out.length<=1000 ->
    ∃ r,zw (zX k) w es out=some r∧Qf out (es.flatMap (kY σ)) r:=by
   intro es
   induction es with
   | nil=>intro out _ _ _; exact ⟨out,rfl,Qf.nil out⟩
   | cons e es ihe =>
    intro out hc hr ho;have ihe:=fun out ho=>ihe out (fun c h=>hc c (ai _ h)) (fun c h=>hr c (ai _ h)) ho;have he:=hc e (am ..);unfold zw;by_cases h48:out.length<=48
    ·rw[decide_eq_true (show ((aa out:Nat):Int)<=48 by omega),cond_true,bv]
     have plain:kY σ e=[e]->∃ r,(cond (y9 (aa out+aa ([e]:List Int)) 8) (zw (zX k) w es (out++([e]:List Int))) none)=some r∧Qf out (kY σ e++es.flatMap (kY σ)) r:=fun hx=>by
      obtain⟨r,g1,g2⟩:=ihe (out++[e]) (by simp; omega)
      rw[zy (by simp; omega),cond_true,g1,hx]
      exact ⟨r,rfl,(Qf.one e h48).step g2⟩
     by_cases h0:e<0
     ·rw[decide_eq_true h0,cond_true];obtain⟨u,rfl⟩:∃ u:Nat,e = -1 - (u:Int):=⟨(-1 - e).toNat,by omega⟩
      have hu:u<24:=by omega
      have hn:(-1 - (-1 - (u:Int))).toNat=u:=by omega
      have w1:ah .i64 ((-1) - (-1 - (u:Int)))=(u:Int):=by rw[zC]<;>omega
      rw[w1];simp only[xb (show u<48 by omega),af,hT.at_ u (by omega)]
      cases hb:B u with
      | none =>
       show ∃ r,(cond (decide (((aa ([]:List Int):Nat):Int)>0)) _ _)=_∧_;refine plain ?_;unfold kY;rw[if_pos h0,hn,hG.free u hb];rfl
      | some t =>
       obtain⟨-,h2,h3⟩:=hT.ok u t hb;have hp:=YP t;show ∃ r,(cond (decide (((aa t.codes:Nat):Int)>0)) _ _)=_∧_;rw[decide_eq_true (show ((aa t.codes:Nat):Int)>0 by omega),cond_true]
       have hcodes:=Zt h2;obtain⟨r1,k1,k2⟩:=ih (Good.rank σ u) t.codes out (fun c h=>(hcodes c h).1) (by omega) (fun c hcm h0 _=>hG.rank_lt hb ((hcodes c hcm).2 h0) (by have:=(hcodes c hcm).1; omega)) (by
        have:=hr _ (am ..) (by omega) (by rw[hn,hb]; simp)
        rw[hn] at this;omega) ho
       have k1:zX k (Ul (some t),w,out)=some r1:=k1;rw[k1,af];obtain⟨r,g1,g2⟩:=ihe r1 (by have:=k2.len; omega)
       refine ⟨r,g1,Qf.step (r1:=r1) ?_ g2⟩;have:kY σ (-1 - (u:Int))=t.codes.flatMap (kY σ):=by
        unfold kY;rw[if_pos h0,hn,hG.bound u t hb,Tm.codes_sub];rfl
       rw[this];exact k2
     ·rw[decide_eq_false h0,cond_false];refine plain ?_;unfold kY;rw[if_neg h0]
    ·rw[decide_eq_false (show ¬((aa out:Nat):Int)<=48 by omega),cond_false]
     exact ⟨out,rfl,Qf.full (by omega)⟩
  obtain⟨r,g1,g2⟩:=go es out hc hr ho;rw[g1,af];exact ⟨r,rfl,g2⟩
theorem L5 {t:Tm} (ho:t.ok a0 24) (hl:t.codes.length<=48):∃ r,wU t.codes w []=some r∧Qf [] (t.sub σ).codes r:=by
 rw[Tm.codes_sub];refine M6 hT hG zd 100 t.codes [] (fun c h=>(Zt ho c h).1) (by omega) (fun c _ _ _ => ?_) (by unfold zd; omega) (by simp)
 have:=Good.rank_le σ (-1 - c).toNat;omega
theorem IP {v:Nat} (hv0:B v=none) {t:Tm} (ho:t.ok a0 24) (hl:t.codes.length<=48):∃ b,uI (v:Int) t.codes w=some b∧(b=true↔(t.sub σ).has v):=by
 obtain⟨b,h1,h2⟩:=By hT hG hv0 zd 100 t.codes (fun c h=>(Zt ho c h).1) (by omega) (fun c _ _ _=>by have:=Good.rank_le σ (-1 - c).toNat; omega) (by unfold zd; omega)
 refine ⟨b,h1,h2.trans ?_⟩;rw[Tm.has_sub];constructor
 ·rintro⟨c,h4,h5,h6⟩;exact ⟨_,(Zt ho c h4).2 h5,h6⟩
 ·rintro⟨y,h4,h5⟩;refine ⟨-1 - (y:Int),(Tm.mem_codes (by omega) t).2 (by rw[show (-1 - (-1 - (y:Int))).toNat=y by omega]; exact h4),by omega,by rw[show (-1 - (-1 - (y:Int))).toNat=y by omega]; exact h5⟩
end
structure OutW (a0:List zl) (B:Bd) (E:List (Tm×Tm)) (r:Bool×List jI):Prop where
 yes:r.1=true->∃ B' σ',RepW a0 r.2 B'∧Good B' σ'∧∀ θ,SolB θ B'↔SolB θ B∧Sol θ E
 no:r.1=false->∀ θ,SolB θ B->Sol θ E->False
theorem uq {θ:Sb} {t u:Tm}:Sol θ [(t,u)]↔t.sub θ=u.sub θ:=by simp [Sol]
theorem VB {a0:List zl} {w:List jI} {B:Bd} {σ:Sb} (hT:RepW a0 w B) (hG:Good B σ) {x:Nat} (hx:x<24) (hb:B x=none) {c:Nat} {as:List Tm} (ho:(Tm.f c as).ok a0 24) (hl:(Tm.f c as).codes.length<=48) :
  ∃ r,zt [-1 - (x:Int)] (Tm.f c as).codes false w=some r∧OutW a0 B [(.v x,.f c as)] r:=by
 unfold zt;have w1:ah .i64 ((-1) - (-1 - (x:Int)))=(x:Int):=by rw[zC]<;>omega
 simp only[y5,ay,af,cond_false,w1];obtain⟨b,h1,h2⟩:=IP hT hG hb ho hl;rw[h1,af];cases b with
 | true =>
  refine ⟨_,rfl,⟨fun h=>(nomatch h),fun _ θ h3 h4=>hG.occurs (h2.1 rfl) h3 (uq.1 h4)⟩⟩
 | false =>
  simp only[cond_false,xb (show x<48 by omega),af,hT.at_ x (by omega)]
  have hn:¬((Tm.f c as).sub σ).has x:=fun h=>by have:=h2.2 h; cases this
  refine ⟨_,rfl,⟨fun _=>⟨_,_,hT.set hx ho hl,hG.bind hb hn (fun y hy=>by cases hy),fun θ => ?_⟩,fun h=>(nomatch h)⟩⟩
  rw[SolB.upd hb,uq];rfl
theorem Gz {a0:List zl} {w:List jI} {B:Bd} {σ:Sb} (hT:RepW a0 w B) (hG:Good B σ) {x y:Nat} (hx:x<24) (hy:y<x) (hbx:B x=none) (hby:B y=none) :
  ∃ r,zt [-1 - (y:Int)] [-1 - (x:Int)] true w=some r∧OutW a0 B [(.v x,.v y)] r:=by
 unfold zt;have w1:ah .i64 ((-1) - (-1 - (x:Int)))=(x:Int):=by rw[zC]<;>omega
 simp only[y5,ay,af,cond_true,w1,xb (show x<48 by omega),hT.at_ x (by omega)]
 have hn:¬((Tm.v y).sub σ).has x:=by
  show ¬(σ y).has x;rw[hG.free y hby];intro h;have h:y=x:=h;omega
 have hset:RepW a0 (w.set x (Tm.v y).codes) (MD B x (.v y)):=hT.set hx (show y<24 by omega) (by show 1<=48; omega)
 refine ⟨_,rfl,⟨fun _=>⟨_,_,hset,hG.bind hbx hn (fun z hz=>by injection hz with hz; omega),fun θ => ?_⟩,fun h=>(nomatch h)⟩⟩
 rw[SolB.upd hbx,uq];rfl
theorem OutW.via {a0:List zl} {B:Bd} {E E':List (Tm×Tm)} {r:Bool×List jI} (h:OutW a0 B E r) (he:∀ θ,SolB θ B->(Sol θ E↔Sol θ E')):OutW a0 B E' r where
 yes:=fun hr=>by
  obtain⟨B',σ',h1,h2,h3⟩:=h.yes hr;exact ⟨B',σ',h1,h2,fun θ=>(h3 θ).trans ⟨fun ⟨a,b⟩=>⟨a,(he θ a).1 b⟩,fun ⟨a,b⟩=>⟨a,(he θ a).2 b⟩⟩⟩
 no:=fun hr θ h1 h2=>h.no hr θ h1 ((he θ h1).2 h2)
def Dep (R:List Tm) (B:Bd) (δ:Nat) (t:Tm):Prop:=∀ θ,SolB θ B->∃ c∈R,δ+(t.sub θ).ht<=(c.sub θ).ht
theorem Dep.mono {R:List Tm} {B B':Bd} {δ:Nat} {t:Tm} (h:Dep R B δ t) (hB:∀ θ,SolB θ B'->SolB θ B):Dep R B' δ t:=fun θ hθ=>h θ (hB θ hθ)
theorem Dep.lt {R:List Tm} {B:Bd} {σ:Sb} {δ:Nat} {t:Tm} (h:Dep R B δ t) (hG:Good B σ) (hS:Xh B) (hR:∀ c∈R,c.size<=48):δ<2500:=by
 obtain⟨c,hc,h1⟩:=h σ hG.bound;have h2:=Tm.ht_sub (s:=σ) (M:=49*49) c fun x _=>hG.low hS x;have h3:=c.ht_size;have h4:=hR c hc;have h5:=zdk (t.sub σ);omega
theorem L9 {a0:List zl} {t u:Tm} (ht:t.ok a0 24) (hu:u.ok a0 24) (h:t.codes=u.codes):t=u:=by
 have:=uw (a0:=a0) _ [t] [u] (aE _) ⟨ht,trivial⟩ ⟨hu,trivial⟩ (by simp [zc,h])
 injection this
def Sm (a0:List zl) (t:Tm):Prop:=t.ok a0 24∧t.codes.length<=48
def Em (a0:List zl) (R:List Tm) (k:Nat):Prop:=∀(δ:Nat) (w:List jI) (B:Bd) (σ:Sb) (t u:Tm),RepW a0 w B->Good B σ->Sm a0 t->Sm a0 u->Dep R B δ t->2*(2600 - δ)<=k ->
 ∃ r,(zz k).1 (a0,t.codes,u.codes,w)=some r∧OutW a0 B [(t,u)] r
def SZ (a0:List zl) (R:List Tm) (k:Nat):Prop:=∀(δ:Nat) (w:List jI) (B:Bd) (σ:Sb) (ts us:List Tm),RepW a0 w B->Good B σ->(∀ t∈ts,Sm a0 t)->(∀ t∈us,Sm a0 t)->ts.length=us.length->ts.length<=1000->(∀ t∈ts,Dep R B δ t)->2*(2600 - δ)+1<=k ->
 ∃ r,(zz k).2 (a0,ts.map Tm.codes,us.map Tm.codes,w)=some r∧OutW a0 B (ts.zip us) r
theorem Nt {a0:List zl} {R:List Tm} {k:Nat} (hp:Em a0 R k):SZ a0 R (k+1):=by
 intro δ w B σ ts us hT hG hts hus hl hlen hd hk;show ∃ r,vR (zz k) a0 (ts.map Tm.codes) (us.map Tm.codes) w=some r∧_;unfold vR;rw[so _ _ _ _ _ (by rw[aT]; unfold maxLen; omega)]
 have go:∀(ts vs:List Tm) (i:Nat) (w:List jI) (B:Bd) (σ:Sb),RepW a0 w B->Good B σ->us.drop i=vs->(∀ t∈ts,Sm a0 t)->ts.length=vs.length->(∀ t∈ts,Dep R B δ t) ->
   (∃ w',zE (zz k) a0 (us.map Tm.codes) (ts.map Tm.codes) i w=some (.inl w')∧OutW a0 B (ts.zip vs) (true,w')) ∨
   (∃ w',zE (zz k) a0 (us.map Tm.codes) (ts.map Tm.codes) i w=some (.inr (false,w'))∧OutW a0 B (ts.zip vs) (false,w')):=by
  intro ts
  induction ts with
  | nil =>
   intro vs i w B σ hT hG hdr _ hl _;exact .inl ⟨w,rfl,⟨fun _=>⟨B,σ,hT,hG,fun θ=>⟨fun h=>⟨h,Sol.nil⟩,fun h=>h.1⟩⟩,fun h=>(nomatch h)⟩⟩
  | cons t ts ih =>
   intro vs i w B σ hT hG hdr hts hl hd;cases vs with
   | nil=>simp at hl
   | cons v vs =>
    have hgv:us[i]? = some v:=zv hdr;have hvm:v∈us:=aO hgv;obtain⟨r,h1,h2⟩:=hp δ w B σ t v hT hG (hts t (am ..)) (hus v hvm) (hd t (am ..)) (by omega)
    rw[aM];unfold zE;rw[qJ,bt,hgv];simp only[bu,af];rw[h1,af];obtain⟨b,w1⟩:=r;cases b with
    | false =>
     refine .inr ⟨w1,rfl,⟨fun h=>(nomatch h),fun _ θ h3 h4=>h2.no rfl θ h3 ?_⟩⟩;rw[dN,Sol.cons] at h4;exact uq.2 h4.1
    | true =>
     obtain⟨B',σ',g1,g2,g3⟩:=h2.yes rfl;have comb:∀{r2:Bool×List jI},OutW a0 B' (ts.zip vs) r2->OutW a0 B ((t::ts).zip (v::vs)) r2:=fun {r2} h=>by
      rw[dN];refine ⟨fun hr => ?_,fun hr θ h3 h4 => ?_⟩
      ·obtain⟨B2,σ2,k1,k2,k3⟩:=h.yes hr;refine ⟨B2,σ2,k1,k2,fun θ => ?_⟩;rw[k3,g3,uq,and_assoc,Sol.cons (p:=(t,v)) (E:=ts.zip vs)]
      ·rw[Sol.cons] at h4;exact h.no hr θ ((g3 θ).2 ⟨h3,uq.2 h4.1⟩) h4.2
     rcases ih vs (i+1) w1 B' σ' g1 g2 (zm hdr) (fun t h=>hts t (ai _ h)) (by simpa using hl) (fun t h=>(hd t (ai _ h)).mono fun θ hθ=>((g3 θ).1 hθ).1) with ⟨w',q1,q2⟩ | ⟨w',q1,q2⟩
     ·exact .inl ⟨w',q1,comb q2⟩
     ·exact .inr ⟨w',q1,comb q2⟩
 rcases go ts us 0 w B σ hT hG rfl hts hl hd with ⟨w',h1,h2⟩ | ⟨w',h1,h2⟩
 ·rw[h1]; exact ⟨_,rfl,h2⟩
 ·rw[h1]; exact ⟨_,rfl,h2⟩
theorem F7 {a0:List zl} (hs:SignOk a0) {R:List Tm} (hR:∀ c∈R,c.size<=48) {k:Nat} (ha:SZ a0 R k):Em a0 R (k+1):=by
 intro δ w B σ t u hT hG ht hu hd hk;show ∃ r,wg (zz k) a0 t.codes u.codes w=some r∧_;obtain⟨t1,a1,a2,a3,a4,a5⟩:=JS hT hG ht.1 ht.2;obtain⟨u1,b1,b2,b3,b4,b5⟩:=JS hT hG hu.1 hu.2
 -- it is enough to speak of these
 suffices h:∃ r,wg (zz k) a0 t.codes u.codes w=some r∧OutW a0 B [(t1,u1)] r by
  obtain⟨r,h1,h2⟩:=h;exact ⟨r,h1,h2.via fun θ hθ=>by rw[uq,uq,a4 θ hθ,b4 θ hθ]⟩
 have eta:∀{o:Option (Bool×List jI)} {E:List (Tm×Tm)},(∃ r,o=some r∧OutW a0 B E r)->∃ r,(o.bind fun r=>some (r.1,r.2))=some r∧OutW a0 B E r:=fun ⟨r,h1,h2⟩=>⟨r,by rw[h1]; rfl,h2⟩
 have flip:∀{o:Option (Bool×List jI)} {p q:Tm},(∃ r,o=some r∧OutW a0 B [(p,q)] r)->∃ r,o=some r∧OutW a0 B [(q,p)] r:=fun ⟨r,h1,h2⟩=>⟨r,h1,h2.via fun θ _=>by rw[uq,uq]; exact eq_comm⟩
 unfold wg;rw[a1,af,b1,af,ks (by omega),af]
 by_cases he:t1.codes=u1.codes
 ·have:=L9 a2 b2 he;subst this;rw[decide_eq_true he,cond_true];exact ⟨_,rfl,⟨fun _=>⟨B,σ,hT,hG,fun θ=>⟨fun h=>⟨h,uq.2 rfl⟩,fun h=>h.1⟩⟩,fun h=>(nomatch h)⟩⟩
 rw[decide_eq_false he,cond_false];have hne:t1≠u1:=fun h=>he (by rw[h])
 clear he a1 b1;cases t1 with
 | v x =>
  have hx:x<24:=a2;have hbx:=a5 x rfl;have c1:(Tm.v x).codes=[-1 - (x:Int)]:=rfl;have d1:decide (-1 - (x:Int)<0)=true:=decide_eq_true (by omega)
  have d2:decide (-1 - (x:Int)≥0)=false:=decide_eq_false (by omega)
  cases u1 with
  | v y =>
   have hy:y<24:=b2;have hby:=b5 y rfl;have c2:(Tm.v y).codes=[-1 - (y:Int)]:=rfl;have d3:decide (-1 - (y:Int)<0)=true:=decide_eq_true (by omega)
   have hxy:x≠y:=fun h=>hne (by rw[h])
   rw[c1,c2];by_cases hlt:y<x
   ·have d4:decide (-1 - (x:Int) < -1 - (y:Int))=true:=decide_eq_true (by omega)
    simp only[y5,ay,af,d1,d3,d4,cond_true];exact eta (Gz hT hG hx hlt hbx hby)
   ·have d4:decide (-1 - (x:Int) < -1 - (y:Int))=false:=decide_eq_false (by omega)
    simp only[y5,ay,af,d1,d2,d3,d4,cond_true,cond_false];exact eta (flip (Gz hT hG hy (by omega) hby hbx))
  | f c as =>
   have c2:(Tm.f c as).codes=(c:Int)::zc as:=rfl;have d3:decide ((c:Int)<0)=false:=decide_eq_false (by omega)
   have h1:=VB hT hG hx hbx b2 b3;rw[c2] at h1;rw[c1,c2];simp only[y5,ay,af,d1,d2,d3,cond_true,cond_false];exact eta h1
 | f c as =>
  have c1:(Tm.f c as).codes=(c:Int)::zc as:=rfl;have d1:decide ((c:Int)<0)=false:=decide_eq_false (by omega)
  have d2:decide ((c:Int)≥0)=true:=decide_eq_true (by omega)
  cases u1 with
  | v y =>
   have hy:y<24:=b2;have hby:=b5 y rfl;have c2:(Tm.v y).codes=[-1 - (y:Int)]:=rfl;have d3:decide (-1 - (y:Int)<0)=true:=decide_eq_true (by omega)
   have h1:=VB hT hG hy hby a2 a3;rw[c1] at h1;rw[c1,c2];simp only[y5,ay,af,d1,d2,d3,cond_true,cond_false];exact eta (flip h1)
  | f d bs =>
   have c2:(Tm.f d bs).codes=(d:Int)::zc bs:=rfl;have d3:decide ((d:Int)<0)=false:=decide_eq_false (by omega)
   rw[c1,c2];simp only[y5,ay,af,d1,d2,d3,cond_true,cond_false];by_cases hcd:c=d
   ·subst hcd;rw[show ((c:Int) != (c:Int))=false from by simp,cond_false]
    have hla:as.length=bs.length:=by
     have h1:=a2.1;have h2:=b2.1;rw[h1] at h2;injection h2
    rw[c1,au] at a3;rw[c2,au] at b3;have hw:∀{xs:List Tm},(zc xs).length<=48->∀ t∈xs,t.codes.length<=48:=fun h t ht=>aF (tA ht) h;rw[v8,af,xq hs (by omega) (yp as a2.2),af,v8,af,xq hs (by omega) (yp bs b2.2),af]
    have hlt:=hd.lt hG hT.small hR;obtain⟨r,h1,h2⟩:=ha (δ+1) w B σ as bs hT hG (fun t h=>⟨vZ.1 a2.2 t h,hw (by omega) t h⟩) (fun t h=>⟨vZ.1 b2.2 t h,hw (by omega) t h⟩) hla (by
      have:=Zw (yp as a2.2);rw[aT] at this;omega) (fun a ham θ hθ=>by
      obtain⟨c',hc',h5⟩:=hd θ hθ;refine ⟨c',hc',?_⟩;rw[a4 θ hθ] at h5;have h6:((Tm.f c as).sub θ).ht=htR (wF θ as)+1:=rfl;have h7:=In (ts:=wF θ as) (t:=a.sub θ) (by rw[WF]; exact bg ham)
      omega) (by omega)
    rw[h1,af];refine ⟨_,rfl,h2.via fun θ _ => ?_⟩;rw[Sol.zip hla,uq,zcR];simp
   ·rw[show ((c:Int) != (d:Int))=true from by simp; omega,cond_true]
    refine ⟨_,rfl,⟨fun h=>(nomatch h),fun _ θ _ h4 => ?_⟩⟩;rw[uq,zcR] at h4;exact hcd h4.1
theorem MW {a0:List zl} (hs:SignOk a0) {R:List Tm} (hR:∀ c∈R,c.size<=48):∀ k,Em a0 R k∧SZ a0 R k:=by
 intro k
 induction k with
 | zero =>
  refine ⟨fun δ w B σ t u hT hG _ _ hd hk => ?_,fun δ w B σ ts us _ _ _ _ _ _ _ hk=>by omega⟩
  have:=hd.lt hG hT.small hR;omega
 | succ k ih=>exact ⟨F7 hs hR ih.2,Nt ih.1⟩
theorem zej (a0:List zl):RepW a0 (ax 48 ([]:List Int)) (fun _=>none) where
 len:=by simp
 at_:=fun x hx=>by rw[bD,if_pos hx]; rfl
 ok:=fun x t h=>by cases h
theorem JP {a0:List zl} {w:List jI} {B:Bd} {σ:Sb} (hT:RepW a0 w B) (hG:Good B σ):∀(m v k:Nat) (out:List (Int×List Int)),24 - v=m->v<=24->m<k->out.length<=v ->
  lp qE k ((v:Int),w,out)=some (cond (xR σ ((aR 24).drop v)) (.inl (out++wh B σ ((aR 24).drop v))) (.inr (true,false))):=by
 intro m
 induction m with
 | zero =>
  intro v k out hm hv hk ho;obtain⟨k,rfl⟩:∃ k',k=k'+1:=⟨k - 1,by omega⟩
  rw[zK];generalize lp qE k=rec;unfold qE;have:v=24:=by omega
  subst this;rw[show (aR 24).drop 24=[] from rfl]
  simp [wh,xR]
 | succ m ih =>
  intro v k out hm hv hk ho;obtain⟨k,rfl⟩:∃ k',k=k'+1:=⟨k - 1,by omega⟩
  rw[zK];have key:=fun out' ho'=>ih (v+1) k out' (by omega) (by omega) (by omega) ho'
  generalize lp qE k=rec at key ⊢;unfold qE;have w1:ah .i64 ((v:Int)+1)=((v+1:Nat):Int):=by rw[zC]<;>omega
  have hdr:(aR 24).drop v=v::(aR 24).drop (v+1):=by
   rw[aV (by simp; omega)]
   simp
  simp only[decide_eq_true (show (v:Int)<=23 by omega),cond_true,xb (show v<48 by omega),af,hT.at_ v (by omega),w1]
  rw[hdr];cases hb:B v with
  | none =>
   show (cond (((aa ([]:List Int):Nat):Int)==0) _ _)=_;rw[show (((aa ([]:List Int):Nat):Int)==0)=true from rfl,cond_true,key out (by omega)]
   have hs:(σ v).size<=48:=by rw[hG.free v hb]; simp [Tm.size]
   have hb:Aa B v=false:=by simp [Aa,hb]
   simp [wh,xR,hb,hs]
  | some t =>
   obtain⟨-,h2,h3⟩:=hT.ok v t hb;have hp:=YP t;show (cond (((aa t.codes:Nat):Int)==0) _ ((wU t.codes w []).bind _))=_;rw[show (((aa t.codes:Nat):Int)==0)=false from by simp; intro h; rw[h] at hp; simp at hp,cond_false]
   obtain⟨r,g1,g2⟩:=L5 hT hG h2 h3;rw[← hG.bound v t hb] at g2;rw[g1,af];by_cases hs:(σ v).size<=48
   ·have hr:=g2.fits (by rw[Tm.codes_len]; simpa using hs)
    rw[bG] at hr;subst hr;rw[decide_eq_false (show ¬((aa (σ v).codes:Nat):Int)>48 by rw[Tm.codes_len]; omega),cond_false,zy (by simp only[aX]; omega),cond_true,key _ (by simp only[az,aX]; omega)]
    have hb:Aa B v=true:=by simp [Aa,hb]
    simp [wh,xR,hb,hs]
   ·have hr:=g2.over (by rw[Tm.codes_len]; simp; omega)
    rw[decide_eq_true (show ((aa r:Nat):Int)>48 by omega),cond_true]
    simp [xR,hs]
theorem YX {a0:List zl} (hs:SignOk a0) {ts us:List Tm} (ht:okR a0 24 ts) (hu:okR a0 24 us) (hlx:(zc ts).length<=48) (hly:(zc us).length<=48) :
  (vM a0 (zc ts) (zc us)=some (false,true,[])∧(ts.length≠us.length∨∀ θ,¬ Sol θ (ts.zip us))) ∨
  (ts.length=us.length∧∃ σ,Mgu σ (ts.zip us)∧vM a0 (zc ts) (zc us)=some (true,xR σ (aR 24),cond (xR σ (aR 24)) (tt σ) [])):=by
 unfold vM;rw[xq hs (by omega) (yp ts ht),af,xq hs (by omega) (yp us hu),af]
 by_cases hl:ts.length=us.length
 ·rw[show (((aa (ts.map Tm.codes):Nat):Int) != ((aa (us.map Tm.codes):Nat):Int))=false from by simp [hl],cond_false]
  have sm:∀{xs:List Tm},okR a0 24 xs->(zc xs).length<=48->∀ t∈xs,Sm a0 t:=fun h1 h2 t h=>⟨vZ.1 h1 t h,aF (tA h) h2⟩;have hR:∀ c∈ts,c.size<=48:=fun c hc=>by have:=(sm ht hlx c hc).2; rwa [Tm.codes_len] at this
  obtain⟨r,h1,h2⟩:=(MW hs hR zd).2 0 (ax 48 []) (fun _=>none) .v ts us (zej a0) Good.empty (sm ht hlx) (sm hu hly) hl (by
   have:=Zw (yp ts ht);rw[aT] at this;omega) (fun t h θ _=>⟨t,h,by omega⟩) (by unfold zd; omega)
  have h1:th a0 (ts.map Tm.codes) (us.map Tm.codes) (ax 48 [])=some r:=h1;rw[h1,af];cases hb:r.1 with
  | false=>exact .inl ⟨rfl,.inr fun θ h=>h2.no hb θ (fun _ _ h=>(nomatch h)) h⟩
  | true =>
   obtain⟨B',σ,g1,g2,g3⟩:=h2.yes hb;refine .inr ⟨hl,σ,Mgu.of g2 g3,?_⟩;have:=JP g1 g2 24 0 zd [] rfl (by omega) (by unfold zd; omega) (by simp)
   rw[show ((0:Nat):Int)=0 from rfl] at this
   rw[aH,cond_false,this,bV];have he:wh B' σ (aR 24)=tt σ:=by
    unfold wh tt;rw[show Aa B'=moved σ from funext (E9 g2)]
   cases xR σ (aR 24) with
   | true=>simp only[cond_true,af,te,bG,he]
   | false=>rfl
 ·rw[show (((aa (ts.map Tm.codes):Nat):Int) != ((aa (us.map Tm.codes):Nat):Int))=true from by simp; omega,cond_true]
  exact .inl ⟨rfl,.inl hl⟩
theorem zag (v:Int):(es:List (Int×List Int))->(i:Nat)->(t9 es v=none∧xu v es i=some (.inl ()))∨∃(j:Nat) (e:Int×List Int),xu v es i=some (.inr ((i+j:Nat):Int))∧es[j]? = some e∧t9 es v=some e.2
 | [],i=>.inl ⟨rfl,rfl⟩
 | e::es,i=>by
  unfold xu t9;rw[ef];cases h:e.1==v with
  | true=>exact .inr ⟨0,e,rfl,rfl,rfl⟩
  | false =>
   rw[cond_false];rcases zag v es (i+1) with ⟨h1,h2⟩ | ⟨j,e',h1,h2,h3⟩
   ·exact .inl ⟨h1,h2⟩
   ·exact .inr ⟨j+1,e',by rw[h1,show i+1+j=i+(j+1) from by omega],by simpa using h2,h3⟩
theorem LH {s:List (Int×List Int)} (hl:s.length<=1000) (v:Int):(t9 s v=none∧Z8 s v=some (-1))∨∃(j:Nat) (e:Int×List Int),Z8 s v=some (j:Int)∧s[j]? = some e∧t9 s v=some e.2:=by
 unfold Z8;rw[Qe _ _ (by unfold maxLen; omega)]
 rcases zag v s 0 with ⟨h1,h2⟩ | ⟨j,e,h1,h2,h3⟩
 ·exact .inl ⟨h1,by rw[h2]; rfl⟩
 ·exact .inr ⟨j,e,by rw[h1,aL]; rfl,h2,h3⟩
theorem Rv {s:List (Int×List Int)} (h:BindsOk s):(es out:List Int)->(∀ c∈es,-1000000<=c∧c<=1000000)->out.length+1000*es.length<=1000000000->yq s es out=some (out++onB s es)
 | [],out,_,_=>by simp [yq,onB]
 | c::es,out,hc,hl=>by
  have hc0:=hc c (am ..);simp only[au] at hl;have ih:=fun out hl=>Rv h es out (fun c h=>hc c (ai _ h)) hl;unfold yq;have plain:onC s c=[c]->(cond (y9 (aa out+aa ([c]:List Int)) 8) (yq s es (out++([c]:List Int))) none)=some (out++onB s (c::es)):=fun hx=>by
   rw[zy (by simp; omega),cond_true,ih _ (by simp; omega)]
   unfold onB;rw[bv,hx,bn]
  by_cases h0:c<0
  ·rw[decide_eq_true h0,cond_true];have w1:ah .i64 ((-1) - c) = -1 - c:=by rw[zC]<;>omega
   rw[w1];rcases LH h.len (-1 - c) with ⟨h1,h2⟩ | ⟨j,e,h1,h2,h3⟩
   ·rw[h2,af,show decide ((-1:Int)<0)=true from rfl,cond_true]
    refine plain ?_;unfold onC;rw[h1,decide_eq_false (show ¬ c≥0 by omega)]
    rfl
   ·have he:=(h.all e (aO h2)).2;rw[h1,af,decide_eq_false (show ¬(j:Int)<0 by omega),cond_false,qJ,h2,af,zy (by omega),cond_true,ih _ (by rw[az]; omega)]
    unfold onB;have:onC s c=e.2:=by
     unfold onC;rw[h3,decide_eq_false (show ¬ c≥0 by omega)]
     rfl
    rw[bv,this,bn]
  ·rw[decide_eq_false h0,cond_false];refine plain ?_;unfold onC;rw[decide_eq_true (show c≥0 by omega)]
   rfl
theorem Cn {s:List (Int×List Int)} (h:BindsOk s) {r:List Int} (hr:kj r):tF s r=some (onB s r):=by
 have:=hr.1;unfold tF;rw[YS _ _ _ (by unfold maxLen; omega),Rv h r [] hr.2 (by simp; omega)]
 rfl
theorem FE {s:List (Int×List Int)} (h:BindsOk s):(es out:List zg)->(∀ l∈es,kj l.2)->out.length+es.length<=1000000->qk s es out=some (out++VE s es)
 | [],out,_,_=>by simp [qk,VE]
 | e::es,out,hn,hl=>by
  simp only[au] at hl;unfold qk;rw[Cn h (hn e (am ..)),af,zy (by simp; omega),cond_true,FE h es _ (fun l hl=>hn l (ai _ hl)) (by simp; omega)]
  simp [VE]
theorem CP {s:List (Int×List Int)} (h:BindsOk s) (s5:List zg):(es out:List jI)->(∀ l∈es,kj l)->out.length+es.length<=1000000->qu s s5 es out=some (s5,out++Cb s es)
 | [],out,_,_=>by simp [qu,Cb]
 | e::es,out,hn,hl=>by
  simp only[au] at hl;unfold qu;rw[Cn h (hn e (am ..)),af,zy (by simp; omega),cond_true,CP h s5 es _ (fun l hl=>hn l (ai _ hl)) (by simp; omega)]
  simp [Cb]
theorem Ck {s:List (Int×List Int)} (h:BindsOk s) (s5:List zg) (s6:List jI):(es out:List zg)->(∀ l∈es,kj l.2)->out.length+es.length<=1000000->qv s s5 s6 es out=some (s5,s6,out++VE s es)
 | [],out,_,_=>by simp [qv,VE]
 | e::es,out,hn,hl=>by
  simp only[au] at hl;unfold qv;rw[Cn h (hn e (am ..)),af,zy (by simp; omega),cond_true,Ck h s5 s6 es _ (fun l hl=>hn l (ai _ hl)) (by simp; omega)]
  simp [VE]
theorem H5 {s:List (Int×List Int)} (h:BindsOk s) {L:List zg} {T:List jI} {C:List zg} (hL:∀ l∈L,kj l.2) (hT:∀ l∈T,kj l) (hC:∀ l∈C,kj l.2) (h1:L.length<=1000) (h2:T.length<=1000) (h3:C.length<=1000) :
  ru s L T C=some (VE s L,Cb s T,VE s C):=by
 unfold ru;rw[Yk _ _ _ _ _ (by unfold maxLen; omega),FE h L [] hL (by simp; omega),af,
  Z9 _ _ _ _ _ _ (by unfold maxLen; omega),CP h _ T [] hT (by simp; omega),af,
  Z4 _ _ _ _ _ _ _ (by unfold maxLen; omega),Ck h _ _ C [] hC (by simp; omega),af]
 simp
theorem AG {l k:zg} (h:l.2.length<=1000000):uX l.1 l.2 k.1 k.2=some (decide (l=k)):=by
 obtain⟨n,r⟩:=l;obtain⟨n',r'⟩:=k;unfold uX;by_cases hn:n=n'
 ·subst hn;simp only[beq_self_eq_true,cond_true];rw[ks h,af];simp
 ·rw[show (n==n')=false from by simp [hn],cond_false]
  simp [hn]
theorem C7 {s0 out:List zg} {i0:Nat} {e0:zg} (he:s0[i0]? = some e0) (ho:∀ l∈out,l.2.length<=1000000):(es:List zg)->(i:Nat)->(b:Bool)->out.drop i=es->yR s0 (i0:Int) out es i b=some (b||decide (e0∈es),out)
 | [],i,b,_=>by simp [yR]
 | e::es,i,b,hd=>by
  have ih:=fun b=>C7 he ho es (i+1) b (zm hd);unfold yR;cases b with
  | true=>rw[cond_true,ih true]; rfl
  | false =>
   have hi:=yk hd;have hg:=zv hd;rw[cond_false,xb hi,af,hg,af,qJ,he,af,AG (ho e (aO hg)),af,ih]
   congr 2
   rw[eg,cV,bO,decide_eq_true_iff,decide_eq_true_iff,decide_eq_true_iff,aI];exact ⟨fun h=>h.imp f0 id,fun h=>h.imp f0 id⟩
theorem Df {s0:List zg} (hs:∀ l∈s0,l.2.length<=1000000):(es:List zg)->(i:Nat)->(out:List zg)->s0.drop i=es->(∀ l∈out,l.2.length<=1000000)->out.length+es.length<=1000000->qn s0 es i out=some (zF es out)
 | [],i,out,_,_,_=>rfl
 | e::es,i,out,hd,ho,hl=>by
  simp only[au] at hl;have hg:=zv hd;have hem:=aO hg;unfold qn zF;rw[Yr _ _ _ _ (by unfold maxLen; omega),C7 hg ho out 0 false rfl,af,cV]
  by_cases hm:e∈out
  ·have e1:∀ inst:Decidable (e∈out),@decide (e∈out) inst=true:=fun _=>decide_eq_true hm;simp only[e1,aH,cond_false,cond_true];exact Df hs es (i+1) out (zm hd) ho (by omega)
  ·have e1:∀ inst:Decidable (e∈out),@decide (e∈out) inst=false:=fun _=>decide_eq_false hm;simp only[e1,bM,cond_true,cond_false];rw[zy (by simp; omega),cond_true]
   exact Df hs es (i+1) _ (zm hd) (fun l hl=>by
    rcases aW.1 hl with hl | hl
    ·exact ho l hl
    ·rw[bF.1 hl]; exact hs e hem) (by simp; omega)
theorem LN {L:List zg} (hs:∀ l∈L,l.2.length<=1000000) (hl:L.length<=1000):jh L=some (zF L []):=by
 unfold jh;rw[Z0 _ _ (by unfold maxLen; omega),Df hs L 0 [] rfl (fun _ h=>(nomatch h)) (by simp; omega)]
 rfl
theorem HS {s4 out:List jI} {s6 s7:List zg} {i0:Nat} {e0:List Int} (he:s4[i0]? = some e0) (ho:∀ l∈out,l.length<=1000000):(es:List jI)->(i:Nat)->(b:Bool)->out.drop i=es->yT (i0:Int) s4 s6 s7 out es i b=some (b||decide (e0∈es),s6,s7,out)
 | [],i,b,_=>by simp [yT]
 | e::es,i,b,hd=>by
  have ih:=fun b=>HS (s6:=s6) (s7:=s7) he ho es (i+1) b (zm hd);unfold yT;cases b with
  | true=>rw[cond_true,ih true]; rfl
  | false =>
   have hi:=yk hd;have hg:=zv hd;rw[cond_false,xb hi,af,hg,af,qJ,he,af,ks (ho e (aO hg)),af,ih]
   congr 2
   rw[eg,cV,bO,decide_eq_true_iff,decide_eq_true_iff,decide_eq_true_iff,aI];exact ⟨fun h=>h.imp f0 id,fun h=>h.imp f0 id⟩
theorem Ik {s1 s3 s4 s5:List zg} {s2:List jI} (hs:∀ l∈s2,l.length<=1000000):(es:List jI)->(i:Nat)->(out:List jI)->s2.drop i=es->(∀ l∈out,l.length<=1000000)->out.length+es.length<=1000000->qm s1 s2 s3 es i s4 s5 out=some (s4,s5,zF es out)
 | [],i,out,_,_,_=>rfl
 | e::es,i,out,hd,ho,hl=>by
  simp only[au] at hl;have hg:=zv hd;have hem:=aO hg;unfold qm zF;rw[Yf _ _ _ _ _ _ _ _ (by unfold maxLen; omega),HS hg ho out 0 false rfl,af,cV]
  by_cases hm:e∈out
  ·have e1:∀ inst:Decidable (e∈out),@decide (e∈out) inst=true:=fun _=>decide_eq_true hm;simp only[e1,aH,cond_false,cond_true];exact Ik hs es (i+1) out (zm hd) ho (by omega)
  ·have e1:∀ inst:Decidable (e∈out),@decide (e∈out) inst=false:=fun _=>decide_eq_false hm;simp only[e1,bM,cond_true,cond_false];rw[zy (by simp; omega),cond_true]
   exact Ik hs es (i+1) _ (zm hd) (fun l hl=>by
    rcases aW.1 hl with hl | hl
    ·exact ho l hl
    ·rw[bF.1 hl]; exact hs e hem) (by simp; omega)
def Ph (bs:List (Int×List Int)) (c:Int):List (Int×List Int):=cond (decide (c<0)&&(t9 bs (-1 - c)).isNone) (bs++[(-1 - c,[-1 - (bs.length:Int)])]) bs
def P6 (bs:List (Int×List Int)) (r:List Int):List (Int×List Int):=r.foldl Ph bs
theorem NN (bs:List (Int×List Int)) (c:Int):(Ph bs c).length<=bs.length+1:=by
 unfold Ph;cases decide (c<0)&&(t9 bs (-1 - c)).isNone<;>simp
theorem NZ (r:List Int):(bs:List (Int×List Int))->(P6 bs r).length<=bs.length+r.length:=by
 unfold P6
 induction r with
 | nil=>intro bs; simp
 | cons c r ih =>
  intro bs;have:=ih (Ph bs c);have:=NN bs c;simp only[List.foldl_cons,au];omega
theorem EP {rows:List jI} {i:Nat} {r:List Int} (hr:rows[i]? = some r) (L:List zg) (T:List jI) (C:List zg) (hrl:r.length<=1000):∀(es:List Int) (j k:Nat) (bs:List (Int×List Int)),r.drop j=es->(∀ c∈es,-1000000<=c∧c<=1000000)->es.length<k->bs.length+es.length<=1000 ->
  lp xZ k (rows,(i:Int),(j:Int),L,T,C,bs)=some (P6 bs es)
 | [],j,k,bs,hd,_,hk,_=>by
  obtain⟨k,rfl⟩:∃ k',k=k'+1:=⟨k - 1,by simp at hk; omega⟩
  rw[zK];generalize lp xZ k=rec;unfold xZ;have:=wc hd;rw[qJ,hr,af,decide_eq_false (show ¬(j:Int)<((aa r:Nat):Int) by omega),cond_false]
  rfl
 | c::es,j,k,bs,hd,hc,hk,hb=>by
  obtain⟨k,rfl⟩:∃ k',k=k'+1:=⟨k - 1,by simp at hk; omega⟩
  simp only[au] at hk hb;have hlt:=yk hd;have hc0:=hc c (am ..);rw[zK];have key:=fun bs hb=>EP hr L T C hrl es (j+1) k bs (zm hd) (fun c h=>hc c (ai _ h)) (by omega) hb
  generalize lp xZ k=rec at key ⊢;unfold xZ;have w1:ah .i64 ((j:Int)+1)=((j+1:Nat):Int):=by rw[zC]<;>omega
  have w2:ah .i64 ((-1) - c) = -1 - c:=by rw[zC]<;>omega
  have w3:ah .i64 ((-1) - ((aa bs:Nat):Int)) = -1 - (bs.length:Int):=by rw[zC]<;>omega
  simp only[qJ,hr,af,zv hd,w1,w2,w3];rw[decide_eq_true (show (j:Int)<((aa r:Nat):Int) by omega),cond_true]
  show _=some (P6 (Ph bs c) es);unfold Ph;by_cases h0:c<0
  ·rw[decide_eq_true h0,cond_true,aU];rcases LH (s:=bs) (by omega) (-1 - c) with ⟨h1,h2⟩ | ⟨q,e,h1,h2,h3⟩
   ·rw[h2,af,show decide ((-1:Int)<0)=true from rfl,cond_true,zy (by simp; omega),cond_true,key _ (by simp; omega),h1]
    rfl
   ·rw[h1,af,decide_eq_false (show ¬(q:Int)<0 by omega),cond_false,key _ (by omega),h3]
    rfl
  ·rw[decide_eq_false h0,cond_false,bl,cond_false,key _ (by omega)]
theorem H7 {rows:List jI} (L:List zg) (T:List jI) (C:List zg) (hrows:∀ r∈rows,kj r):(es:List jI)->(i:Nat)->(bs:List (Int×List Int))->rows.drop i=es->bs.length+zu es<=1000 ->
  qV rows L T C es i bs=some (es.foldl P6 bs)
 | [],_,_,_,_=>rfl
 | e::es,i,bs,hd,hb=>by
  have hg:=zv hd;have he:=hrows e (aO hg);have hs:zu (e::es)=e.length+zu es:=by simp [zu]
  unfold qV;have:=EP hg L T C he.1 e 0 zd bs rfl he.2 (by have:=he.1; unfold zd; omega) (by omega)
  rw[show ((0:Nat):Int)=0 from rfl] at this
  have hl:=NZ e bs;rw[this,af,H7 L T C hrows es (i+1) _ (zm hd) (by omega)]
  rfl
structure Rl (s:VV) (bs:List (Int×List Int)):Prop where
 cnt:(bs.length:Int)=s.2
 at_:∀ v:Nat,t9 bs (v:Int)=if s.1.getD v 0=0 then none else some [-(s.1.getD v 0)]
 one:∀ b∈bs,b.2.length=1
theorem Gd (bs:List (Int×List Int)) (v w:Int) (t:List Int):t9 (bs++[(v,t)]) w=match t9 bs w with
  | some u=>some u
  | none=>cond (v==w) (some t) none:=by
 unfold t9;rw[List.find?_append];cases h:bs.find? fun b=>b.1==w with
 | some b=>rfl
 | none =>
  simp only[Option.none_or,ef,List.find?_nil,Option.map_none];cases v==w<;>rfl
theorem rl0:Rl (ax 24 (0:Int),0) [] where
 cnt:=rfl
 at_:=fun v=>by
  rw[if_pos]
  ·rfl
  ·show (ax 24 (0:Int)).getD v 0=0;rw[aA,bD];split<;>rfl
 one:=fun _ h=>(nomatch h)
theorem Rl.ok {s:VV} {bs:List (Int×List Int)} (h:Rl s bs) (hI:RenI s):BindsOk bs where
 len:=by have:=h.cnt; have:=hI.next; omega
 all:=fun b hb=>by
  have:=h.one b hb;exact ⟨fun e=>by rw[e] at this; simp at this,by omega⟩
theorem Rl.step {s:VV} {bs:List (Int×List Int)} (h:Rl s bs) (hI:RenI s) {c:Int} (hc : -24<=c):Rl (Xy s c).2 (Ph bs c):=by
 unfold Xy Ph;by_cases h0:c≥0
 ·rw[decide_eq_true h0,cond_true,decide_eq_false (show ¬ c<0 by omega),bl,cond_false]
  exact h
 ·rw[decide_eq_false h0,cond_false,decide_eq_true (show c<0 by omega),aU]
  obtain⟨v,rfl⟩:∃ v:Nat,c = -1 - (v:Int):=⟨(-1 - c).toNat,by omega⟩
  have e1:(-1 - (-1 - (v:Int)))=(v:Int):=by omega
  rw[e1,bx,h.at_ v];by_cases hz:s.1.getD v 0=0
  ·rw[if_pos hz,show (s.1.getD v 0==0)=true from by rw[hz]; rfl,cond_true,show (none:Option jI).isNone=true from rfl,cond_true]
   have hv:v<s.1.length:=by rw[hI.len]; omega
   have hcnt:=h.cnt;refine ⟨by show (((bs++[_]).length:Nat):Int)=s.2+1; rw[az,← hcnt]; simp,fun w => ?_,fun b hb => ?_⟩
   ·rw[Gd,h.at_ w];show _=if (s.1.set v (s.2+1)).getD w 0=0 then none else some [-((s.1.set v (s.2+1)).getD w 0)]
    rw[uM hv];have hn:=hI.next;by_cases hw:w=v
    ·subst hw;rw[if_pos hz,if_pos rfl,if_neg (show ¬ s.2+1=0 by omega)]
     simp only[beq_self_eq_true,cond_true];rw[show -1 - (bs.length:Int) = -(s.2+1) from by omega]
    ·rw[if_neg hw];by_cases hz2:s.1.getD w 0=0
     ·rw[if_pos hz2];simp only;rw[show (((v:Nat):Int)==((w:Nat):Int))=false from by simp; omega]
      rfl
     ·rw[if_neg hz2]
   ·rcases aW.1 hb with hb | hb
    ·exact h.one b hb
    ·rw[bF.1 hb]; rfl
  ·rw[if_neg hz,show (s.1.getD v 0==0)=false from by simpa using hz,cond_false]
   exact h
theorem Rl.row:(r:List Int)->{s:VV}->{bs:List (Int×List Int)}->Rl s bs->RenI s->(∀ c∈r,-24<=c)->Rl (tq s r).2 (P6 bs r)
 | [],_,_,h,_,_=>h
 | c::r,s,bs,h,hI,hc=>by
  have h1:=h.step hI (hc c (am ..));exact Rl.row r h1 (Jw hI (hc c (am ..))).1 fun d hd=>hc d (ai _ hd)
theorem Rl.lits:(ls:List zg)->{s:VV}->{bs:List (Int×List Int)}->Rl s bs->RenI s->(∀ l∈ls,∀ c∈l.2,-24<=c)->Rl (xD s ls).2 ((ls.map (·.2)).foldl P6 bs)
 | [],_,_,h,_,_=>h
 | l::ls,s,bs,h,hI,hc=>by
  have h1:=h.row l.2 hI (hc l (am ..));exact Rl.lits ls h1 (jt l.2 hI (hc l (am ..))).1 fun d hd=>hc d (ai _ hd)
theorem Rl.rows:(ls:List jI)->{s:VV}->{bs:List (Int×List Int)}->Rl s bs->RenI s->(∀ l∈ls,∀ c∈l,-24<=c)->Rl (vK s ls).2 (ls.foldl P6 bs)
 | [],_,_,h,_,_=>h
 | l::ls,s,bs,h,hI,hc=>by
  have h1:=h.row l hI (hc l (am ..));exact Rl.rows ls h1 (jt l hI (hc l (am ..))).1 fun d hd=>hc d (ai _ hd)
theorem Kj {f:VV} (hI:RenI f) {bs:List (Int×List Int)} (h:Rl f bs):(r:List Int)->(∀ c∈r,-24<=c)->(∀ x,zad r x->f.1.getD x.toNat 0≠0)->onB bs r=uv (fun v=>.v (rho f v)) r
 | [],_,_=>rfl
 | c::r,hc,hz=>by
  have ih:=Kj hI h r (fun d hd=>hc d (ai _ hd)) fun x ⟨d,hd,h1⟩=>hz x ⟨d,ai _ hd,h1⟩;have hc0:=hc c (am ..);unfold onB uv at ih ⊢;rw[bv,bv,ih]
  congr 1
  unfold onC kY;by_cases h0:c≥0
  ·rw[decide_eq_true h0,cond_true,if_neg (by omega)]
  ·rw[decide_eq_false h0,cond_false,if_pos (by omega)]
   obtain⟨v,rfl⟩:∃ v:Nat,c = -1 - (v:Int):=⟨(-1 - c).toNat,by omega⟩
   have e1:(-1 - (-1 - (v:Int)))=(v:Int):=by omega
   have hv:=hz (v:Int) ⟨_,am ..,by omega,by omega⟩
   rw[bx] at hv;rw[e1,h.at_ v,if_neg hv,bx];have:=hI.rng v;unfold rho;show [-(f.1.getD v 0)]=[-1 - (((f.1.getD v 0).toNat - 1:Nat):Int)]
   congr 1
   omega
theorem ST {L:List zg} {T:List jI} {C:List zg} (hc:∀ r∈v5 L T C,Cds r) (hl:L.length<=100) (ht:T.length<=100) (hcl:C.length<=100) (hsum:zu (L.map (·.2))+zu T+zu (C.map (·.2))<=1000):Qc L T C=some (tV L T C):=by
 have cL:∀ l∈L,Cds l.2:=fun l h=>hc _ (jC h);have cT:∀ l∈T,Cds l:=fun l h=>hc _ (j9 h);have cC:∀ l∈C,Cds l.2:=fun l h=>hc _ (ki h);have mL:∀ l,l∈zF L []↔l∈L:=fun l=>by simpa using qr (x:=l) L []
 have mT:∀ l,l∈zF T []↔l∈T:=fun l=>by simpa using qr (x:=l) T []
 have mC:∀ l,l∈zF C []↔l∈C:=fun l=>by simpa using qr (x:=l) C []
 have lL:=xv L [];have lT:=xv T [];have lC:=xv C [];simp only[bH,aL] at lL lT lC;have big:∀ r:List Int,Cds r->r.length<=1000000:=fun r h=>by have:=h.1; omega
 unfold Qc;rw[LN (fun l h=>big _ (cL l h)) (by omega),af,LN (fun l h=>big _ (cC l h)) (by omega),af,
  Yi _ _ _ _ _ _ (by unfold maxLen; omega),Ik (fun l h=>big _ (cT l h)) T 0 [] rfl (fun _ h=>(nomatch h)) (by simp; omega),af]
 simp only;rw[Q4 _ _ _ (by omega) (by omega) (by omega),af]
 have nr:∀ r∈(zF L []).map (·.2)++zF T []++(zF C []).map (·.2),Cds r:=fun r hr=>by
  rcases aW.1 hr with hr | hr
  ·rcases aW.1 hr with hr | hr
   ·obtain⟨l,hl,rfl⟩:=ba.1 hr; exact cL l ((mL l).1 hl)
   ·exact cT r ((mT r).1 hr)
  ·obtain⟨l,hl,rfl⟩:=ba.1 hr; exact cC l ((mC l).1 hl)
 have sL:zu ((zF L []).map (·.2))<=zu (L.map (·.2)):=by
  have:=kw (fun l:zg=>l.2.length) L [];have h4:(([]:List zg).map (fun l:zg=>l.2.length)).sum=0:=rfl;rw[h4,aL] at this;unfold zu;rw[cp,cp];exact this
 have sC:zu ((zF C []).map (·.2))<=zu (C.map (·.2)):=by
  have:=kw (fun l:zg=>l.2.length) C [];have h4:(([]:List zg).map (fun l:zg=>l.2.length)).sum=0:=rfl;rw[h4,aL] at this;unfold zu;rw[cp,cp];exact this
 have sT:zu (zF T [])<=zu T:=by
  have:=kw aa T [];unfold zu;simpa using this
 rw[Yc _ _ _ _ _ (by simp only[az,aT]; unfold maxLen; omega),H7 _ _ _ (fun r hr=>(nr r hr).near) _ 0 [] bV (by rw[Y2,Y2]; simp only[bH]; omega),af,ew,ew]
 -- the numbering
 obtain⟨a1,a2,a3,a4⟩:=sY (zF L []) zeU fun l hl=>fun c h=>((cL l ((mL l).1 hl)).2 c h).1;obtain⟨b1,b2,b3,b4⟩:=Qn (zF T []) a1 fun l hl=>fun c h=>((cT l ((mT l).1 hl)).2 c h).1;obtain⟨c1,c2,c3,c4⟩:=sY (zF C []) b1 fun l hl=>fun c h=>((cC l ((mC l).1 hl)).2 c h).1;have r1:=rl0.lits (zF L []) zeU fun l hl=>fun c h=>((cL l ((mL l).1 hl)).2 c h).1;have r2:=r1.rows (zF T []) a1 fun l hl=>fun c h=>((cT l ((mT l).1 hl)).2 c h).1;have r3:=r2.lits (zF C []) b1 fun l hl=>fun c h=>((cC l ((mC l).1 hl)).2 c h).1;have nz1:∀ x,GP ((zF L []).map (·.2)) x->(xD (vK (xD (ax 24 0,0) (zF L [])).2 (zF T [])).2 (zF C [])).2.1.getD x.toNat 0≠0:=fun x hx=>by
  have:=a3 x hx;rw[c2 _ (by rw[b2 _ this]; exact this),b2 _ this]
  exact this
 have nz2:∀ x,GP (zF T []) x->(xD (vK (xD (ax 24 0,0) (zF L [])).2 (zF T [])).2 (zF C [])).2.1.getD x.toNat 0≠0:=fun x hx=>by
  have:=b3 x hx;rw[c2 _ this];exact this
 rw[H5 (r3.ok c1) (fun l h=>(cL l ((mL l).1 h)).near) (fun l h=>(cT l ((mT l).1 h)).near) (fun l h=>(cC l ((mC l).1 h)).near) (by omega) (by omega) (by omega),af]
 unfold tV zc6;rw[a4 _ (b2.trans c2),b4 _ c2,c4 _ (ExtS.refl _)];have eL:VE _ (zF L [])=vI _ (zF L []):=bY fun l h=>by
  show (l.1,_)=(l.1,_);rw[Kj c1 r3 l.2 (fun c hh=>((cL l ((mL l).1 h)).2 c hh).1) fun x hx=>nz1 x ⟨_,bg h,hx⟩]
 have eT:Cb _ (zF T [])=(zF T []).map _:=bY fun l h=>Kj c1 r3 l (fun c hh=>((cT l ((mT l).1 h)).2 c hh).1) fun x hx=>nz2 x ⟨_,h,hx⟩;have eC:VE _ (zF C [])=vI _ (zF C []):=bY fun l h=>by
  show (l.1,_)=(l.1,_);rw[Kj c1 r3 l.2 (fun c hh=>((cC l ((mC l).1 h)).2 c hh).1) fun x hx=>c3 x ⟨_,bg h,hx⟩]
 rw[eL,eT,eC]
theorem I1 {a0:List zl} (_hs:SignOk a0) {L:List zg} {T:List jI} {C:List zg} (h:sx a0 L T C=true):L.length<=5∧T.length<=3∧C.length<=3∧zu (L.map (·.2))+zu T+zu (C.map (·.2))<=1000:=by
 obtain⟨-,h1,h2,h3,-,-,-,h7⟩:=qw h;exact ⟨h1,h2,h3,by omega⟩
theorem Or {α:Type} (xs:List α) {i:Nat} (h:i<=xs.length):vJ xs (some (i:Int)) none=some (xs.drop i):=by
 show slc xs (i:Int) (xs.length:Int)=some _;unfold slc;rw[decide_eq_true (show (0:Int)<=(i:Int) by omega),decide_eq_true (show (i:Int)<=(xs.length:Int) by omega),decide_eq_true (show (xs.length:Int)<=((xs.length:Nat):Int) by omega)]
 simp
theorem XY {α:Type} (s:Nat):(es:List α)->(i:Nat)->s<i->qH (s:Int) es i=es
 | [],_,_=>rfl
 | e::es,i,h=>by
  show cond ((i:Int) != (s:Int)) (e::qH (s:Int) es (i+1)) (qH (s:Int) es (i+1))=_;rw[show ((i:Int) != (s:Int))=true from by simp; omega,cond_true,XY s es (i+1) (by omega)]
theorem YI {α:Type} (s:Nat):(es:List α)->(i:Nat)->i<=s->s<i+es.length->qH (s:Int) es i=es.take (s - i)++es.drop (s - i+1)
 | [],i,h,h2=>by simp at h2; omega
 | e::es,i,h,h2=>by
  show cond ((i:Int) != (s:Int)) (e::qH (s:Int) es (i+1)) (qH (s:Int) es (i+1))=_;simp only[au] at h2;by_cases he:i=s
  ·subst he;rw[show ((i:Int) != (i:Int))=false from by simp,cond_false,XY i es (i+1) (by omega)]
   simp
  ·rw[show ((i:Int) != (s:Int))=true from by simp; omega,cond_true,YI s es (i+1) (by omega) (by omega)]
   rw[show s - i=(s - (i+1))+1 from by omega]
   rfl
theorem JZ {L:List zg} {i:Int} (h:vr L i=true) (hl:L.length<=1000):tx L i=some (qH i L 0):=by
 unfold vr at h;simp only[ap,decide_eq_true_eq] at h;obtain⟨k,rfl⟩:∃ k:Nat,i=(k:Int):=⟨i.toNat,by omega⟩
 have w1:ah .i64 ((k:Int)+1)=((k+1:Nat):Int):=by rw[zC]<;>omega
 unfold tx;rw[w1,NA L (by omega),af,zy (by simp; omega),cond_true,Or L (by omega),af,zy (by simp; omega),cond_true,YI k L 0 (by omega) (by omega)]
 simp
theorem Nv {σ:Sb} (hsh:xR σ (aR 24)=true) {L:List zg} {T:List jI} {C:List zg} (hL:∀ l∈L,Cds l.2) (hT:∀ r∈T,Cds r) (hC:∀ l∈C,Cds l.2) (h1:L.length<=1000) (h2:T.length<=1000) (h3:C.length<=1000) :
  ru (tt σ) L T C=some (vI σ L,T.map (uv σ),vI σ C):=by
 rw[H5 (Du hsh) (fun l hl=>(hL l hl).near) (fun r hr=>(hT r hr).near) (fun l hl=>(hC l hl).near) h1 h2 h3,
  XC fun l hl c hc=>((hL l hl).2 c hc).1,XC fun l hl c hc=>((hC l hl).2 c hc).1,DJ fun r hr c hc=>((hT r hr).2 c hc).1]
theorem Fr {a0:List zl} {σ:Sb} (hs:SignOk a0) (hsh:xR σ (aR 24)=true) {L:List zg} {T:List jI} {C:List zg} (hL:∀ l∈L,Cds l.2) (hT:∀ r∈T,Cds r) (hC:∀ l∈C,Cds l.2) (h1:L.length<=1000) (h2:T.length<=1000) (h3:C.length<=1000) (k:Int) :
  ((Zz a0 (tt σ) L T C).bind fun r40=>cond (!r40.2.2.1) (Gv k) (some (r40.1,r40.2.1,true,(0:Int),r40.2.2.2)))=Ke a0 σ L T C k:=by
 unfold Zz Ke;rw[Nv hsh hL hT hC h1 h2 h3,af];simp only;rw[uK,af];cases hm:sx a0 (vI σ L) (T.map (uv σ)) (vI σ C) with
 | false=>rfl
 | true =>
  obtain⟨l1,l2,l3,l4⟩:=I1 hs hm;rw[aH,cond_false,ST (Fz hs hm) (by omega) (by omega) (by omega) l4]
  rfl
theorem Dv (L:List zg) (T:List jI) (C:List zg) (i:Int):rI L T C i=some (vr L i):=by
 unfold rI vr;by_cases h:i≥0
 ·rw[decide_eq_true h,cond_true,aU]
 ·rw[decide_eq_false h,cond_false,bl]
def wY (rec:(jS×jI×Int×Int)->Option Int) (x:(jS×jI×Int×Int)):Option Int :=
 cond (decide (x.2.2.2<((aa x.2.1:Nat):Int)))
 ((gx x.2.1 x.2.2.2).bind fun e4 =>
  cond (decide (e4<0))
  (rec (x.1,x.2.1,(ah .i64 (x.2.2.1+1)),(ah .i64 (x.2.2.2+1))))
  ((gx x.2.1 x.2.2.2).bind fun e5 =>
   (gx x.1 e5).bind fun e6 =>
   rec (x.1,x.2.1,(ah .i64 (x.2.2.1+e6.2.2.2)),(ah .i64 (x.2.2.2+1)))))
 (some x.2.2.1)
def rB (a0:jS) (a1:jI):Option Int :=
 ((lp wY zd) (a0,a1,0,0)).bind fun r8 =>
 some r8
def wX (rec:(jI×jI×Int×Int×Int)->Option Int) (x:(jI×jI×Int×Int×Int)):Option Int :=
 cond (decide (x.2.2.2.2<((aa x.2.1:Nat):Int)))
 ((gx x.2.1 x.2.2.2.2).bind fun e5 =>
  cond (e5==(ah .i64 ((-1) - x.2.2.1)))
  (rec (x.1,x.2.1,x.2.2.1,(ah .i64 (x.2.2.2.1 - 1)),(ah .i64 (x.2.2.2.2+1))))
  (rec (x.1,x.2.1,x.2.2.1,x.2.2.2.1,(ah .i64 (x.2.2.2.2+1)))))
 (some x.2.2.2.1)
def w6 (rec:(jI×jI×Int×Int×Int)->Option Int) (x:(jI×jI×Int×Int×Int)):Option Int :=
 cond (decide (x.2.2.2.2<((aa x.1:Nat):Int)))
 ((gx x.1 x.2.2.2.2).bind fun e2 =>
  cond (e2==(ah .i64 ((-1) - x.2.2.1)))
  (rec (x.1,x.2.1,x.2.2.1,(ah .i64 (x.2.2.2.1+1)),(ah .i64 (x.2.2.2.2+1))))
  (rec (x.1,x.2.1,x.2.2.1,x.2.2.2.1,(ah .i64 (x.2.2.2.2+1)))))
 (some x.2.2.2.1)
def wa (rec:(jI×jI×Int)->Option (Unit⊕Bool)) (x:(jI×jI×Int)):Option (Unit⊕Bool) :=
 cond (decide (x.2.2<=23))
 (((lp w6 zd) (x.1,x.2.1,x.2.2,0,0)).bind fun r7 =>
  ((lp wX zd) (x.1,x.2.1,x.2.2,r7,0)).bind fun r8 =>
  cond (decide (r8<0))
  (some (aD false))
  (rec (x.1,x.2.1,(ah .i64 (x.2.2+1)))))
 (some (aS ()))
def Zq (a0:jI) (a1:jI):Option Bool :=
 ((lp wa zd) (a0,a1,0)).bind fun r12 =>
 yt r12
 (fun _z13=>some true)
 (fun z14=>some z14)
def vo (rf:((jS×jI×jI)->Option Bool)) (rec:(jS×jR×jR×Int)->Option (Unit⊕Bool)) (x:(jS×jR×jR×Int)):Option (Unit⊕Bool) :=
 cond (decide (x.2.2.2<((aa x.2.1:Nat):Int)))
 ((gx x.2.1 x.2.2.2).bind fun e20 =>
  (gx x.2.2.1 x.2.2.2).bind fun e21 =>
  (qX e20 e21).bind fun r22 =>
  cond (!r22)
  ((gx x.2.1 x.2.2.2).bind fun e23 =>
   (gx x.2.2.1 x.2.2.2).bind fun e24 =>
   (rf (x.1,e23,e24)).bind fun r25 =>
   some (aD r25))
  (rec (x.1,x.2.1,x.2.2.1,(ah .i64 (x.2.2.2+1)))))
 (some (aS ()))
def ZS (rf:((jS×jI×jI)->Option Bool)) (a0:jS) (a1:jI) (a2:jI):Option Bool :=
 (rB a0 a1).bind fun r29 =>
 (rB a0 a2).bind fun r30 =>
 (Zq a1 a2).bind fun r31 =>
 cond (!r31)
 (some false)
 (cond (decide (r29<r30))
  (some false)
  (cond (decide (r29>r30))
   (cond (decide (r29>r30))
    (some true)
    ((gx a1 0).bind fun e32 =>
     (gx a2 0).bind fun e33 =>
     some (decide (e32>e33))))
   ((gx a1 0).bind fun e34 =>
    (gx a2 0).bind fun e35 =>
    cond (e34 != e35)
    (cond (decide (r29>r30))
     (some true)
     ((gx a1 0).bind fun e36 =>
      (gx a2 0).bind fun e37 =>
      some (decide (e36>e37))))
    ((vJ a1 (some 1) none).bind fun y38 =>
     (zD a0 y38).bind fun r39 =>
     (vJ a2 (some 1) none).bind fun y40 =>
     (zD a0 y40).bind fun r41 =>
     ((lp (vo rf) zd) (a0,r39,r41,0)).bind fun r42 =>
     yt r42
     (fun _z43=>some false)
     (fun z44=>some z44)))))
def Xe (rf:((jS×jI×jI)->Option Bool)):((jS×jI×jI)->Option Bool) :=
 fun (x:(jS×jI×jI))=>ZS rf x.1 x.2.1 x.2.2
def Xf:((jS×jI×jI)->Option Bool):=fun _=>none
def t8 (k:Nat):((jS×jI×jI)->Option Bool):=lpR Xf Xe k
def Yu (a0:jS) (a1:jI) (a2:jI):Option Bool:=(t8 zd) (a0,a1,a2)
def rq (a0:jS) (a1:jI) (a2:jI):Option Int :=
 (qX a1 a2).bind fun r4 =>
 cond r4
 (some 1)
 ((Yu a0 a1 a2).bind fun r5 =>
  cond r5
  (some 2)
  ((Yu a0 a2 a1).bind fun r6 =>
   cond r6
   (some 0)
   (some 3)))
def tN (a0:jS) (a1:Bool) (a2:jI) (a3:Bool) (a4:jI):Option Int :=
 (rq a0 a2 a4).bind fun r2 =>
 cond (r2 != 1)
 (some r2)
 (cond (a1==a3)
  (some r2)
  (cond a1
   (some 2)
   (some 0)))
def uA (rec:(jS×jQ×Int×Int)->Option (Unit⊕Bool)) (x:(jS×jQ×Int×Int)):Option (Unit⊕Bool) :=
 cond (decide (x.2.2.2<((aa x.2.1:Nat):Int)))
 ((gx x.2.1 x.2.2.2).bind fun e4 =>
  (gx x.2.1 x.2.2.1).bind fun e5 =>
  (tN x.1 e4.1 e4.2 e5.1 e5.2).bind fun r6 =>
  cond (r6==2)
  (some (aD false))
  (rec (x.1,x.2.1,x.2.2.1,(ah .i64 (x.2.2.2+1)))))
 (some (aS ()))
def Xp (a0:jS) (a1:jQ) (a2:Int):Option Bool :=
 ((lp uA zd) (a0,a1,a2,0)).bind fun r10 =>
 yt r10
 (fun _z11=>some true)
 (fun z12=>some z12)
def y0 (rec:(jS×Int×jI×Int×jQ×jR×jQ)->Option (Unit⊕Bool)) (x:(jS×Int×jI×Int×jQ×jR×jQ)):Option (Unit⊕Bool) :=
 cond (decide (x.2.2.2.1<x.2.1))
 ((gx x.2.2.2.2.1 x.2.2.2.1).bind fun e15 =>
  (gx x.2.2.2.2.1 x.2.1).bind fun e16 =>
  cond (!(e15.1==e16.1))
  ((gx x.2.2.2.2.1 x.2.2.2.1).bind fun e17 =>
   (qX e17.2 x.2.2.1).bind fun r18 =>
   cond r18
   (some (aD true))
   (rec (x.1,x.2.1,x.2.2.1,(ah .i64 (x.2.2.2.1+1)),x.2.2.2.2.1,x.2.2.2.2.2.1,x.2.2.2.2.2.2)))
  (rec (x.1,x.2.1,x.2.2.1,(ah .i64 (x.2.2.2.1+1)),x.2.2.2.2.1,x.2.2.2.2.2.1,x.2.2.2.2.2.2)))
 (some (aS ()))
def vF (rec:(jS×Int×jQ×jR×jQ)->Option (Unit⊕Bool)) (x:(jS×Int×jQ×jR×jQ)):Option (Unit⊕Bool) :=
 cond (decide (x.2.1<((aa x.2.2.1:Nat):Int)))
 ((gx x.2.2.1 x.2.1).bind fun e28 =>
  (gx x.2.2.1 x.2.1).bind fun e29 =>
  cond (!e29.1)
  ((gx e28.2 0).bind fun e30 =>
   cond (e30==0)
   ((vJ e28.2 (some 1) none).bind fun y31 =>
    (zD x.1 y31).bind fun r32 =>
    (inR 0 (aa r32)).bind fun k33 =>
    (r32[k33]?).bind fun x34 =>
    (inR 1 (aa r32)).bind fun k35 =>
    (r32[k35]?).bind fun x36 =>
    (qX x34 x36).bind fun r37 =>
    cond r37
    (some (aD true))
    (((lp y0 zd) (x.1,x.2.1,e28.2,0,x.2.2.1,x.2.2.2.1,x.2.2.2.2)).bind fun r38 =>
     yt r38
     (fun _z39=>rec (x.1,(ah .i64 (x.2.1+1)),x.2.2.1,x.2.2.2.1,x.2.2.2.2))
     (fun z40=>some (aD z40))))
   (((lp y0 zd) (x.1,x.2.1,e28.2,0,x.2.2.1,x.2.2.2.1,x.2.2.2.2)).bind fun r41 =>
    yt r41
    (fun _z42=>rec (x.1,(ah .i64 (x.2.1+1)),x.2.2.1,x.2.2.2.1,x.2.2.2.2))
    (fun z43=>some (aD z43))))
  (((lp y0 zd) (x.1,x.2.1,e28.2,0,x.2.2.1,x.2.2.2.1,x.2.2.2.2)).bind fun r44 =>
   yt r44
   (fun _z45=>rec (x.1,(ah .i64 (x.2.1+1)),x.2.2.1,x.2.2.2.1,x.2.2.2.2))
   (fun z46=>some (aD z46))))
 (some (aS ()))
def Qb (a0:jS) (a1:jQ) (a2:jR) (a3:jQ):Option Bool :=
 ((lp vF zd) (a0,0,a1,a2,a3)).bind fun r50 =>
 yt r50
 (fun _z51=>some false)
 (fun z52=>some z52)
def wI (a0:jS) (a1:Int) (a2:Int) (a3:Int) (a4:Int) (a5:Int) (a6:Int) (a7:Int) (a8:Int) (a9:jQ) (a10:jR) (a11:jQ) (a12:Bool) (a13:Int) (a14:jT):Option (Int×jT) :=
 cond (a13 != 0)
 (some ((ah .i64 (a1+1)),a14))
 (cond a12
  ((Qb a0 a9 a10 a11).bind fun r2 =>
   cond (!r2)
   (cond (y9 (aa a14+aa ([(a2,a3,a4,a5,a6,a7,a8,a9,a10,a11)]:List jU)) 128)
    (some (a1,(a14++([(a2,a3,a4,a5,a6,a7,a8,a9,a10,a11)]:List jU))))
    (none))
   (some (a1,a14)))
  (some (a1,a14)))
def yZ (s0:jS):List Int->Int->Option Int
 | [],s2=>some s2
 | e::es,s2 =>
  cond (decide (e<0))
  (yZ s0 es (ah .i64 (s2+1)))
  ((gx s0 e).bind fun e6 =>
   yZ s0 es (ah .i64 (s2+e6.2.2.2)))
theorem ZD (s0:jS) (s1:jI) (s2:Int) (hl:aa s1<=maxLen):lp wY zd (s0,s1,s2,0)=yZ s0 s1 s2:=wG wY (fun i s2=>(s0,s1,s2,i)) (fun es i s2=>yZ s0 es s2) hl (fun r i s2 h=>by unfold wY yZ; simp only[h,cond_false]) (fun r i s2 e es h g w k=>by unfold wY yZ; simp only[h,cond_true,g,af,w,k]) s2
def yu (s2:Int):List Int->Int->Option Int
 | [],s3=>some s3
 | e::es,s3 =>
  cond (e==(ah .i64 ((-1) - s2)))
  (yu s2 es (ah .i64 (s3 - 1)))
  (yu s2 es s3)
theorem ZF (s0:jI) (s1:jI) (s2:Int) (s3:Int) (hl:aa s1<=maxLen):lp wX zd (s0,s1,s2,s3,0)=yu s2 s1 s3:=wG wX (fun i s3=>(s0,s1,s2,s3,i)) (fun es i s3=>yu s2 es s3) hl (fun r i s3 h=>by unfold wX yu; simp only[h,cond_false]) (fun r i s3 e es h g w k=>by unfold wX yu; simp only[h,cond_true,g,af,w,k]) s3
def yv (s2:Int):List Int->Int->Option Int
 | [],s3=>some s3
 | e::es,s3 =>
  cond (e==(ah .i64 ((-1) - s2)))
  (yv s2 es (ah .i64 (s3+1)))
  (yv s2 es s3)
theorem ZB (s0:jI) (s1:jI) (s2:Int) (s3:Int) (hl:aa s0<=maxLen):lp w6 zd (s0,s1,s2,s3,0)=yv s2 s0 s3:=wG w6 (fun i s3=>(s0,s1,s2,s3,i)) (fun es i s3=>yv s2 es s3) hl (fun r i s3 h=>by unfold w6 yv; simp only[h,cond_false]) (fun r i s3 e es h g w k=>by unfold w6 yv; simp only[h,cond_true,g,af,w,k]) s3
def q4 (rf:((jS×jI×jI)->Option Bool)) (s0:jS) (s2:jR):List jI->Nat->Option (Unit⊕Bool)
 | [],_i=>some (aS ())
 | e::es,i =>
  (gx s2 (i:Int)).bind fun e21 =>
  (qX e e21).bind fun r22 =>
  cond (!r22)
  ((gx s2 (i:Int)).bind fun e24 =>
   (rf (s0,e,e24)).bind fun r25 =>
   some (aD r25))
  (q4 rf s0 s2 es (i+1))
theorem Ye (rf:((jS×jI×jI)->Option Bool)) (s0:jS) (s1:jR) (s2:jR) (hl:aa s1<=maxLen):lp (vo rf) zd (s0,s1,s2,0)=q4 rf s0 s2 s1 0:=u3 (vo rf) (fun i=>(s0,s1,s2,i)) (fun es i=>q4 rf s0 s2 es i) hl (fun r i h=>by unfold vo q4; simp only[h,cond_false]) (fun r i e es h g w k=>by unfold vo q4; simp only[h,cond_true,g,af,w,k])
def xy (s0:jS) (s1:jQ) (s2:Int):List zg->Option (Unit⊕Bool)
 | []=>some (aS ())
 | e::es =>
  (gx s1 s2).bind fun e5 =>
  (tN s0 e.1 e.2 e5.1 e5.2).bind fun r6 =>
  cond (r6==2)
  (some (aD false))
  (xy s0 s1 s2 es)
theorem YG (s0:jS) (s1:jQ) (s2:Int) (hl:aa s1<=maxLen):lp uA zd (s0,s1,s2,0)=xy s0 s1 s2 s1:=u3 uA (fun i=>(s0,s1,s2,i)) (fun es i=>xy s0 s1 s2 es) hl (fun r i h=>by unfold uA xy; simp only[h,cond_false]) (fun r i e es h g w k=>by unfold uA xy; simp only[h,cond_true,g,af,w,k])
def yU (s0:jS) (s2:jQ) (s3:jR) (s4:jQ):List zg->Nat->Option (Unit⊕Bool)
 | [],_i=>some (aS ())
 | e::es,i =>
  cond (!e.1)
  ((gx e.2 0).bind fun e30 =>
   cond (e30==0)
   ((vJ e.2 (some 1) none).bind fun y31 =>
    (zD s0 y31).bind fun r32 =>
    (inR 0 (aa r32)).bind fun k33 =>
    (r32[k33]?).bind fun x34 =>
    (inR 1 (aa r32)).bind fun k35 =>
    (r32[k35]?).bind fun x36 =>
    (qX x34 x36).bind fun r37 =>
    cond r37
    (some (aD true))
    (((lp y0 zd) (s0,(i:Int),e.2,0,s2,s3,s4)).bind fun r38 =>
     yt r38
     (fun _z39=>yU s0 s2 s3 s4 es (i+1))
     (fun z40=>some (aD z40))))
   (((lp y0 zd) (s0,(i:Int),e.2,0,s2,s3,s4)).bind fun r41 =>
    yt r41
    (fun _z42=>yU s0 s2 s3 s4 es (i+1))
    (fun z43=>some (aD z43))))
  (((lp y0 zd) (s0,(i:Int),e.2,0,s2,s3,s4)).bind fun r44 =>
   yt r44
   (fun _z45=>yU s0 s2 s3 s4 es (i+1))
   (fun z46=>some (aD z46)))
theorem Yo (s0:jS) (s2:jQ) (s3:jR) (s4:jQ) (hl:aa s2<=maxLen):lp vF zd (s0,0,s2,s3,s4)=yU s0 s2 s3 s4 s2 0:=u3 vF (fun i=>(s0,i,s2,s3,s4)) (fun es i=>yU s0 s2 s3 s4 es i) hl (fun r i h=>by unfold vF yU; simp only[h,cond_false]) (fun r i e es h g w k=>by unfold vF yU; simp only[h,cond_true,g,af,w,k])
theorem Kw (a0:List zl):(es:List Int)->(s:Int)->yZ a0 es s=yO a0 es s
 | [],_=>rfl
 | e::es,s=>by
  unfold yZ yO;rw[Kw a0 es]
  congr 1
  congr 1
  funext e6
  exact Kw a0 es _
theorem Ds (a0:List zl) {r:List Int} (h:r.length<=1000000):rB a0 r=kc a0 r:=by
 unfold rB kc;rw[ZD _ _ _ (by unfold maxLen; omega),sG _ _ _ (by unfold maxLen; omega),Kw]
def YM (r:List Int) (v:Nat):Nat:=r.count (-1 - (v:Int))
theorem LQ (r:List Int) (v:Nat):YM r v<=r.length:=List.count_le_length
theorem YQ (c:Int) (r:List Int) (v:Nat):YM (c::r) v=YM r v+cond (c == -1 - (v:Int)) 1 0:=by
 unfold YM;rw[List.count_cons];cases c == -1 - (v:Int)<;>rfl
theorem KO {v:Nat} (hv:v<24):(es:List Int)->(s:Int) -> -1000000000<=s->s+es.length<=1000000000->yv (v:Int) es s=some (s+(YM es v:Int))
 | [],s,_,_=>by simp [yv,YM]
 | e::es,s,h0,h1=>by
  simp only[au] at h1;unfold yv;have w1:ah .i64 ((-1) - (v:Int)) = -1 - (v:Int):=by rw[zC]<;>omega
  have w2:ah .i64 (s+1)=s+1:=by rw[zC]<;>omega
  rw[w1,w2,YQ];cases e == -1 - (v:Int) with
  | true=>rw[cond_true,cond_true,KO hv es _ (by omega) (by omega)]; congr 1; omega
  | false=>rw[cond_false,cond_false,KO hv es _ (by omega) (by omega)]; congr 1
theorem Ko {v:Nat} (hv:v<24):(es:List Int)->(s:Int) -> -1000000000<=s - es.length->s<=1000000000->yu (v:Int) es s=some (s - (YM es v:Int))
 | [],s,_,_=>by simp [yu,YM]
 | e::es,s,h0,h1=>by
  simp only[au] at h0;unfold yu;have w1:ah .i64 ((-1) - (v:Int)) = -1 - (v:Int):=by rw[zC]<;>omega
  have w2:ah .i64 (s - 1)=s - 1:=by rw[zC]<;>omega
  rw[w1,w2,YQ];cases e == -1 - (v:Int) with
  | true=>rw[cond_true,cond_true,Ko hv es _ (by omega) (by omega)]; congr 1; omega
  | false=>rw[cond_false,cond_false,Ko hv es _ (by omega) (by omega)]; congr 1
def YA (a b:List Int) (vs:List Nat):Bool:=vs.all fun v=>decide (YM b v<=YM a v)
theorem N4 {a b:List Int} (ha:a.length<=1000000) (hb:b.length<=1000000):∀(m v k:Nat),24 - v=m->v<=24->m<k->lp wa k (a,b,(v:Int))=some (cond (YA a b ((aR 24).drop v)) (.inl ()) (.inr false)):=by
 intro m
 induction m with
 | zero =>
  intro v k hm hv hk;obtain⟨k,rfl⟩:∃ k',k=k'+1:=⟨k - 1,by omega⟩
  rw[zK];generalize lp wa k=rec;unfold wa;have:v=24:=by omega
  subst this;rw[show (aR 24).drop 24=[] from rfl]
  rfl
 | succ m ih =>
  intro v k hm hv hk;obtain⟨k,rfl⟩:∃ k',k=k'+1:=⟨k - 1,by omega⟩
  rw[zK];have key:=ih (v+1) k (by omega) (by omega) (by omega)
  generalize lp wa k=rec at key ⊢;unfold wa;have w1:ah .i64 ((v:Int)+1)=((v+1:Nat):Int):=by rw[zC]<;>omega
  have hdr:(aR 24).drop v=v::(aR 24).drop (v+1):=by
   rw[aV (by simp; omega)]
   simp
  have hca:=LQ a v;have hcb:=LQ b v;simp only[decide_eq_true (show (v:Int)<=23 by omega),cond_true,w1]
  rw[ZB _ _ _ _ (by unfold maxLen; omega),KO (by omega) a 0 (by omega) (by omega),af,ZF _ _ _ _ (by unfold maxLen; omega),Ko (by omega) b _ (by omega) (by omega),af,key,hdr]
  unfold YA;rw[b9];by_cases hc:YM b v<=YM a v
  ·rw[decide_eq_false (show ¬(0+(YM a v:Int) - (YM b v:Int)<0) by omega),cond_false,decide_eq_true hc,aU]
  ·rw[decide_eq_true (show 0+(YM a v:Int) - (YM b v:Int)<0 by omega),cond_true,decide_eq_false hc,bl,cond_false]
theorem MB {a b:List Int} (ha:a.length<=1000000) (hb:b.length<=1000000):Zq a b=some (YA a b (aR 24)):=by
 unfold Zq;have:=N4 ha hb 24 0 zd rfl (by omega) (by unfold zd; omega)
 rw[show ((0:Nat):Int)=0 from rfl,bV] at this
 rw[this];cases YA a b (aR 24)<;>rfl
theorem Kv:(es:List Int)->(xs:List Int)->(∀ c∈es,-24<=c)->xs.length=24->(∀ v,v<24->0<=xs.getD v 0∧xs.getD v 0+es.length<=1000000000)->∃ ys,yK es xs=some ys∧ys.length=24∧∀ v,v<24->ys.getD v 0=xs.getD v 0+(YM es v:Int)
 | [],xs,_,hl,_=>⟨xs,rfl,hl,fun v _=>by simp [YM]⟩
 | c::es,xs,hc,hl,hb=>by
  have hc0:=hc c (am ..);simp only[au] at hb;unfold yK;by_cases h0:c<0
  ·obtain⟨u,rfl⟩:∃ u:Nat,c = -1 - (u:Int):=⟨(-1 - c).toNat,by omega⟩
   have hu:u<24:=by omega
   have hbu:=hb u hu;have hg:xs[u]? = some (xs.getD u 0):=by
    rw[aA,al (by omega)]
    rfl
   have w1:ah .i64 (xs.getD u 0+1)=xs.getD u 0+1:=by rw[zC]<;>omega
   rw[decide_eq_true h0,cond_true,wl (by omega) (by omega),af,show -1 - (-1 - (u:Int))=(u:Int) from by omega,xb hu,af,hg,af,af,hg,af,w1]
   obtain⟨ys,g1,g2,g3⟩:=Kv es (xs.set u (xs.getD u 0+1)) (fun d hd=>hc d (ai _ hd)) (by rw[cM]; exact hl) (fun v hv=>by
    rw[uM (by omega)]
    have:=hb v hv;split<;>omega)
   refine ⟨ys,g1,g2,fun v hv => ?_⟩;rw[g3 v hv,uM (by omega),YQ]
   by_cases hvu:v=u
   ·subst hvu;rw[if_pos rfl,show ((-1 - (v:Int)) == -1 - (v:Int))=true from by simp,cond_true]
    omega
   ·rw[if_neg hvu,show ((-1 - (u:Int)) == -1 - (v:Int))=false from by simp; omega,cond_false]
    omega
  ·rw[decide_eq_false h0,cond_false];obtain⟨ys,g1,g2,g3⟩:=Kv es xs (fun d hd=>hc d (ai _ hd)) hl (fun v hv=>by have:=hb v hv; omega)
   refine ⟨ys,g1,g2,fun v hv => ?_⟩;rw[g3 v hv,YQ,show (c == -1 - (v:Int))=false from by simp; omega,cond_false]
   omega
theorem D1 {r:List Int} (hl:r.length<=1000000) (hc:∀ c∈r,-24<=c):∃ ys,t6 r=some ys∧ys.length=24∧∀ v,v<24->ys.getD v 0=(YM r v:Int):=by
 have hz:∀ v,(ax 24 (0:Int)).getD v 0=0:=fun v=>by
  rw[aA,bD];split<;>rfl
 obtain⟨ys,g1,g2,g3⟩:=Kv r (ax 24 (0:Int)) hc (by simp) (fun v _=>by rw[hz]; omega)
 refine ⟨ys,?_,g2,fun v hv=>by rw[g3 v hv,hz]; omega⟩
 unfold t6;rw[jV _ _ (by unfold maxLen; omega),g1,af,g2]
 rfl
theorem Ao {a b xs ys:List Int} (hx:xs.length=24) (hy:ys.length=24) (gx:∀ v,v<24->xs.getD v 0=(YM a v:Int)) (gy:∀ v,v<24->ys.getD v 0=(YM b v:Int)):∀(m v k:Nat),24 - v=m->v<=24->m<k->lp qW k ((v:Int),xs,ys)=some (cond (YA a b ((aR 24).drop v)) (.inl ()) (.inr false)):=by
 intro m
 induction m with
 | zero =>
  intro v k hm hv hk;obtain⟨k,rfl⟩:∃ k',k=k'+1:=⟨k - 1,by omega⟩
  rw[zK];generalize lp qW k=rec;unfold qW;have:v=24:=by omega
  subst this;rw[show (aR 24).drop 24=[] from rfl]
  rfl
 | succ m ih =>
  intro v k hm hv hk;obtain⟨k,rfl⟩:∃ k',k=k'+1:=⟨k - 1,by omega⟩
  rw[zK];have key:=ih (v+1) k (by omega) (by omega) (by omega)
  generalize lp qW k=rec at key ⊢;unfold qW;have w1:ah .i64 ((v:Int)+1)=((v+1:Nat):Int):=by rw[zC]<;>omega
  have hdr:(aR 24).drop v=v::(aR 24).drop (v+1):=by
   rw[aV (by simp; omega)]
   simp
  have h1:xs[v]? = some (YM a v:Int):=by
   rw[← gx v (by omega),aA,al (by omega)]
   rfl
  have h2:ys[v]? = some (YM b v:Int):=by
   rw[← gy v (by omega),aA,al (by omega)]
   rfl
  simp only[decide_eq_true (show (v:Int)<24 by omega),cond_true,w1,xb (show v<24 by omega),af,h1,h2]
  rw[key,hdr];unfold YA;rw[b9];by_cases hc:YM b v<=YM a v
  ·rw[decide_eq_false (show ¬((YM a v:Int)<(YM b v:Int)) by omega),cond_false,decide_eq_true hc,aU]
  ·rw[decide_eq_true (show (YM a v:Int)<(YM b v:Int) by omega),cond_true,decide_eq_false hc,bl,cond_false]
theorem LL {a b:List Int} (ha:a.length<=1000000) (hb:b.length<=1000000) (ca:∀ c∈a,-24<=c) (cb:∀ c∈b,-24<=c):sq a b=some (YA a b (aR 24)):=by
 obtain⟨xs,h1,h2,h3⟩:=D1 ha ca;obtain⟨ys,g1,g2,g3⟩:=D1 hb cb;unfold sq;rw[h1,af,g1,af];have:=Ao (a:=a) (b:=b) h2 g2 h3 g3 24 0 zd rfl (by omega) (by unfold zd; omega)
 rw[show ((0:Nat):Int)=0 from rfl,bV] at this
 rw[show Nat.beq (aa (ax 24 (0:Int))) 24=true from by simp,cond_true,cond_true,this]
 cases YA a b (aR 24)<;>rfl
structure HF (a0:List zl) (a:List Int) (c:Int) (ts:List Tm):Prop where
 eq:a=c::zc ts
 ok:okR a0 24 ts
 len:a.length<=1000
 low : -24<=c
 sym:0<=c->∃ e,gx a0 c=some e
theorem Lp {a0:List zl} (hs:SignOk a0) {t:Tm} (ho:t.ok a0 24) (hl:t.codes.length<=1000):∃ c ts,HF a0 t.codes c ts∧(∀ d us u,u=t->u.codes=d::zc us->True)∧xY ts<t.size:=by
 cases t with
 | v n =>
  have hn:n<24:=ho;exact ⟨-1 - (n:Int),[],⟨rfl,trivial,hl,by omega,fun h=>by omega⟩,fun _ _ _ _ _=>trivial,by simp [xY,Tm.size]⟩
 | f c as =>
  obtain⟨e,he,-⟩:=DQ hs ho.1;exact ⟨(c:Int),as,⟨rfl,ho.2,hl,by omega,fun _=>⟨e,he⟩⟩,fun _ _ _ _ _=>trivial,by simp [Tm.size]⟩
mutual
theorem Tm.syms {a0:List zl} (hs:SignOk a0):(t:Tm)->t.ok a0 24->∀ c∈t.codes,-24<=c∧(0<=c->∃ e,gx a0 c=some e)
 | .v n,ho,c,hc=>by
  have hn:n<24:=ho;have hc:c = -1 - (n:Int):=by simpa[Tm.codes] using hc
  exact ⟨by omega,fun h=>by omega⟩
 | .f d as,ho,c,hc=>by
  rcases aI.1 (show c∈(d:Int)::zc as from hc) with rfl | hc
  ·obtain⟨e,he,-⟩:=DQ hs ho.1;exact ⟨by omega,fun _=>⟨e,he⟩⟩
  ·exact Ts hs as ho.2 c hc
theorem Ts {a0:List zl} (hs:SignOk a0):(ts:List Tm)->okR a0 24 ts->∀ c∈zc ts,-24<=c∧(0<=c->∃ e,gx a0 c=some e)
 | [],_,_,hc=>by simp [zc] at hc
 | t::ts,ho,c,hc=>by
  rcases aW.1 (show c∈t.codes++zc ts from hc) with hc | hc
  ·exact Tm.syms hs t ho.1 c hc
  ·exact Ts hs ts ho.2 c hc
end
theorem HF.syms {a0:List zl} (hs:SignOk a0) {a:List Int} {c:Int} {ts:List Tm} (h:HF a0 a c ts):∀ d∈a,-24<=d∧(0<=d->∃ e,gx a0 d=some e):=fun d hd=>by
 rw[h.eq] at hd;rcases aI.1 hd with rfl | hd
 ·exact ⟨h.low,h.sym⟩
 ·exact Ts hs ts h.ok d hd
theorem Xc {a0:List zl}:(es:List Int)->(s:Int)->(∀ d∈es,-24<=d∧(0<=d->∃ e,gx a0 d=some e))->∃ r,yO a0 es s=some r
 | [],s,_=>⟨s,rfl⟩
 | e::es,s,h=>by
  unfold yO;have ih:=fun s=>Xc es s fun d hd=>h d (ai _ hd);by_cases h0:e<0
  ·rw[decide_eq_true h0]; exact ih _
  ·obtain⟨x,hx⟩:=(h e (am ..)).2 (by omega)
   rw[decide_eq_false h0,cond_false,hx];exact ih _
theorem HF.sum {a0:List zl} (hs:SignOk a0) {a:List Int} {c:Int} {ts:List Tm} (h:HF a0 a c ts):∃ r,kc a0 a=some r:=by
 have:=h.len;obtain⟨r,hr⟩:=Xc a 0 (h.syms hs);refine ⟨r,?_⟩;unfold kc;rw[sG _ _ _ (by unfold maxLen; omega),hr]
 rfl
def ZI:List Tm->List Tm->Option (Tm×Tm)
 | t::ts,u::us=>if t.codes=u.codes then ZI ts us else some (t,u)
 | _,_=>none
theorem Wq:{ts us:List Tm}->{p:Tm×Tm}->ZI ts us=some p->p.1∈ts∧p.2∈us∧p.1.codes≠p.2.codes
 | [],_,_,h=>by cases h
 | _::_,[],_,h=>by cases h
 | t::ts,u::us,p,h=>by
  unfold ZI at h;split at h
  ·obtain⟨h1,h2,h3⟩:=Wq h;exact ⟨ai _ h1,ai _ h2,h3⟩
  ·rename_i hne;injection h with h;subst h;exact ⟨am ..,am ..,hne⟩
theorem XX:{ts us:List Tm}->ts.length=us.length->ZI ts us=none->zc ts=zc us
 | [],[],_,_=>rfl
 | [],_::_,h,_=>by simp at h
 | _::_,[],h,_=>by simp at h
 | t::ts,u::us,hl,h=>by
  unfold ZI at h;split at h
  ·rename_i he;show t.codes++zc ts=u.codes++zc us;rw[he,XX (by simpa using hl) h]
  ·cases h
theorem Je {usA:List Tm} (hsm:∀ t∈usA,t.codes.length<=1000):(ts us:List Tm)->(i:Nat)->usA.drop i=us->ts.length=us.length->(∀ t∈ts,t.codes.length<=1000)->yo (usA.map Tm.codes) (ts.map Tm.codes) i=some (match ZI ts us with
  | none=>.inl ()
  | some p=>.inr (p.1.codes,p.2.codes))
 | [],[],i,_,_,_=>rfl
 | [],_::_,_,_,h,_=>by simp at h
 | _::_,[],_,_,h,_=>by simp at h
 | t::ts,u::us,i,hd,hl,hsmt=>by
  have hi:=yk hd;have hg:=zv hd;have ht:=hsmt t (am ..);rw[aM];unfold yo ZI;rw[aT,decide_eq_true (show (i:Int)<(usA.length:Int) by omega),cond_true,qJ,bt,hg]
  simp only[bu,af];rw[xK (by unfold maxLen; omega),af]
  by_cases he:t.codes=u.codes
  ·rw[decide_eq_true he,aH,cond_false,if_pos he];exact Je hsm ts us (i+1) (zm hd) (by simpa using hl) fun t h=>hsmt t (ai _ h)
  ·rw[decide_eq_false he,bM,cond_true,if_neg he]
theorem H8 {a0:List zl} {rf:(List zl×List Int×List Int)->Option Bool} {usA:List Tm}:(ts us:List Tm)->(i:Nat)->usA.drop i=us->ts.length=us.length->(∀ t∈ts,t.codes.length<=1000)->q4 rf a0 (usA.map Tm.codes) (ts.map Tm.codes) i=(match ZI ts us with
  | none=>some (.inl ())
  | some p=>(rf (a0,p.1.codes,p.2.codes)).bind fun r=>some (.inr r))
 | [],[],i,_,_,_=>rfl
 | [],_::_,_,_,h,_=>by simp at h
 | _::_,[],_,_,h,_=>by simp at h
 | t::ts,u::us,i,hd,hl,hsmt=>by
  have hg:=zv hd;have ht:=hsmt t (am ..);rw[aM];unfold q4 ZI;rw[qJ,bt,hg];simp only[bu,af];rw[ks (by omega),af]
  by_cases he:t.codes=u.codes
  ·rw[decide_eq_true he,aH,cond_false,if_pos he];exact H8 ts us (i+1) (zm hd) (by simpa using hl) fun t h=>hsmt t (ai _ h)
  ·rw[decide_eq_false he,bM,cond_true,if_neg he]
theorem Nj {a0:List zl} (hs:SignOk a0) {t u:Tm} (ht:t.ok a0 24) (hu:u.ok a0 24) (hlt:t.codes.length<=1000) (hlu:u.codes.length<=1000):∃ c ts d us,HF a0 t.codes c ts∧HF a0 u.codes d us∧(c=d->ts.length=us.length):=by
 obtain⟨c,ts,h1,-,-⟩:=Lp hs ht hlt;obtain⟨d,us,h2,-,-⟩:=Lp hs hu hlu;have inj:∀{c c':Int} {r r':List Int},c::r=c'::r'->c=c'∧r=r':=fun h=>by injection h with a b; exact ⟨a,b⟩
 refine ⟨c,ts,d,us,h1,h2,fun hcd => ?_⟩;cases t with
 | v n =>
  obtain⟨e1,e2⟩:=inj (show (-1 - (n:Int))::[]=c::zc ts from h1.eq)
  have e3:ts=[]:=uw (a0:=a0) _ ts [] (aE _) h1.ok trivial e2.symm;cases u with
  | v m =>
   obtain⟨-,e5⟩:=inj (show (-1 - (m:Int))::[]=d::zc us from h2.eq)
   have e6:us=[]:=uw (a0:=a0) _ us [] (aE _) h2.ok trivial e5.symm;rw[e3,e6]
  | f q bs =>
   obtain⟨e4,-⟩:=inj (show (q:Int)::zc bs=d::zc us from h2.eq)
   omega
 | f p as =>
  obtain⟨e1,e2⟩:=inj (show (p:Int)::zc as=c::zc ts from h1.eq)
  have e3:as=ts:=uw (a0:=a0) _ as ts (aE _) ht.2 h1.ok e2;cases u with
  | v m =>
   obtain⟨e4,-⟩:=inj (show (-1 - (m:Int))::[]=d::zc us from h2.eq)
   omega
  | f q bs =>
   obtain⟨e4,e5⟩:=inj (show (q:Int)::zc bs=d::zc us from h2.eq)
   have e6:bs=us:=uw (a0:=a0) _ bs us (aE _) hu.2 h2.ok e5;have hpq:p=q:=by omega
   subst hpq;have h3:=ht.1;have h4:=hu.1;rw[h3] at h4;injection h4 with h4;rw[← e3,← e6,h4]
theorem NL {a0:List zl} (hs:SignOk a0):∀(n:Nat) (a b:List Int) (c d:Int) (ts us:List Tm),a.length<=n->HF a0 a c ts->HF a0 b d us->(c=d->ts.length=us.length)->a≠b->∀ k k',n<k->n<k' ->
  ∃(r:Bool) (z:Unit⊕Bool),t8 k (a0,a,b)=some r∧lp vW k' (a0,a,b)=some z∧yt z (fun _=>false) (fun x=>x)=r:=by
 intro n
 induction n with
 | zero =>
  intro a b c d ts us hn h;rw[h.eq] at hn;simp at hn
 | succ n ih =>
  intro a b c d ts us hn ha hb har hne k k' hk hk';obtain⟨k,rfl⟩:∃ q,k=q+1:=⟨k - 1,by omega⟩
  obtain⟨k',rfl⟩:∃ q,k'=q+1:=⟨k' - 1,by omega⟩
  show ∃ r z,ZS (t8 k) a0 a b=some r∧_;rw[zK];have key:=fun a b c d ts us h1 h2 h3 h4 h5=>ih a b c d ts us h1 h2 h3 h4 h5 k k' (by omega) (by omega)
  generalize lp vW k'=rec at key ⊢;have la:=ha.len;have lb:=hb.len;obtain⟨x,hx⟩:=ha.sum hs;obtain⟨y,hy⟩:=hb.sum hs;unfold ZS vW;simp only;have hnn:nn a=some a:=by rw[ha.eq]; rfl
  rw[Ds a0 (by omega),hx,af,Ds a0 (by omega),hy,af,MB (by omega) (by omega),af,hnn,af,af,bM,cond_true,
   LL (by omega) (by omega) (fun e he=>(ha.syms hs e he).1) (fun e he=>(hb.syms hs e he).1),af]
  cases YA a b (aR 24) with
  | false=>exact ⟨false,.inl (),rfl,rfl,rfl⟩
  | true =>
   rw[aH,cond_false,cond_true];simp only[af];by_cases hxy:x=y
   ·subst hxy;rw[decide_eq_false (Int.lt_irrefl x),show (x != x)=false from by simp]
    simp only[cond_false];have ga:gx a 0=some c:=by rw[ha.eq]; rfl
    have gb:gx b 0=some d:=by rw[hb.eq]; rfl
    simp only[ga,gb,af];by_cases hcd:c=d
    ·subst hcd;have hl:=har rfl;rw[show (c != c)=false from by simp,cond_false,cond_false]
     have ea:=ha.eq;have eb:=hb.eq;have hlt:(zc ts).length+1=a.length:=by rw[ea]; rfl
     have hlu:(zc us).length+1=b.length:=by rw[eb]; rfl
     have sa:vJ a (some 1) none=some (zc ts):=by rw[ea]; exact v8 _ _
     have sb:vJ b (some 1) none=some (zc us):=by rw[eb]; exact v8 _ _
     have ct:∀ t∈ts,t.codes.length<=1000:=fun t h=>by have:=tA h; omega
     have cu:∀ t∈us,t.codes.length<=1000:=fun t h=>by have:=tA h; omega
     have cuts1:=yp ts ha.ok;have cuts2:=yp us hb.ok;have lts:=Zw cuts1;have lus:=Zw cuts2;rw[aT] at lts lus;have pa:=xq hs (a1:=zc ts) (by omega) cuts1
     have pb:=xq hs (a1:=zc us) (by omega) cuts2
     have ta:=wn hs (a1:=zc ts) (by omega) cuts1
     have tb:=wn hs (a1:=zc us) (by omega) cuts2
     unfold jq;simp only[sa,sb,pa,pb,ta,tb,af];rw[ja _ _ (by rw[aT]; unfold maxLen; omega),Je cu ts us 0 rfl hl ct,af,
      Ye _ _ _ _ (by rw[aT]; unfold maxLen; omega),H8 ts us 0 rfl hl ct]
     cases hf:ZI ts us with
     | none =>
      exfalso;exact hne (by rw[ea,eb,XX hl hf])
     | some p =>
      obtain⟨q1,q2,q3⟩:=Wq hf;obtain⟨c1,ts1,d1,us1,f1,f2,f3⟩:=Nj hs (vZ.1 ha.ok _ q1) (vZ.1 hb.ok _ q2) (ct _ q1) (cu _ q2);have:=tA q1;obtain⟨r,z,g1,g2,g3⟩:=key p.1.codes p.2.codes c1 d1 ts1 us1 (by omega) f1 f2 f3 q3
      refine ⟨r,z,?_,g2,g3⟩;simp only;rw[g1];rfl
    ·rw[show (c != d)=true from by simp [hcd],cond_true,cond_true]
     exact ⟨decide (c>d),.inr (decide (c>d)),rfl,rfl,rfl⟩
   ·rw[show (x != y)=true from by simp [hxy],cond_true]
    by_cases hlt:x<y
    ·rw[decide_eq_true hlt,cond_true];refine ⟨false,.inr (decide (x>y)),rfl,rfl,?_⟩;rw[decide_eq_false (show ¬ x>y by omega)]
     rfl
    ·rw[decide_eq_false hlt,cond_false,decide_eq_true (show x>y by omega),cond_true]
     exact ⟨true,.inr true,rfl,rfl,rfl⟩
end Go.Abs.Q
