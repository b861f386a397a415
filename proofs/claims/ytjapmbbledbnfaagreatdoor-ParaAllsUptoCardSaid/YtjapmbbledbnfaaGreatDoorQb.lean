import Derived.Test.YtjapmbbledbnfaaGreatDoorQa
/-
  What the functions make of plain values, and what the law says of that.
-/
open Bool renaming and_eq_true -> aw, eq_iff_iff -> et, false_and -> bn, false_or -> cU, not_false -> bJ, not_true -> aA, or_eq_true -> bO, true_and -> aY
open Eq renaming symm -> gn
open Function renaming comp_apply -> gY
open Go.IntKind renaming bits -> dh, signed -> eB, wrap -> ah
open Int renaming tmod -> fT, toNat -> bP, toNat_natCast -> bq, toNat_of_nonneg -> cz
open List renaming all_eq_true -> aF, append_assoc -> bc, append_nil -> cp, append_of_mem -> dY, concat_eq_append -> fu, countP_append -> fM, countP_cons_of_neg -> d6, countP_cons_of_pos -> dq, countP_le_length -> eh, drop_eq_getElem_cons -> aX, drop_zero -> bV, eq_nil_or_concat -> ft, filter_cons_of_neg -> cX, filter_cons_of_pos -> dr, find?_cons -> dW, flatMap -> gO, flatMap_cons -> bt, foldl_append -> eH, getD_eq_getElem?_getD -> aD, getElem?_append_left -> bv, getElem?_append_right -> bf, getElem?_cons_zero -> aC, getElem?_eq_getElem -> al, getElem?_eq_some_iff -> aq, getElem?_map -> br, getElem?_replicate -> bK, getElem?_set_ne -> cI, getElem?_set_self -> cy, getElem_mem -> cJ, length -> aa, length_append -> ax, length_cons -> aj, length_map -> aO, length_nil -> bb, length_range -> eI, length_set -> ci, length_singleton -> aZ, length_zip -> gj, map -> cD, map_append -> dC, map_congr_left -> bS, map_cons -> aJ, map_id -> gW, map_map -> cF, mem_append -> aQ, mem_append_left -> bl, mem_append_right -> bm, mem_cons -> aB, mem_cons_of_mem -> ai, mem_cons_self -> ak, mem_filter -> dB, mem_iff_getElem? -> cA, mem_map -> aW, mem_map_of_mem -> bh, mem_of_getElem? -> aM, mem_range -> b9, mem_singleton -> bE, nil_append -> bx, of_mem_zip -> gk, pairwise_cons -> db, range -> aR, replicate -> az, set -> cP, set_eq_take_append_cons_drop -> d7, sum_cons -> cE, take_append_drop -> bR, zip_cons_cons -> dZ
open List.Pairwise renaming nil -> fQ
open Nat renaming add_assoc -> bI, add_comm -> cN, add_mul -> bk, le_refl -> aE, le_trans -> aK, lt_or_ge -> bF, mul_le_mul_left -> dS, mul_le_mul_right -> aS, pow_le_pow_right -> fB, pow_pos -> gg, strongRecOn -> cQ, sub_self -> d9, zero_add -> aN, zero_le -> b6
open Ne renaming symm -> dj
open Option renaming bind_some -> af, getD_some -> bp, isNone_none -> dc, isNone_some -> cH, map_some -> bD
open Sum renaming inl -> aU, inr -> aG
namespace Go.Abs.Q
open Go Go.Abs
inductive Tm where
 | v (n:Nat)
 | f (c:Nat) (as:List Tm)
mutual
def Tm.codes:Tm->List Int
 | .v n=>[-1 - (n:Int)]
 | .f c as=>(c:Int)::zb as
def zb:List Tm->List Int
 | []=>[]
 | t::ts=>t.codes++zb ts
end
mutual
def Tm.size:Tm->Nat
 | .v _=>1
 | .f _ as=>wH as+1
def wH:List Tm->Nat
 | []=>0
 | t::ts=>t.size+wH ts
end
abbrev Sb:=Nat->Tm
mutual
def Tm.sub (s:Sb):Tm->Tm
 | .v n=>s n
 | .f c as=>.f c (w8 s as)
def w8 (s:Sb):List Tm->List Tm
 | []=>[]
 | t::ts=>t.sub s::w8 s ts
end
mutual
def Tm.has (x:Nat):Tm->Prop
 | .v n=>n=x
 | .f _ as=>Xw x as
def Xw (x:Nat):List Tm->Prop
 | []=>False
 | t::ts=>t.has x∨Xw x ts
end
mutual
def Tm.ok (a0:List zj) (N:Nat):Tm->Prop
 | .v n=>n<N
 | .f c as=>uk a0 (c:Int)=some as.length∧okR a0 N as
def okR (a0:List zj) (N:Nat):List Tm->Prop
 | []=>True
 | t::ts=>t.ok a0 N∧okR a0 N ts
end
theorem jV (s:Sb):(ts:List Tm)->(w8 s ts).length=ts.length
 | []=>rfl
 | t::ts=>by simp [w8,jV s ts]
theorem vH {a0:List zj} {N:Nat}:{ts:List Tm}->(okR a0 N ts↔∀ t∈ts,t.ok a0 N)
 | []=>by simp [okR]
 | t::ts=>by simp [okR,vH (ts:=ts)]
theorem Y7 (s:Sb):(ts:List Tm)->w8 s ts=ts.map (Tm.sub s)
 | []=>rfl
 | t::ts=>by simp [w8,Y7 s ts]
theorem QQ:(ts:List Tm)->zb ts=ts.flatMap Tm.codes
 | []=>rfl
 | t::ts=>by simp [zb,QQ ts]
theorem GC:(ts:List Tm)->wH ts=(ts.map Tm.size).sum
 | []=>rfl
 | t::ts=>by simp [wH,GC ts]
theorem tT (ts us:List Tm):zb (ts++us)=zb ts++zb us:=by simp [QQ]
theorem IW (ts us:List Tm):wH (ts++us)=wH ts+wH us:=by simp [GC]
mutual
theorem Tm.codes_len:(t:Tm)->t.codes.length=t.size
 | .v _=>rfl
 | .f c as=>by simp [Tm.codes,Tm.size,uE as]
theorem uE:(ts:List Tm)->(zb ts).length=wH ts
 | []=>rfl
 | t::ts=>by simp [zb,wH,Tm.codes_len t,uE ts]
end
theorem Tm.size_pos (t:Tm):0<t.size:=by cases t<;>simp [Tm.size]
mutual
theorem Tm.sub_ext {s u:Sb}:(t:Tm)->(∀ x,t.has x->s x=u x)->t.sub s=t.sub u
 | .v n,h=>h n rfl
 | .f c as,h=>by rw[Tm.sub,Tm.sub,A0 as h]
theorem A0 {s u:Sb}:(ts:List Tm)->(∀ x,Xw x ts->s x=u x)->w8 s ts=w8 u ts
 | [],_=>rfl
 | t::ts,h=>by rw[w8,w8,Tm.sub_ext t fun x hx=>h x (.inl hx),A0 ts fun x hx=>h x (.inr hx)]
end
mutual
theorem Tm.sub_sub (s u:Sb):(t:Tm)->(t.sub s).sub u=t.sub fun x=>(s x).sub u
 | .v n=>rfl
 | .f c as=>by rw[Tm.sub,Tm.sub,Tm.sub,II s u as]
theorem II (s u:Sb):(ts:List Tm)->w8 u (w8 s ts)=w8 (fun x=>(s x).sub u) ts
 | []=>rfl
 | t::ts=>by rw[w8,w8,w8,Tm.sub_sub s u t,II s u ts]
end
mutual
theorem Tm.sub_v:(t:Tm)->t.sub .v=t
 | .v n=>rfl
 | .f c as=>by rw[Tm.sub,Ut as]
theorem Ut:(ts:List Tm)->w8 .v ts=ts
 | []=>rfl
 | t::ts=>by rw[w8,Tm.sub_v t,Ut ts]
end
mutual
theorem Tm.has_sub {s:Sb} {y:Nat}:(t:Tm)->((t.sub s).has y↔∃ x,t.has x∧(s x).has y)
 | .v n=>⟨fun h=>⟨n,rfl,h⟩,fun ⟨x,hx,h⟩=>by cases hx; exact h⟩
 | .f c as=>by show Xw y (w8 s as)↔_; rw[ky as]; rfl
theorem ky {s:Sb} {y:Nat}:(ts:List Tm)->(Xw y (w8 s ts)↔∃ x,Xw x ts∧(s x).has y)
 | []=>⟨fun h=>h.elim,fun ⟨_,h,_⟩=>h.elim⟩
 | t::ts=>by
  show (t.sub s).has y∨Xw y (w8 s ts)↔∃ x,(t.has x∨Xw x ts)∧_;rw[Tm.has_sub t,ky ts];constructor
  ·rintro (⟨x,h1,h2⟩ | ⟨x,h1,h2⟩)
   ·exact ⟨x,.inl h1,h2⟩
   ·exact ⟨x,.inr h1,h2⟩
  ·rintro⟨x,h1 | h1,h2⟩
   ·exact .inl ⟨x,h1,h2⟩
   ·exact .inr ⟨x,h1,h2⟩
end
mutual
theorem Tm.size_has {s:Sb} {x:Nat}:(t:Tm)->t.has x->(s x).size<=(t.sub s).size
 | .v n,h=>by cases h; exact aE _
 | .f c as,h=>by have:=kY (s:=s) as h; show _<=wH (w8 s as)+1; omega
theorem kY {s:Sb} {x:Nat}:(ts:List Tm)->Xw x ts->(s x).size<=wH (w8 s ts)
 | [],h=>h.elim
 | t::ts,h=>by
  show _<=(t.sub s).size+wH (w8 s ts);rcases h with h | h
  ·have:=Tm.size_has (s:=s) t h; omega
  ·have:=kY (s:=s) ts h; omega
end
mutual
theorem Tm.size_sub {s:Sb} {M:Nat}:(t:Tm)->(1<=M)->(∀ x,t.has x->(s x).size<=M)->(t.sub s).size<=t.size*M
 | .v n,_,h=>by have:=h n rfl; simpa[Tm.sub,Tm.size] using this
 | .f c as,hM,h=>by
  have:=Dn (s:=s) as hM h;show wH (w8 s as)+1<=(wH as+1)*M;rw[bk]; omega
theorem Dn {s:Sb} {M:Nat}:(ts:List Tm)->(1<=M)->(∀ x,Xw x ts->(s x).size<=M)->wH (w8 s ts)<=wH ts*M
 | [],_,_=>by simp [w8,wH]
 | t::ts,hM,h=>by
  have h1:=Tm.size_sub (s:=s) t hM fun x hx=>h x (.inl hx);have h2:=Dn (s:=s) ts hM fun x hx=>h x (.inr hx);show (t.sub s).size+wH (w8 s ts)<=(t.size+wH ts)*M;rw[bk]; omega
end
mutual
theorem Tm.ok_sub {a0:List zj} {N M:Nat} {s:Sb}:(t:Tm)->t.ok a0 N->(∀ x,t.has x->(s x).ok a0 M)->(t.sub s).ok a0 M
 | .v n,_,h=>h n rfl
 | .f c as,ho,h=>⟨by rw[jV]; exact ho.1,GG as ho.2 h⟩
theorem GG {a0:List zj} {N M:Nat} {s:Sb}:(ts:List Tm)->okR a0 N ts->(∀ x,Xw x ts->(s x).ok a0 M)->okR a0 M (w8 s ts)
 | [],_,_=>trivial
 | t::ts,ho,h=>⟨Tm.ok_sub t ho.1 fun x hx=>h x (.inl hx),GG ts ho.2 fun x hx=>h x (.inr hx)⟩
end
mutual
theorem Tm.ok_has {a0:List zj} {N x:Nat}:(t:Tm)->t.ok a0 N->t.has x->x<N
 | .v n,ho,h=>by cases h; exact ho
 | .f c as,ho,h=>Nd as ho.2 h
theorem Nd {a0:List zj} {N x:Nat}:(ts:List Tm)->okR a0 N ts->Xw x ts->x<N
 | [],_,h=>h.elim
 | t::ts,ho,h=>h.elim (Tm.ok_has t ho.1) (Nd ts ho.2)
end
mutual
theorem Tm.ok_mono {a0:List zj} {N M:Nat} (hNM:N<=M):(t:Tm)->t.ok a0 N->t.ok a0 M
 | .v _n,ho=>Nat.lt_of_lt_of_le ho hNM
 | .f _c as,ho=>⟨ho.1,AQ hNM as ho.2⟩
theorem AQ {a0:List zj} {N M:Nat} (hNM:N<=M):(ts:List Tm)->okR a0 N ts->okR a0 M ts
 | [],_=>trivial
 | t::ts,ho=>⟨Tm.ok_mono hNM t ho.1,AQ hNM ts ho.2⟩
end
mutual
theorem Tm.mem_codes {c:Int} (hc:c<0):(t:Tm)->(c∈t.codes↔t.has (-1 - c).toNat)
 | .v n=>by
  show c∈[-1 - (n:Int)]↔n=_;rw[bE];omega
 | .f d as=>by
  show c∈(d:Int)::zb as↔Xw _ as;rw[aB,← rF hc as];have:c≠(d:Int):=by omega
  simp [this]
theorem rF {c:Int} (hc:c<0):(ts:List Tm)->(c∈zb ts↔Xw (-1 - c).toNat ts)
 | []=>by simp [zb,Xw]
 | t::ts=>by
  show c∈t.codes++zb ts↔_∨_;rw[aQ,Tm.mem_codes hc t,rF hc ts]
end
theorem EO {a0:List zj} {x:Int} {q:Nat} (h:uk a0 x=some q):(x<0 ∧ -24<=x∧q=0)∨∃ c:Nat,x=(c:Int):=by
 unfold uk at h;by_cases h0:x<0
 ·rw[decide_eq_true h0,cond_true] at h;by_cases h1 : -24<=x
  ·rw[decide_eq_true h1] at h; injection h with h; exact .inl ⟨h0,h1,h.symm⟩
  ·rw[decide_eq_false h1] at h; cases h
 ·exact .inr ⟨x.toNat,by omega⟩
theorem Rd {a0:List zj}:∀(n:Nat) (ps:List jI),(∀ p∈ps,p.length<=n)->(∀ p∈ps,sk a0 1 p=some p.length)->∃ ts:List Tm,okR a0 24 ts∧ps=ts.map Tm.codes:=by
 intro n
 induction n with
 | zero =>
  intro ps h hs;cases ps with
  | nil=>exact ⟨[],trivial,rfl⟩
  | cons p ps =>
   have h1:=h p (ak ..);have h2:=V2 (hs p (ak ..));omega
 | succ n ih =>
  intro ps
  induction ps with
  | nil=>intro _ _; exact ⟨[],trivial,rfl⟩
  | cons p ps ihp =>
   intro h hs;obtain⟨ts,h1,h2⟩:=ihp (fun q hq=>h q (ai _ hq)) (fun q hq=>hs q (ai _ hq));obtain⟨x,r,q,rfl,ha,hr⟩:=DK (hs p (ak ..));have hl:=h _ (ak ..);rw[aj] at hl;rcases EO ha with ⟨h3,h4,rfl⟩ | ⟨c,rfl⟩
   ·have hr0:r=[]:=by
     have:sk a0 0 r=some 0:=by cases r<;>rfl
     rw[this] at hr;exact List.length_eq_zero_iff.1 (by injection hr with hr; omega)
    subst hr0;refine ⟨.v (-1 - x).toNat::ts,⟨by show (-1 - x).toNat<24; omega,h1⟩,?_⟩
    rw[aJ,← h2];show [x]::ps=[-1 - (((-1 - x).toNat:Nat):Int)]::ps;rw[show -1 - (((-1 - x).toNat:Nat):Int)=x from by omega]
   ·obtain⟨qs,hq,hql⟩:=zb7 q r hr;obtain⟨hf,hqs⟩:=Z8 r.length r qs (aE _) hq;have hlen:∀ p∈qs,p.length<=n:=fun p hp=>by
     have h5:p.length<=qs.flatten.length:=by
      obtain⟨l1,l2,rfl⟩:=dY hp;simp; omega
     rw[hf] at h5;omega
    obtain⟨us,h5,h6⟩:=ih qs hlen fun p hp=>(hqs p hp).2;refine ⟨.f c us::ts,⟨⟨by rw[ha,← hql,h6,aO],h5⟩,h1⟩,?_⟩
    rw[aJ,← h2];show ((c:Int)::r)::ps=((c:Int)::zb us)::ps;rw[QQ,gO,← h6,hf]
theorem Sz {a0:List zj} {xs:List Int} {ps:List jI} (h:WG a0 xs=some ps):∃ ts:List Tm,okR a0 24 ts∧ps=ts.map Tm.codes∧xs=zb ts:=by
 obtain⟨h1,h2⟩:=Z8 xs.length xs ps (aE _) h;obtain⟨ts,h3,h4⟩:=Rd (a0:=a0) xs.length ps (fun p hp=>by
  have:p.length<=ps.flatten.length:=by
   obtain⟨l1,l2,rfl⟩:=dY hp;simp; omega
  rwa [h1] at this) fun p hp=>(h2 p hp).2
 exact ⟨ts,h3,h4,by rw[QQ,gO,← h4,h1]⟩
theorem Nu {a0:List zj} {n:Nat} (h:n<24):uk a0 (-1 - (n:Int))=some 0:=by
 unfold uk;rw[decide_eq_true (show -1 - (n:Int)<0 by omega),cond_true,decide_eq_true (show -24 <= -1 - (n:Int) by omega)]
 rfl
mutual
theorem Tm.sk_codes {a0:List zj}:(t:Tm)->t.ok a0 24->sk a0 1 t.codes=some t.codes.length
 | .v n,h=>by
  show sk a0 1 [-1 - (n:Int)]=some 1;unfold sk;rw[Nu h];rfl
 | .f c as,h=>by
  have:=I5 as h.2;show sk a0 1 ((c:Int)::zb as)=some (zb as).length.succ;unfold sk;rw[h.1];simp only[aN,this,bD]
theorem I5 {a0:List zj}:(ts:List Tm)->okR a0 24 ts->sk a0 ts.length (zb ts)=some (zb ts).length
 | [],_=>rfl
 | t::ts,h=>by
  show sk a0 (ts.length+1) (t.codes++zb ts)=_;rw[cN];exact TL (Tm.sk_codes t h.1) (I5 ts h.2)
end
theorem BF {a0:List zj}:{xs:List Int}->{n k:Nat}->(ys:List Int)->sk a0 n xs=some k->sk a0 n (xs++ys)=some k
 | [],0,k,ys,h=>by simp [sk] at h; subst h; cases ys<;>rfl
 | [],n+1,k,ys,h=>by simp [sk] at h
 | x::xs,0,k,ys,h=>by simp [sk] at h; subst h; rfl
 | x::xs,n+1,k,ys,h=>by
  unfold sk at h;cases ha:uk a0 x with
  | none=>rw[ha] at h; cases h
  | some m =>
   rw[ha] at h;simp only[Option.map_eq_some_iff] at h;obtain⟨j,hj,rfl⟩:=h;rw[List.cons_append];unfold sk;rw[ha];simp only[BF ys hj,bD]
theorem yv {a0:List zj}:(ts:List Tm)->okR a0 24 ts->WG a0 (zb ts)=some (ts.map Tm.codes)
 | [],_=>rfl
 | t::ts,h=>by
  have hp:=t.size_pos;have hl:=t.codes_len;have h1:=Tm.sk_codes t h.1;show WG a0 (t.codes++zb ts)=_;have hne:t.codes++zb ts≠[]:=fun e=>by
   have:=congrArg aa e;rw[ax,bb] at this;omega
  rw[sP hne,BF _ h1];simp only[List.drop_left,List.take_left,yv ts h.2,bD,aJ]
def Tm.up (d:Nat) (t:Tm):Tm:=t.sub fun n=>.v (n+d)
theorem Tm.up_zero (t:Tm):t.up 0=t:=t.sub_v
theorem Tm.up_size (d:Nat) (t:Tm):(t.up d).size=t.size:=by
 have h1:(t.up d).size<=t.size*1:=Tm.size_sub t (aE _) fun x _=>aE _;have h2:((t.up d).sub fun n=>.v (n - d)).size<=(t.up d).size*1:=Tm.size_sub _ (aE _) fun x _=>aE _;have h3:(t.up d).sub (fun n=>.v (n - d))=t:=by
  unfold Tm.up;rw[Tm.sub_sub,show (fun x=>(Tm.v (x+d)).sub fun n=>.v (n - d))=Tm.v from by
   funext x
   show Tm.v (x+d - d)=_;rw[Nat.add_sub_cancel],Tm.sub_v]
 rw[h3] at h2;omega
theorem Tm.up_ok {a0:List zj} {N d:Nat} {t:Tm} (h:t.ok a0 N):(t.up d).ok a0 (N+d):=Tm.ok_sub t h fun x hx=>by
 have:=Tm.ok_has t h hx;show x+d<N+d;omega
theorem Tm.up_has {d y:Nat} {t:Tm}:(t.up d).has y↔∃ x,t.has x∧x+d=y:=Tm.has_sub t
abbrev Bd:=Nat->Option Tm
def SolB (θ:Sb) (B:Bd):Prop:=∀ x t,B x=some t->θ x=t.sub θ
def Sol (θ:Sb) (E:List (Tm×Tm)):Prop:=∀ p∈E,p.1.sub θ=p.2.sub θ
theorem Sol.nil {θ:Sb}:Sol θ []:=fun _ h=>nomatch h
theorem Sol.cons {θ:Sb} {p:Tm×Tm} {E:List (Tm×Tm)}:Sol θ (p::E)↔p.1.sub θ=p.2.sub θ∧Sol θ E:=by simp [Sol]
theorem Sol.append {θ:Sb} {E F:List (Tm×Tm)}:Sol θ (E++F)↔Sol θ E∧Sol θ F:=by
 simp only[Sol,aQ];exact ⟨fun h=>⟨fun p hp=>h p (.inl hp),fun p hp=>h p (.inr hp)⟩,fun h p hp=>hp.elim (h.1 p) (h.2 p)⟩
theorem Sol.zip {θ:Sb}:{ts us:List Tm}->ts.length=us.length->(Sol θ (ts.zip us)↔w8 θ ts=w8 θ us)
 | [],[],_=>by simp [Sol,w8]
 | [],_::_,h=>by simp at h
 | _::_,[],h=>by simp at h
 | t::ts,u::us,h=>by
  rw[dZ,Sol.cons,Sol.zip (by simpa using h)]
  simp [w8]
structure Good (B:Bd) (σ:Sb):Prop where
 free:∀ x,B x=none->σ x = .v x
 bound:∀ x t,B x=some t->σ x=t.sub σ
 down:∀ x y,B x=some (.v y)->y<x
theorem Good.empty:Good (fun _=>none) .v:=⟨fun _ _=>rfl,fun _ _ h=>(nomatch h),fun _ _ h=>(nomatch h)⟩
theorem Good.ind {B:Bd} {σ:Sb} (h:Good B σ) {P:Nat->Prop} (hf:∀ x,B x=none->P x) (hb:∀ x t,B x=some t->(∀ y,t.has y->P y)->P x):∀ x,P x:=by
 have key:∀ n x,(σ x).size=n->P x:=by
  intro n
  induction n using cQ with
  | _ n ihn =>
   intro x
   induction x using cQ with
   | _ x ihx =>
    intro hn;cases hx:B x with
    | none=>exact hf x hx
    | some t =>
     refine hb x t hx fun y hy => ?_;have hs:=h.bound x t hx;cases t with
     | v z =>
      have hz:z=y:=hy;subst hz;exact ihx z (h.down x z hx) (by rw[← hn,hs]; rfl)
     | f c as =>
      have:=kY (s:=σ) as hy;refine ihn (σ y).size ?_ y rfl;rw[← hn,hs];show _<wH (w8 σ as)+1;omega
 exact fun x=>key _ x rfl
theorem Good.fac {B:Bd} {σ θ:Sb} (h:Good B σ) (hθ:SolB θ B):∀ x,(σ x).sub θ=θ x:=by
 refine h.ind (fun x hx=>by rw[h.free x hx]; rfl) fun x t hx ih => ?_
 rw[h.bound x t hx,Tm.sub_sub,hθ x t hx];exact Tm.sub_ext t fun y hy=>ih y hy
theorem Good.facT {B:Bd} {σ θ:Sb} (h:Good B σ) (hθ:SolB θ B) (t:Tm):(t.sub σ).sub θ=t.sub θ:=by
 rw[Tm.sub_sub];exact Tm.sub_ext t fun y _=>h.fac hθ y
theorem Good.root {B:Bd} {σ:Sb} (h:Good B σ):∀ x y,(σ x).has y->B y=none:=by
 refine h.ind (fun x hx y hy => ?_) fun x t hx ih y hy => ?_
 ·rw[h.free x hx] at hy;have hy:x=y:=hy;exact hy▸hx
 ·rw[h.bound x t hx] at hy;obtain⟨z,h1,h2⟩:=(Tm.has_sub t).1 hy;exact ih z h1 y h2
theorem Good.idem {B:Bd} {σ:Sb} (h:Good B σ) (t:Tm):(t.sub σ).sub σ=t.sub σ:=h.facT h.bound t
theorem Good.le {B:Bd} {σ:Sb} (h:Good B σ):∀ x y,σ x = .v y->y<=x:=by
 refine h.ind (fun x hx y hy => ?_) fun x t hx ih y hy => ?_
 ·rw[h.free x hx] at hy; injection hy with hy; omega
 ·rw[h.bound x t hx] at hy;cases t with
  | v z =>
   have h1:=h.down x z hx;have h2:=ih z rfl y hy;omega
  | f c as=>cases hy
theorem Good.moved {B:Bd} {σ:Sb} (h:Good B σ) {x:Nat}:B x≠none↔σ x ≠ .v x:=by
 constructor
 ·intro hb he;cases hx:B x with
  | none=>exact hb hx
  | some t =>
   have h1:=h.bound x t hx;rw[he] at h1;cases t with
   | v z =>
    have h2:=h.down x z hx;have h3:=h.le z x h1.symm;omega
   | f c as=>cases h1
 ·intro hs hb;exact hs (h.free x hb)
theorem Good.unique {B B':Bd} {σ σ':Sb} (h:Good B σ) (h':Good B' σ') (hs:∀ θ,SolB θ B↔SolB θ B'):σ=σ':=by
 have f1:∀ x,(σ x).sub σ'=σ' x:=h.fac ((hs σ').2 h'.bound);have f2:∀ x,(σ' x).sub σ=σ x:=h'.fac ((hs σ).1 h.bound);have root:∀ y,B y=none->σ' y = .v y:=by
  intro y hy;have h1:(σ' y).sub σ = .v y:=by rw[f2,h.free y hy]
  cases hz:σ' y with
  | f c as=>rw[hz] at h1; cases h1
  | v z =>
   rw[hz] at h1;have h2:=h'.le y z hz;have h3:=h.le z y h1;have:z=y:=by omega
   rw[this]
 funext x
 rw[← f1 x]
 conv=>lhs; rw[← Tm.sub_v (σ x)]
 exact Tm.sub_ext _ fun y hy=>(root y (h.root x y hy)).symm
def one (x:Nat) (u:Tm):Sb:=fun y=>if y=x then u else .v y
def Pl (B:Bd) (x:Nat) (t:Tm):Bd:=fun y=>if y=x then some t else B y
theorem sE (B:Bd) (x:Nat) (t:Tm):Pl B x t x=some t:=by simp [Pl]
theorem Zn (B:Bd) {x y:Nat} (t:Tm) (h:y≠x):Pl B x t y=B y:=by simp [Pl,h]
theorem SolB.upd {B:Bd} {x:Nat} {t:Tm} {θ:Sb} (hx:B x=none):SolB θ (Pl B x t)↔SolB θ B∧θ x=t.sub θ:=by
 constructor
 ·intro h;refine ⟨fun y u hy=>h y u ?_,h x t (sE ..)⟩;rw[Zn _ _ fun e=>by rw[e,hx] at hy; cases hy]
  exact hy
 ·rintro⟨h1,h2⟩ y u hy;by_cases he:y=x
  ·subst he;rw[sE] at hy;injection hy with hy;subst hy;exact h2
  ·rw[Zn _ _ he] at hy;exact h1 y u hy
theorem za0 {x:Nat} {u t:Tm} (h:¬ t.has x):t.sub (one x u)=t:=by
 conv=>rhs; rw[← Tm.sub_v t]
 refine Tm.sub_ext t fun y hy => ?_;have hne:y≠x:=fun e=>h (e▸hy);unfold one;rw[if_neg hne]
theorem Good.bind {B:Bd} {σ:Sb} (h:Good B σ) {x:Nat} {t:Tm} (hx:B x=none) (hn:¬(t.sub σ).has x) (hd:∀ y,t = .v y->y<x):Good (Pl B x t) fun y=>(σ y).sub (one x (t.sub σ)) where
 free:=fun y hy=>by
  have hne:y≠x:=fun e=>by rw[e,sE] at hy; cases hy
  rw[Zn _ _ hne] at hy;rw[h.free y hy];show one x _ y=_;simp [one,hne]
 bound:=fun y u hy=>by
  by_cases he:y=x
  ·subst he;rw[sE] at hy;injection hy with hy;subst hy;rw[h.free y hx,← Tm.sub_sub,za0 hn];show one y _ y=_;simp [one]
  ·rw[Zn _ _ he] at hy;rw[h.bound y u hy,Tm.sub_sub]
 down:=fun y z hy=>by
  by_cases he:y=x
  ·subst he;rw[sE] at hy;injection hy with hy;exact hd z hy
  ·rw[Zn _ _ he] at hy;exact h.down y z hy
theorem Good.occurs {B:Bd} {σ θ:Sb} (h:Good B σ) {x c:Nat} {as:List Tm} (hh:((Tm.f c as).sub σ).has x) (hθ:SolB θ B) (he:θ x=(Tm.f c as).sub θ):False:=by
 have h1:=h.facT hθ (.f c as);rw[← he] at h1;have h2:=kY (s:=θ) (w8 σ as) hh;have h3:(((Tm.f c as).sub σ).sub θ).size=(θ x).size:=by rw[h1]
 have h4:wH (w8 θ (w8 σ as))+1=(θ x).size:=h3;omega
def WK (B:Bd):Prop:=∀ x t,B x=some t->x<48∧t.size<=48
def Good.less (σ:Sb) (y x:Nat):Bool:=decide ((σ y).size<(σ x).size)||(decide ((σ y).size=(σ x).size)&&decide (y<x))
def Good.rank (σ:Sb) (x:Nat):Nat:=(aR 48).countP fun y=>Good.less σ y x
theorem Vd {α:Type} {p q:α->Bool} {a:α}:{l:List α}->a∈l->(∀ x∈l,p x=true->q x=true)->p a=false->q a=true->l.countP p<l.countP q
 | [],h,_,_,_=>nomatch h
 | b::l,hm,hi,hp,hq=>by
  have h2:l.countP p<=l.countP q:=List.countP_mono_left fun x hx h=>hi x (ai _ hx) h;rcases aB.1 hm with rfl | hm
  ·rw[d6 (by simp [hp]),dq hq]
   omega
  ·have h1:=Vd hm (fun x hx=>hi x (ai _ hx)) hp hq;cases hb:p b with
   | true=>rw[dq hb,dq (hi b (ak ..) hb)]; omega
   | false =>
    rw[d6 (by simp [hb])]
    cases hc:q b with
    | true=>rw[dq hc]; omega
    | false=>rw[d6 (by simp [hc])]; exact h1
theorem Good.small {B:Bd} {σ:Sb} (h:Good B σ) (hb:WK B):∀ x,(σ x).size<=48 ^ 49:=by
 have key:∀ x,B x≠none->(σ x).size<=48 ^ (Good.rank σ x+1):=by
  refine h.ind (fun x hx hn=>absurd hx hn) fun x t hx ih _ => ?_;obtain⟨hx48,ht⟩:=hb x t hx;rw[h.bound x t hx];have h1:1<=48 ^ Good.rank σ x:=gg (by omega)
  refine aK (Tm.size_sub t h1 fun y hy => ?_) ?_
  ·cases hy0:B y with
   | none=>rw[h.free y hy0]; exact h1
   | some u =>
    refine aK (ih y hy (by rw[hy0]; simp)) (fB (by omega) ?_)
    have hlt:Good.less σ y x=true:=by
     unfold Good.less;have hs:=h.bound x t hx;cases t with
     | v z =>
      have hz:z=y:=hy;subst hz;have h2:=h.down x z hx;have h3:(σ z).size=(σ x).size:=by rw[hs]; rfl
      simp [h3,h2]
     | f c as =>
      have h2:=kY (s:=σ) as hy;have h3:(σ x).size=wH (w8 σ as)+1:=by rw[hs]; rfl
      rw[decide_eq_true (show (σ y).size<(σ x).size by omega)]
      rfl
    refine Vd (a:=y) (b9.2 (hb y u hy0).1) (fun z _ hz => ?_) (by simp [Good.less]) hlt
    simp only[Good.less,bO,aw,decide_eq_true_eq] at hz hlt ⊢;omega
  ·rw[Nat.pow_succ,Nat.mul_comm];exact dS _ ht
 intro x;by_cases hx:B x=none
 ·rw[h.free x hx];exact gg (by omega)
 ·refine aK (key x hx) (fB (by omega) ?_)
  have:Good.rank σ x<=(aR 48).length:=eh;rw[eI] at this;omega
theorem Good.small_sub {B:Bd} {σ:Sb} (h:Good B σ) (hb:WK B) (t:Tm):(t.sub σ).size<=t.size*48 ^ 49 :=
 Tm.size_sub t (gg (by omega)) fun x _=>h.small hb x
def Out (B:Bd) (E:List (Tm×Tm)):Option Bd->Prop
 | none=>∀ θ,SolB θ B->Sol θ E->False
 | some B'=>(∃ σ,Good B' σ)∧WK B'∧∀ θ,SolB θ B'↔SolB θ B∧Sol θ E
theorem Out.via {B B1:Bd} {E E1:List (Tm×Tm)} (h:∀ θ,(SolB θ B1∧Sol θ E1)↔(SolB θ B∧Sol θ E)) {o:Option Bd} (ho:Out B1 E1 o):Out B E o:=by
 cases o with
 | none=>exact fun θ h1 h2=>ho θ ((h θ).2 ⟨h1,h2⟩).1 ((h θ).2 ⟨h1,h2⟩).2
 | some B'=>exact ⟨ho.1,ho.2.1,fun θ=>(ho.2.2 θ).trans (h θ)⟩
theorem Out.done {B:Bd} {σ:Sb} (h:Good B σ) (hs:WK B):Out B [] (some B):=⟨⟨σ,h⟩,hs,fun _=>⟨fun h=>⟨h,Sol.nil⟩,fun h=>h.1⟩⟩
theorem zec {θ:Sb} {c d:Nat} {as bs:List Tm}:(Tm.f c as).sub θ=(Tm.f d bs).sub θ↔c=d∧w8 θ as=w8 θ bs:=by
 simp [Tm.sub]
abbrev PI:=List Int×Int
abbrev PO:=Option jI×Int
def Pc (a0:List zj) (N:Nat) (p:List Int) (d:Int) (t:Tm):Prop:=∃ u n,Tm.ok a0 24 u∧p=u.codes∧d=((n:Nat):Int)∧n<=N∧t=u.up n∧p.length<=48
def Pr (a0:List zj) (N:Nat) (p:List Int) (d:Int) (ts:List Tm):Prop:=∃ us n,okR a0 24 us∧p=zb us∧d=((n:Nat):Int)∧n<=N∧ts=us.map (Tm.up n)∧p.length<=48
theorem Pc.size {a0:List zj} {N:Nat} {p:List Int} {d:Int} {t:Tm} (h:Pc a0 N p d t):t.size=p.length∧t.size<=48:=by
 obtain⟨u,n,h1,rfl,h2,h3,rfl,h4⟩:=h;rw[Tm.up_size,Tm.codes_len];rw[Tm.codes_len] at h4;exact ⟨rfl,h4⟩
theorem Pc.lt {a0:List zj} {N:Nat} (hN:N<=24) {p:List Int} {d:Int} {t:Tm} (h:Pc a0 N p d t) {x:Nat} (hx:t.has x):x<48:=by
 obtain⟨u,n,h1,rfl,h2,h3,rfl,h4⟩:=h;have:=Tm.ok_has _ (Tm.up_ok (d:=n) h1) hx;omega
theorem Pc.cases {a0:List zj} {N:Nat} {p:List Int} {d:Int} {t:Tm} (h:Pc a0 N p d t) :
  (∃ k n:Nat,p=[-1 - (k:Int)]∧d=(n:Int)∧k<24∧n<=N∧t = .v (k+n))∨∃ c r ts,p=((c:Nat):Int)::r∧t = .f c ts∧uk a0 (c:Int)=some ts.length∧Pr a0 N r d ts:=by
 obtain⟨u,n,h1,rfl,h2,h3,rfl,h4⟩:=h;cases u with
 | v k=>exact .inl ⟨k,n,rfl,h2,h1,h3,rfl⟩
 | f c as =>
  have h4:(zb as).length+1<=48:=h4;refine .inr ⟨c,zb as,as.map (Tm.up n),rfl,?_,by rw[aO]; exact h1.1,as,n,h1.2,rfl,h2,h3,rfl,by omega⟩
  show Tm.f c (w8 _ as)=_;rw[Y7];rfl
def Pq (a0:List zj) (N:Nat) (q:List Int×Int×List Int×Int) (e:Tm×Tm):Prop:=Pc a0 N q.1 q.2.1 e.1∧Pc a0 N q.2.2.1 q.2.2.2 e.2
def PqL (a0:List zj) (N:Nat):List (List Int×Int×List Int×Int)->List (Tm×Tm)->Prop
 | [],es=>es=[]
 | q::qs,es=>∃ e es',es=e::es'∧Pq a0 N q e∧PqL a0 N qs es'
theorem PqL.append {a0:List zj} {N:Nat}:{qs:List (List Int×Int×List Int×Int)}->{es:List (Tm×Tm)}->{qs':List (List Int×Int×List Int×Int)}->{es':List (Tm×Tm)}->PqL a0 N qs es->PqL a0 N qs' es'->PqL a0 N (qs++qs') (es++es')
 | [],_,_,_,h,h'=>by have h:_=[]:=h; subst h; exact h'
 | q::qs,_,_,_,h,h'=>by
  obtain⟨e,es,rfl,h1,h2⟩:=h;exact ⟨e,_,rfl,h1,PqL.append h2 h'⟩
theorem PqL.length {a0:List zj} {N:Nat}:{qs:List (List Int×Int×List Int×Int)}->{es:List (Tm×Tm)}->PqL a0 N qs es->es.length=qs.length
 | [],_,h=>by have h:_=[]:=h; subst h; rfl
 | q::qs,_,h=>by
  obtain⟨e,es,rfl,h1,h2⟩:=h;simp [PqL.length h2]
theorem PqL.split {a0:List zj} {N:Nat}:{qs:List (List Int×Int×List Int×Int)}->{qs':List (List Int×Int×List Int×Int)}->{es:List (Tm×Tm)}->PqL a0 N (qs++qs') es->∃ e1 e2,es=e1++e2∧PqL a0 N qs e1∧PqL a0 N qs' e2
 | [],_,es,h=>⟨[],es,rfl,rfl,h⟩
 | q::qs,_,_,h=>by
  obtain⟨e,es,rfl,h1,h2⟩:=h;obtain⟨e1,e2,rfl,h3,h4⟩:=PqL.split h2;exact ⟨e::e1,e2,rfl,⟨e,e1,rfl,h1,h3⟩,h4⟩
def PcO (a0:List zj) (N:Nat) (e:PO) (o:Option Tm):Prop:=match e.1 with
 | none=>o=none
 | some p=>∃ t,o=some t∧Pc a0 N p e.2 t
structure RepT (a0:List zj) (N:Nat) (to:List PO) (B:Bd):Prop where
 len:to.length=48
 at_:∀ x e,to[x]? = some e->PcO a0 N e (B x)
 out:∀ x,48<=x->B x=none
theorem RepT.small {a0:List zj} {N:Nat} {to:List PO} {B:Bd} (h:RepT a0 N to B):WK B:=by
 intro x t hx;have hlt:x<48:=by
  rcases bF x 48 with h' | h'
  ·exact h'
  ·rw[h.out x h'] at hx; cases hx
 refine ⟨hlt,?_⟩;have hl:x<to.length:=by rw[h.len]; exact hlt
 have hg:to[x]? = some to[x]:=al hl;have:=h.at_ x _ hg;unfold PcO at this;split at this
 ·rw[hx] at this; cases this
 ·obtain⟨u,h1,h2⟩:=this;rw[hx] at h1; injection h1 with h1; subst h1;exact h2.size.2
theorem RepT.get {a0:List zj} {N:Nat} {to:List PO} {B:Bd} (h:RepT a0 N to B) {x:Nat} (hx:x<48):∃ e,to[x]? = some e∧PcO a0 N e (B x):=by
 have hl:x<to.length:=by rw[h.len]; exact hx
 have hg:to[x]? = some to[x]:=al hl;exact ⟨_,hg,h.at_ x _ hg⟩
theorem RepT.set {a0:List zj} {N:Nat} {to:List PO} {B:Bd} (h:RepT a0 N to B) {x:Nat} (hx:x<48) {p:List Int} {d:Int} {t:Tm} (hp:Pc a0 N p d t):RepT a0 N (to.set x (some p,d)) (Pl B x t) where
 len:=by rw[ci]; exact h.len
 at_:=fun y e hy=>by
  by_cases he:y=x
  ·subst he;rw[cy (by rw[h.len]; exact hx)] at hy
   injection hy with hy;subst hy;rw[sE];exact ⟨t,rfl,hp⟩
  ·rw[cI (dj he)] at hy;rw[Zn _ _ he];exact h.at_ y e hy
 out:=fun y hy=>by
  rw[Zn _ _ (by omega)]
  exact h.out y hy
theorem Q0 {N:Nat} (hN:N<=24) {k n:Nat} (hk:k<24) (hn:n<=N) (p:List Int):yF p (n:Int) (-1 - (k:Int))=some ((k+n:Nat):Int):=by
 unfold yF;rw[we (by omega) (by omega),af]
 congr 1
 rw[zu]<;>omega
def Y2:Tm->Nat
 | .v x=>x+2
 | .f _ _=>1
theorem Pw {a0:List zj} {N:Nat} (hN:N<=24) {to:List PO} {B:Bd} {σ:Sb} (hT:RepT a0 N to B) (hG:Good B σ):∀(m k:Nat) (p:List Int) (d:Int) (t:Tm) (z:Int),Y2 t<=m->m<=k->Pc a0 N p d t ->
  ∃ p' d' t',lp wA k (a0,to,p,d,z)=some (p',d')∧Pc a0 N p' d' t'∧(∀ θ,SolB θ B->t.sub θ=t'.sub θ)∧∀ y,t' = .v y->B y=none:=by
 intro m
 induction m with
 | zero=>intro k p d t z hm; cases t<;>simp [Y2] at hm
 | succ m ih =>
  intro k p d t z hm hk hp;obtain⟨k,rfl⟩:∃ k',k=k'+1:=⟨k - 1,by omega⟩
  rw[zr];have key:=fun p d t (h1:Y2 t<=m) h2=>ih k p d t z h1 (by omega) h2
  generalize lp wA k=rec at key ⊢;unfold wA;rcases hp.cases with ⟨x,n,rfl,rfl,hx,hn,rfl⟩ | ⟨c,r,ts,rfl,rfl,hc,hr⟩
  ·simp only[qm,aC,af];rw[decide_eq_true (show -1 - (x:Int)<0 by omega),cond_true,Q0 hN hx hn,af,qd (by omega),af]
   obtain⟨e,he,hpe⟩:=hT.get (x:=x+n) (by omega)
   rw[he,af];unfold PcO at hpe;split at hpe
   ·rename_i h1;rw[h1];exact ⟨_,_,_,rfl,hp,fun θ _=>rfl,fun y hy=>by injection hy with hy; rw[← hy]; exact hpe⟩
   ·rename_i q h1;obtain⟨u,hu,hq⟩:=hpe;rw[h1];simp only[cH,cond_false,bp];obtain⟨p',d',t',h2,h3,h4,h5⟩:=key q e.2 u (by
     cases u with
     | v y=>have:=hG.down _ y hu; simp only[Y2] at hm ⊢; omega
     | f c as=>simp only[Y2] at hm ⊢; omega) hq
    exact ⟨p',d',t',h2,h3,fun θ hθ=>(hθ _ u hu).trans (h4 θ hθ),h5⟩
  ·simp only[qm,aC,af];rw[decide_eq_false (show ¬(c:Int)<0 by omega),cond_false]
   exact ⟨_,_,_,rfl,hp,fun θ _=>rfl,fun y hy=>by cases hy⟩
theorem IV {a0:List zj} {N:Nat} (hN:N<=24) {to:List PO} {B:Bd} {σ:Sb} (hT:RepT a0 N to B) (hG:Good B σ) {p:List Int} {d:Int} {t:Tm} (hp:Pc a0 N p d t) :
  ∃ p' d' t',wi p d a0 to=some (p',d')∧Pc a0 N p' d' t'∧(∀ θ,SolB θ B->t.sub θ=t'.sub θ)∧∀ y,t' = .v y->B y=none:=by
 obtain⟨p',d',t',h1,h2⟩:=Pw hN hT hG (Y2 t) ze p d t 0 (aE _) (by
  cases t with
  | v x=>have:=hp.lt hN (x:=x) rfl; simp only[Y2]; unfold ze; omega
  | f c as=>simp only[Y2]; unfold ze; omega) hp
 refine ⟨p',d',t',?_,h2⟩;unfold wi;rw[h1];rfl
section
variable {a0:List zj} {N:Nat} {to:List PO} {B:Bd} {σ:Sb} {v:Nat}
def DoneV (B:Bd) (v:Nat) (seen:List Bool) (y:Nat):Prop:=y≠v∧(B y≠none->seen[y]? = some true)
def PcL (a0:List zj) (N:Nat):List PI->List Tm->Prop
 | [],ts=>ts=[]
 | p::ps,ts=>∃ t ts',ts=t::ts'∧Pc a0 N p.1 p.2 t∧PcL a0 N ps ts'
theorem PcL.append:{ps:List PI}->{ts:List Tm}->{ps':List PI}->{ts':List Tm}->PcL a0 N ps ts->PcL a0 N ps' ts'->PcL a0 N (ps++ps') (ts++ts')
 | [],_,_,_,h,h'=>by have h:_=[]:=h; subst h; exact h'
 | q::qs,_,_,_,h,h'=>by
  obtain⟨e,es,rfl,h1,h2⟩:=h;exact ⟨e,_,rfl,h1,PcL.append h2 h'⟩
theorem PcL.split:{ps:List PI}->{ps':List PI}->{ts:List Tm}->PcL a0 N (ps++ps') ts->∃ t1 t2,ts=t1++t2∧PcL a0 N ps t1∧PcL a0 N ps' t2
 | [],_,ts,h=>⟨[],ts,rfl,rfl,h⟩
 | q::qs,_,_,h=>by
  obtain⟨e,es,rfl,h1,h2⟩:=h;obtain⟨e1,e2,rfl,h3,h4⟩:=PcL.split h2;exact ⟨e::e1,e2,rfl,⟨e,e1,rfl,h1,h3⟩,h4⟩
theorem PcL.length:{ps:List PI}->{ts:List Tm}->PcL a0 N ps ts->ts.length=ps.length
 | [],_,h=>by have h:_=[]:=h; subst h; rfl
 | q::qs,_,h=>by
  obtain⟨e,es,rfl,h1,h2⟩:=h;simp [PcL.length h2]
def Z4 (seen:List Bool):Nat:=seen.countP fun b => !b
theorem Ed {seen:List Bool} {x:Nat} (h:seen[x]? = some false):Z4 (seen.set x true)+1=Z4 seen:=by
 unfold Z4;obtain⟨hx,he⟩:=aq.1 h;have h1:=bR x seen;have h2:seen.drop x=false::seen.drop (x+1):=by rw[aX hx,he]
 have h3:seen.set x true=seen.take x++true::seen.drop (x+1):=by rw[d7,if_pos hx]
 conv=>rhs; rw[← h1,h2]
 rw[h3];simp [fM];omega
theorem Vi (hN:N<=24) (hT:RepT a0 N to B) {n:Nat} (hn:n<=N) (p0:List Int):∀(es:List Int) (seen:List Bool) (todo:List PI) (ts:List Tm),(∀ c∈es,-24<=c)->seen.length=48->todo.length+Z4 seen<=1000->PcL a0 N todo ts ->
  (zk (v:Int) to p0 (n:Int) es seen todo=some (.inr true)∧∃ c∈es,c<0∧(-1 - c).toNat+n=v) ∨
  ∃ seen' more us,zk (v:Int) to p0 (n:Int) es seen todo=some (.inl (seen',todo++more))∧seen'.length=48∧more.length+Z4 seen'=Z4 seen∧PcL a0 N more us ∧
   (∀ y:Nat,seen[y]? = some true->seen'[y]? = some true)∧(∀ c∈es,c<0->DoneV B v seen' ((-1 - c).toNat+n))∧(∀ y:Nat,seen'[y]? = some true->seen[y]? = some true∨∃ u,B y=some u∧u∈us) ∧
   (∀ u∈us,∃ c∈es,c<0∧B ((-1 - c).toNat+n)=some u)
 | [],seen,todo,ts,_,hs,_,_=>.inr ⟨seen,[],[],by rw[cp]; rfl,hs,by simp,rfl,fun _ h=>h,fun c h=>(nomatch h),fun y h=>.inl h,fun u h=>(nomatch h)⟩
 | e::es,seen,todo,ts,hc,hs,hl,hp=>by
  have he:=hc e (ak ..);have hc':∀ c∈es,-24<=c:=fun c h=>hc c (ai _ h)
  -- the variable is passed over
  have pass:∀ f:List Bool->List PI->Option ((List Bool×List PI)⊕Bool),f seen todo=zk (v:Int) to p0 (n:Int) es seen todo->(e<0->DoneV B v seen ((-1 - e).toNat+n)) ->
    ((f seen todo=some (.inr true)∧∃ c∈e::es,c<0∧(-1 - c).toNat+n=v) ∨
    ∃ seen' more us,f seen todo=some (.inl (seen',todo++more))∧seen'.length=48∧more.length+Z4 seen'=Z4 seen∧PcL a0 N more us ∧
     (∀ y:Nat,seen[y]? = some true->seen'[y]? = some true)∧(∀ c∈e::es,c<0->DoneV B v seen' ((-1 - c).toNat+n))∧(∀ y:Nat,seen'[y]? = some true->seen[y]? = some true∨∃ u,B y=some u∧u∈us) ∧
     (∀ u∈us,∃ c∈e::es,c<0∧B ((-1 - c).toNat+n)=some u)):=by
   intro f hf hd;rw[hf];rcases Vi hN hT hn p0 es seen todo ts hc' hs hl hp with ⟨h1,c,h2,h3⟩ | ⟨seen',more,us,h1,h2,h3,h4,h5,h6,h7,h8⟩
   ·exact .inl ⟨h1,c,ai _ h2,h3⟩
   ·refine .inr ⟨seen',more,us,h1,h2,h3,h4,h5,fun c hcm hc0 => ?_,h7,fun u hu => ?_⟩
    ·rcases aB.1 hcm with rfl | hcm
     ·exact ⟨(hd hc0).1,fun hb=>h5 _ ((hd hc0).2 hb)⟩
     ·exact h6 c hcm hc0
    ·obtain⟨c,h9,h10⟩:=h8 u hu;exact ⟨c,ai _ h9,h10⟩
  unfold zk;by_cases h0:e≥0
  ·rw[decide_eq_true h0,cond_true];exact pass (fun seen todo=>zk (v:Int) to p0 (n:Int) es seen todo) rfl fun h=>by omega
  ·rw[decide_eq_false h0,cond_false];obtain⟨k,hk,rfl⟩:∃ k:Nat,k<24∧e = -1 - (k:Int):=⟨(-1 - e).toNat,by omega,by omega⟩
   have hk2:(-1 - (-1 - (k:Int))).toNat=k:=by omega
   rw[Q0 hN hk hn,af];by_cases hv:k+n=v
   ·rw[hv,show (((v:Nat):Int)==(v:Int))=true from by simp,cond_true]
    exact .inl ⟨rfl,_,ak ..,by omega,by rw[hk2]; exact hv⟩
   ·rw[show (((k+n:Nat):Int)==(v:Int))=false from by simp; omega,cond_false,qd (show k+n<48 by omega),af]
    obtain⟨b,hb⟩:∃ b,seen[k+n]? = some b:=⟨seen[k+n]'(by omega),al (by omega)⟩
    rw[hb,af];obtain⟨q,hq,hpq⟩:=hT.get (x:=k+n) (by omega)
    cases b with
    | true =>
     simp only[aA,cond_false];exact pass (fun seen todo=>zk (v:Int) to p0 (n:Int) es seen todo) rfl fun _=>by rw[hk2]; exact ⟨hv,fun _=>hb⟩
    | false =>
     simp only[bJ,cond_true,af,hq];unfold PcO at hpq;split at hpq
     ·rename_i h1;rw[h1];simp only[dc,aA,cond_false];exact pass (fun seen todo=>zk (v:Int) to p0 (n:Int) es seen todo) rfl fun _=>by rw[hk2]; exact ⟨hv,fun hn=>absurd hpq hn⟩
     ·rename_i q1 h1;obtain⟨u,hu,hpu⟩:=hpq;rw[h1];simp only[cH,bJ,cond_true,bp,hb,af];have hun:=Ed hb;rw[zp (show (todo.length+([(q1,q.2)]:List PI).length)*32<=140737488351232 by simp; omega),cond_true]
      have hset:(seen.set (k+n) true)[k+n]? = some true:=cy (by omega)
      have hmono:∀ y:Nat,seen[y]? = some true->(seen.set (k+n) true)[y]? = some true:=fun y hy=>by
       by_cases hyk:y=k+n
       ·subst hyk; exact hset
       ·rw[cI (dj hyk)]; exact hy
      have hbk:∀ y:Nat,(seen.set (k+n) true)[y]? = some true->seen[y]? = some true∨y=k+n:=fun y hy=>by
       by_cases hyk:y=k+n
       ·exact .inr hyk
       ·rw[cI (dj hyk)] at hy; exact .inl hy
      rcases Vi hN hT hn p0 es (seen.set (k+n) true) (todo++[(q1,q.2)]) (ts++[u]) hc' (by rw[ci]; exact hs) (by simp; omega) (hp.append ⟨u,[],rfl,hpu,rfl⟩) with ⟨h2,c,h3,h4⟩ | ⟨seen',more,us,h2,h3,h4,h5,h6,h7,h8,h9⟩
      ·exact .inl ⟨h2,c,ai _ h3,h4⟩
      ·refine .inr ⟨seen',(q1,q.2)::more,u::us,by rw[h2,bc]; rfl,h3,by simp; omega,⟨u,us,rfl,hpu,h5⟩,fun y hy=>h6 y (hmono y hy),fun c hcm hc0 => ?_,fun y hy => ?_,fun w hw => ?_⟩
       ·rcases aB.1 hcm with rfl | hcm
        ·rw[hk2]; exact ⟨hv,fun _=>h6 _ hset⟩
        ·exact h7 c hcm hc0
       ·rcases h8 y hy with h10 | ⟨w,h10,h11⟩
        ·rcases hbk y h10 with h12 | rfl
         ·exact .inl h12
         ·exact .inr ⟨u,hu,ak ..⟩
        ·exact .inr ⟨w,h10,ai _ h11⟩
       ·rcases aB.1 hw with rfl | hw
        ·exact ⟨_,ak ..,by omega,by rw[hk2]; exact hu⟩
        ·obtain⟨c,h10,h11⟩:=h9 w hw;exact ⟨c,ai _ h10,h11⟩
theorem Pc.vars {p:List Int} {d:Int} {t:Tm} (h:Pc a0 N p d t):∃ n:Nat,d=(n:Int)∧n<=N∧(∀ c∈p,-24<=c)∧∀ y,t.has y↔∃ c∈p,c<0∧(-1 - c).toNat+n=y:=by
 obtain⟨u,n,h1,rfl,h2,h3,rfl,h4⟩:=h;refine ⟨n,h2,h3,fun c hc => ?_,fun y => ?_⟩
 ·by_cases h0:c<0
  ·have:=Tm.ok_has u h1 ((Tm.mem_codes h0 u).1 hc); omega
  ·omega
 ·rw[Tm.up_has];constructor
  ·rintro⟨x,hx,rfl⟩;have hc:(-1 - (x:Int))<0:=by omega
   refine ⟨-1 - (x:Int),(Tm.mem_codes hc u).2 (by rw[show (-1 - (-1 - (x:Int))).toNat=x from by omega]; exact hx),hc,by omega⟩
  ·rintro⟨c,hc,h0,rfl⟩;exact ⟨_,(Tm.mem_codes h0 u).1 hc,rfl⟩
structure WInv (B:Bd) (σ:Sb) (v:Nat) (t:Tm) (seen:List Bool) (ts:List Tm):Prop where
 snd:∀ u∈ts,(u.sub σ).has v->(t.sub σ).has v
 top:t∈ts∨∀ y,t.has y->DoneV B v seen y
 cls:∀ x u,seen[x]? = some true->B x=some u->u∈ts∨∀ y,u.has y->DoneV B v seen y
theorem DoneV.mono {seen seen':List Bool} (h:∀ y:Nat,seen[y]? = some true->seen'[y]? = some true) {y:Nat} (hd:DoneV B v seen y):DoneV B v seen' y:=⟨hd.1,fun hb=>h y (hd.2 hb)⟩
theorem Er (hN:N<=24) (hT:RepT a0 N to B) (hG:Good B σ) (hv:B v=none) (t:Tm):∀(m k:Nat) (seen:List Bool) (todo:List PI) (ts:List Tm) (z:List Int) (z2:Int),todo.length+Z4 seen=m->m<k->m<=100->seen.length=48->PcL a0 N todo ts->WInv B σ v t seen ts ->
  ∃ r,lp xB k ((v:Int),a0,to,z,z2,seen,todo)=some r∧((r = .inr true∧(t.sub σ).has v)∨(r = .inl ()∧¬(t.sub σ).has v)):=by
 intro m
 induction m using cQ with
 | _ m ih =>
  intro k seen todo ts z z2 hm hk hm1 hs hp hI;obtain⟨k,rfl⟩:∃ k',k=k'+1:=⟨k - 1,by omega⟩
  rw[zr];have key:=fun (m':Nat) (h:m'<m) seen todo ts z z2 h1 h2 h3 h4=>ih m' h k seen todo ts z z2 h1 (by omega) (by omega) h2 h3 h4
  generalize lp xB k=rec at key ⊢;unfold xB;rcases ft todo with rfl | ⟨todo',p,rfl⟩
  ·have hts:ts=[]:=hp;subst hts;refine ⟨_,rfl,.inr ⟨rfl,?_⟩⟩;have hcl:∀ x u,seen[x]? = some true->B x=some u->∀ y,u.has y->DoneV B v seen y:=fun x u h1 h2=>(hI.cls x u h1 h2).resolve_left (fun h=>nomatch h);have hno:∀ x,DoneV B v seen x->¬(σ x).has v:=by
    refine hG.ind (fun x hx hd hh => ?_) fun x u hx ihx hd hh => ?_
    ·rw[hG.free x hx] at hh;exact hd.1 hh
    ·rw[hG.bound x u hx] at hh;obtain⟨y,h1,h2⟩:=(Tm.has_sub u).1 hh;exact ihx y h1 (hcl x u (hd.2 (by rw[hx]; simp)) hx y h1) h2
   intro hh;obtain⟨y,h1,h2⟩:=(Tm.has_sub t).1 hh;exact hno y ((hI.top.resolve_left fun h=>nomatch h) y h1) h2
  ·rw[fu] at *;obtain⟨ts',us0,rfl,hp1,hp2⟩:=PcL.split hp;obtain⟨u0,us1,rfl,hu0,hus1⟩:=hp2;have hus1:us1=[]:=hus1;subst hus1;simp only[ax,aZ] at hm;obtain⟨q,d⟩:=p;obtain⟨n,rfl,hn,hcs,hvars⟩:=hu0.vars;have e1:ah .i64 (((aa (todo'++[(q,(n:Int))]):Nat):Int) - 1)=((todo'.length:Nat):Int):=by
    rw[ax,aZ,zu]<;>omega
   have e2:inR ((todo'.length:Nat):Int) (aa (todo'++[(q,(n:Int))]))=some todo'.length:=qd (by simp)
   have e3:(todo'++[(q,(n:Int))])[todo'.length]? = some (q,(n:Int)):=Gm _ [] _;have e4:decide (((aa (todo'++[(q,(n:Int))]):Nat):Int)>0)=true:=decide_eq_true (by rw[ax,aZ]; omega)
   simp only[e1,e2,e3,e4,af,cond_true,An];have hsz:u0.size=q.length∧u0.size<=48:=hu0.size;rw[kj _ _ _ _ _ _ _ _ (by unfold maxLen; omega)]
   rcases Vi (v:=v) hN hT hn q q seen todo' ts' hcs hs (by omega) hp1 with ⟨h1,c,h2,h3,h4⟩ | ⟨seen',more,us,h1,h2,h3,h4,h5,h6,h7,h8⟩
   ·rw[h1];refine ⟨_,rfl,.inl ⟨rfl,hI.snd u0 (by simp) ?_⟩⟩
    refine (Tm.has_sub u0).2 ⟨v,(hvars v).2 ⟨c,h2,h3,h4⟩,?_⟩;rw[hG.free v hv];rfl
   ·rw[h1];simp only[af,tB];refine key (todo'.length+more.length+Z4 seen') (by omega) seen' (todo'++more) (ts'++us) q (n:Int) (by simp) h2 (hp1.append h4) ⟨fun w hw hh => ?_,?_,fun x w hx hw => ?_⟩
    ·rcases aQ.1 hw with hw | hw
     ·exact hI.snd w (by simp [hw]) hh
     ·obtain⟨c,h9,h10,h11⟩:=h8 w hw;refine hI.snd u0 (by simp) ((Tm.has_sub u0).2 ⟨_,(hvars _).2 ⟨c,h9,h10,rfl⟩,?_⟩)
      rw[hG.bound _ w h11];exact hh
    ·have hdone:∀ y,u0.has y->DoneV B v seen' y:=fun y hy=>by
      obtain⟨c,h9,h10,rfl⟩:=(hvars y).1 hy;exact h6 c h9 h10
     rcases hI.top with ht | ht
     ·rcases aQ.1 ht with ht | ht
      ·exact .inl (by simp [ht])
      ·rw[bE.1 ht]; exact .inr hdone
     ·exact .inr fun y hy=>(ht y hy).mono h5
    ·have hdone:∀ y,u0.has y->DoneV B v seen' y:=fun y hy=>by
      obtain⟨c,h9,h10,rfl⟩:=(hvars y).1 hy;exact h6 c h9 h10
     rcases h7 x hx with h9 | ⟨w',h9,h10⟩
     ·rcases hI.cls x w h9 hw with ht | ht
      ·rcases aQ.1 ht with ht | ht
       ·exact .inl (by simp [ht])
       ·rw[bE.1 ht]; exact .inr hdone
      ·exact .inr fun y hy=>(ht y hy).mono h5
     ·rw[hw] at h9; injection h9 with h9; subst h9;exact .inl (by simp [h10])
theorem DC (hN:N<=24) (hT:RepT a0 N to B) (hG:Good B σ) (hv:B v=none) {p:List Int} {d:Int} {t:Tm} (hp:Pc a0 N p d t) :
  ∃ r,ue (v:Int) p d a0 to=some r∧(r=true↔(t.sub σ).has v):=by
 have hun:Z4 (az 48 false)=48:=by decide
 obtain⟨r,h1,h2⟩:=Er hN hT hG hv t 49 ze (az 48 false) [(p,d)] [t] p d (by rw[hun]; rfl) (by unfold ze; omega) (by omega) (by simp) ⟨t,[],rfl,hp,rfl⟩
  ⟨fun u hu h=>by rw[bE.1 hu] at h; exact h,.inl (by simp),fun x u hx _=>by
   rw[bK] at hx;split at hx<;>simp at hx⟩
 unfold ue;rw[h1];rcases h2 with ⟨rfl,h2⟩ | ⟨rfl,h2⟩
 ·exact ⟨true,rfl,by simp [h2]⟩
 ·exact ⟨false,rfl,by simp [h2]⟩
end
mutual
def Tm.ht:Tm->Nat
 | .v _=>1
 | .f _ as=>htR as+1
def htR:List Tm->Nat
 | []=>0
 | t::ts=>max t.ht (htR ts)
end
mutual
theorem Tm.ht_size:(t:Tm)->t.ht<=t.size
 | .v _=>aE _
 | .f _ as=>by have:=A4 as; simp only[Tm.ht,Tm.size]; omega
theorem A4:(ts:List Tm)->htR ts<=wH ts
 | []=>aE _
 | t::ts=>by have:=t.ht_size; have:=A4 ts; simp only[htR,wH]; omega
end
mutual
theorem Tm.ht_sub {s:Sb} {M:Nat}:(t:Tm)->(∀ x,t.has x->(s x).ht<=M)->(t.sub s).ht<=t.ht+M
 | .v n,h=>by have:=h n rfl; simp only[Tm.sub,Tm.ht]; omega
 | .f _ as,h=>by have:=M7 as h; simp only[Tm.sub,Tm.ht]; omega
theorem M7 {s:Sb} {M:Nat}:(ts:List Tm)->(∀ x,Xw x ts->(s x).ht<=M)->htR (w8 s ts)<=htR ts+M
 | [],_=>by simp [w8,htR]
 | t::ts,h=>by
  have h1:=Tm.ht_sub t fun x hx=>h x (.inl hx);have h2:=M7 ts fun x hx=>h x (.inr hx);simp only[w8,htR]; omega
end
theorem Bi:{ts:List Tm}->{t:Tm}->t∈ts->t.ht<=htR ts
 | u::us,t,h=>by
  rcases aB.1 h with rfl | h
  ·simp only[htR]; omega
  ·have:=Bi h; simp only[htR]; omega
theorem Good.rank_lt {B:Bd} {σ:Sb} (h:Good B σ) {x y:Nat} {t:Tm} (hx:B x=some t) (hy:t.has y) (h48:y<48):Good.rank σ y<Good.rank σ x:=by
 have hlt:Good.less σ y x=true:=by
  unfold Good.less;have hs:=h.bound x t hx;cases t with
  | v z =>
   have hz:z=y:=hy;subst hz;have h2:=h.down x z hx;have h3:(σ z).size=(σ x).size:=by rw[hs]; rfl
   simp [h3,h2]
  | f c as =>
   have h2:=kY (s:=σ) as hy;have h3:(σ x).size=wH (w8 σ as)+1:=by rw[hs]; rfl
   rw[decide_eq_true (show (σ y).size<(σ x).size by omega)]
   rfl
 refine Vd (a:=y) (b9.2 h48) (fun z _ hz => ?_) (by simp [Good.less]) hlt
 simp only[Good.less,bO,aw,decide_eq_true_eq] at hz hlt ⊢;omega
theorem Good.rank_le (σ:Sb) (x:Nat):Good.rank σ x<=48:=by
 have:Good.rank σ x<=(aR 48).length:=eh;rwa [eI] at this
theorem Good.low {B:Bd} {σ:Sb} (h:Good B σ) (hb:WK B):∀ x,(σ x).ht<=49*49:=by
 have key:∀ x,B x≠none->(σ x).ht<=49*(Good.rank σ x+1):=by
  refine h.ind (fun x hx hn=>absurd hx hn) fun x t hx ih _ => ?_;obtain⟨hx48,ht⟩:=hb x t hx;rw[h.bound x t hx];have h0:=t.ht_size;have:=Tm.ht_sub (s:=σ) (M:=49*Good.rank σ x+1) t fun y hy=>(by
   cases hy0:B y with
   | none=>rw[h.free y hy0]; simp only[Tm.ht]; omega
   | some u =>
    have h1:=ih y hy (by rw[hy0]; simp)
    have h2:=h.rank_lt hx hy (hb y u hy0).1;have:49*(Good.rank σ y+1)<=49*Good.rank σ x:=dS _ (by omega)
    omega)
  omega
 intro x;by_cases hx:B x=none
 ·rw[h.free x hx]; simp [Tm.ht]
 ·have h1:=key x hx;have h2:=Good.rank_le σ x;have:49*(Good.rank σ x+1)<=49*49:=dS _ (by omega)
  omega
def zfl (n m:Nat) (us ws:List Tm):List (List Int×Int×List Int×Int):=List.zipWith (fun a b=>(a.codes,(n:Int),b.codes,(m:Int))) us ws
theorem rd {ts:List Tm} {t:Tm} (h:t∈ts):t.codes.length<=(zb ts).length:=by
 obtain⟨l1,l2,rfl⟩:=dY h;rw[tT];simp [zb];omega
theorem Cz {a0:List zj} {N n m:Nat} (hn:n<=N) (hm:m<=N):{us ws:List Tm}->okR a0 24 us->okR a0 24 ws->(∀ t∈us,t.codes.length<=48)->(∀ t∈ws,t.codes.length<=48) ->
  PqL a0 N (zfl n m us ws) ((us.map (Tm.up n)).zip (ws.map (Tm.up m)))
 | [],_,_,_,_,_=>rfl
 | _::_,[],_,_,_,_=>rfl
 | u::_us,w::_ws,hu,hw,hlu,hlw =>
  ⟨(u.up n,w.up m),_,rfl,⟨⟨u,n,hu.1,rfl,rfl,hn,rfl,hlu u (ak ..)⟩,⟨w,m,hw.1,rfl,rfl,hm,rfl,hlw w (ak ..)⟩⟩,
   Cz hn hm hu.2 hw.2 (fun t h=>hlu t (ai _ h)) fun t h=>hlw t (ai _ h)⟩
theorem I1 (ps2:List jI) (n m:Nat):(us ws:List Tm)->(i:Nat)->(out:List (List Int×Int×List Int×Int))->ps2.drop i=ws.map Tm.codes->us.length=ws.length->out.length+us.length<=1000000 ->
  zH ps2 (n:Int) (m:Int) (us.map Tm.codes) i out=some (out++zfl n m us ws)
 | [],ws,i,out,_,_,_=>by simp [zH,zfl]
 | u::us,[],i,out,_,h,_=>by simp at h
 | u::us,w::ws,i,out,h,hl,hr=>by
  simp only[aj] at hl hr;rw[aJ] at h;rw[aJ];unfold zH;rw[qr,zn h,af,zp (by simp only[aZ]; omega),cond_true,I1 ps2 n m us ws (i+1) _ (zi h) (by omega) (by simp only[ax,aZ]; omega)]
  simp [zfl]
theorem Jw {a0:List zj} (h:SignOk a0) {N:Nat} {p q:List Int} {d e:Int} {ts us:List Tm} (hp:Pr a0 N p d ts) (hq:Pr a0 N q e us) (hl:ts.length=us.length) (to:List PO) {out:List (List Int×Int×List Int×Int)} (ho:out.length<=100000) :
  ∃ more,qB p d q e a0 to out=some (out++more)∧PqL a0 N more (ts.zip us):=by
 obtain⟨us0,n,h1,rfl,rfl,h2,rfl,h3⟩:=hp;obtain⟨ws0,m,h4,rfl,rfl,h5,rfl,h6⟩:=hq;simp only[aO] at hl;have hls:us0.length<=48:=by
  have:=YJ (yv us0 h1);rw[aO] at this;omega
 refine ⟨zfl n m us0 ws0,?_,Cz h2 h5 h1 h4 (fun t ht=>aK (rd ht) h3) fun t ht=>aK (rd ht) h6⟩;unfold qB;rw[vn h (by omega) (yv us0 h1),af,vn h (by omega) (yv ws0 h4),af,
  rN _ _ _ _ _ _ _ (by rw[aO]; unfold maxLen; omega),I1 _ n m us0 ws0 0 out rfl hl (by omega)]
 rfl
theorem JZ {a0:List zj} {N:Nat} {p:List Int} {d:Int} {t:Tm} (h:Pc a0 N p d t):nn p=some p:=by
 have h1:=h.size;have h2:=t.size_pos;cases p with
 | nil=>simp at h1; omega
 | cons x r=>rfl
theorem AE {a0:List zj} {N:Nat} (hN:N<=24) {to:List PO} {B:Bd} {σ:Sb} (hT:RepT a0 N to B) (hG:Good B σ) {p q:List Int} {d e:Int} {v:Nat} {u:Tm} (hp:Pc a0 N p d (.v v)) (hq:Pc a0 N q e u) (hv:B v=none) (hu:∀ y,u = .v y->B y=none) :
  ∃ r to',qp p d q e a0 to=some (r,a0,to')∧((r=false∧∀ θ,SolB θ B->θ v=u.sub θ->False)∨(r=true∧∃ B' σ',RepT a0 N to' B'∧Good B' σ'∧∀ θ,SolB θ B'↔SolB θ B∧θ v=u.sub θ)):=by
 have hv48:v<48:=hp.lt hN rfl;rcases hp.cases with ⟨k,n,rfl,rfl,hk,hn,he⟩ | ⟨_,_,_,_,he,_⟩
 case inr=>cases he
 injection he with he;subst he;unfold qp;simp only[qm,aC,af,Q0 hN hk hn];rcases hq.cases with ⟨k2,n2,rfl,rfl,hk2,hn2,rfl⟩ | ⟨c,r,ts,rfl,rfl,hc,hr⟩
 ·simp only[aC,af,Q0 hN hk2 hn2];rw[decide_eq_false (show ¬(-1 - (k2:Int)≥0) by omega),cond_false]
  have hw:=hu _ rfl;by_cases h1:k2+n2>k+n
  ·rw[decide_eq_true (show ((k2+n2:Nat):Int)>((k+n:Nat):Int) by omega),cond_true,qd (by omega),af]
   obtain⟨x,hx,-⟩:=hT.get (x:=k2+n2) (by omega)
   rw[hx,af,JZ hp,af];refine ⟨true,_,rfl,.inr ⟨rfl,_,_,hT.set (by omega) hp,hG.bind hw ?_ ?_,fun θ=>(SolB.upd hw).trans ?_⟩⟩
   ·show ¬(σ (k+n)).has (k2+n2);rw[hG.free _ hv];show ¬(k+n=k2+n2);omega
   ·intro y hy;injection hy with hy;omega
   ·show _∧θ (k2+n2)=θ (k+n)↔_∧θ (k+n)=θ (k2+n2);exact ⟨fun h=>⟨h.1,h.2.symm⟩,fun h=>⟨h.1,h.2.symm⟩⟩
  ·rw[decide_eq_false (show ¬(((k2+n2:Nat):Int)>((k+n:Nat):Int)) by omega),cond_false]
   by_cases h2:k2+n2<k+n
   ·rw[decide_eq_true (show ((k2+n2:Nat):Int)<((k+n:Nat):Int) by omega),cond_true,qd (by omega),af]
    obtain⟨x,hx,-⟩:=hT.get (x:=k+n) (by omega)
    rw[hx,af,JZ hq,af];refine ⟨true,_,rfl,.inr ⟨rfl,_,_,hT.set (by omega) hq,hG.bind hv ?_ ?_,fun θ=>SolB.upd hv⟩⟩
    ·show ¬(σ (k2+n2)).has (k+n);rw[hG.free _ hw];show ¬(k2+n2=k+n);omega
    ·intro y hy;injection hy with hy;omega
   ·rw[decide_eq_false (show ¬(((k2+n2:Nat):Int)<((k+n:Nat):Int)) by omega),cond_false]
    have:k2+n2=k+n:=by omega
    refine ⟨true,_,rfl,.inr ⟨rfl,B,σ,hT,hG,fun θ=>⟨fun h=>⟨h,?_⟩,fun h=>h.1⟩⟩⟩;show θ (k+n)=θ (k2+n2);rw[this]
 ·simp only[aC,af];rw[decide_eq_true (show (c:Int)≥0 by omega),cond_true]
  obtain⟨w,hw1,hw2⟩:=DC hN hT hG hv hq;rw[hw1,af];cases w with
  | true =>
   refine ⟨false,_,rfl,.inl ⟨rfl,fun θ h1 h2=>hG.occurs (hw2.1 rfl) h1 h2⟩⟩
  | false =>
   rw[cond_false,qd (by omega),af]
   obtain⟨x,hx,-⟩:=hT.get (x:=k+n) (by omega)
   rw[hx,af,JZ hq,af];refine ⟨true,_,rfl,.inr ⟨rfl,_,_,hT.set (by omega) hq,hG.bind hv (fun h=>by have:=hw2.2 h; cases this) (fun y hy=>by cases hy),fun θ=>SolB.upd hv⟩⟩
def wt (σ:Sb) (E:List (Tm×Tm)):Nat:=(E.map fun e=>(e.1.sub σ).size).sum
theorem V0 (σ:Sb) (E F:List (Tm×Tm)):wt σ (E++F)=wt σ E+wt σ F:=by simp [wt]
theorem UE (σ:Sb) (e:Tm×Tm):wt σ [e]=(e.1.sub σ).size:=by simp [wt]
theorem L4 (σ:Sb):{ts us:List Tm}->ts.length=us.length->wt σ (ts.zip us)=wH (w8 σ ts)
 | [],_,_=>rfl
 | _::_,[],h=>by simp at h
 | t::ts,u::us,h=>by
  have:=L4 σ (ts:=ts) (us:=us) (by simpa using h)
  simp only[wt] at this ⊢;simp only[dZ,aJ,cE,w8,wH,this]
def HtOk (R:List Tm) (B:Bd) (i:Nat) (t:Tm):Prop:=∃ δ:Nat,i<=47+3*δ∧∀ θ,SolB θ B->∃ c∈R,δ+(t.sub θ).ht<=(c.sub θ).ht
def StkOk (R:List Tm) (B:Bd) (E:List (Tm×Tm)):Prop:=∀(i:Nat) e,E[i]? = some e->HtOk R B i e.1
theorem HtOk.mono {R:List Tm} {B B':Bd} {i:Nat} {t:Tm} (h:HtOk R B i t) (hB:∀ θ,SolB θ B'->SolB θ B):HtOk R B' i t:=by
 obtain⟨δ,h1,h2⟩:=h;exact ⟨δ,h1,fun θ hθ=>h2 θ (hB θ hθ)⟩
theorem StkOk.mono {R:List Tm} {B B':Bd} {E:List (Tm×Tm)} (h:StkOk R B E) (hB:∀ θ,SolB θ B'->SolB θ B):StkOk R B' E:=fun i e he=>(h i e he).mono hB
theorem StkOk.left {R:List Tm} {B:Bd} {E F:List (Tm×Tm)} (h:StkOk R B (E++F)):StkOk R B E:=fun i e he=>h i e (by
 rw[bv (aq.1 he).1]; exact he)
theorem StkOk.len {R:List Tm} {B:Bd} {σ:Sb} {E:List (Tm×Tm)} (h:StkOk R B E) (hG:Good B σ) (hS:WK B) (hR:∀ c∈R,c.size<=48):E.length<=8000:=by
 rcases Nat.eq_zero_or_pos E.length with h0 | h0
 ·omega
 ·obtain⟨δ,h1,h2⟩:=h (E.length - 1) E[E.length - 1] (al (by omega))
  obtain⟨c,hc,h3⟩:=h2 σ hG.bound;have h4:=Tm.ht_sub (s:=σ) c fun x _=>hG.low hS x;have h5:=c.ht_size;have h6:=hR c hc;omega
theorem zde (t:Tm):0<t.ht:=by cases t<;>simp [Tm.ht]
def SameR (a0:List zj) (N:Nat) (B:Bd) (E:List (Tm×Tm)) (r:Bool×List zj×List PO):Prop :=
 r.2.1=a0∧((r.1=false∧Out B E none)∨(r.1=true∧∃ B',RepT a0 N r.2.2 B'∧Out B E (some B')))
theorem SameR.via {a0:List zj} {N:Nat} {B B1:Bd} {E E1:List (Tm×Tm)} (h:∀ θ,(SolB θ B1∧Sol θ E1)↔(SolB θ B∧Sol θ E)) {r:Bool×List zj×List PO} (hr:SameR a0 N B1 E1 r):SameR a0 N B E r :=
 ⟨hr.1,hr.2.imp (fun h1=>⟨h1.1,Out.via h h1.2⟩) fun ⟨h1,B',h2,h3⟩=>⟨h1,B',h2,Out.via h h3⟩⟩
theorem RO {a0:List zj} (hs:SignOk a0) {N:Nat} (hN:N<=24) (R:List Tm) (hR:∀ c∈R,c.size<=48):∀(n:Nat) (to:List PO) (B:Bd) (σ:Sb) (todo:List (List Int×Int×List Int×Int)) (E:List (Tm×Tm)),
  RepT a0 N to B->Good B σ->PqL a0 N todo E->StkOk R B E ->
  (∃ r,(∀ k,lp zx (k+n) (a0,to,todo)=some r)∧SameR a0 N B E r)∨∃ B' σ',Good B' σ'∧WK B'∧(∀ θ,SolB θ B'->SolB θ B)∧n<=wt σ' E:=by
 intro n
 induction n with
 | zero=>intro to B σ todo E hT hG _ _; exact .inr ⟨B,σ,hG,hT.small,fun _ h=>h,b6 _⟩
 | succ n ih =>
  intro to B σ todo E hT hG hP hK;have hlen:=hK.len hG hT.small hR;have hpl:=hP.length
  -- one round, and what is left
  have go:∀(to1:List PO) (B1:Bd) (σ1:Sb) (todo1:List (List Int×Int×List Int×Int)) (E1:List (Tm×Tm)),RepT a0 N to1 B1->Good B1 σ1->PqL a0 N todo1 E1->StkOk R B1 E1 ->
    (∀ θ,(SolB θ B1∧Sol θ E1)↔(SolB θ B∧Sol θ E))->(∀ θ,SolB θ B1->SolB θ B)->(∀ σ',SolB σ' B1->wt σ' E1+1<=wt σ' E)->(∀ rec,zx rec (a0,to,todo)=rec (a0,to1,todo1)) ->
    ((∃ r,(∀ k,lp zx (k+(n+1)) (a0,to,todo)=some r)∧SameR a0 N B E r)∨∃ B' σ',Good B' σ'∧WK B'∧(∀ θ,SolB θ B'->SolB θ B)∧n+1<=wt σ' E):=by
   intro to1 B1 σ1 todo1 E1 h1 h2 h3 h4 h5 h6 h7 h8;rcases ih to1 B1 σ1 todo1 E1 h1 h2 h3 h4 with ⟨r,h9,h10⟩ | ⟨B',σ',h9,h10,h11,h12⟩
   ·refine .inl ⟨r,fun k => ?_,h10.via h5⟩;rw[← bI,zr,h8];exact h9 k
   ·have:=h7 σ' (h11 _ h9.bound);exact .inr ⟨B',σ',h9,h10,fun θ hθ=>h6 θ (h11 θ hθ),by omega⟩
  have stop:∀ r,SameR a0 N B E r->(∀ rec,zx rec (a0,to,todo)=some r) ->
    ((∃ r,(∀ k,lp zx (k+(n+1)) (a0,to,todo)=some r)∧SameR a0 N B E r)∨∃ B' σ',Good B' σ'∧WK B'∧(∀ θ,SolB θ B'->SolB θ B)∧n+1<=wt σ' E) :=
   fun r h1 h2=>.inl ⟨r,fun k=>by rw[← bI,zr,h2],h1⟩
  rcases ft todo with rfl | ⟨todo',t,rfl⟩
  ·have hE:E=[]:=hP;subst hE;exact stop (true,a0,to) ⟨rfl,.inr ⟨rfl,B,hT,Out.done hG hT.small⟩⟩ fun rec=>rfl
  ·rw[fu] at *;obtain⟨p,d,q,e⟩:=t;obtain⟨E',F,rfl,hP',hF⟩:=PqL.split hP;obtain⟨⟨s,u⟩,F',rfl,⟨hps,hqu⟩,hF'⟩:=hF;have hF':F'=[]:=hF';subst hF';have hps:Pc a0 N p d s:=hps;have hqu:Pc a0 N q e u:=hqu;obtain⟨p1,d1,s1,hw1,hp1,hs1,hb1⟩:=IV hN hT hG hps;obtain⟨q1,e1,u1,hw2,hq1,hu1,hb2⟩:=IV hN hT hG hqu;simp only[ax,aZ] at hlen hpl;have x1:ah .i64 (((aa (todo'++[(p,d,q,e)]):Nat):Int) - 1)=((todo'.length:Nat):Int):=by
    rw[ax,aZ,zu]<;>omega
   have x2:inR ((todo'.length:Nat):Int) (aa (todo'++[(p,d,q,e)]))=some todo'.length:=qd (by simp)
   have x3:(todo'++[(p,d,q,e)])[todo'.length]? = some (p,d,q,e):=Gm _ [] _;have x4:(((aa (todo'++[(p,d,q,e)]):Nat):Int)==0)=false:=by simp; omega
   have hsol:∀ θ,SolB θ B->(Sol θ (E'++[(s,u)])↔Sol θ E'∧s1.sub θ=u1.sub θ):=fun θ hθ=>by
    rw[Sol.append,Sol.cons,hs1 θ hθ,hu1 θ hθ];exact ⟨fun h=>⟨h.1,h.2.1⟩,fun h=>⟨h.1,h.2,Sol.nil⟩⟩
   -- one round
   have round:∀ rec,zx rec (a0,to,todo'++[(p,d,q,e)])=(gx p1 0).bind fun e34=>cond (decide (e34<0))
     ((qp p1 d1 q1 e1 a0 to).bind fun r35=>cond r35.1 (rec (r35.2.1,r35.2.2,todo')) (some (false,r35.2.1,r35.2.2)))
     ((gx q1 0).bind fun e36=>cond (decide (e36<0))
      ((qp q1 e1 p1 d1 a0 to).bind fun r37=>cond r37.1 (rec (r37.2.1,r37.2.2,todo')) (some (false,r37.2.1,r37.2.2)))
      ((gx p1 0).bind fun e38=>(gx q1 0).bind fun e39=>cond (e38 != e39) (some (false,a0,to))
       ((vU p1 (some 1) none).bind fun y40=>(vU q1 (some 1) none).bind fun y41=>(qB y40 d1 y41 e1 a0 to todo').bind fun r42=>rec (a0,to,r42)))):=by
    intro rec;unfold zx;simp only[x1,x2,x3,x4,af,cond_false,An,hw1,hw2]
   have hbind:∀{B1:Bd} {v:Nat} {w:Tm},(∀ θ,SolB θ B1↔SolB θ B∧θ v=w.sub θ)->(∀ θ,SolB θ B->(s1.sub θ=u1.sub θ↔θ v=w.sub θ))->∀ θ,(SolB θ B1∧Sol θ E')↔(SolB θ B∧Sol θ (E'++[(s,u)])):=by
    intro B1 v w h1 h2 θ;rw[h1 θ];constructor
    ·rintro⟨⟨h3,h4⟩,h5⟩;exact ⟨h3,(hsol θ h3).2 ⟨h5,(h2 θ h3).2 h4⟩⟩
    ·rintro⟨h3,h4⟩;have h6:=(hsol θ h3).1 h4;exact ⟨⟨h3,(h2 θ h3).1 h6.2⟩,h6.1⟩
   have hwt:∀ σ',wt σ' E'+1<=wt σ' (E'++[(s,u)]):=fun σ'=>by
    rw[V0,UE];have:=(s.sub σ').size_pos;show wt σ' E'+1<=wt σ' E'+(s.sub σ').size;omega
   rcases hp1.cases with ⟨k1,n1,rfl,rfl,hk1,hn1,rfl⟩ | ⟨c1,r1,ts1,rfl,rfl,hc1,hr1⟩
   ·-- a variable on the left
    obtain⟨r,to1,hput,hres⟩:=AE hN hT hG hp1 hq1 (hb1 _ rfl) hb2;rcases hres with ⟨rfl,hno⟩ | ⟨rfl,B1,σ1,hT1,hG1,hB1⟩
    ·refine stop (false,a0,to1) ⟨rfl,.inl ⟨rfl,fun θ h1 h2=>hno θ h1 ((hsol θ h1).1 h2).2⟩⟩ fun rec => ?_;rw[round,qm,aC,af,decide_eq_true (show -1 - (k1:Int)<0 by omega),cond_true,hput]
     rfl
    ·refine go to1 B1 σ1 todo' E' hT1 hG1 hP' (hK.left.mono fun θ h=>((hB1 θ).1 h).1) (hbind hB1 fun θ _=>Iff.rfl) (fun θ h=>((hB1 θ).1 h).1) (fun σ' _=>hwt σ') fun rec => ?_;rw[round,qm,aC,af,decide_eq_true (show -1 - (k1:Int)<0 by omega),cond_true,hput]
     rfl
   ·rcases hq1.cases with ⟨k2,n2,rfl,rfl,hk2,hn2,rfl⟩ | ⟨c2,r2,ts2,rfl,rfl,hc2,hr2⟩
    ·obtain⟨r,to1,hput,hres⟩:=AE hN hT hG hq1 hp1 (hb2 _ rfl) hb1;rcases hres with ⟨rfl,hno⟩ | ⟨rfl,B1,σ1,hT1,hG1,hB1⟩
     ·refine stop (false,a0,to1) ⟨rfl,.inl ⟨rfl,fun θ h1 h2=>hno θ h1 ((hsol θ h1).1 h2).2.symm⟩⟩ fun rec => ?_;rw[round];simp only[qm,aC,af];rw[decide_eq_false (show ¬(c1:Int)<0 by omega),cond_false,decide_eq_true (show -1 - (k2:Int)<0 by omega),cond_true,hput]
      rfl
     ·refine go to1 B1 σ1 todo' E' hT1 hG1 hP' (hK.left.mono fun θ h=>((hB1 θ).1 h).1) (hbind hB1 fun θ _=>⟨fun h=>h.symm,fun h=>h.symm⟩) (fun θ h=>((hB1 θ).1 h).1) (fun σ' _=>hwt σ') fun rec => ?_;rw[round];simp only[qm,aC,af];rw[decide_eq_false (show ¬(c1:Int)<0 by omega),cond_false,decide_eq_true (show -1 - (k2:Int)<0 by omega),cond_true,hput]
      rfl
    ·by_cases hcc:c1=c2
     ·subst hcc;have hl:ts1.length=ts2.length:=by rw[hc1] at hc2; injection hc2
      have hl3:ts1.length<=3:=Gv hs hc1;obtain⟨more,hm1,hm2⟩:=Jw hs hr1 hr2 hl to (out:=todo') (by omega)
      refine go to B σ (todo'++more) (E'++ts1.zip ts2) hT hG (hP'.append hm2) ?_ ?_ (fun _ h=>h) ?_ fun rec => ?_
      ·intro i e hi;rcases bF i E'.length with hlt | hge
       ·rw[bv hlt] at hi;exact hK.left i e hi
       ·rw[bf hge] at hi;have hi3:i - E'.length<3:=by
         have:=(aq.1 hi).1;rw[gj] at this;omega
        obtain⟨δ,h1,h2⟩:=hK E'.length (s,u) (by rw[bf (aE _),d9]; rfl)
        refine ⟨δ+1,by omega,fun θ hθ => ?_⟩
        obtain⟨c,hc,h3⟩:=h2 θ hθ;refine ⟨c,hc,?_⟩;have h3:δ+(s.sub θ).ht<=(c.sub θ).ht:=h3;rw[hs1 θ hθ] at h3;have h4:e.1∈ts1:=(gk (a:=e.1) (b:=e.2) (aM hi)).1;have h5:(e.1.sub θ).ht<=htR (w8 θ ts1):=Bi (by rw[Y7]; exact bh h4)
        have h6:((Tm.f c1 ts1).sub θ).ht=htR (w8 θ ts1)+1:=rfl;omega
      ·intro θ;rw[Sol.append,Sol.zip hl];constructor
       ·rintro⟨h1,h2,h3⟩;exact ⟨h1,(hsol θ h1).2 ⟨h2,zec.2 ⟨rfl,h3⟩⟩⟩
       ·rintro⟨h1,h2⟩;have h3:=(hsol θ h1).1 h2;exact ⟨h1,h3.1,(zec.1 h3.2).2⟩
      ·intro σ' hσ';rw[V0,V0,UE,L4 σ' hl];show _<=wt σ' E'+(s.sub σ').size;rw[hs1 σ' hσ'];show _<=wt σ' E'+(wH (w8 σ' ts1)+1);omega
      ·rw[round];simp only[qm,aC,af];rw[decide_eq_false (show ¬(c1:Int)<0 by omega),cond_false,cond_false,show ((c1:Int) != (c1:Int))=false from by simp,cond_false,u9,af,u9,af,hm1]
       rfl
     ·refine stop (false,a0,to) ⟨rfl,.inl ⟨rfl,fun θ h1 h2=>hcc (zec.1 ((hsol θ h1).1 h2).2).1⟩⟩ fun rec => ?_;rw[round];simp only[qm,aC,af];rw[decide_eq_false (show ¬(c1:Int)<0 by omega),cond_false,decide_eq_false (show ¬(c2:Int)<0 by omega),cond_false,show ((c1:Int) != (c2:Int))=true from by simp; omega,cond_true]
theorem Mn {a0:List zj} (hs:SignOk a0) {N:Nat} (hN:N<=24) {to:List PO} {B:Bd} {σ:Sb} (hT:RepT a0 N to B) (hG:Good B σ) {p q:List Int} {d e:Int} {ts us:List Tm} (hp:Pr a0 N p d ts) (hq:Pr a0 N q e us) (hl:ts.length=us.length) :
  ∃ r,xM p d q e a0 to=some r∧SameR a0 N B (ts.zip us) r:=by
 have eta:∀ o:Option (Bool×List zj×List PO),(o.bind fun r=>some (r.1,r.2.1,r.2.2))=o:=fun o=>by cases o<;>rfl
 obtain⟨more,hm1,hm2⟩:=Jw hs hp hq hl to (out:=[]) (by simp)
 have e0:xM p d q e a0 to=lp zx (ze+1) (a0,to,more):=by
  unfold xM;rw[hm1,af,zr,bx];generalize lp zx ze=rec;unfold zx;simp only[eta]
 have hsz:∀ c∈ts,c.size<=48:=fun c hc=>by
  obtain⟨us0,n,h1,rfl,h2,h3,rfl,h4⟩:=hp;obtain⟨c0,h5,rfl⟩:=aW.1 hc;rw[Tm.up_size,← Tm.codes_len];exact aK (rd h5) h4
 have hlen:ts.length<=48:=by
  obtain⟨us0,n,h1,rfl,h2,h3,rfl,h4⟩:=hp;have:=YJ (yv us0 h1);rw[aO] at this ⊢;omega
 have hK:StkOk ts B (ts.zip us):=fun i x hi=>by
  have hi0:=(aq.1 hi).1;rw[gj] at hi0;exact ⟨0,by omega,fun θ _=>⟨x.1,(gk (a:=x.1) (b:=x.2) (aM hi)).1,by omega⟩⟩
 rw[e0];rcases RO hs hN ts hsz (48*(48*48 ^ 49)+1) to B σ more (ts.zip us) hT hG hm2 hK with ⟨r,h1,h2⟩ | ⟨B',σ',h1,h2,h3,h4⟩
 ·have:=h1 (ze+1 - (48*(48*48 ^ 49)+1));rw[show ze+1 - (48*(48*48 ^ 49)+1)+(48*(48*48 ^ 49)+1)=ze+1 from by unfold ze; omega] at this
  exact ⟨r,this,h2⟩
 ·exfalso;rw[L4 σ' hl,Y7,GC,cF] at h4;have h5:∀ l:List Tm,(∀ c∈l,c.size<=48)->(l.map (Tm.size ∘ Tm.sub σ')).sum<=l.length*(48*48 ^ 49):=by
   intro l
   induction l with
   | nil=>intro _; simp
   | cons c l ih =>
    intro h;have h6:=ih fun c hc=>h c (ai _ hc);have h7:=h1.small_sub h2 c;have h8:=h c (ak ..);have h9:c.size*48 ^ 49<=48*48 ^ 49:=aS _ h8;simp only[aJ,cE,aj,gY];rw[bk,Nat.one_mul];omega
  have h6:=h5 ts hsz;have h7:ts.length*(48*48 ^ 49)<=48*(48*48 ^ 49):=aS _ hlen;omega
def Zx (s:Sb) (c:Int):List Int:=if c<0 then (s (-1 - c).toNat).codes else [c]
mutual
theorem Tm.codes_sub (s:Sb):(t:Tm)->(t.sub s).codes=t.codes.flatMap (Zx s)
 | .v n=>by
  show (s n).codes=[-1 - (n:Int)].flatMap (Zx s);simp only[bt,List.flatMap_nil,cp,Zx];rw[if_pos (by omega),show (-1 - (-1 - (n:Int))).toNat=n from by omega]
 | .f c as=>by
  show (c:Int)::zb (w8 s as)=((c:Int)::zb as).flatMap (Zx s);rw[bt,rH s as];unfold Zx;rw[if_neg (by omega)]
  rfl
theorem rH (s:Sb):(ts:List Tm)->zb (w8 s ts)=(zb ts).flatMap (Zx s)
 | []=>rfl
 | t::ts=>by
  show (t.sub s).codes++zb (w8 s ts)=(t.codes++zb ts).flatMap (Zx s);rw[Tm.codes_sub s t,rH s ts,List.flatMap_append]
end
theorem C0 {k:Nat} (hk:k<24) (p:Option jI):xb p 0 (-1 - (k:Int))=some (k:Int):=by
 unfold xb;rw[we (by omega) (by omega),af]
 congr 1
 rw[zu]<;>omega
section
variable {a0:List zj} {to:List PO} {B:Bd} {σ:Sb}
def zcE (o:List Int):Option jI:=if o.length<=48 then some o else none
theorem BB (hT:RepT a0 0 to B) (hG:Good B σ) (p:List Int) (hp48:p.length<=48) (rf:((Option jI)×Int×jS×(List PO))->Option (Option jI))
  (hrf:∀(y:Nat) q d u,(-1 - (y:Int))∈p->to[y]? = some (some q,d)->B y=some u->rf (some q,d,a0,to)=some (zcE (u.sub σ).codes)):∀(es:List Int) (i k:Nat) (out:List Int),p.drop i=es->es.length<k->(∀ c∈es,-24<=c)->out.length<=48 ->
  lp (yG rf) k (some p,((p.length:Nat):Int),(i:Int),a0,to,some p,0,out)=some (if out.length+(es.flatMap (Zx σ)).length<=48 then .inl (out++es.flatMap (Zx σ)) else .inr ()):=by
 intro es
 induction es with
 | nil =>
  intro i k out h hk _ ho;obtain⟨k,rfl⟩:∃ k',k=k'+1:=⟨k - 1,by simp at hk; omega⟩
  rw[zr];generalize lp (yG rf) k=rec;unfold yG;have hi:p.length<=i:=by
   have:=congrArg aa h;simp at this; omega
  rw[decide_eq_false (show ¬((i:Int)<((p.length:Nat):Int)) by omega),cond_false]
  simp [ho]
 | cons c es ih =>
  intro i k out h hk hc ho;obtain⟨k,rfl⟩:∃ k',k=k'+1:=⟨k - 1,by simp at hk; omega⟩
  rw[zr];have key:=fun out' ho'=>ih (i+1) k out' (zi h) (by simp at hk; omega) (fun c h=>hc c (ai _ h)) ho'
  generalize lp (yG rf) k=rec at key ⊢;unfold yG;have hget:=zn h;have hi:i<p.length:=(aq.1 hget).1;have hmem:c∈p:=aM hget;have hw:ah .i64 ((i:Int)+1)=((i+1:Nat):Int):=by rw[zu]<;>omega
  rw[decide_eq_true (show ((i:Int)<((p.length:Nat):Int)) by omega),cond_true]
  simp only[bp,qr,hget,af,hw]
  -- one code that stays
  have stay:Zx σ c=[c]->(((nn ([c]:List Int)).bind fun _=>some false).bind fun z=>cond z (some (aG ()))
    (cond (decide ((ah .i64 (((aa out:Nat):Int)+((aa ([c]:List Int):Nat):Int)))>48)) (some (aG ()))
     (cond (yM (aa out+aa ([c]:List Int)) 8) (rec (some p,((p.length:Nat):Int),((i+1:Nat):Int),a0,to,some p,0,(out++([c]:List Int)))) none))) =
    some (if out.length+((c::es).flatMap (Zx σ)).length<=48 then .inl (out++(c::es).flatMap (Zx σ)) else .inr ()):=by
   intro he;have e1:(nn ([c]:List Int))=some [c]:=rfl;rw[e1,bt,he];have w2:ah .i64 (((aa out:Nat):Int)+((aa ([c]:List Int):Nat):Int))=((out.length+1:Nat):Int):=by
    rw[zu]<;>simp only[aZ]<;>omega
   simp only[af,cond_false,w2];simp only[ax,aZ];by_cases h48:out.length+1<=48
   ·rw[decide_eq_false (show ¬(((out.length+1:Nat):Int)>48) by omega),cond_false,zp (by omega),cond_true,key _ (by simp; omega)]
    simp only[ax,aZ,bc];have:out.length+1+(es.flatMap (Zx σ)).length=out.length+(1+(es.flatMap (Zx σ)).length):=by omega
    rw[this]
   ·rw[decide_eq_true (show (((out.length+1:Nat):Int)>48) by omega),cond_true,if_neg (by omega)]
  by_cases h0:c<0
  ·obtain⟨y,hy,rfl⟩:∃ y:Nat,y<24∧c = -1 - (y:Int):=⟨(-1 - c).toNat,by have:=hc c (ak ..); omega,by omega⟩
   rw[decide_eq_true h0,cond_true,C0 hy,af,qd (show y<48 by omega),af]
   obtain⟨e,he,hpe⟩:=hT.get (x:=y) (by omega)
   rw[he,af];have hexp:Zx σ (-1 - (y:Int))=(σ y).codes:=by
    unfold Zx;rw[if_pos h0,show (-1 - (-1 - (y:Int))).toNat=y from by omega]
   unfold PcO at hpe;split at hpe
   ·rename_i h1;rw[h1];simp only[dc,aA,cond_false];exact stay (by rw[hexp,hG.free y hpe]; rfl)
   ·rename_i q h1;obtain⟨u,hu,hq⟩:=hpe;rw[h1];simp only[cH,bJ,cond_true,af,qd (show y<48 by omega),he]
    rw[h1,hrf y q e.2 u hmem (by rw[he,← h1]) hu,af]
    rw[bt,hexp,hG.bound y u hu];unfold zcE;by_cases hsz:(u.sub σ).codes.length<=48
    ·rw[if_pos hsz];have w2:ah .i64 (((aa out:Nat):Int)+(((u.sub σ).codes.length:Nat):Int))=((out.length+(u.sub σ).codes.length:Nat):Int):=by
      rw[zu]<;>omega
     simp only[cH,cond_false,bp,w2];simp only[ax];by_cases h48:out.length+(u.sub σ).codes.length<=48
     ·rw[decide_eq_false (show ¬(((out.length+(u.sub σ).codes.length:Nat):Int)>48) by omega),cond_false,zp (by omega),cond_true,key _ (by simp; omega)]
      simp only[ax,bc];rw[bI]
     ·rw[decide_eq_true (show (((out.length+(u.sub σ).codes.length:Nat):Int)>48) by omega),cond_true,if_neg (by omega)]
    ·rw[if_neg hsz];simp only[dc,cond_true,ax];rw[if_neg (by omega)]
  ·rw[decide_eq_false h0,cond_false];exact stay (by unfold Zx; rw[if_neg h0])
theorem M5 (hT:RepT a0 0 to B) (hG:Good B σ):∀(k m:Nat) (p:List Int) (d:Int) (t:Tm),Pc a0 0 p d t->(∀ y,t.has y->B y≠none->Good.rank σ y<m)->m<k ->
  qF k (some p,d,a0,to)=some (zcE (t.sub σ).codes):=by
 intro k
 induction k with
 | zero=>intro m p d t _ _ h; omega
 | succ k ih =>
  intro m p d t hp hm hk;obtain⟨u,n,h1,rfl,rfl,h2,rfl,h3⟩:=hp;have hn:n=0:=by omega
  subst hn;rw[Tm.up_zero] at hm ⊢;have hsmall:∀ c∈u.codes,-24<=c:=fun c hc=>by
   by_cases h0:c<0
   ·have:=Tm.ok_has u h1 ((Tm.mem_codes h0 u).1 hc); omega
   ·omega
  show sd (qF k) (some u.codes) ((0:Nat):Int) a0 to=_;unfold sd;have hr:=BB hT hG u.codes h3 (qF k) (fun y q d w hy hto hw=>by
   have hyu:u.has y:=by
    have:=(Tm.mem_codes (by omega) u).1 hy
    rwa [show (-1 - (-1 - (y:Int))).toNat=y from by omega] at this
   have hpc:Pc a0 0 q d w:=by
    have:=hT.at_ y _ hto;obtain⟨t',h5,h6⟩:=(show ∃ t,B y=some t∧Pc a0 0 q d t from this)
    rw[hw] at h5; injection h5 with h5; subst h5;exact h6
   have hlt:=hm y hyu (by rw[hw]; simp)
   exact ih (Good.rank σ y) q d w hpc (fun z hz hb=>hG.rank_lt hw hz (by
    cases hbz:B z with
    | none=>exact absurd hbz hb
    | some x=>exact (hT.small z x hbz).1)) (by omega)) u.codes 0 ze [] rfl (by unfold ze; omega) hsmall (by simp)
  simp only[bp];have hr:lp (yG (qF k)) ze (some u.codes,((u.codes.length:Nat):Int),0,a0,to,some u.codes,((0:Nat):Int),[])=_:=hr;rw[hr,← Tm.codes_sub];unfold zcE;have hne:nn (u.sub σ).codes=some (u.sub σ).codes:=XB fun e=>by
   have:=congrArg aa e;rw[Tm.codes_len] at this;have:=(u.sub σ).size_pos;simp at *; omega
  by_cases h48:(u.sub σ).codes.length<=48
  ·simp only[bb,aN,bx];rw[if_pos h48,if_pos h48];simp only[af,tB,hne]
  ·simp only[bb,aN];rw[if_neg h48,if_neg h48];rfl
theorem CK (hT:RepT a0 0 to B) (hG:Good B σ) {p:List Int} {d:Int} {t:Tm} (hp:Pc a0 0 p d t):rR (some p) d a0 to=some (zcE (t.sub σ).codes):=by
 refine M5 hT hG ze 49 p d t hp (fun y _ _ => ?_) (by unfold ze; omega)
 have:=Good.rank_le σ y;omega
def Fa (B:Bd) (v:Nat):Bool:=(B v).isSome
def w9 (B:Bd) (σ:Sb) (vs:List Nat):List (Int×List Int):=(vs.filter (Fa B)).map fun v:Nat=>((v:Int),(σ v).codes)
def xJ (σ:Sb) (vs:List Nat):Bool:=vs.all fun x=>decide ((σ x).size<=48)
theorem DJ (hT:RepT a0 0 to B) (hG:Good B σ):∀(m v k:Nat) (out:List (Int×List Int)),24 - v=m->v<=24->m<k->out.length<=v ->
  lp wm k ((v:Int),a0,to,out)=some (cond (xJ σ ((aR 24).drop v)) (.inl (out++w9 B σ ((aR 24).drop v))) (.inr (false,401))):=by
 intro m
 induction m with
 | zero =>
  intro v k out hm hv hk ho;obtain⟨k,rfl⟩:∃ k',k=k'+1:=⟨k - 1,by omega⟩
  rw[zr];generalize lp wm k=rec;unfold wm;have:v=24:=by omega
  subst this;rw[show (aR 24).drop 24=[] from rfl]
  simp [w9,xJ]
 | succ m ih =>
  intro v k out hm hv hk ho;obtain⟨k,rfl⟩:∃ k',k=k'+1:=⟨k - 1,by omega⟩
  rw[zr];have key:=fun out' ho'=>ih (v+1) k out' (by omega) (by omega) (by omega) ho'
  generalize lp wm k=rec at key ⊢;unfold wm;have w:ah .i64 ((v:Int)+1)=((v+1:Nat):Int):=by rw[zu]<;>omega
  obtain⟨e,he,hpe⟩:=hT.get (x:=v) (by omega)
  have hdr:(aR 24).drop v=v::(aR 24).drop (v+1):=by
   rw[aX (by simp; omega)]
   simp
  simp only[decide_eq_true (show (v:Int)<24 by omega),cond_true,qd (show v<48 by omega),af,he,w]
  rw[hdr];unfold PcO at hpe;split at hpe
  ·rename_i h1;rw[h1];simp only[dc,cond_true];rw[key out (by omega)]
   have hs:(σ v).size<=48:=by rw[hG.free v hpe]; simp [Tm.size]
   have hb:Fa B v=false:=by simp [Fa,hpe]
   simp [w9,xJ,hb,hs]
  ·rename_i q h1;obtain⟨u,hu,hq⟩:=hpe;rw[h1];simp only[cH,cond_false];rw[CK hT hG hq,af,← hG.bound v u hu];unfold zcE;rw[Tm.codes_len];by_cases hs:(σ v).size<=48
   ·rw[if_pos hs];simp only[cH,cond_false,bp];rw[sV (by rw[Tm.codes_len]; omega),af,zp (by simp only[aZ]; omega),cond_true,key _ (by simp only[ax,aZ]; omega)]
    have hb:Fa B v=true:=by simp [Fa,hu]
    simp [w9,xJ,hb,hs]
   ·rw[if_neg hs];simp only[dc,cond_true];simp [xJ,hs]
end
structure Mgu (σ:Sb) (E:List (Tm×Tm)):Prop where
 sol:Sol σ E
 gen:∀ θ,Sol θ E->∀ x,(σ x).sub θ=θ x
 le:∀ x y,σ x = .v y->y<=x
 idem:∀ x,(σ x).sub σ=σ x
theorem Mgu.of {B:Bd} {σ:Sb} {E:List (Tm×Tm)} (hG:Good B σ) (h:∀ θ,SolB θ B↔SolB θ (fun _=>none)∧Sol θ E):Mgu σ E where
 sol:=((h σ).1 hG.bound).2
 gen:=fun θ hθ=>hG.fac ((h θ).2 ⟨fun _ _ h=>(nomatch h),hθ⟩)
 le:=hG.le
 idem:=fun x=>by rw[← hG.fac hG.bound x]; exact hG.idem _
theorem Mgu.unique {σ σ':Sb} {E:List (Tm×Tm)} (h:Mgu σ E) (h':Mgu σ' E):σ=σ':=by
 have f1:∀ x,(σ x).sub σ'=σ' x:=h.gen σ' h'.sol;have f2:∀ x,(σ' x).sub σ=σ x:=h'.gen σ h.sol;have root:∀ y,σ y = .v y->σ' y = .v y:=by
  intro y hy;have h1:(σ' y).sub σ = .v y:=by rw[f2,hy]
  cases hz:σ' y with
  | f c as=>rw[hz] at h1; cases h1
  | v z =>
   rw[hz] at h1;have h2:=h'.le y z hz;have h3:=h.le z y h1;have:z=y:=by omega
   rw[this]
 have fix:∀ t:Tm,t.sub σ=t->∀ y,t.has y->σ y = .v y:=by
  intro t;have key:∀ n,(∀ t:Tm,t.size<=n->t.sub σ=t->∀ y,t.has y->σ y = .v y)∧∀ ts:List Tm,wH ts<=n->w8 σ ts=ts->∀ y,Xw y ts->σ y = .v y:=by
   intro n
   induction n with
   | zero =>
    refine ⟨fun t ht=>absurd t.size_pos (by omega),fun ts hts he y hy => ?_⟩
    cases ts with
    | nil=>exact hy.elim
    | cons t ts=>have:=t.size_pos; simp only[wH] at hts; omega
   | succ n ih =>
    have h1:∀ t:Tm,t.size<=n+1->t.sub σ=t->∀ y,t.has y->σ y = .v y:=by
     intro t ht he y hy;cases t with
     | v z =>
      have hy:z=y:=hy;subst hy;exact he
     | f c as =>
      have he:Tm.f c (w8 σ as)=Tm.f c as:=he;injection he with _ he;simp only[Tm.size] at ht;exact ih.2 as (by omega) he y hy
    refine ⟨h1,fun ts => ?_⟩
    induction ts with
    | nil=>intro _ _ y hy; exact hy.elim
    | cons t ts iht =>
     intro hts he y hy;have he:t.sub σ::w8 σ ts=t::ts:=he;injection he with he1 he2;simp only[wH] at hts;have:=t.size_pos;rcases hy with hy | hy
     ·exact h1 t (by omega) he1 y hy
     ·exact ih.2 ts (by omega) he2 y hy
  exact (key t.size).1 t (aE _)
 funext x
 rw[← f1 x]
 conv=>lhs; rw[← Tm.sub_v (σ x)]
 exact Tm.sub_ext _ fun y hy=>(root y (fix _ (h.idem x) y hy)).symm
def moved (σ:Sb) (v:Nat):Bool:=match σ v with
 | .v y => !(y==v)
 | .f _ _=>true
theorem F7 {B:Bd} {σ:Sb} (h:Good B σ) (v:Nat):Fa B v=moved σ v:=by
 have:=h.moved (x:=v);unfold Fa moved;cases hb:B v with
 | none =>
  rw[h.free v hb];simp
 | some t =>
  have h1:=this.1 (by rw[hb]; simp)
  cases hs:σ v with
  | f c as=>rfl
  | v y =>
   rw[hs] at h1;have:y≠v:=fun e=>h1 (by rw[e])
   simp [this]
def sB (σ:Sb):List (Int×List Int):=((aR 24).filter (moved σ)).map fun v:Nat=>((v:Int),(σ v).codes)
theorem zil (a0:List zj) (N:Nat):RepT a0 N to0 (fun _=>none) where
 len:=by simp [to0]
 at_:=fun x e h=>by
  have hx:x<48:=by
   have:=(aq.1 h).1;simpa[to0] using this
  rw[zbz hx] at h;injection h with h;rw[← h];rfl
 out:=fun _ _=>rfl
theorem C7 {a0:List zj} {xs ys:List Int} {ts us:List Tm} (hs:SignOk a0) (hx:xs=zb ts) (hy:ys=zb us) (ht:okR a0 24 ts) (hu:okR a0 24 us) (hb:uT a0=true) (hlx:xs.length<=48) (hly:ys.length<=48) :
  (tS a0 xs ys=some (false,0,[])∧(ts.length≠us.length∨∀ θ,¬ Sol θ (ts.zip us))) ∨
  (ts.length=us.length∧∃ σ,Mgu σ (ts.zip us)∧(∀ x,x<24->(σ x).ok a0 24)∧tS a0 xs ys=some (cond (xJ σ (aR 24)) (true,0,sB σ) (false,401,[]))):=by
 have hr:∀{zs:List Int} {ws:List Tm},zs=zb ws->okR a0 24 ws->zs.length<=48->ZC a0 zs=some ws.length:=by
  intro zs ws h1 h2 h3;unfold ZC wX;rw[hb,decide_eq_true h3,h1,yv ws h2];simp
 unfold tS;rw[j8,hr hx ht hlx,af,j8,hr hy hu hly,af];simp only;rw[show ((0:Int) != 0)=false from rfl,cond_false,cond_false]
 by_cases hl:ts.length=us.length
 ·rw[hl,show (((us.length:Nat):Int) != ((us.length:Nat):Int))=false from by simp,cond_false]
  obtain⟨r,h1,h2,h3⟩:=Mn hs (N:=0) (by omega) (zil a0 0) Good.empty (p:=xs) (q:=ys) (d:=0) (e:=0) (ts:=ts) (us:=us)
   ⟨ts,0,ht,hx,rfl,aE _,by rw[show Tm.up 0=id from funext Tm.up_zero,gW],hlx⟩ ⟨us,0,hu,hy,rfl,aE _,by rw[show Tm.up 0=id from funext Tm.up_zero,gW],hly⟩ hl
  have h1:xM xs 0 ys 0 a0 (az 48 ((none:Option jI),(0:Int)))=some r:=h1;rw[h1,af];rcases h3 with ⟨h3,h4⟩ | ⟨h3,B',h4,⟨σ,h5⟩,-,h6⟩
  ·rw[h3];exact .inl ⟨rfl,.inr fun θ h=>h4 θ (fun _ _ h=>(nomatch h)) h⟩
  ·rw[h3];have hok:∀ x,x<24->(σ x).ok a0 24:=by
    refine h5.ind (fun x hx hlt=>by rw[h5.free x hx]; exact hlt) fun x t hx ih _ => ?_
    have hto:Pc a0 0 t.codes 0 t:=by
     obtain⟨e,he,hpe⟩:=h4.get (x:=x) (h4.small x t hx).1;unfold PcO at hpe;split at hpe
     ·rw[hx] at hpe; cases hpe
     ·obtain⟨u,hu,hq⟩:=hpe;rw[hx] at hu; injection hu with hu; subst hu;obtain⟨u0,n,g1,g2,g3,g4,g5,g6⟩:=hq;have:n=0:=by omega
      subst this;rw[Tm.up_zero] at g5;subst g5;exact ⟨t,0,g1,rfl,rfl,aE _,(Tm.up_zero t).symm,by rw[← g2]; exact g6⟩
    obtain⟨u0,n,g1,g2,g3,g4,g5,g6⟩:=hto;have:n=0:=by omega
    subst this;rw[Tm.up_zero] at g5;subst g5;rw[h5.bound x t hx];exact Tm.ok_sub t g1 fun y hy=>ih y hy (Tm.ok_has t g1 hy)
   refine .inr ⟨rfl,σ,Mgu.of h5 h6,hok,?_⟩;simp only[aA,cond_false];have:=DJ (a0:=r.2.1) (by rw[h2]; exact h4) h5 24 0 ze [] rfl (by omega) (by unfold ze; omega) (by simp)
   rw[show ((0:Nat):Int)=0 from rfl] at this
   rw[this,bV];have he:w9 B' σ (aR 24)=sB σ:=by
    unfold w9 sB;rw[show Fa B'=moved σ from funext (F7 h5)]
   cases xJ σ (aR 24) with
   | true=>simp only[cond_true,af,tB,bx,he]
   | false=>rfl
 ·rw[show (((ts.length:Nat):Int) != ((us.length:Nat):Int))=true from by simp; omega,cond_true]
  exact .inl ⟨rfl,.inl hl⟩
theorem zap {n:Int} (h1:0<=n) (h2:n<=9223372036854775807):ah .u64 n=n:=by
 simp [ah,eB,dh];omega
theorem zev {l h:Nat} (hl:l+h<=1000000000):ah .i64 (Int.fdiv (ah .u64 (ah .i64 ((l:Int)+(h:Int)))) (2 ^ min (bP 1) (dh .u64)))=(((l+h) / 2:Nat):Int):=by
 rw[zu (n:=(l:Int)+(h:Int)) (by omega) (by omega),zap (by omega) (by omega)]
 have:(2:Int) ^ min (bP 1) (dh .u64)=2:=by decide
 rw[this,Int.fdiv_eq_ediv_of_nonneg _ (by omega)]
 rw[zu]<;>omega
theorem B0 (a b:Int):WZ a b=some (decide (a<b)):=by
 unfold WZ Q9;simp
abbrev Rise (xs:List Int):Prop:=xs.Pairwise (· < ·)
theorem Rise.lt {xs:List Int} (h:Rise xs) {i j:Nat} {x y:Int} (hi:xs[i]? = some x) (hj:xs[j]? = some y) (hij:i<j):x<y:=by
 obtain⟨h1,rfl⟩:=aq.1 hi;obtain⟨h2,rfl⟩:=aq.1 hj;exact List.pairwise_iff_getElem.1 h i j h1 h2 hij
theorem Sf {xs:List Int} (h:Rise xs) (hl:xs.length<=1000000) (t:Int) (z:Int):∀(m l r k:Nat),r - l=m->l<=r->r<=xs.length->m<k->(∀(i:Nat) x,xs[i]? = some x->i<l->x<t)->(∀(i:Nat) x,xs[i]? = some x->r<=i->t<=x) ->
  ∃ q:Nat,lp yI k (xs,t,z,(l:Int),(r:Int))=some (q:Int)∧q<=xs.length∧(∀(i:Nat) x,xs[i]? = some x->i<q->x<t)∧∀(i:Nat) x,xs[i]? = some x->q<=i->t<=x:=by
 intro m
 induction m using cQ with
 | _ m ih =>
  intro l r k hm hlr hr hk h1 h2;obtain⟨k,rfl⟩:∃ k',k=k'+1:=⟨k - 1,by omega⟩
  rw[zr];have key:=fun l r (h3:r - l<m) h4 h5 h6 h7=>ih (r - l) h3 l r k rfl h4 h5 (by omega) h6 h7
  generalize lp yI k=rec at key ⊢;unfold yI;by_cases hlt:l<r
  ·have hml:(l+r) / 2<xs.length:=by omega
   simp only[decide_eq_true (show (l:Int)<(r:Int) by omega),cond_true,zev (show l+r<=1000000000 by omega),qr,al hml,af,B0]
   have hget:=al hml;have w:ah .i64 ((((l+r) / 2:Nat):Int)+1)=(((l+r) / 2+1:Nat):Int):=by rw[zu]<;>omega
   by_cases hc:xs[(l+r) / 2]<t
   ·rw[decide_eq_true hc,cond_true,w];refine key ((l+r) / 2+1) r (by omega) (by omega) hr (fun i x hi hil => ?_) h2
    rcases bF i ((l+r) / 2) with hi2 | hi2
    ·have:=h.lt hi hget hi2; omega
    ·have:i=(l+r) / 2:=by omega
     subst this;rw[hget] at hi; injection hi with hi; omega
   ·rw[decide_eq_false hc,cond_false];refine key l ((l+r) / 2) (by omega) (by omega) (by omega) h1 (fun i x hi hil => ?_)
    rcases bF ((l+r) / 2) i with hi2 | hi2
    ·have:=h.lt hget hi hi2; omega
    ·have:i=(l+r) / 2:=by omega
     subst this;rw[hget] at hi; injection hi with hi; omega
  ·rw[decide_eq_false (show ¬((l:Int)<(r:Int)) by omega),cond_false]
   have:l=r:=by omega
   subst this;exact ⟨l,rfl,hr,h1,h2⟩
theorem zbi {xs:List Int} (h:Rise xs) (hl:xs.length<=1000000) (t:Int):∃(q:Nat) (b:Bool),xt xs t=some ((q:Int),b)∧q<=xs.length∧(∀(i:Nat) x,xs[i]? = some x->i<q->x<t)∧(∀(i:Nat) x,xs[i]? = some x->q<=i->t<=x)∧(b=true↔t∈xs):=by
 obtain⟨q,h1,h2,h3,h4⟩:=Sf h hl t ((xs.length:Nat):Int) xs.length 0 xs.length ze rfl (b6 _) (aE _) (by unfold ze; omega) (fun i x _ h=>by omega) (fun i x hi h=>by
  have:=(aq.1 hi).1; omega)
 have h1:lp yI ze (xs,t,((xs.length:Nat):Int),0,((xs.length:Nat):Int))=some (q:Int):=h1;unfold xt;rw[h1,af];by_cases hq:q<xs.length
 ·rw[decide_eq_true (show ((q:Int)<((xs.length:Nat):Int)) by omega),cond_true,qr,al hq,af]
  have hget:=al hq;by_cases he:xs[q]=t
  ·rw[show (xs[q]==t)=true from by simp [he],cond_true]
   exact ⟨q,true,rfl,h2,h3,h4,by simp only[true_iff]; rw[← he]; exact cJ hq⟩
  ·rw[show (xs[q]==t)=false from by simp [he],cond_false,af]
   have hn:sJ xs[q]=some false:=by unfold sJ; simp
   rw[hn,af,cond_false];refine ⟨q,false,rfl,h2,h3,h4,?_⟩;constructor
   ·intro h; cases h
   ·intro hm;exfalso;obtain⟨i,hi⟩:=cA.1 hm;rcases Nat.lt_trichotomy i q with h5 | h5 | h5
    ·have:=h3 i t hi h5; omega
    ·subst h5; rw[hget] at hi; injection hi with hi; exact he hi
    ·have:=h.lt hget hi h5;have:=h4 q _ hget (aE _);omega
 ·rw[decide_eq_false (show ¬((q:Int)<((xs.length:Nat):Int)) by omega),cond_false]
  refine ⟨q,false,rfl,h2,h3,h4,?_⟩;constructor
  ·intro h; cases h
  ·intro hm;exfalso;obtain⟨i,hi⟩:=cA.1 hm;have:=h3 i t hi (by have:=(aq.1 hi).1; omega)
   omega
theorem Bn {xs:List Int} (h:Rise xs) {q:Nat} {t:Int} (_hq:q<=xs.length) (h1:∀(i:Nat) x,xs[i]? = some x->i<q->x<t) (h2:∀(i:Nat) x,xs[i]? = some x->q<=i->t<=x) (h3:t∉xs):Rise (Yz xs q [t]):=by
 unfold Yz Rise;have ht:∀ x∈xs.take q,x<t:=fun x hx=>by
  obtain⟨i,hi⟩:=cA.1 hx;rw[List.getElem?_take] at hi;split at hi
  ·exact h1 i x hi (by assumption)
  ·cases hi
 have hd:∀ x∈xs.drop q,t<x:=fun x hx=>by
  obtain⟨i,hi⟩:=cA.1 hx;rw[List.getElem?_drop] at hi;have h4:=h2 _ x hi (by omega)
  have:x≠t:=fun e=>h3 (e▸aM hi);omega
 rw[List.pairwise_append];refine ⟨h.sublist (List.take_sublist ..),?_,fun x hx y hy => ?_⟩
 ·rw[List.singleton_append,db];exact ⟨hd,h.sublist (List.drop_sublist ..)⟩
 ·have h5:=ht x hx;rcases aQ.1 hy with hy | hy
  ·rw[bE.1 hy]; exact h5
  ·have:=hd y hy; omega
theorem F5 {xs:List Int} {q:Nat} {t x:Int}:x∈Yz xs q [t]↔x∈xs∨x=t:=by
 unfold Yz;simp only[aQ,bE];constructor
 ·rintro (h | h | h)
  ·exact .inl (List.mem_of_mem_take h)
  ·exact .inr h
  ·exact .inl (List.mem_of_mem_drop h)
 ·rintro (h | h)
  ·rw[← bR q xs] at h;rcases aQ.1 h with h | h
   ·exact .inl h
   ·exact .inr (.inr h)
  ·exact .inr (.inl h)
def Ft (r:List Int) (x:Int):Prop:=∃ c∈r,c<0∧x = -1 - c
theorem Gw:(es vs:List Int)->Rise vs->vs.length+es.length<=1000000->(∀ c∈es,-1000000<=c∧c<=1000000)->∃ ws,yy es vs=some ws∧Rise ws∧(∀ x,x∈ws↔x∈vs∨Ft es x)∧ws.length<=vs.length+es.length
 | [],vs,h,_,_=>⟨vs,rfl,h,fun x=>⟨.inl,fun h=>h.elim (fun h=>h) fun ⟨c,hc,_⟩=>(nomatch hc)⟩,aE _⟩
 | e::es,vs,h,hl,hc=>by
  rw[aj] at hl;have he:=hc e (ak ..);have hc':∀ c∈es,-1000000<=c∧c<=1000000:=fun c h=>hc c (ai _ h);unfold yy;by_cases h0:e≥0
  ·rw[decide_eq_true h0,cond_true];obtain⟨ws,h1,h2,h3,h4⟩:=Gw es vs h (by omega) hc'
   refine ⟨ws,h1,h2,fun x=>(h3 x).trans ?_,by rw[aj]; omega⟩
   constructor
   ·rintro (h5 | ⟨c,h5,h6⟩)
    ·exact .inl h5
    ·exact .inr ⟨c,ai _ h5,h6⟩
   ·rintro (h5 | ⟨c,h5,h6,h7⟩)
    ·exact .inl h5
    ·rcases aB.1 h5 with rfl | h5
     ·omega
     ·exact .inr ⟨c,h5,h6,h7⟩
  ·rw[decide_eq_false h0,cond_false,we (by omega) (by omega),af]
   obtain⟨q,b,h1,h2,h3,h4,h5⟩:=zbi h (by omega) (-1 - e)
   rw[h1,af];have fin:∀{vs':List Int},(∀ x,x∈vs'↔x∈vs∨x = -1 - e)->∀ x,(x∈vs'∨Ft es x)↔(x∈vs∨Ft (e::es) x):=by
    intro vs' hv x;rw[hv x];constructor
    ·rintro ((h6 | h6) | ⟨c,h6,h7⟩)
     ·exact .inl h6
     ·exact .inr ⟨e,ak ..,by omega,h6⟩
     ·exact .inr ⟨c,ai _ h6,h7⟩
    ·rintro (h6 | ⟨c,h6,h7,h8⟩)
     ·exact .inl (.inl h6)
     ·rcases aB.1 h6 with rfl | h6
      ·exact .inl (.inr h8)
      ·exact .inr ⟨c,h6,h7,h8⟩
   cases b with
   | true =>
    simp only[aA,cond_false];obtain⟨ws,h6,h7,h8,h9⟩:=Gw es vs h (by omega) hc'
    refine ⟨ws,h6,h7,fun x=>(h8 x).trans (fin (fun x=>⟨.inl,fun h=>h.elim (fun h=>h) fun h => ?_⟩) x),by rw[aj]; omega⟩
    rw[h];exact h5.1 rfl
   | false =>
    simp only[bJ,cond_true,af];have hn : -1 - e∉vs:=fun h=>by have:=h5.2 h; cases this
    have hi:rm (q:Int) vs [-1 - e]=some (Yz vs q [-1 - e]):=by
     unfold rm zfO;rw[zp (by simp; omega)]
     have e1:Uq (q:Int)=true:=by simp [Uq]
     have e2:decide ((q:Int)<=(aa vs:Int))=true:=by simp; omega
     have e3:Cg ((aa [-1 - e]:Nat):Int)=true:=by simp [Cg]
     rw[e1,e2,e3,bq];rfl
    rw[hi,af];have hlen:(Yz vs q [-1 - e]).length=vs.length+1:=Wy vs _ h2;obtain⟨ws,h6,h7,h8,h9⟩:=Gw es (Yz vs q [-1 - e]) (Bn h h2 h3 h4 hn) (by omega) hc'
    exact ⟨ws,h6,h7,fun x=>(h8 x).trans (fin (fun x=>F5) x),by rw[aj]; omega⟩
theorem Dk {r vs:List Int} (h:Rise vs) (hl:vs.length+r.length<=1000000) (hc:∀ c∈r,-1000000<=c∧c<=1000000):∃ ws,uv r vs=some ws∧Rise ws∧(∀ x,x∈ws↔x∈vs∨Ft r x)∧ws.length<=vs.length+r.length:=by
 obtain⟨ws,h1,h2⟩:=Gw r vs h hl hc;refine ⟨ws,?_,h2⟩;unfold uv;rw[ZS _ _ (by unfold maxLen; omega),h1]
 rfl
def Zu (rs:List jI) (x:Int):Prop:=∃ r∈rs,Ft r x
theorem Q3 {r:List Int} {rs:List jI} {x:Int}:Zu (r::rs) x↔Ft r x∨Zu rs x:=by simp [Zu]
theorem uf {rs ss:List jI} {x:Int}:Zu (rs++ss) x↔Zu rs x∨Zu ss x:=by
 simp only[Zu,aQ];constructor
 ·rintro⟨r,h | h,h2⟩
  ·exact .inl ⟨r,h,h2⟩
  ·exact .inr ⟨r,h,h2⟩
 ·rintro (⟨r,h,h2⟩ | ⟨r,h,h2⟩)
  ·exact ⟨r,.inl h,h2⟩
  ·exact ⟨r,.inr h,h2⟩
theorem rS (r:List Int) (rs:List jI):zo (r::rs)=r.length+zo rs:=by simp [zo]
theorem wb (rs ss:List jI):zo (rs++ss)=zo rs+zo ss:=by simp [zo]
theorem OQ:(es:List zd)->(vs:List Int)->Rise vs->vs.length+zo (es.map (·.2))<=1000000->(∀ l∈es,uU l.2) ->
  ∃ ws,qC es vs=some ws∧Rise ws∧(∀ x,x∈ws↔x∈vs∨Zu (es.map (·.2)) x)∧ws.length<=vs.length+zo (es.map (·.2))
 | [],vs,h,_,_=>⟨vs,rfl,h,fun x=>⟨.inl,fun h=>h.elim (fun h=>h) fun ⟨c,hc,_⟩=>(nomatch hc)⟩,by simp [zo]⟩
 | e::es,vs,h,hl,hn=>by
  rw[aJ,rS] at hl;unfold qC;obtain⟨ws,h1,h2,h3,h4⟩:=Dk h (r:=e.2) (by omega) (hn e (ak ..)).2
  rw[h1,af];obtain⟨xs,h5,h6,h7,h8⟩:=OQ es ws h2 (by omega) fun l hl=>hn l (ai _ hl)
  refine ⟨xs,h5,h6,fun x => ?_,by rw[aJ,rS]; omega⟩
  rw[h7 x,h3 x,aJ,Q3,or_assoc]
theorem My:(es:List jI)->(vs:List Int)->Rise vs->vs.length+zo es<=1000000->(∀ l∈es,uU l) ->
  ∃ ws,qE es vs=some ws∧Rise ws∧(∀ x,x∈ws↔x∈vs∨Zu es x)∧ws.length<=vs.length+zo es
 | [],vs,h,_,_=>⟨vs,rfl,h,fun x=>⟨.inl,fun h=>h.elim (fun h=>h) fun ⟨c,hc,_⟩=>(nomatch hc)⟩,by simp [zo]⟩
 | e::es,vs,h,hl,hn=>by
  rw[rS] at hl;unfold qE;obtain⟨ws,h1,h2,h3,h4⟩:=Dk h (r:=e) (by omega) (hn e (ak ..)).2
  rw[h1,af];obtain⟨xs,h5,h6,h7,h8⟩:=My es ws h2 (by omega) fun l hl=>hn l (ai _ hl)
  refine ⟨xs,h5,h6,fun x => ?_,by rw[rS]; omega⟩
  rw[h7 x,h3 x,Q3,or_assoc]
def yB (L:List zd) (T:List jI) (C:List zd):List jI:=L.map (·.2)++C.map (·.2)++T
theorem Zv {a0:List zj} (hs:SignOk a0) {L:List zd} {T:List jI} {C:List zd} (h:tJ a0 L T C=true):∃ ws,qn a0 L T C=some (0,ws)∧Rise ws∧∀ x,x∈ws↔Zu (yB L T C) x:=by
 obtain⟨-,h1,h2,h3,h4,h5,h6,h7⟩:=zF h;have n1:=rD hs h4;have n2:=XI hs h5;have n3:=rD hs h6;unfold qn;rw[zX,af,h];simp only[aA,cond_false];rw[kA (by omega),af,ZM _ _ _ _ _ (by unfold maxLen; simp; omega)]
 obtain⟨ws,h8,h9,h10,h11⟩:=OQ (L++C) [] fQ (by rw[dC,wb]; simp; omega) (fun l hl=>(aQ.1 hl).elim (n1 l) (n3 l))
 rw[h8,af,ZO _ _ (by unfold maxLen; omega)]
 rw[dC,wb] at h11;obtain⟨xs,h12,h13,h14,-⟩:=My T ws h9 (by simp at h11; omega) n2
 rw[h12];refine ⟨xs,rfl,h13,fun x => ?_⟩;rw[h14 x,h10 x,dC];unfold yB;rw[uf,uf,uf];simp
def upC (by_:Int) (c:Int):Int:=cond (decide (c<0)) (c - by_) c
def ZI (b:Int) (ls:List zd):List zd:=ls.map fun l=>(l.1,l.2.map (upC b))
theorem VN (b:Int) (hb:0<=b∧b<=1000):(es done:List Int)->(k:Nat)->es.length<k->done.length+es.length<=1000000->(∀ c∈es,-1000000<=c∧c<=1000000) ->
  lp qh k (((done.length+es.length:Nat):Int),(done.length:Int),b,done++es)=some (done++es.map (upC b))
 | [],done,k,hk,hl,hc=>by
  obtain⟨k,rfl⟩:∃ k',k=k'+1:=⟨k - 1,by omega⟩
  rw[zr];generalize lp qh k=rec;unfold qh;simp
 | e::es,done,k,hk,hl,hc=>by
  obtain⟨k,rfl⟩:∃ k',k=k'+1:=⟨k - 1,by omega⟩
  rw[zr];have he:=hc e (ak ..);have hl':done.length+(es.length+1)<=1000000:=hl;have key:=fun e'=>VN b hb es (done++[e']) k (Nat.lt_of_succ_lt_succ hk) (by simp; omega) (fun c hx=>hc c (ai _ hx))
  generalize lp qh k=rec at key ⊢;unfold qh;have e1:decide (((done.length:Nat):Int)<((done.length+(e::es).length:Nat):Int))=true:=by rw[decide_eq_true_eq,aj]; omega
  have e2:inR ((done.length:Nat):Int) (aa (done++e::es))=some done.length:=qd (by simp)
  have e3:ah .i64 (((done.length:Nat):Int)+1)=((done.length+1:Nat):Int):=by rw[zu]<;>omega
  have key2:=fun e'=>by
   have:=key e';rw[bc,ax,aZ,bI,cN 1 es.length] at this;exact this
  simp only[e1,cond_true,e2,af,Gm,e3];by_cases h0:e<0
  ·have hu:upC b e=e - b:=by unfold upC; rw[decide_eq_true h0]; rfl
   have w:ah .i64 (e - b)=e - b:=by rw[zu]<;>omega
   rw[decide_eq_true h0,cond_true,w];have hset:(done++e::es).set done.length (e - b)=done++(e - b)::es:=by
    rw[List.set_append_right _ _ (aE _),d9]; rfl
   rw[hset,aJ,hu];have:=key2 (e - b);exact this.trans (by simp)
  ·have hu:upC b e=e:=by unfold upC; rw[decide_eq_false h0]; rfl
   rw[decide_eq_false h0,cond_false,aJ,hu];have:=key2 e;exact this.trans (by simp)
theorem Gy {b:Int} (hb:0<=b∧b<=1000) {r:List Int} (hn:uU r):qo r b=some (r.map (upC b)):=by
 unfold qo;rw[sV (by have:=hn.1; omega),af]
 have:=VN b hb r [] ze (by have:=hn.1; unfold ze; omega) (by have:=hn.1; simp; omega) hn.2
 simp only[bb,aN,bx] at this;have h0:((0:Nat):Int)=0:=rfl;rw[h0] at this;rw[this];rfl
theorem IN {b:Int} (hb:0<=b∧b<=1000):(es out:List zd)->(∀ l∈es,uU l.2)->out.length+es.length<=1000000->yi b es out=some (out++ZI b es)
 | [],out,_,_=>by simp [yi,ZI]
 | e::es,out,hn,hl=>by
  rw[aj] at hl;unfold yi;rw[Gy hb (hn e (ak ..)),af,zp (show (out.length+([(e.1,e.2.map (upC b))]:List zd).length)*32<=140737488351232 by simp; omega),cond_true,
   IN hb es _ (fun l hl=>hn l (ai _ hl)) (by simp; omega)]
  simp [ZI]
theorem Iv {b:Int} (hb:0<=b∧b<=1000) (s7:List zd):(es out:List jI)->(∀ l∈es,uU l)->out.length+es.length<=1000000->yl b s7 es out=some (s7,out++es.map (cD (upC b)))
 | [],out,_,_=>by simp [yl]
 | e::es,out,hn,hl=>by
  rw[aj] at hl;unfold yl;rw[Gy hb (hn e (ak ..)),af,zp (show (out.length+([e.map (upC b)]:List jI).length)*24<=140737488351232 by simp; omega),cond_true,
   Iv hb s7 es _ (fun l hl=>hn l (ai _ hl)) (by simp; omega)]
  simp
theorem Ib {b:Int} (hb:0<=b∧b<=1000) (s4:List zd) (s5:List jI):(es out:List zd)->(∀ l∈es,uU l.2)->out.length+es.length<=1000000->ym b s4 s5 es out=some (s4,s5,out++ZI b es)
 | [],out,_,_=>by simp [ym,ZI]
 | e::es,out,hn,hl=>by
  rw[aj] at hl;unfold ym;rw[Gy hb (hn e (ak ..)),af,zp (show (out.length+([(e.1,e.2.map (upC b))]:List zd).length)*32<=140737488351232 by simp; omega),cond_true,
   Ib hb s4 s5 es _ (fun l hl=>hn l (ai _ hl)) (by simp; omega)]
  simp [ZI]
theorem VP {b:Int} (hb:0<=b∧b<=1000) {L:List zd} {T:List jI} {C:List zd} (hL:∀ l∈L,uU l.2) (hT:∀ l∈T,uU l) (hC:∀ l∈C,uU l.2) (h1:L.length<=1000) (h2:T.length<=1000) (h3:C.length<=1000) :
  zC L T C b=some (ZI b L,T.map (cD (upC b)),ZI b C):=by
 unfold zC jJ;rw[j2 _ _ _ _ _ _ (by unfold maxLen; omega),IN hb L [] hL (by simp; omega),af,
  Zc _ _ _ _ _ _ _ (by unfold maxLen; omega),Iv hb _ T [] hT (by simp; omega),af,
  jE _ _ _ _ _ (by unfold maxLen; omega),Ib hb _ _ C [] hC (by simp; omega),af]
 simp
def TopV (rs:List jI) (m:Int):Prop:=(∀ x,Zu rs x->x<m)∧(m=0∨Zu rs (m - 1))
theorem Ov {ws:List Int} {rs:List jI} (h:Rise ws) (hm:∀ x,x∈ws↔Zu rs x):(ws=[]∧TopV rs 0)∨∃ x,ws[ws.length - 1]? = some x∧0<ws.length∧TopV rs (x+1):=by
 cases hw:ws with
 | nil=>exact .inl ⟨rfl,⟨fun x hx=>(by have:=(hm x).2 hx; rw[hw] at this; cases this),.inl rfl⟩⟩
 | cons w ws' =>
  rw[← hw];have hl:0<ws.length:=by rw[hw]; simp
  refine .inr ⟨ws[ws.length - 1],al (by omega),hl,⟨fun x hx => ?_,.inr ?_⟩⟩
  ·obtain⟨i,hi⟩:=cA.1 ((hm x).2 hx);have hil:=(aq.1 hi).1;rcases bF i (ws.length - 1) with h1 | h1
   ·have:=h.lt hi (al (show ws.length - 1<ws.length by omega)) h1; omega
   ·have:i=ws.length - 1:=by omega
    subst this;rw[al (by omega)] at hi
    injection hi with hi; omega
  ·rw[show ws[ws.length - 1]+1 - 1=ws[ws.length - 1] from by omega]
   exact (hm _).1 (cJ _)
def tX (s:Sb) (r:List Int):List Int:=r.flatMap (Zx s)
theorem K4 (σ:Sb) (v:Nat):(vs:List Nat)->sW ((vs.filter (moved σ)).map fun v:Nat=>((v:Int),(σ v).codes)) (v:Int)=if v∈vs∧moved σ v=true then some (σ v).codes else none
 | []=>by simp [sW]
 | w::vs=>by
  have ih:=K4 σ v vs;cases hm:moved σ w with
  | false =>
   rw[cX (by simp [hm]),ih]
   by_cases hv:v=w
   ·subst hv;simp [hm]
   ·simp [hv]
  | true =>
   rw[dr hm,aJ];unfold sW at ih ⊢;rw[dW];by_cases hv:v=w
   ·subst hv;simp [hm]
   ·rw[show (((w:Nat):Int)==(v:Int))=false from by simp; omega,ih]
    simp [hv]
theorem B8 {σ:Sb} {r:List Int} (h:∀ c∈r,-24<=c):onB (sB σ) r=tX σ r:=by
 unfold onB tX
 induction r with
 | nil=>rfl
 | cons c r ih =>
  rw[bt,bt,ih fun c hc=>h c (ai _ hc)]
  congr 1
  have hc:=h c (ak ..);unfold onC Zx;by_cases h0:c≥0
  ·rw[decide_eq_true h0,cond_true,if_neg (by omega)]
  ·rw[decide_eq_false h0,cond_false,if_pos (by omega)]
   obtain⟨k,hk,rfl⟩:∃ k:Nat,k<24∧c = -1 - (k:Int):=⟨(-1 - c).toNat,by omega,by omega⟩
   have e1:(-1:Int) - (-1 - (k:Int))=(k:Int):=by omega
   rw[e1,bq];unfold sB;rw[K4 σ k];cases hm:moved σ k with
   | true=>simp [hk]
   | false =>
    have:σ k = .v k:=by
     unfold moved at hm;split at hm
     ·rename_i y hy;have:y=k:=by simpa using hm
      rw[hy,this]
     ·cases hm
    rw[this];simp [Tm.codes]
theorem YI {σ:Sb} (h:xJ σ (aR 24)=true):BindsOk (sB σ) where
 len:=by
  unfold sB;rw[aO];have:=List.length_filter_le (moved σ) (aR 24);simp at this;omega
 all:=fun b hb=>by
  unfold sB at hb;obtain⟨v,hv,rfl⟩:=aW.1 hb;have hv:=(dB.1 hv).1;have h1:=aF.1 h v hv;have h2:=(σ v).size_pos;have h3:=(σ v).codes_len;have h4:(σ v).size<=48:=of_decide_eq_true h1;refine ⟨fun e => ?_,?_⟩
  ·have:=congrArg aa e;simp only[bb] at this;omega
  ·show (σ v).codes.length<=1000;omega
def uV (s:Sb) (ls:List zd):List zd:=ls.map fun l=>(l.1,tX s l.2)
theorem W4 {σ:Sb} {ls:List zd} (h:∀ l∈ls,∀ c∈l.2,-24<=c):KC (sB σ) ls=uV σ ls:=by
 unfold KC uV;exact bS fun l hl=>by rw[B8 (h l hl)]
theorem Ck {σ:Sb} {rs:List jI} (h:∀ r∈rs,∀ c∈r,-24<=c):Fy (sB σ) rs=rs.map (tX σ):=by
 unfold Fy;exact bS fun r hr=>B8 (h r hr)
theorem rZ {a0:List zj} {xs:List Int} (h:qL a0 xs=true):∃(c:Nat) (ts:List Tm) (e:zj),xs=(c:Int)::zb ts∧okR a0 24 ts∧a0[c]? = some e∧e.2.1=0∧((ts.length:Nat):Int)=e.2.2.1∧(zb ts).length<=48∧uT a0=true:=by
 obtain⟨x,r,e,ps,rfl,h0,h1,-,h2,h3,h4,h5,h6⟩:=YE h;obtain⟨ts,h7,h8,h9⟩:=Sz h5;refine ⟨x.toNat,ts,e,by rw[← h9,cz h0],h7,h1,h2,?_,by rw[← h9]; exact h4,h3⟩
 rw[← h6,h8,aO]
theorem RK {a0:List zj} {c:Nat} {ts:List Tm} {e:zj} (h1:okR a0 24 ts) (h2:a0[c]? = some e) (h3:e.2.1=0) (h4:((ts.length:Nat):Int)=e.2.2.1) (h5:(zb ts).length<=48) (h6:uT a0=true):qL a0 ((c:Int)::zb ts)=true:=by
 unfold qL;simp only[bq,h2];unfold wX;rw[h6,decide_eq_true h5];simp [h3,yv ts h1,h4]
theorem A5 (b:Nat):(ts:List Tm)->(zb ts).map (upC (b:Int))=zb (ts.map (Tm.up b)):=by
 intro ts;have h:=rH (fun n=>Tm.v (n+b)) ts;have e:ts.map (Tm.up b)=w8 (fun n=>Tm.v (n+b)) ts:=by rw[Y7]; rfl
 rw[e,h];generalize zb ts=r
 induction r with
 | nil=>rfl
 | cons c r ih =>
  rw[aJ,bt,ih]
  congr 1
  unfold upC Zx;by_cases h0:c<0
  ·rw[decide_eq_true h0,cond_true,if_pos h0];show [c - (b:Int)]++_=[-1 - (((-1 - c).toNat+b:Nat):Int)]++_;rw[show -1 - (((-1 - c).toNat+b:Nat):Int)=c - (b:Int) from by omega]
   rfl
  ·rw[decide_eq_false h0,cond_false,if_neg h0];rfl
theorem jp {ts:List Tm} {x:Int}:Ft (zb ts) x↔∃ k:Nat,x=(k:Int)∧Xw k ts:=by
 constructor
 ·rintro⟨c,h1,h2,rfl⟩;exact ⟨(-1 - c).toNat,by omega,(rF h2 ts).1 h1⟩
 ·rintro⟨k,rfl,hk⟩;refine ⟨-1 - (k:Int),(rF (by omega) ts).2 (by rwa [show (-1 - (-1 - (k:Int))).toNat=k from by omega]),by omega,by omega⟩
theorem Vq {a0:List zj} {L:List zd} {T:List jI} {C:List zd} (h:tJ a0 L T C=true):∀ r∈yB L T C,sQ r:=by
 obtain⟨-,-,-,-,h4,h5,h6,-⟩:=zF h;intro r hr;unfold yB at hr;rcases aQ.1 hr with hr | hr
 ·rcases aQ.1 hr with hr | hr
  ·obtain⟨l,hl,rfl⟩:=aW.1 hr; exact sg h4 l hl
  ·obtain⟨l,hl,rfl⟩:=aW.1 hr; exact sg h6 l hl
 ·exact Qe h5 r hr
theorem Zk {a0:List zj} {L:List zd} {T:List jI} {C:List zd} (h:tJ a0 L T C=true) {x:Int} (hx:Zu (yB L T C) x):0<=x∧x<24:=by
 obtain⟨r,hr,c,hc,h0,rfl⟩:=hx;have:=(Vq h r hr).2 c hc;omega
abbrev ApR:=List zd×List jI×Bool×List zd
theorem apart_spec {a0:List zj} (hs:SignOk a0) {L:List zd} {T:List jI} {C:List zd} {L':List zd} {T':List jI} {C':List zd} (h:tJ a0 L T C=true) (h':tJ a0 L' T' C'=true) :
  ∃ b:Nat,b<=24∧TopV (yB L T C) (b:Int) ∧
   ((tj a0 L T C L' T' C'=some ([],[],false,[])∧∃ x,Zu (yB L' T' C') x∧23<x+(b:Int)) ∨
    (tj a0 L T C L' T' C'=some (ZI (b:Int) L',T'.map (cD (upC (b:Int))),true,ZI (b:Int) C')∧∀ x,Zu (yB L' T' C') x->x+(b:Int)<=23)):=by
 obtain⟨ws,h1,h2,h3⟩:=Zv hs h;obtain⟨ws',h1',h2',h3'⟩:=Zv hs h';obtain⟨-,l1,l2,l3,l4,l5,l6,-⟩:=zF h';have hsh:∀ b:Nat,b<=24->zC L' T' C' (b:Int)=some (ZI (b:Int) L',T'.map (cD (upC (b:Int))),ZI (b:Int) C'):=fun b hb =>
  VP (by omega) (rD hs l4) (XI hs l5) (rD hs l6) (by omega) (by omega) (by omega)
 -- the second half
 have second:∀ b:Nat,b<=24->∃ o:Option ApR,((qn a0 L' T' C').bind fun r17 =>
   cond (decide (((aa r17.2:Nat):Int)>0))
   ((inR (ah .i64 (((aa r17.2:Nat):Int) - 1)) (aa r17.2)).bind fun k18 =>
    (r17.2[k18]?).bind fun x19 =>
    cond (decide ((ah .i64 (x19+(b:Int)))>23))
    (some (([]:jQ),([]:jR),false,([]:jQ)))
    ((zC L' T' C' (b:Int)).bind fun r20 =>
     some (r20.1,r20.2.1,true,r20.2.2)))
   ((zC L' T' C' (b:Int)).bind fun r21 =>
    some (r21.1,r21.2.1,true,r21.2.2)))=o∧((o=some ([],[],false,[])∧∃ x,Zu (yB L' T' C') x∧23<x+(b:Int)) ∨
    (o=some (ZI (b:Int) L',T'.map (cD (upC (b:Int))),true,ZI (b:Int) C')∧∀ x,Zu (yB L' T' C') x->x+(b:Int)<=23)):=by
  intro b hb;refine ⟨_,rfl,?_⟩;rw[h1',af];simp only;rcases Ov h2' h3' with ⟨rfl,h4⟩ | ⟨x,h4,h5,h6,h7⟩
  ·rw[show decide (((aa ([]:List Int):Nat):Int)>0)=false from rfl,cond_false,hsh b hb]
   refine .inr ⟨rfl,fun x hx => ?_⟩;have:=h4.1 x hx;have:=(Zk h' hx).1;omega
  ·have hvx:Zu (yB L' T' C') x:=by
    rcases h7 with h7 | h7
    ·have:=(h3' x).1 (aM h4); exact this
    ·rwa [show x+1 - 1=x from by omega] at h7
   have hx:=Zk h' hvx;have hwl:ws'.length<=1000000∨True:=.inr trivial;have e1:ah .i64 (((aa ws':Nat):Int) - 1)=((ws'.length - 1:Nat):Int)∨ws'.length>1000000:=by
    rcases bF 1000000 ws'.length with h8 | h8
    ·exact .inr h8
    ·left; rw[zu]<;>omega
   have hlen:ws'.length<=24:=by
    -- numbers below 24 that rise
    have key:∀(ys:List Int) (m:Int),Rise ys->(∀ y∈ys,m<=y∧y<24)->(ys.length:Int)<=24 - m∨ys=[]:=by
     intro ys
     induction ys with
     | nil=>intro m _ _; exact .inr rfl
     | cons y ys ih =>
      intro m hr hy;have hr:=db.1 hr;have hy0:=hy y (ak ..);rcases ih (y+1) hr.2 (fun z hz=>⟨by have:=hr.1 z hz; omega,(hy z (ai _ hz)).2⟩) with h8 | h8
      ·left; rw[aj]; omega
      ·subst h8; left; simp; omega
    rcases key ws' 0 h2' fun y hy=>Zk h' ((h3' y).1 hy) with h8 | h8
    ·omega
    ·rw[h8]; simp
   have e1:ah .i64 (((aa ws':Nat):Int) - 1)=((ws'.length - 1:Nat):Int):=by rw[zu]<;>omega
   rw[decide_eq_true (show ((aa ws':Nat):Int)>0 by omega),cond_true,e1,qd (by omega),af,h4,af]
   have e2:ah .i64 (x+(b:Int))=x+(b:Int):=by rw[zu]<;>omega
   simp only[e2];by_cases hf:x+(b:Int)>23
   ·rw[decide_eq_true hf,cond_true];exact .inl ⟨rfl,x,hvx,by omega⟩
   ·rw[decide_eq_false hf,cond_false,hsh b hb];refine .inr ⟨rfl,fun y hy => ?_⟩;have:=h6 y hy;omega
 unfold tj;rw[h1,af];simp only;rcases Ov h2 h3 with ⟨rfl,h4⟩ | ⟨x,h4,h5,h6⟩
 ·rw[show decide (((aa ([]:List Int):Nat):Int)>0)=false from rfl,cond_false]
  obtain⟨o,h8,h9⟩:=second 0 (by omega)
  rw[show ((0:Nat):Int)=0 from rfl] at h8 h9
  refine ⟨0,by omega,h4,?_⟩
  have h8':=h8;rw[show ((0:Nat):Int)=0 from rfl]
  refine h9.imp (fun h=>⟨?_,h.2⟩) fun h=>⟨?_,h.2⟩
  ·exact h8.trans h.1
  ·exact h8.trans h.1
 ·have hvx:Zu (yB L T C) x:=(h3 x).1 (aM h4);have hx:=Zk h hvx;have hlen:ws.length<=24:=by
   have key:∀(ys:List Int) (m:Int),Rise ys->(∀ y∈ys,m<=y∧y<24)->(ys.length:Int)<=24 - m∨ys=[]:=by
    intro ys
    induction ys with
    | nil=>intro m _ _; exact .inr rfl
    | cons y ys ih =>
     intro m hr hy;have hr:=db.1 hr;have hy0:=hy y (ak ..);rcases ih (y+1) hr.2 (fun z hz=>⟨by have:=hr.1 z hz; omega,(hy z (ai _ hz)).2⟩) with h8 | h8
     ·left; rw[aj]; omega
     ·subst h8; left; simp; omega
   rcases key ws 0 h2 fun y hy=>Zk h ((h3 y).1 hy) with h8 | h8
   ·omega
   ·rw[h8]; simp
  have e1:ah .i64 (((aa ws:Nat):Int) - 1)=((ws.length - 1:Nat):Int):=by rw[zu]<;>omega
  rw[decide_eq_true (show ((aa ws:Nat):Int)>0 by omega),cond_true,e1,qd (by omega),af,h4,af]
  have e2:ah .i64 (x+1)=(((x+1).toNat:Nat):Int):=by rw[zu]<;>omega
  rw[e2];obtain⟨o,h8,h9⟩:=second (x+1).toNat (by omega)
  refine ⟨(x+1).toNat,by omega,by rw[cz (show (0:Int)<=x+1 by omega)]; exact h6,?_⟩
  refine h9.imp (fun h=>⟨?_,h.2⟩) fun h=>⟨?_,h.2⟩
  ·exact h8.trans h.1
  ·exact h8.trans h.1
abbrev DA:=List zd×List jI×Bool×Int×List zd
def tl (k:Int):Option DA:=some ([],[],false,k,[])
theorem zgl {α β:Type} (f:α->β) {xs:List α} {i:Int} {x:α} (h:gx xs i=some x):gx (xs.map f) i=some (f x):=by
 unfold gx at h ⊢;cases hd:decide (0<=i) with
 | false=>rw[hd] at h; cases h
 | true =>
  rw[hd,cond_true] at h;rw[cond_true,br,h];rfl
theorem kl {α:Type} {xs:List α} {i:Int} {x:α} (h:gx xs i=some x):x∈xs:=by
 unfold gx at h;cases hd:decide (0<=i) with
 | false=>rw[hd] at h; cases h
 | true =>
  rw[hd,cond_true] at h;exact aM h
def Cds (r:List Int):Prop:=r.length<=1000∧∀ c∈r,-24<=c∧c<=1000000
theorem Cds.near {r:List Int} (h:Cds r):uU r:=⟨h.1,fun c hc=>by have:=h.2 c hc; omega⟩
theorem JX {a0:List zj} (hs:SignOk a0) {L:List zd} {T:List jI} {C:List zd} (h:tJ a0 L T C=true):∀ r∈yB L T C,Cds r:=by
 intro r hr;have h1:=Vq h r hr;obtain⟨-,-,-,-,h4,h5,h6,-⟩:=zF h;have h2:uU r:=by
  unfold yB at hr;rcases aQ.1 hr with hr | hr
  ·rcases aQ.1 hr with hr | hr
   ·obtain⟨l,hl,rfl⟩:=aW.1 hr; exact rD hs h4 l hl
   ·obtain⟨l,hl,rfl⟩:=aW.1 hr; exact rD hs h6 l hl
  ·exact XI hs h5 r hr
 exact ⟨h2.1,fun c hc=>⟨h1.2 c hc,(h2.2 c hc).2⟩⟩
theorem zf5 {b:Nat} {r:List Int} (h:Cds r) (hb:∀ x,Ft r x->x+(b:Int)<=23):Cds (r.map (upC (b:Int))):=by
 refine ⟨by rw[aO]; exact h.1,fun c hc => ?_⟩
 obtain⟨d,hd,rfl⟩:=aW.1 hc;have h1:=h.2 d hd;unfold upC;by_cases h0:d<0
 ·have:=hb (-1 - d) ⟨d,hd,h0,rfl⟩;rw[decide_eq_true h0,cond_true]; omega
 ·rw[decide_eq_false h0,cond_false]; omega
theorem zb0 {a0:List zj} {b:Nat} {ts:List Tm} (h:okR a0 24 ts) (hb:∀ k:Nat,Xw k ts->k+b<24):okR a0 24 (ts.map (Tm.up b)):=by
 have e:ts.map (Tm.up b)=w8 (fun n=>Tm.v (n+b)) ts:=by rw[Y7]; rfl
 rw[e];exact GG ts h fun x hx=>hb x hx
theorem RY (b:Nat) (c:Nat) (ts:List Tm):((c:Int)::zb ts).map (upC (b:Int))=(c:Int)::zb (ts.map (Tm.up b)):=by
 rw[aJ,A5];unfold upC;rw[decide_eq_false (show ¬((c:Int)<0) by omega)]
 rfl
theorem x6 {L:List zd} {T:List jI} {C:List zd} {l:zd} (h:l∈L):l.2∈yB L T C:=by
 unfold yB;exact bl _ (bl _ (bh h))
theorem vQ {L:List zd} {T:List jI} {C:List zd} {l:zd} (h:l∈C):l.2∈yB L T C:=by
 unfold yB;exact bl _ (bm _ (bh h))
theorem uN {L:List zd} {T:List jI} {C:List zd} {r:List Int} (h:r∈T):r∈yB L T C:=by
 unfold yB;exact bm _ h
theorem zcX {σ:Sb} (hsh:xJ σ (aR 24)=true) {L:List zd} {T:List jI} {C:List zd} (hL:∀ l∈L,Cds l.2) (hT:∀ r∈T,Cds r) (hC:∀ l∈C,Cds l.2) (h1:L.length<=1000) (h2:T.length<=1000) (h3:C.length<=1000) :
  jo (sB σ) L T C=some (uV σ L,T.map (tX σ),uV σ C):=by
 rw[IS (YI hsh) (fun l hl=>(hL l hl).near) (fun r hr=>(hT r hr).near) (fun l hl=>(hC l hl).near) h1 h2 h3,
  W4 fun l hl c hc=>((hL l hl).2 c hc).1,W4 fun l hl c hc=>((hC l hl).2 c hc).1,Ck fun r hr c hc=>((hT r hr).2 c hc).1]
def Bl (b:Nat) (T T':List jI):List jI:=T++T'.map (cD (upC (b:Int)))
def Bz (b:Nat) (C C':List zd):List zd:=C++ZI (b:Int) C'
def Jb (a0:List zj) (σ:Sb) (L:List zd) (T:List jI) (C:List zd) (k:Int):Option DA :=
 cond (tJ a0 (uV σ L) (T.map (tX σ)) (uV σ C)) (some ((rX (uV σ L) (T.map (tX σ)) (uV σ C)).1,(rX (uV σ L) (T.map (tX σ)) (uV σ C)).2.1,true,0,(rX (uV σ L) (T.map (tX σ)) (uV σ C)).2.2)) (tl k)
theorem sc {a0:List zj}:∀(n:Nat) (ts us:List Tm),wH ts<=n->okR a0 24 ts->okR a0 24 us->zb ts=zb us->ts=us:=by
 intro n
 induction n with
 | zero =>
  intro ts us hn _ _ he;cases ts with
  | cons t ts=>have:=t.size_pos; simp only[wH] at hn; omega
  | nil =>
   cases us with
   | nil=>rfl
   | cons u us =>
    have:=congrArg aa he;rw[uE,uE] at this;have:=u.size_pos;simp only[wH] at *; omega
 | succ n ih =>
  intro ts us hn ho ho' he;cases ts with
  | nil =>
   cases us with
   | nil=>rfl
   | cons u us =>
    have:=congrArg aa he;rw[uE,uE] at this;have:=u.size_pos;simp only[wH] at *; omega
  | cons t ts =>
   cases us with
   | nil =>
    have:=congrArg aa he;rw[uE,uE] at this;have:=t.size_pos;simp only[wH] at *; omega
   | cons u us =>
    have he:t.codes++zb ts=u.codes++zb us:=he;cases t with
    | v k =>
     cases u with
     | v k' =>
      have he:(-1 - (k:Int))::zb ts=(-1 - (k':Int))::zb us:=he;injection he with h1 h2;have:k=k':=by omega
      rw[this,ih ts us (by simp only[wH,Tm.size] at hn; omega) ho.2 ho'.2 h2]
     | f c as =>
      have he:(-1 - (k:Int))::zb ts=(c:Int)::(zb as++zb us):=he;injection he with h1 h2;omega
    | f c as =>
     cases u with
     | v k' =>
      have he:(c:Int)::(zb as++zb ts)=(-1 - (k':Int))::zb us:=he;injection he with h1 h2;omega
     | f c' bs =>
      have he:(c:Int)::(zb as++zb ts)=(c':Int)::(zb bs++zb us):=he;injection he with h1 h2;have hc:c=c':=by omega
      subst hc;rw[← tT,← tT] at h2;have ha:=ho.1.1;have hb:=ho'.1.1;rw[ha] at hb;injection hb with hb;have:=ih (as++ts) (bs++us) (by rw[IW]; simp only[wH,Tm.size] at hn; omega)
       (vH.2 fun t ht=>(aQ.1 ht).elim (vH.1 ho.1.2 t) (vH.1 ho.2 t))
       (vH.2 fun t ht=>(aQ.1 ht).elim (vH.1 ho'.1.2 t) (vH.1 ho'.2 t)) h2
      obtain⟨h3,h4⟩:=List.append_inj this hb;rw[h3,h4]
theorem Gd {α:Type} [DecidableEq α]:(a b:List α)->a.Nodup->(∀ x∈a,x∈b)->a.length<=b.length
 | [],_,_,_=>b6 _
 | x::a,b,hn,hs=>by
  have hn:=List.nodup_cons.1 hn;have hx:=hs x (ak ..);have h1:∀ y∈a,y∈b.erase x:=fun y hy=>by
   have hne:y≠x:=fun e=>hn.1 (e▸hy);exact (List.mem_erase_of_ne hne).2 (hs y (ai _ hy))
  have h2:=Gd a (b.erase x) hn.2 h1;rw[List.length_erase_of_mem hx] at h2;have:=List.length_pos_of_mem hx;simp only[aj];omega
theorem Q2 {L:List zd} {i:Int} (h:xI L i=true):∃ l,gx L i=some l:=by
 unfold xI at h;simp only[aw,decide_eq_true_eq] at h;obtain⟨l,h1,-⟩:=WH (xs:=L) h.1 h.2;exact ⟨l,h1⟩
def rI (rec:(jI×Int×Int)->Option (Unit⊕Bool)) (x:(jI×Int×Int)):Option (Unit⊕Bool) :=
 cond (decide (x.2.2<((aa x.1:Nat):Int)))
 ((gx x.1 x.2.2).bind fun e2 =>
  cond (e2==(ah .i64 ((-1) - x.2.1)))
  (some (aG true))
  (rec (x.1,x.2.1,(ah .i64 (x.2.2+1)))))
 (some (aU ()))
def JU (a0:jI) (a1:Int):Option Bool :=
 ((lp rI ze) (a0,a1,0)).bind fun r6 =>
 yA r6
 (fun _z7=>some false)
 (fun z8=>some z8)
def wj (rec:(jI×Int×jI)->Option jI) (x:(jI×Int×jI)):Option jI :=
 cond (decide (x.2.1<=23))
 ((JU x.1 x.2.1).bind fun r3 =>
  cond r3
  (cond (yM (aa x.2.2+aa ([x.2.1]:List Int)) 8)
   (rec (x.1,(ah .i64 (x.2.1+1)),(x.2.2++([x.2.1]:List Int))))
   (none))
  (rec (x.1,(ah .i64 (x.2.1+1)),x.2.2)))
 (some x.2.2)
def Qm (a0:jI):Option jI :=
 ((lp wj ze) (a0,0,([]:jI))).bind fun r5 =>
 some r5
def vg (rec:(jR×Int×jI)->Option jI) (x:(jR×Int×jI)):Option jI :=
 cond (decide (x.2.1<((aa x.1:Nat):Int)))
 ((gx x.1 x.2.1).bind fun e4 =>
  cond (yM (aa x.2.2+aa e4) 8)
  (rec (x.1,(ah .i64 (x.2.1+1)),(x.2.2++e4)))
  (none))
 (some x.2.2)
def sf (a0:jQ) (a1:jR) (a2:jQ):Option jI :=
 (kV a0 a1 a2).bind fun r7 =>
 ((lp vg ze) (r7,0,([]:jI))).bind fun r8 =>
 (Qm r8).bind fun r9 =>
 some r9
def QR (rec:(jI×Int×Int×Int×jI)->Option Int) (x:(jI×Int×Int×Int×jI)):Option Int :=
 cond (decide (x.2.2.1<((aa x.1:Nat):Int)))
 ((gx x.1 x.2.2.1).bind fun e2 =>
  rec (x.1,(ah .u64 ((ah .u64 ((ah .u64 (x.2.1*5))+(ah .u64 e2)))+3)),(ah .i64 (x.2.2.1+1)),x.2.2.2.1,x.2.2.2.2))
 (some x.2.1)
def Kg (a0:Int) (a1:jI) (a2:Int) (a3:jI):Option Int :=
 cond (((aa a1:Nat):Int)==0)
 (some 0)
 (((lp QR ze) (a3,(ah .u64 (ah .i64 ((ah .i64 (a2*7))+1))),0,a0,a1)).bind fun r6 =>
  cond (decide ((ah .u64 ((aa a1:Nat):Int))=0))
  (none)
  ((gx a1 (ah .i64 (fT r6 (ah .u64 ((aa a1:Nat):Int))))).bind fun e7 =>
   (zhZ .and .i64 e7 255).bind fun b8 =>
   some b8))
def wO (s1:Int):List Int->Option (Unit⊕Bool)
 | []=>some (aU ())
 | e::es =>
  cond (e==(ah .i64 ((-1) - s1)))
  (some (aG true))
  (wO s1 es)
theorem XY (s0:jI) (s1:Int) (hl:aa s0<=maxLen):lp rI ze (s0,s1,0)=wO s1 s0:=tW rI (fun i=>(s0,s1,i)) (fun es i=>wO s1 es) hl (fun r i h=>by unfold rI wO; simp only[h,cond_false]) (fun r i e es h g w k=>by unfold rI wO; simp only[h,cond_true,g,af,w,k])
def qc:List jI->jI->Option jI
 | [],s2=>some s2
 | e::es,s2 =>
  cond (yM (aa s2+aa e) 8)
  (qc es (s2++e))
  (none)
theorem ZN (s0:jR) (s2:jI) (hl:aa s0<=maxLen):lp vg ze (s0,0,s2)=qc s0 s2:=xG vg (fun i s2=>(s0,i,s2)) (fun es i s2=>qc es s2) hl (fun r i s2 h=>by unfold vg qc; simp only[h,cond_false]) (fun r i s2 e es h g w k=>by unfold vg qc; simp only[h,cond_true,g,af,w,k]) s2
def GS (nums:List Int):Prop:=nums≠[]∧nums.length<=9223372036854775807
def Rp (m:Int) (nums:List Int) (c:Int) (xs:List Int):Int:=(Kg m nums c xs).getD 0
section
variable (m:Int) (nums:List Int)
mutual
def GM (env:Nat->Int):Tm->Int
 | .v n=>env n
 | .f c ts=>fT (Rp m nums (c:Int) (Dx env ts)) m
def Dx (env:Nat->Int):List Tm->List Int
 | []=>[]
 | t::ts=>GM env t::Dx env ts
end
mutual
theorem RH (env:Nat->Int) (s:Sb):(t:Tm)->GM m nums env (t.sub s)=GM m nums (fun n=>GM m nums env (s n)) t
 | .v n=>rfl
 | .f c ts=>by
  show fT (Rp m nums (c:Int) (Dx m nums env (w8 s ts))) m=_;rw[Aw env s ts];rfl
theorem Aw (env:Nat->Int) (s:Sb):(ts:List Tm)->Dx m nums env (w8 s ts)=Dx m nums (fun n=>GM m nums env (s n)) ts
 | []=>rfl
 | t::ts=>by
  show GM m nums env (t.sub s)::Dx m nums env (w8 s ts)=_;rw[RH env s t,Aw env s ts];rfl
end
mutual
theorem R2 {e e':Nat->Int}:(t:Tm)->(∀ x,t.has x->e x=e' x)->GM m nums e t=GM m nums e' t
 | .v n,h=>h n rfl
 | .f c ts,h=>by
  show fT (Rp m nums (c:Int) (Dx m nums e ts)) m=fT (Rp m nums (c:Int) (Dx m nums e' ts)) m;rw[Cs ts h]
theorem Cs {e e':Nat->Int}:(ts:List Tm)->(∀ x,Xw x ts->e x=e' x)->Dx m nums e ts=Dx m nums e' ts
 | [],_=>rfl
 | t::ts,h=>by
  show GM m nums e t::Dx m nums e ts=GM m nums e' t::Dx m nums e' ts;rw[R2 t fun x hx=>h x (.inl hx),Cs ts fun x hx=>h x (.inr hx)]
end
end
structure EnvOk (m:Int) (E:List Int):Prop where
 len:E.length=24
 rng:∀ x∈E,0<=x∧x<m
def zgs (E:List Int) (n:Nat):Int:=E.getD n 0
theorem EnvOk.get {m:Int} {E:List Int} (h:EnvOk m E) {n:Nat} (hn:n<24):E[n]? = some (zgs E n):=by
 unfold zgs;rw[aD,al (by rw[h.len]; exact hn)]
 rfl
theorem EnvOk.val {m:Int} {E:List Int} (h:EnvOk m E) {n:Nat} (hn:n<24):0<=zgs E n∧zgs E n<m:=h.rng _ (aM (h.get hn))
theorem CD {a0:List zj} (hs:SignOk a0) {c q:Nat} (h:uk a0 (c:Int)=some q):∃ e,gx a0 (c:Int)=some e∧e.2.2.1=(q:Int):=by
 unfold uk at h;rw[decide_eq_false (show ¬(c:Int)<0 by omega),cond_false,bq] at h
 cases he:a0[c]? with
 | none=>rw[he] at h; cases h
 | some e =>
  rw[he] at h;simp only at h;refine ⟨e,by rw[qr,he],?_⟩
  have:=hs.at he;cases hk:(e.2.1==0) with
  | true=>rw[hk] at h; cases h
  | false=>rw[hk] at h; injection h with h; omega
abbrev KW:=Bool×Nat×List Tm
def cl (l:KW):zd:=(l.1,(l.2.1:Int)::zb l.2.2)
def WfL (a0:List zj) (l:KW):Prop:=okR a0 24 l.2.2∧(∃ e,a0[l.2.1]? = some e∧e.2.1=0∧((l.2.2.length:Nat):Int)=e.2.2.1)∧(zb l.2.2).length<=48
def WfR (a0:List zj) (ts:List Tm):Prop:=okR a0 24 ts∧(zb ts).length<=48
theorem Kq {a0:List zj}:(ls:List zd)->sU a0 ls=true->∃ lt:List KW,ls=lt.map cl∧∀ l∈lt,WfL a0 l
 | [],_=>⟨[],rfl,fun _ h=>(nomatch h)⟩
 | l::ls,h=>by
  unfold sU at h;rw[List.all_cons,aw] at h;obtain⟨lt,h1,h2⟩:=Kq ls h.2;obtain⟨c,ts,e,h3,h4,h5,h6,h7,h8,-⟩:=rZ h.1;refine ⟨(l.1,c,ts)::lt,by rw[aJ,← h1]; show l::ls=(l.1,(c:Int)::zb ts)::ls; rw[← h3],fun x hx => ?_⟩
  rcases aB.1 hx with rfl | hx
  ·exact ⟨h4,⟨e,h5,h6,h7⟩,h8⟩
  ·exact h2 x hx
theorem L8 {a0:List zj} {rs:List jI} (h:jt a0 rs=true):∃ rt:List (List Tm),rs=rt.map zb∧∀ r∈rt,WfR a0 r:=by
 obtain⟨n,hn⟩:=Xs h;clear h
 induction rs with
 | nil=>exact ⟨[],rfl,fun _ h=>(nomatch h)⟩
 | cons r rs ih =>
  obtain⟨rt,h1,h2⟩:=ih fun q hq=>hn q (ai _ hq);obtain⟨ps,hc,-,hl,-⟩:=Ve (hn r (ak ..));obtain⟨ts,h3,-,h4⟩:=Sz hc;refine ⟨ts::rt,by rw[aJ,← h1,← h4],fun x hx => ?_⟩
  rcases aB.1 hx with rfl | hx
  ·exact ⟨h3,by rw[← h4]; exact hl⟩
  ·exact h2 x hx
theorem Ro {a0:List zj} {L:List zd} {T:List jI} {C:List zd} (h:tJ a0 L T C=true):∃(Lt:List KW) (Tt:List (List Tm)) (Ct:List KW),L=Lt.map cl∧T=Tt.map zb∧C=Ct.map cl∧(∀ l∈Lt,WfL a0 l)∧(∀ r∈Tt,WfR a0 r)∧∀ l∈Ct,WfL a0 l:=by
 obtain⟨-,-,-,-,h4,h5,h6,-⟩:=zF h;obtain⟨Lt,a1,a2⟩:=Kq L h4;obtain⟨Tt,b1,b2⟩:=L8 h5;obtain⟨Ct,c1,c2⟩:=Kq C h6;exact ⟨Lt,Tt,Ct,a1,b1,c1,a2,b2,c2⟩
section
variable {m:Int} (hm:0<m) {nums:List Int} (hn:GS nums) {a0:List zj} (hs:SignOk a0) {E:List Int} (hE:EnvOk m E)
include hm hn hs hE
end
theorem EnvOk.set {m:Int} {E:List Int} (h:EnvOk m E) {v:Nat} {x:Int} (hx:0<=x∧x<m):EnvOk m (E.set v x) where
 len:=by rw[ci]; exact h.len
 rng:=fun y hy=>by
  rcases List.mem_or_eq_of_mem_set hy with hy | hy
  ·exact h.rng y hy
  ·rw[hy]; exact hx
theorem zdN (v:Nat) (hv:v<24):(es:List Int)->wO (v:Int) es=some (cond (decide (-1 - (v:Int)∈es)) (.inr true) (.inl ()))
 | []=>rfl
 | e::es=>by
  unfold wO;have w:ah .i64 ((-1) - (v:Int)) = -1 - (v:Int):=by rw[zu]<;>omega
  rw[w,zdN v hv es];by_cases he:e = -1 - (v:Int)
  ·rw[show (e == -1 - (v:Int))=true from by simp [he],decide_eq_true (show -1 - (v:Int)∈e::es by rw[he]; exact ak ..)]
   rfl
  ·rw[show (e == -1 - (v:Int))=false from by simp [he],cond_false]
   by_cases hm:(-1 - (v:Int))∈es
   ·rw[decide_eq_true hm,decide_eq_true (ai _ hm)]
   ·rw[decide_eq_false hm,decide_eq_false fun h=>(aB.1 h).elim (fun h=>he h.symm) hm]
theorem CE {v:Nat} (hv:v<24) {r:List Int} (hl:r.length<=1000000):JU r (v:Int)=some (decide (-1 - (v:Int)∈r)):=by
 unfold JU;rw[XY _ _ (by unfold maxLen; omega),zdN v hv,af]
 cases decide (-1 - (v:Int)∈r)<;>rfl
def zcC (r:List Int) (v:Nat):Bool:=decide (-1 - (v:Int)∈r)
theorem Dj {r:List Int} (hl:r.length<=1000000):∀(d v k:Nat) (out:List Int),24 - v=d->v<=24->d<k->out.length<=v ->
  lp wj k (r,(v:Int),out)=some (out++(((aR 24).drop v).filter (zcC r)).map fun v:Nat=>(v:Int)):=by
 intro d
 induction d with
 | zero =>
  intro v k out hd hv hk ho;obtain⟨k,rfl⟩:∃ k',k=k'+1:=⟨k - 1,by omega⟩
  rw[zr];generalize lp wj k=rec;unfold wj;have:v=24:=by omega
  subst this;rw[show (aR 24).drop 24=[] from rfl]
  simp
 | succ d ih =>
  intro v k out hd hv hk ho;obtain⟨k,rfl⟩:∃ k',k=k'+1:=⟨k - 1,by omega⟩
  rw[zr];have key:=fun out ho=>ih (v+1) k out (by omega) (by omega) (by omega) ho
  generalize lp wj k=rec at key ⊢;unfold wj;have w:ah .i64 ((v:Int)+1)=((v+1:Nat):Int):=by rw[zu]<;>omega
  have hdr:(aR 24).drop v=v::(aR 24).drop (v+1):=by
   rw[aX (by simp; omega)]
   simp
  simp only[decide_eq_true (show (v:Int)<=23 by omega),cond_true,CE (show v<24 by omega) hl,af,w]
  rw[hdr];by_cases hm:(-1 - (v:Int))∈r
  ·rw[decide_eq_true hm,cond_true,zp (by simp; omega),cond_true,key _ (by simp; omega)]
   have:zcC r v=true:=decide_eq_true hm;rw[dr this];simp
  ·rw[decide_eq_false hm,cond_false,key _ (by omega)]
   have:¬(zcC r v=true):=by unfold zcC; rw[decide_eq_false hm]; simp
   rw[cX this]
theorem NH:(es:List jI)->(out:List Int)->out.length+zo es<=1000000->qc es out=some (out++es.flatten)
 | [],out,_=>by simp [qc]
 | e::es,out,h=>by
  rw[rS] at h;unfold qc;rw[zp (by omega),cond_true,NH es _ (by rw[ax]; omega)]
  simp
def YY (L:List zd) (T:List jI) (C:List zd):List Nat:=(aR 24).filter (zcC (L.map (·.2)++T++C.map (·.2)).flatten)
theorem VR (L:List zd) (T:List jI) (C:List zd):(YY L T C).Nodup:=List.nodup_range.sublist List.filter_sublist
theorem Xl {L:List zd} {T:List jI} {C:List zd}:∀ v∈YY L T C,v<24:=fun _v hv=>b9.1 (dB.1 hv).1
theorem Q6 {L:List zd} {T:List jI} {C:List zd} {v:Nat} (hv:v<24):v∈YY L T C↔Zu (yB L T C) (v:Int):=by
 unfold YY zcC;rw[dB];simp only[b9,hv,true_and,decide_eq_true_eq,List.mem_flatten];constructor
 ·rintro⟨r,hr,hc⟩;refine ⟨r,?_,_,hc,by omega,by omega⟩
  unfold yB;simp only[aQ] at hr ⊢;rcases hr with (hr | hr) | hr
  ·exact .inl (.inl hr)
  ·exact .inr hr
  ·exact .inl (.inr hr)
 ·rintro⟨r,hr,c,hc,h0,he⟩;refine ⟨r,?_,by rw[show -1 - (v:Int)=c from by omega]; exact hc⟩
  unfold yB at hr;simp only[aQ] at hr ⊢;rcases hr with (hr | hr) | hr
  ·exact .inl (.inl hr)
  ·exact .inr hr
  ·exact .inl (.inr hr)
theorem kH {L:List zd} {T:List jI} {C:List zd} (h1:L.length<=1000) (h2:T.length<=1000) (h3:C.length<=1000) (hl:zo (L.map (·.2))+zo T+zo (C.map (·.2))<=1000000) :
  sf L T C=some ((YY L T C).map fun v:Nat=>(v:Int)):=by
 unfold sf;rw[Yw L T C h1 h2 h3,af,ZN _ _ (by simp; unfold maxLen; omega),NH _ _ (by rw[wb,wb]; simp; omega),af]
 unfold Qm;have hf:((L.map (·.2)++T++C.map (·.2)).flatten).length<=1000000:=by
  rw[← Rt,wb,wb]; omega
 have:=Dj hf 24 0 ze [] rfl (by omega) (by unfold ze; omega) (by simp)
 rw[show ((0:Nat):Int)=0 from rfl,bV] at this
 simp only[bx] at this ⊢;rw[this];rfl
def SA (L:List KW) (T:List (List Tm)) (C:List KW) (x:Nat):Prop:=(∃ l∈L,Xw x l.2.2)∨(∃ r∈T,Xw x r)∨∃ l∈C,Xw x l.2.2
theorem Gk {l:KW} {x:Nat}:Ft (cl l).2 (x:Int)↔Xw x l.2.2:=by
 constructor
 ·rintro⟨c,hc,h0,he⟩;rcases aB.1 hc with rfl | hc
  ·omega
  ·obtain⟨k,h1,h2⟩:=jp.1 ⟨c,hc,h0,he⟩;have:x=k:=by omega
   rw[this]; exact h2
 ·intro h;obtain⟨c,hc,h0,he⟩:=jp.2 ⟨x,rfl,h⟩;exact ⟨c,ai _ hc,h0,he⟩
theorem Km {L:List KW} {T:List (List Tm)} {C:List KW} {x:Nat}:Zu (yB (L.map cl) (T.map zb) (C.map cl)) (x:Int)↔SA L T C x:=by
 unfold yB SA;rw[uf,uf];constructor
 ·rintro ((⟨r,hr,h⟩ | ⟨r,hr,h⟩) | ⟨r,hr,h⟩)
  ·obtain⟨q,hq,rfl⟩:=aW.1 hr;obtain⟨l,hl,rfl⟩:=aW.1 hq;exact .inl ⟨l,hl,Gk.1 h⟩
  ·obtain⟨q,hq,rfl⟩:=aW.1 hr;obtain⟨l,hl,rfl⟩:=aW.1 hq;exact .inr (.inr ⟨l,hl,Gk.1 h⟩)
  ·obtain⟨l,hl,rfl⟩:=aW.1 hr;obtain⟨k,h1,h2⟩:=jp.1 h;have:x=k:=by omega
   exact .inr (.inl ⟨l,hl,by rw[this]; exact h2⟩)
 ·rintro (⟨l,hl,h⟩ | ⟨r,hr,h⟩ | ⟨l,hl,h⟩)
  ·exact .inl (.inl ⟨_,bh (bh hl),Gk.2 h⟩)
  ·exact .inr ⟨_,bh hr,jp.2 ⟨x,rfl,h⟩⟩
  ·exact .inl (.inr ⟨_,bh (bh hl),Gk.2 h⟩)
abbrev Ju:=List Int×Int
def rho (s:Ju) (v:Nat):Nat:=(s.1.getD v 0).toNat - 1
structure RenI (s:Ju):Prop where
 len:s.1.length=24
 rng:∀ v,0<=s.1.getD v 0∧s.1.getD v 0<=s.2
 inj:∀ v w,s.1.getD v 0=s.1.getD w 0->s.1.getD v 0≠0->v=w
 cnt:((s.1.countP (fun x=>x != 0):Nat):Int)=s.2
def ExtS (s s':Ju):Prop:=∀ v,s.1.getD v 0≠0->s'.1.getD v 0=s.1.getD v 0
theorem ExtS.refl (s:Ju):ExtS s s:=fun _ _=>rfl
theorem ExtS.trans {s t u:Ju} (h:ExtS s t) (h':ExtS t u):ExtS s u:=fun v hv=>(h' v (by rw[h v hv]; exact hv)).trans (h v hv)
theorem RenI.next {s:Ju} (h:RenI s):0<=s.2∧s.2<=24:=by
 have h1:=h.cnt;have h2:s.1.countP (fun x=>x != 0)<=s.1.length:=eh;rw[h.len] at h2;omega
theorem RenI.rho_lt {s:Ju} (h:RenI s) {v:Nat} (_hv:s.1.getD v 0≠0):rho s v<24:=by
 have h1:=h.rng v;have h2:=h.next;unfold rho;omega
theorem RenI.rho_inj {s:Ju} (h:RenI s) {v w:Nat} (hv:s.1.getD v 0≠0) (hw:s.1.getD w 0≠0) (he:rho s v=rho s w):v=w:=by
 have h1:=h.rng v;have h2:=h.rng w;unfold rho at he;exact h.inj v w (by omega) hv
theorem zhm:RenI (az 24 (0:Int),0) where
 len:=by simp
 rng:=fun v=>by
  rw[aD,bK];split<;>simp
 inj:=fun v w _ h=>by
  exfalso;apply h;rw[aD,bK];split<;>rfl
 cnt:=by decide
theorem CT {xs:List Int} {v:Nat} {y:Int} (hv:xs[v]? = some 0) (hy:y≠0):(xs.set v y).countP (fun x=>x != 0)=xs.countP (fun x=>x != 0)+1:=by
 obtain⟨hx,he⟩:=aq.1 hv;have h1:=bR v xs;have h2:xs.drop v=0::xs.drop (v+1):=by rw[aX hx,he]
 have h3:xs.set v y=xs.take v++y::xs.drop (v+1):=by rw[d7,if_pos hx]
 conv=>rhs; rw[← h1,h2]
 rw[h3];simp [fM,hy];omega
theorem sw {xs:List Int} {v w:Nat} {y:Int} (hv:v<xs.length):(xs.set v y).getD w 0=if w=v then y else xs.getD w 0:=by
 rw[aD,aD];by_cases h:w=v
 ·subst h; rw[cy hv,if_pos rfl]; rfl
 ·rw[cI (dj h),if_neg h]
theorem G7 {s:Ju} (h:RenI s) {c:Int} (hc : -24<=c):RenI (WQ s c).2∧ExtS s (WQ s c).2∧(c<0->(WQ s c).2.1.getD (-1 - c).toNat 0≠0)∧∀ f,ExtS (WQ s c).2 f->[(WQ s c).1]=Zx (fun v=>.v (rho f v)) c:=by
 unfold WQ;by_cases h0:c≥0
 ·rw[decide_eq_true h0,cond_true];refine ⟨h,ExtS.refl s,fun h1=>by omega,fun f _ => ?_⟩
  unfold Zx;rw[if_neg (by omega)]
 ·rw[decide_eq_false h0,cond_false];have hv:(-1 - c).toNat<s.1.length:=by rw[h.len]; omega
  have hexp:∀ f:Ju,Zx (fun v=>.v (rho f v)) c=[-1 - ((rho f (-1 - c).toNat:Nat):Int)]:=fun f=>by
   unfold Zx;rw[if_pos (by omega)]
   rfl
  by_cases hz:s.1.getD (-1 - c).toNat 0=0
  ·rw[show (s.1.getD (-1 - c).toNat 0==0)=true from by rw[hz]; rfl,cond_true]
   have hn:=h.next;have hget:s.1[(-1 - c).toNat]? = some 0:=by
    rw[aD,al hv] at hz;rw[al hv];exact congrArg some hz
   refine ⟨⟨by simpa using h.len,fun v => ?_,fun v w he hnz => ?_,?_⟩,fun v hvz => ?_,fun _ => ?_,fun f hf => ?_⟩
   ·show 0<=(s.1.set _ _).getD v 0∧(s.1.set _ _).getD v 0<=s.2+1;rw[sw hv];have:=h.rng v;split<;>omega
   ·have he:(s.1.set (-1 - c).toNat (s.2+1)).getD v 0=(s.1.set (-1 - c).toNat (s.2+1)).getD w 0:=he;have hnz:(s.1.set (-1 - c).toNat (s.2+1)).getD v 0≠0:=hnz;rw[sw hv] at he hnz;rw[sw hv] at he;have h1:=h.rng v;have h2:=h.rng w;by_cases e1:v=(-1 - c).toNat
    ·rw[if_pos e1] at he hnz;by_cases e2:w=(-1 - c).toNat
     ·rw[e1,e2]
     ·rw[if_neg e2] at he; omega
    ·rw[if_neg e1] at he hnz;by_cases e2:w=(-1 - c).toNat
     ·rw[if_pos e2] at he; omega
     ·rw[if_neg e2] at he;exact h.inj v w he hnz
   ·show (((s.1.set (-1 - c).toNat (s.2+1)).countP (fun x=>x != 0):Nat):Int)=s.2+1;rw[CT hget (by omega),← h.cnt]
    omega
   ·show (s.1.set _ _).getD v 0=_;rw[sw hv];split
    ·rename_i e; rw[e,hz] at hvz; exact absurd rfl hvz
    ·rfl
   ·show (s.1.set _ _).getD _ 0≠0;rw[sw hv,if_pos rfl];omega
   ·rw[hexp];have hf2:=hf (-1 - c).toNat (by
     show (s.1.set _ _).getD _ 0≠0;rw[sw hv,if_pos rfl];omega)
    have hf2:f.1.getD (-1 - c).toNat 0=(s.1.set (-1 - c).toNat (s.2+1)).getD (-1 - c).toNat 0:=hf2;rw[sw hv,if_pos rfl] at hf2;unfold rho;rw[hf2];show [-(s.2+1)]=_
    congr 1
    omega
  ·rw[show (s.1.getD (-1 - c).toNat 0==0)=false from by simpa using hz,cond_false]
   refine ⟨h,ExtS.refl s,fun _=>hz,fun f hf => ?_⟩;rw[hexp];have hf2:f.1.getD (-1 - c).toNat 0=s.1.getD (-1 - c).toNat 0:=hf _ hz;have:=h.rng (-1 - c).toNat;unfold rho;rw[hf2];show [-(s.1.getD (-1 - c).toNat 0)]=_
   congr 1
   omega
theorem ZU:(r:List Int)->{s:Ju}->RenI s->(∀ c∈r,-24<=c)->RenI (sZ s r).2∧ExtS s (sZ s r).2∧(∀ x,Ft r x->(sZ s r).2.1.getD x.toNat 0≠0)∧∀ f,ExtS (sZ s r).2 f->(sZ s r).1=tX (fun v=>.v (rho f v)) r
 | [],s,h,_=>⟨h,ExtS.refl s,fun x ⟨c,hc,_⟩=>(nomatch hc),fun _ _=>rfl⟩
 | c::r,s,h,hc=>by
  obtain⟨h1,h2,h3,h4⟩:=G7 h (hc c (ak ..));obtain⟨g1,g2,g3,g4⟩:=ZU r h1 fun d hd=>hc d (ai _ hd);refine ⟨g1,h2.trans g2,fun x ⟨d,hd,hd0,hx⟩ => ?_,fun f hf => ?_⟩
  ·rcases aB.1 hd with rfl | hd
   ·subst hx;show (sZ (WQ s d).2 r).2.1.getD (-1 - d).toNat 0≠0;rw[g2 _ (h3 hd0)];exact h3 hd0
   ·exact g3 x ⟨d,hd,hd0,hx⟩
  ·have hf:ExtS (sZ (WQ s c).2 r).2 f:=hf;show (WQ s c).1::(sZ (WQ s c).2 r).1=_;unfold tX;rw[bt,← h4 f (g2.trans hf),g4 f hf];rfl
theorem je:(ls:List zd)->{s:Ju}->RenI s->(∀ l∈ls,∀ c∈l.2,-24<=c)->RenI (wk s ls).2∧ExtS s (wk s ls).2∧(∀ x,Zu (ls.map (·.2)) x->(wk s ls).2.1.getD x.toNat 0≠0)∧∀ f,ExtS (wk s ls).2 f->(wk s ls).1=uV (fun v=>.v (rho f v)) ls
 | [],s,h,_=>⟨h,ExtS.refl s,fun x ⟨c,hc,_⟩=>(nomatch hc),fun _ _=>rfl⟩
 | l::ls,s,h,hc=>by
  obtain⟨h1,h2,h3,h4⟩:=ZU l.2 h (hc l (ak ..));obtain⟨g1,g2,g3,g4⟩:=je ls h1 fun d hd=>hc d (ai _ hd);refine ⟨g1,h2.trans g2,fun x hx => ?_,fun f hf => ?_⟩
  ·rw[aJ,Q3] at hx;rcases hx with hx | hx
   ·show (wk (sZ s l.2).2 ls).2.1.getD x.toNat 0≠0;rw[g2 _ (h3 x hx)];exact h3 x hx
   ·exact g3 x hx
  ·have hf:ExtS (wk (sZ s l.2).2 ls).2 f:=hf;show (l.1,(sZ s l.2).1)::(wk (sZ s l.2).2 ls).1=_;rw[h4 f (g2.trans hf),g4 f hf];rfl
theorem XT:(ls:List jI)->{s:Ju}->RenI s->(∀ l∈ls,∀ c∈l,-24<=c)->RenI (uS s ls).2∧ExtS s (uS s ls).2∧(∀ x,Zu ls x->(uS s ls).2.1.getD x.toNat 0≠0)∧∀ f,ExtS (uS s ls).2 f->(uS s ls).1=ls.map (tX (fun v=>.v (rho f v)))
 | [],s,h,_=>⟨h,ExtS.refl s,fun x ⟨c,hc,_⟩=>(nomatch hc),fun _ _=>rfl⟩
 | l::ls,s,h,hc=>by
  obtain⟨h1,h2,h3,h4⟩:=ZU l h (hc l (ak ..));obtain⟨g1,g2,g3,g4⟩:=XT ls h1 fun d hd=>hc d (ai _ hd);refine ⟨g1,h2.trans g2,fun x hx => ?_,fun f hf => ?_⟩
  ·rw[Q3] at hx;rcases hx with hx | hx
   ·show (uS (sZ s l).2 ls).2.1.getD x.toNat 0≠0;rw[g2 _ (h3 x hx)];exact h3 x hx
   ·exact g3 x hx
  ·have hf:ExtS (uS (sZ s l).2 ls).2 f:=hf;show (sZ s l).1::(uS (sZ s l).2 ls).1=_;rw[h4 f (g2.trans hf),g4 f hf];rfl
theorem Lu {L:List zd} {T:List jI} {C:List zd} (hc:∀ r∈yB L T C,∀ c∈r,-24<=c):∃ ρ:Nat->Nat,
  rX L T C=(uV (fun v=>.v (ρ v)) (zN L []),(zN T []).map (tX (fun v=>.v (ρ v))),uV (fun v=>.v (ρ v)) (zN C [])) ∧
  (∀ x,Zu (yB L T C) x->ρ x.toNat<24)∧∀ x y,Zu (yB L T C) x->Zu (yB L T C) y->ρ x.toNat=ρ y.toNat->x.toNat=y.toNat:=by
 have mL:∀ l,l∈zN L []↔l∈L:=fun l=>by simpa using qP (x:=l) L []
 have mT:∀ l,l∈zN T []↔l∈T:=fun l=>by simpa using qP (x:=l) T []
 have mC:∀ l,l∈zN C []↔l∈C:=fun l=>by simpa using qP (x:=l) C []
 obtain⟨a1,a2,a3,a4⟩:=je (zN L []) zhm fun l hl=>hc _ (x6 ((mL l).1 hl));obtain⟨b1,b2,b3,b4⟩:=XT (zN T []) a1 fun l hl=>hc _ (uN ((mT l).1 hl));obtain⟨c1,c2,c3,c4⟩:=je (zN C []) b1 fun l hl=>hc _ (vQ ((mC l).1 hl));have nz:∀ x,Zu (yB L T C) x->(wk (uS (wk (az 24 0,0) (zN L [])).2 (zN T [])).2 (zN C [])).2.1.getD x.toNat 0≠0:=by
  intro x hx;unfold yB at hx;rw[uf,uf] at hx;rcases hx with (⟨r,hr,hx⟩ | ⟨r,hr,hx⟩) | ⟨r,hr,hx⟩
  ·obtain⟨l,hl,rfl⟩:=aW.1 hr;have:=a3 x ⟨_,bh ((mL l).2 hl),hx⟩;rw[c2 _ (by rw[b2 _ this]; exact this),b2 _ this]
   exact this
  ·obtain⟨l,hl,rfl⟩:=aW.1 hr;exact c3 x ⟨_,bh ((mC l).2 hl),hx⟩
  ·have:=b3 x ⟨_,(mT r).2 hr,hx⟩;rw[c2 _ this];exact this
 refine ⟨rho (wk (uS (wk (az 24 0,0) (zN L [])).2 (zN T [])).2 (zN C [])).2,?_,fun x hx=>c1.rho_lt (nz x hx),fun x y hx hy he=>c1.rho_inj (nz x hx) (nz y hy) he⟩;unfold rX zga;rw[a4 _ (b2.trans c2),b4 _ c2,c4 _ (ExtS.refl _)]
def We (s:Sb) (l:KW):KW:=(l.1,l.2.1,w8 s l.2.2)
theorem GF (s:Sb) (ls:List KW):uV s (ls.map cl)=(ls.map (We s)).map cl:=by
 unfold uV;rw[cF,cF];refine bS fun l _ => ?_;show (l.1,tX s ((l.2.1:Int)::zb l.2.2))=(l.1,(l.2.1:Int)::zb (w8 s l.2.2));rw[rH];unfold tX;rw[bt];have:Zx s (l.2.1:Int)=[(l.2.1:Int)]:=by unfold Zx; rw[if_neg (by omega)]
 rw[this];rfl
theorem Ky (s:Sb) (rs:List (List Tm)):(rs.map zb).map (tX s)=(rs.map (w8 s)).map zb:=by
 rw[cF,cF];refine bS fun r _ => ?_;show tX s (zb r)=zb (w8 s r);rw[rH];rfl
theorem JA {a0:List zj} (hb:uT a0=true) {ts:List Tm} (h:WfR a0 ts):ZC a0 (zb ts)=some ts.length:=by
 unfold ZC wX;rw[hb,decide_eq_true h.2,yv ts h.1];simp
theorem Sg {a0:List zj} {rs:List jI} {n:Nat} (h:∀ r∈rs,ZC a0 r=some n):jt a0 rs=true:=by
 cases rs with
 | nil=>rfl
 | cons r rs =>
  unfold jt;show (match ZC a0 r with | none=>false | some n=>rs.all fun q=>ZC a0 q==some n)=true
  rw[h r (ak ..)];exact aF.2 fun q hq=>by rw[h q (ai _ hq)]; simp
theorem Jd {a0:List zj} (hb:uT a0=true) {l:KW} (h:WfL a0 l):qL a0 (cl l).2=true:=by
 obtain⟨h1,⟨e,h2,h3,h4⟩,h5⟩:=h;exact RK h1 h2 h3 h4 h5 hb
theorem UF {a0:List zj} {l k:KW} (hl:WfL a0 l) (hk:WfL a0 k) (h:cl l=cl k):l=k:=by
 obtain⟨n,c,ts⟩:=l;obtain⟨n',c',us⟩:=k;have h:((n,(c:Int)::zb ts):zd)=(n',(c':Int)::zb us):=h;injection h with h1 h2;injection h2 with h2 h3;have h3:=sc _ ts us (aE _) hl.1 hk.1 h3;have:c=c':=by omega
 rw[h1,this,h3]
theorem Xg {α β:Type} (f:α->β) {as:List α}:(bs:List β)->(∀ b∈bs,b∈as.map f)->∃ as':List α,bs=as'.map f∧∀ a∈as',a∈as
 | [],_=>⟨[],rfl,fun _ h=>(nomatch h)⟩
 | b::bs,h=>by
  obtain⟨as',h1,h2⟩:=Xg f bs fun x hx=>h x (ai _ hx);obtain⟨a,ha,rfl⟩:=aW.1 (h b (ak ..));refine ⟨a::as',by rw[aJ,← h1],fun x hx => ?_⟩
  rcases aB.1 hx with rfl | hx
  ·exact ha
  ·exact h2 x hx
theorem jM {α:Type} [DecidableEq α] (f:α->Nat):(es out:List α)->((zN es out).map f).sum<=(out.map f).sum+(es.map f).sum
 | [],out=>by simp [zN]
 | e::es,out=>by
  unfold zN;by_cases h:e∈out
  ·rw[decide_eq_true h,cond_true];have:=jM f es out;simp only[aJ,cE];omega
  ·rw[decide_eq_false h,cond_false];have:=jM f es (out++[e]);simp only[aJ,cE,dC,List.sum_append,List.map_nil,List.sum_nil] at this ⊢;omega
abbrev vS (ρ:Nat->Nat):Sb:=fun v=>.v (ρ v)
theorem NX (ρ:Nat->Nat) (r:List Int):(tX (vS ρ) r).length=r.length:=by
 unfold tX
 induction r with
 | nil=>rfl
 | cons c r ih =>
  rw[bt,ax,ih,aj];unfold Zx;split
  ·simp [Tm.codes]; omega
  ·simp; omega
theorem U8 {a0:List zj} {ρ:Nat->Nat} {ts:List Tm} (h:WfR a0 ts) (hρ:∀ x,Xw x ts->ρ x<24):WfR a0 (w8 (vS ρ) ts):=by
 refine ⟨GG ts h.1 fun x hx=>hρ x hx,?_⟩;rw[rH];have:=NX ρ (zb ts);unfold tX at this;rw[this];exact h.2
theorem U6 {a0:List zj} {ρ:Nat->Nat} {l:KW} (h:WfL a0 l) (hρ:∀ x,Xw x l.2.2->ρ x<24):WfL a0 (We (vS ρ) l):=by
 obtain⟨h1,⟨e,h2,h3,h4⟩,h5⟩:=h;have:=U8 (a0:=a0) ⟨h1,h5⟩ hρ;exact ⟨this.1,⟨e,h2,h3,by show (((w8 (vS ρ) l.2.2).length:Nat):Int)=_; rw[jV]; exact h4⟩,this.2⟩
theorem DR {a0:List zj} {L:List KW} {T:List (List Tm)} {C:List KW} (hmay:tJ a0 (L.map cl) (T.map zb) (C.map cl)=true) (hL:∀ l∈L,WfL a0 l) (hT:∀ r∈T,WfR a0 r) (hC:∀ l∈C,WfL a0 l) :
  ∃(L1:List KW) (T1:List (List Tm)) (C1:List KW) (ρ:Nat->Nat),rX (L.map cl) (T.map zb) (C.map cl)=((L1.map (We (vS ρ))).map cl,(T1.map (w8 (vS ρ))).map zb,(C1.map (We (vS ρ))).map cl)∧(∀ l∈L1.map (We (vS ρ)),WfL a0 l)∧(∀ r∈T1.map (w8 (vS ρ)),WfR a0 r)∧(∀ l∈C1.map (We (vS ρ)),WfL a0 l) ∧
   tJ a0 ((L1.map (We (vS ρ))).map cl) ((T1.map (w8 (vS ρ))).map zb) ((C1.map (We (vS ρ))).map cl)=true∧(∀ x,SA L T C x->ρ x<24)∧(∀ x y,SA L T C x->SA L T C y->ρ x=ρ y->x=y)∧(∀ x,SA (L1.map (We (vS ρ))) (T1.map (w8 (vS ρ))) (C1.map (We (vS ρ))) x↔∃ y,SA L T C y∧ρ y=x) ∧
   (∀ l,l∈L1↔l∈L)∧(∀ l,l∈T1↔l∈T)∧∀ l,l∈C1↔l∈C:=by
 obtain⟨hsb,g1,g2,g3,g4,g5,g6,g7⟩:=zF hmay;obtain⟨ρ,hn,hr1,hr2⟩:=Lu (L:=L.map cl) (T:=T.map zb) (C:=C.map cl) fun r hr c hc=>(Vq hmay r hr).2 c hc;have hρ:∀ x,SA L T C x->ρ x<24:=fun x hx=>by
  have:=hr1 x (Km.2 hx);rwa [bq] at this
 have mL:∀ l,l∈zN (L.map cl) []↔l∈L.map cl:=fun l=>by simpa using qP (x:=l) (L.map cl) []
 have mT:∀ l,l∈zN (T.map zb) []↔l∈T.map zb:=fun l=>by simpa using qP (x:=l) (T.map zb) []
 have mC:∀ l,l∈zN (C.map cl) []↔l∈C.map cl:=fun l=>by simpa using qP (x:=l) (C.map cl) []
 obtain⟨L1,eL,sL⟩:=Xg cl (zN (L.map cl) []) fun b hb=>(mL b).1 hb;obtain⟨T1,eT,sT⟩:=Xg zb (zN (T.map zb) []) fun b hb=>(mT b).1 hb;obtain⟨C1,eC,sC⟩:=Xg cl (zN (C.map cl) []) fun b hb=>(mC b).1 hb;have bL:∀ l,l∈L1↔l∈L:=fun l=>⟨sL l,fun hl=>by
  have h1:=(mL (cl l)).2 (bh hl);rw[eL] at h1;obtain⟨k,hk,he⟩:=aW.1 h1;rw[← UF (hL k (sL k hk)) (hL l hl) he];exact hk⟩
 have bC:∀ l,l∈C1↔l∈C:=fun l=>⟨sC l,fun hl=>by
  have h1:=(mC (cl l)).2 (bh hl);rw[eC] at h1;obtain⟨k,hk,he⟩:=aW.1 h1;rw[← UF (hC k (sC k hk)) (hC l hl) he];exact hk⟩
 have bT:∀ l,l∈T1↔l∈T:=fun l=>⟨sT l,fun hl=>by
  have h1:=(mT (zb l)).2 (bh hl);rw[eT] at h1;obtain⟨k,hk,he⟩:=aW.1 h1;rw[← sc _ k l (aE _) (hT k (sT k hk)).1 (hT l hl).1 he];exact hk⟩
 have wL:∀ l∈L1.map (We (vS ρ)),WfL a0 l:=fun l hl=>by
  obtain⟨k,hk,rfl⟩:=aW.1 hl;exact U6 (hL k (sL k hk)) fun x hx=>hρ x (.inl ⟨k,sL k hk,hx⟩)
 have wC:∀ l∈C1.map (We (vS ρ)),WfL a0 l:=fun l hl=>by
  obtain⟨k,hk,rfl⟩:=aW.1 hl;exact U6 (hC k (sC k hk)) fun x hx=>hρ x (.inr (.inr ⟨k,sC k hk,hx⟩))
 have wT:∀ l∈T1.map (w8 (vS ρ)),WfR a0 l:=fun l hl=>by
  obtain⟨k,hk,rfl⟩:=aW.1 hl;exact U8 (hT k (sT k hk)) fun x hx=>hρ x (.inr (.inl ⟨k,sT k hk,hx⟩))
 have lL:L1.length<=5:=by
  have h1:=congrArg aa eL;have h2:=x5 (L.map cl) [];rw[aO] at h1 h2 g1;simp at h2; omega
 have lT:T1.length<=3:=by
  have h1:=congrArg aa eT;have h2:=x5 (T.map zb) [];rw[aO] at h1 h2 g2;simp at h2; omega
 have lC:C1.length<=3:=by
  have h1:=congrArg aa eC;have h2:=x5 (C.map cl) [];rw[aO] at h1 h2 g3;simp at h2; omega
 refine ⟨L1,T1,C1,ρ,?_,wL,wT,wC,?_,hρ,fun x y hx hy he => ?_,fun x => ?_,bL,bT,bC⟩
 ·rw[hn,eL,eT,eC,GF,Ky,GF]
 ·refine zbL hsb (by simpa using lL) (by simpa using lT) (by simpa using lC) ?_ ?_ ?_ ?_
  ·refine aF.2 fun l hl => ?_;obtain⟨k,hk,rfl⟩:=aW.1 hl;exact Jd hsb (wL k hk)
  ·obtain⟨n,hw⟩:=Xs g5;refine Sg (n:=n) fun r hr => ?_;obtain⟨k,hk,rfl⟩:=aW.1 hr;rw[JA hsb (wT k hk)];obtain⟨j,hj,rfl⟩:=aW.1 hk;rw[jV];have:=hw (zb j) (bh (sT j hj));rwa [JA hsb (hT j (sT j hj))] at this
  ·refine aF.2 fun l hl => ?_;obtain⟨k,hk,rfl⟩:=aW.1 hl;exact Jd hsb (wC k hk)
  ·have sumL:∀(X X1:List KW),zN (X.map cl) []=X1.map cl->zo (((X1.map (We (vS ρ))).map cl).map (·.2))<=zo ((X.map cl).map (·.2)):=by
    intro X X1 he;rw[← GF];have h1:(uV (vS ρ) (X1.map cl)).map (·.2.length)=(X1.map cl).map (·.2.length):=by
     unfold uV;rw[cF];exact bS fun l _=>NX ρ l.2
    unfold zo;rw[cF,cF];have h2:=jM (fun l:zd=>l.2.length) (X.map cl) [];rw[he] at h2;have h3:cD (aa ∘ fun x=>x.2) (uV (vS ρ) (X1.map cl))=(X1.map cl).map (·.2.length):=h1;rw[h3];have h4:(([]:List zd).map (fun l:zd=>l.2.length)).sum=0:=rfl;have h5:cD (aa ∘ fun x=>x.2) (X.map cl)=(X.map cl).map (fun l:zd=>l.2.length):=rfl;rw[h4,aN] at h2;exact h2
   have sumT:zo ((T1.map (w8 (vS ρ))).map zb)<=zo (T.map zb):=by
    rw[← Ky];have h2:=jM aa (T.map zb) [];rw[eT] at h2;unfold zo;rw[cF];have h3:cD (aa ∘ tX (vS ρ)) (T1.map zb)=(T1.map zb).map aa:=bS fun r _=>NX ρ r;rw[h3];simpa using h2
   have h1:=sumL L L1 eL;have h2:=sumL C C1 eC;omega
 ·have:=hr2 x y (Km.2 hx) (Km.2 hy) (by rw[bq,bq]; exact he)
  rwa [bq,bq] at this
 ·constructor
  ·rintro (⟨l,hl,hx⟩ | ⟨r,hr,hx⟩ | ⟨l,hl,hx⟩)
   ·obtain⟨k,hk,rfl⟩:=aW.1 hl;obtain⟨y,hy,he⟩:=(ky k.2.2).1 hx;exact ⟨y,.inl ⟨k,sL k hk,hy⟩,he⟩
   ·obtain⟨k,hk,rfl⟩:=aW.1 hr;obtain⟨y,hy,he⟩:=(ky k).1 hx;exact ⟨y,.inr (.inl ⟨k,sT k hk,hy⟩),he⟩
   ·obtain⟨k,hk,rfl⟩:=aW.1 hl;obtain⟨y,hy,he⟩:=(ky k.2.2).1 hx;exact ⟨y,.inr (.inr ⟨k,sC k hk,hy⟩),he⟩
  ·rintro⟨y,⟨l,hl,hy⟩ | ⟨r,hr,hy⟩ | ⟨l,hl,hy⟩,he⟩
   ·exact .inl ⟨_,bh ((bL l).2 hl),(ky l.2.2).2 ⟨y,hy,he⟩⟩
   ·exact .inr (.inl ⟨_,bh ((bT r).2 hr),(ky r).2 ⟨y,hy,he⟩⟩)
   ·exact .inr (.inr ⟨_,bh ((bC l).2 hl),(ky l.2.2).2 ⟨y,hy,he⟩⟩)
mutual
theorem Tm.sub_id:(t:Tm)->t.sub (fun n=>Tm.v n)=t
 | .v n=>rfl
 | .f c as=>by rw[Tm.sub,OD as]
theorem OD:(ts:List Tm)->w8 (fun n=>Tm.v n) ts=ts
 | []=>rfl
 | t::ts=>by rw[w8,Tm.sub_id t,OD ts]
end
section
variable {m:Nat} (hm:0<m) (hm3:m<=3) {nums:List Int} (hn:GS nums) {a0:List zj} (hs:SignOk a0)
include hm hm3 hn hs
end
section
variable {m:Nat} (hm:0<m) (hm3:m<=3) {nums:List Int} (hn:GS nums) {a0:List zj} (hs:SignOk a0)
include hm hm3 hn hs
end
theorem Gb {α:Type} (xs:List α) {i:Nat} (h:i<=xs.length):vU xs none (some (i:Int))=some (xs.take i):=by
 show slc xs 0 (i:Int)=some _;unfold slc;rw[decide_eq_true (show (0:Int)<=0 by omega),decide_eq_true (show (0:Int)<=(i:Int) by omega),decide_eq_true (show (i:Int)<=((xs.length:Nat):Int) by omega)]
 simp
section
variable {m:Nat} (hm:0<m) (hm3:m<=3) {nums:List Int} (hn:GS nums) {a0:List zj} (hs:SignOk a0)
include hm hm3 hn hs
end
def rP (a0:jQ) (_a1:jR) (_a2:jQ) (a3:Int):Option Bool :=
 cond (decide (a3≥0))
 (some (decide (a3<((aa a0:Nat):Int))))
 (some false)
def rE (rec:((List (Int×jI))×Int×Int)->Option (Unit⊕Int)) (x:((List (Int×jI))×Int×Int)):Option (Unit⊕Int) :=
 cond (decide (x.2.2<((aa x.1:Nat):Int)))
 ((gx x.1 x.2.2).bind fun e2 =>
  cond (e2.1==x.2.1)
  (some (aG x.2.2))
  (rec (x.1,x.2.1,(ah .i64 (x.2.2+1)))))
 (some (aU ()))
def Qj (a0:(List (Int×jI))) (a1:Int):Option Int :=
 ((lp rE ze) (a0,a1,0)).bind fun r6 =>
 yA r6
 (fun _z7=>some (-1))
 (fun z8=>some z8)
def tQ (rec:((List (Int×jI))×jI×Int×jI)->Option jI) (x:((List (Int×jI))×jI×Int×jI)):Option jI :=
 cond (decide (x.2.2.1<((aa x.2.1:Nat):Int)))
 ((gx x.2.1 x.2.2.1).bind fun e16 =>
  cond (decide (e16<0))
  ((gx x.2.1 x.2.2.1).bind fun e17 =>
   (Qj x.1 (ah .i64 ((-1) - e17))).bind fun r18 =>
   cond (decide (r18<0))
   ((gx x.2.1 x.2.2.1).bind fun e19 =>
    cond (yM (aa x.2.2.2+aa ([e19]:List Int)) 8)
    (rec (x.1,x.2.1,(ah .i64 (x.2.2.1+1)),(x.2.2.2++([e19]:List Int))))
    (none))
   ((gx x.1 r18).bind fun e20 =>
    cond (yM (aa x.2.2.2+aa e20.2) 8)
    (rec (x.1,x.2.1,(ah .i64 (x.2.2.1+1)),(x.2.2.2++e20.2)))
    (none)))
  ((gx x.2.1 x.2.2.1).bind fun e21 =>
   cond (yM (aa x.2.2.2+aa ([e21]:List Int)) 8)
   (rec (x.1,x.2.1,(ah .i64 (x.2.2.1+1)),(x.2.2.2++([e21]:List Int))))
   (none)))
 (some x.2.2.2)
def vT (a0:(List (Int×jI))) (a1:jI):Option jI :=
 ((lp tQ ze) (a0,a1,0,([]:jI))).bind fun r23 =>
 some r23
def uz (rec:((List (Int×jI))×Int×jQ×jR×jQ×jQ×jR×jQ)->Option (jQ×jR×jQ)) (x:((List (Int×jI))×Int×jQ×jR×jQ×jQ×jR×jQ)):Option (jQ×jR×jQ) :=
 cond (decide (x.2.1<((aa x.2.2.2.2.1:Nat):Int)))
 ((gx x.2.2.2.2.1 x.2.1).bind fun e24 =>
  (gx x.2.2.2.2.1 x.2.1).bind fun e25 =>
  (vT x.1 e25.2).bind fun r26 =>
  cond (yM (aa x.2.2.2.2.2.2.2+aa ([(e24.1,r26)]:List zd)) 32)
  (rec (x.1,(ah .i64 (x.2.1+1)),x.2.2.1,x.2.2.2.1,x.2.2.2.2.1,x.2.2.2.2.2.1,x.2.2.2.2.2.2.1,(x.2.2.2.2.2.2.2++([(e24.1,r26)]:List zd))))
  (none))
 (some (x.2.2.2.2.2.1,x.2.2.2.2.2.2.1,x.2.2.2.2.2.2.2))
def uP (rec:((List (Int×jI))×Int×jQ×jR×jQ×jQ×jR)->Option (jQ×jR)) (x:((List (Int×jI))×Int×jQ×jR×jQ×jQ×jR)):Option (jQ×jR) :=
 cond (decide (x.2.1<((aa x.2.2.2.1:Nat):Int)))
 ((gx x.2.2.2.1 x.2.1).bind fun e15 =>
  (vT x.1 e15).bind fun r16 =>
  cond (yM (aa x.2.2.2.2.2.2+aa ([r16]:List jI)) 24)
  (rec (x.1,(ah .i64 (x.2.1+1)),x.2.2.1,x.2.2.2.1,x.2.2.2.2.1,x.2.2.2.2.2.1,(x.2.2.2.2.2.2++([r16]:List jI))))
  (none))
 (some (x.2.2.2.2.2.1,x.2.2.2.2.2.2))
def uI (rec:((List (Int×jI))×Int×jQ×jR×jQ×jQ)->Option jQ) (x:((List (Int×jI))×Int×jQ×jR×jQ×jQ)):Option jQ :=
 cond (decide (x.2.1<((aa x.2.2.1:Nat):Int)))
 ((gx x.2.2.1 x.2.1).bind fun e7 =>
  (gx x.2.2.1 x.2.1).bind fun e8 =>
  (vT x.1 e8.2).bind fun r9 =>
  cond (yM (aa x.2.2.2.2.2+aa ([(e7.1,r9)]:List zd)) 32)
  (rec (x.1,(ah .i64 (x.2.1+1)),x.2.2.1,x.2.2.2.1,x.2.2.2.2.1,(x.2.2.2.2.2++([(e7.1,r9)]:List zd))))
  (none))
 (some x.2.2.2.2.2)
def tu (a0:(List (Int×jI))) (a1:jQ) (a2:jR) (a3:jQ):Option (jQ×jR×jQ) :=
 ((lp uI ze) (a0,0,a1,a2,a3,([]:jQ))).bind fun r28 =>
 ((lp uP ze) (a0,0,a1,a2,a3,r28,([]:jR))).bind fun r29 =>
 ((lp uz ze) (a0,0,a1,a2,a3,r29.1,r29.2,([]:jQ))).bind fun r30 =>
 some (r30.1,r30.2.1,r30.2.2)
def xj (rec:(Int×jI×Int×jQ×jR×jQ×(List (Int×jI)))->Option ((List (Int×jI))⊕Bool)) (x:(Int×jI×Int×jQ×jR×jQ×(List (Int×jI)))):Option ((List (Int×jI))⊕Bool) :=
 cond (decide (x.2.2.1<((aa x.2.1:Nat):Int)))
 ((gx x.2.1 x.2.2.1).bind fun e11 =>
  cond (decide ((ah .i64 (e11+x.1))>23))
  (some (aG false))
  ((gx x.2.1 x.2.2.1).bind fun e12 =>
   (gx x.2.1 x.2.2.1).bind fun e13 =>
   cond (yM (aa x.2.2.2.2.2.2+aa ([(e12,([(ah .i64 ((ah .i64 ((-1) - e13)) - x.1))]:List Int))]:List (Int×jI))) 32)
   (rec (x.1,x.2.1,(ah .i64 (x.2.2.1+1)),x.2.2.2.1,x.2.2.2.2.1,x.2.2.2.2.2.1,(x.2.2.2.2.2.2++([(e12,([(ah .i64 ((ah .i64 ((-1) - e13)) - x.1))]:List Int))]:List (Int×jI)))))
   (none)))
 (some (aU x.2.2.2.2.2.2))
def t5 (a0:jQ) (a1:jR) (a2:jQ) (a3:jQ) (a4:jR) (a5:jQ):Option (jQ×jR×Bool×jQ) :=
 (sf a0 a1 a2).bind fun r23 =>
 cond (decide (((aa r23:Nat):Int)>0))
 ((inR (ah .i64 (((aa r23:Nat):Int) - 1)) (aa r23)).bind fun k24 =>
  (r23[k24]?).bind fun x25 =>
  (sf a3 a4 a5).bind fun r26 =>
  ((lp xj ze) ((ah .i64 (x25+1)),r26,0,a3,a4,a5,([]:(List (Int×jI))))).bind fun r27 =>
  yA r27
  (fun z28=>(tu z28 a3 a4 a5).bind fun r29 =>
   some (r29.1,r29.2.1,true,r29.2.2))
  (fun z30=>some (([]:jQ),([]:jR),z30,([]:jQ))))
 ((sf a3 a4 a5).bind fun r31 =>
  ((lp xj ze) (0,r31,0,a3,a4,a5,([]:(List (Int×jI))))).bind fun r32 =>
  yA r32
  (fun z33=>(tu z33 a3 a4 a5).bind fun r34 =>
   some (r34.1,r34.2.1,true,r34.2.2))
  (fun z35=>some (([]:jQ),([]:jR),z35,([]:jQ))))
def x9 (rec:(jI×jR)->Option jI) (x:(jI×jR)):Option jI :=
 cond (((aa x.1:Nat):Int)==1)
 ((gx x.1 0).bind fun e8 =>
  cond (decide (e8<0))
  ((gx x.1 0).bind fun e9 =>
   (inR (ah .i64 ((-1) - e9)) 48).bind fun k10 =>
   (x.2[k10]?).bind fun x11 =>
   cond (decide (((aa x11:Nat):Int)>0))
   ((gx x.1 0).bind fun e12 =>
    (inR (ah .i64 ((-1) - e12)) 48).bind fun k13 =>
    (x.2[k13]?).bind fun x14 =>
    rec (x14,x.2))
   (some x.1))
  (some x.1))
 (some x.1)
def vD (a0:jI) (a1:jR):Option jI :=
 ((lp x9 ze) (a0,a1)).bind fun r16 =>
 some r16
def uy (rec:(jI×jI×Int)->Option (Unit⊕Bool)) (x:(jI×jI×Int)):Option (Unit⊕Bool) :=
 cond (decide (x.2.2<((aa x.1:Nat):Int)))
 ((gx x.1 x.2.2).bind fun e3 =>
  (gx x.2.1 x.2.2).bind fun e4 =>
  cond (e3 != e4)
  (some (aG false))
  (rec (x.1,x.2.1,(ah .i64 (x.2.2+1)))))
 (some (aU ()))
def xA (a0:jI) (a1:jI):Option Bool :=
 cond (((aa a0:Nat):Int) != ((aa a1:Nat):Int))
 (some false)
 (((lp uy ze) (a0,a1,0)).bind fun r8 =>
  yA r8
  (fun _z9=>some true)
  (fun z10=>some z10))
def qt (rf:((Int×jI×jR)->Option Bool)) (rec:(Int×jI×Int×jR)->Option (Unit⊕Bool)) (x:(Int×jI×Int×jR)):Option (Unit⊕Bool) :=
 cond (decide (x.2.2.1<((aa x.2.1:Nat):Int)))
 ((gx x.2.1 x.2.2.1).bind fun e8 =>
  cond (decide (e8≥0))
  (rec (x.1,x.2.1,(ah .i64 (x.2.2.1+1)),x.2.2.2))
  ((gx x.2.1 x.2.2.1).bind fun e9 =>
   cond ((ah .i64 ((-1) - e9))==x.1)
   (some (aG true))
   ((inR (ah .i64 ((-1) - e9)) 48).bind fun k10 =>
    (x.2.2.2[k10]?).bind fun x11 =>
    cond (decide (((aa x11:Nat):Int)>0))
    ((inR (ah .i64 ((-1) - e9)) 48).bind fun k12 =>
     (x.2.2.2[k12]?).bind fun x13 =>
     (rf (x.1,x13,x.2.2.2)).bind fun r14 =>
     cond r14
     (some (aG true))
     (rec (x.1,x.2.1,(ah .i64 (x.2.2.1+1)),x.2.2.2)))
    (rec (x.1,x.2.1,(ah .i64 (x.2.2.1+1)),x.2.2.2)))))
 (some (aU ()))
def uu (rf:((Int×jI×jR)->Option Bool)) (a0:Int) (a1:jI) (a2:jR):Option Bool :=
 ((lp (qt rf) ze) (a0,a1,0,a2)).bind fun r18 =>
 yA r18
 (fun _z19=>some false)
 (fun z20=>some z20)
def ji (rf:((Int×jI×jR)->Option Bool)):((Int×jI×jR)->Option Bool) :=
 fun (x:(Int×jI×jR))=>uu rf x.1 x.2.1 x.2.2
def jr:((Int×jI×jR)->Option Bool):=fun _=>none
def yR (k:Nat):((Int×jI×jR)->Option Bool):=lpR jr ji k
def t6 (a0:Int) (a1:jI) (a2:jR):Option Bool:=(yR ze) (a0,a1,a2)
def zy (a0:jI) (a1:jI) (a2:Bool) (a3:jR):Option (Bool×jR) :=
 (gx a0 0).bind fun e8 =>
 cond a2
 ((gx a1 0).bind fun e9 =>
  (inR (ah .i64 ((-1) - e9)) 48).bind fun k10 =>
  (a3[k10]?).bind fun _x11 =>
  some (true,(cP a3 k10 a0)))
 ((t6 (ah .i64 ((-1) - e8)) a1 a3).bind fun r12 =>
  cond r12
  (some (false,a3))
  ((inR (ah .i64 ((-1) - e8)) 48).bind fun k13 =>
   (a3[k13]?).bind fun _x14 =>
   some (true,(cP a3 k13 a1))))
def wY (rf:(((jS×jI×jI×jR)->Option (Bool×jR))×((jS×jR×jR×jR)->Option (Bool×jR)))) (a0:jS) (a1:jI) (a2:jI) (a3:jR):Option (Bool×jR) :=
 (vD a1 a3).bind fun r82 =>
 (vD a2 a3).bind fun r83 =>
 (xA r82 r83).bind fun r84 =>
 cond r84
 (some (true,a3))
 ((gx r82 0).bind fun e85 =>
  cond (decide (e85<0))
  ((gx r83 0).bind fun e86 =>
   cond (decide (e86<0))
   ((gx r82 0).bind fun e87 =>
    (gx r83 0).bind fun e88 =>
    cond (decide (e87<e88))
    ((gx r82 0).bind fun e89 =>
     (zy r83 r82 (decide (e89<0)) a3).bind fun r90 =>
     some (r90.1,r90.2))
    ((gx r82 0).bind fun e91 =>
     cond (decide (e91≥0))
     ((gx r83 0).bind fun e92 =>
      cond (decide (e92<0))
      ((gx r82 0).bind fun e93 =>
       (zy r83 r82 (decide (e93<0)) a3).bind fun r94 =>
       some (r94.1,r94.2))
      ((gx r82 0).bind fun e95 =>
       cond (decide (e95<0))
       ((gx r83 0).bind fun e96 =>
        (zy r82 r83 (decide (e96<0)) a3).bind fun r97 =>
        some (r97.1,r97.2))
       ((gx r82 0).bind fun e98 =>
        (gx r83 0).bind fun e99 =>
        cond (e98 != e99)
        (some (false,a3))
        ((vU r82 (some 1) none).bind fun y100 =>
         (zK a0 y100).bind fun r101 =>
         (vU r83 (some 1) none).bind fun y102 =>
         (zK a0 y102).bind fun r103 =>
         (rf.2 (a0,r101,r103,a3)).bind fun r104 =>
         some (r104.1,r104.2)))))
     ((gx r82 0).bind fun e105 =>
      cond (decide (e105<0))
      ((gx r83 0).bind fun e106 =>
       (zy r82 r83 (decide (e106<0)) a3).bind fun r107 =>
       some (r107.1,r107.2))
      ((gx r82 0).bind fun e108 =>
       (gx r83 0).bind fun e109 =>
       cond (e108 != e109)
       (some (false,a3))
       ((vU r82 (some 1) none).bind fun y110 =>
        (zK a0 y110).bind fun r111 =>
        (vU r83 (some 1) none).bind fun y112 =>
        (zK a0 y112).bind fun r113 =>
        (rf.2 (a0,r111,r113,a3)).bind fun r114 =>
        some (r114.1,r114.2))))))
   ((gx r82 0).bind fun e115 =>
    cond (decide (e115≥0))
    ((gx r83 0).bind fun e116 =>
     cond (decide (e116<0))
     ((gx r82 0).bind fun e117 =>
      (zy r83 r82 (decide (e117<0)) a3).bind fun r118 =>
      some (r118.1,r118.2))
     ((gx r82 0).bind fun e119 =>
      cond (decide (e119<0))
      ((gx r83 0).bind fun e120 =>
       (zy r82 r83 (decide (e120<0)) a3).bind fun r121 =>
       some (r121.1,r121.2))
      ((gx r82 0).bind fun e122 =>
       (gx r83 0).bind fun e123 =>
       cond (e122 != e123)
       (some (false,a3))
       ((vU r82 (some 1) none).bind fun y124 =>
        (zK a0 y124).bind fun r125 =>
        (vU r83 (some 1) none).bind fun y126 =>
        (zK a0 y126).bind fun r127 =>
        (rf.2 (a0,r125,r127,a3)).bind fun r128 =>
        some (r128.1,r128.2)))))
    ((gx r82 0).bind fun e129 =>
     cond (decide (e129<0))
     ((gx r83 0).bind fun e130 =>
      (zy r82 r83 (decide (e130<0)) a3).bind fun r131 =>
      some (r131.1,r131.2))
     ((gx r82 0).bind fun e132 =>
      (gx r83 0).bind fun e133 =>
      cond (e132 != e133)
      (some (false,a3))
      ((vU r82 (some 1) none).bind fun y134 =>
       (zK a0 y134).bind fun r135 =>
       (vU r83 (some 1) none).bind fun y136 =>
       (zK a0 y136).bind fun r137 =>
       (rf.2 (a0,r135,r137,a3)).bind fun r138 =>
       some (r138.1,r138.2))))))
  ((gx r82 0).bind fun e139 =>
   cond (decide (e139≥0))
   ((gx r83 0).bind fun e140 =>
    cond (decide (e140<0))
    ((gx r82 0).bind fun e141 =>
     (zy r83 r82 (decide (e141<0)) a3).bind fun r142 =>
     some (r142.1,r142.2))
    ((gx r82 0).bind fun e143 =>
     cond (decide (e143<0))
     ((gx r83 0).bind fun e144 =>
      (zy r82 r83 (decide (e144<0)) a3).bind fun r145 =>
      some (r145.1,r145.2))
     ((gx r82 0).bind fun e146 =>
      (gx r83 0).bind fun e147 =>
      cond (e146 != e147)
      (some (false,a3))
      ((vU r82 (some 1) none).bind fun y148 =>
       (zK a0 y148).bind fun r149 =>
       (vU r83 (some 1) none).bind fun y150 =>
       (zK a0 y150).bind fun r151 =>
       (rf.2 (a0,r149,r151,a3)).bind fun r152 =>
       some (r152.1,r152.2)))))
   ((gx r82 0).bind fun e153 =>
    cond (decide (e153<0))
    ((gx r83 0).bind fun e154 =>
     (zy r82 r83 (decide (e154<0)) a3).bind fun r155 =>
     some (r155.1,r155.2))
    ((gx r82 0).bind fun e156 =>
     (gx r83 0).bind fun e157 =>
     cond (e156 != e157)
     (some (false,a3))
     ((vU r82 (some 1) none).bind fun y158 =>
      (zK a0 y158).bind fun r159 =>
      (vU r83 (some 1) none).bind fun y160 =>
      (zK a0 y160).bind fun r161 =>
      (rf.2 (a0,r159,r161,a3)).bind fun r162 =>
      some (r162.1,r162.2))))))
def qH (rf:(((jS×jI×jI×jR)->Option (Bool×jR))×((jS×jR×jR×jR)->Option (Bool×jR)))) (rec:(jS×jR×jR×Int×jR)->Option (jR⊕(Bool×jR))) (x:(jS×jR×jR×Int×jR)):Option (jR⊕(Bool×jR)) :=
 cond (decide (x.2.2.2.1<((aa x.2.1:Nat):Int)))
 ((gx x.2.1 x.2.2.2.1).bind fun e7 =>
  (gx x.2.2.1 x.2.2.2.1).bind fun e8 =>
  (rf.1 (x.1,e7,e8,x.2.2.2.2)).bind fun r9 =>
  cond (!r9.1)
  (some (aG (false,r9.2)))
  (rec (x.1,x.2.1,x.2.2.1,(ah .i64 (x.2.2.2.1+1)),r9.2)))
 (some (aU x.2.2.2.2))
def tc (rf:(((jS×jI×jI×jR)->Option (Bool×jR))×((jS×jR×jR×jR)->Option (Bool×jR)))) (a0:jS) (a1:jR) (a2:jR) (a3:jR):Option (Bool×jR) :=
 ((lp (qH rf) ze) (a0,a1,a2,0,a3)).bind fun r13 =>
 yA r13
 (fun z14=>some (true,z14))
 (fun z15=>some (z15.1,z15.2))
def jw (rf:(((jS×jI×jI×jR)->Option (Bool×jR))×((jS×jR×jR×jR)->Option (Bool×jR)))):(((jS×jI×jI×jR)->Option (Bool×jR))×((jS×jR×jR×jR)->Option (Bool×jR))) :=
 (fun (x:(jS×jI×jI×jR))=>wY rf x.1 x.2.1 x.2.2.1 x.2.2.2,fun (x:(jS×jR×jR×jR))=>tc rf x.1 x.2.1 x.2.2.1 x.2.2.2)
def Zd:(((jS×jI×jI×jR)->Option (Bool×jR))×((jS×jR×jR×jR)->Option (Bool×jR))):=(fun _=>none,fun _=>none)
def zD (k:Nat):(((jS×jI×jI×jR)->Option (Bool×jR))×((jS×jR×jR×jR)->Option (Bool×jR))):=lpR Zd jw k
def XX (a0:jS) (a1:jI) (a2:jI) (a3:jR):Option (Bool×jR):=(zD ze).1 (a0,a1,a2,a3)
def rb (a0:jS) (a1:jR) (a2:jR) (a3:jR):Option (Bool×jR):=(zD ze).2 (a0,a1,a2,a3)
def qu (rf:((jI×jR×jI)->Option jI)) (rec:(jI×Int×jR×jI)->Option jI) (x:(jI×Int×jR×jI)):Option jI :=
 cond (decide (x.2.1<((aa x.1:Nat):Int)))
 (cond (decide (((aa x.2.2.2:Nat):Int)<=48))
  ((gx x.1 x.2.1).bind fun e19 =>
   cond (decide (e19<0))
   ((gx x.1 x.2.1).bind fun e20 =>
    (inR (ah .i64 ((-1) - e20)) 48).bind fun k21 =>
    (x.2.2.1[k21]?).bind fun x22 =>
    cond (decide (((aa x22:Nat):Int)>0))
    ((gx x.1 x.2.1).bind fun e23 =>
     (inR (ah .i64 ((-1) - e23)) 48).bind fun k24 =>
     (x.2.2.1[k24]?).bind fun x25 =>
     (rf (x25,x.2.2.1,x.2.2.2)).bind fun r26 =>
     rec (x.1,(ah .i64 (x.2.1+1)),x.2.2.1,r26))
    ((gx x.1 x.2.1).bind fun e27 =>
     cond (yM (aa x.2.2.2+aa ([e27]:List Int)) 8)
     (rec (x.1,(ah .i64 (x.2.1+1)),x.2.2.1,(x.2.2.2++([e27]:List Int))))
     (none)))
   ((gx x.1 x.2.1).bind fun e28 =>
    cond (yM (aa x.2.2.2+aa ([e28]:List Int)) 8)
    (rec (x.1,(ah .i64 (x.2.1+1)),x.2.2.1,(x.2.2.2++([e28]:List Int))))
    (none)))
  (some x.2.2.2))
 (some x.2.2.2)
def uw (rf:((jI×jR×jI)->Option jI)) (a0:jI) (a1:jR) (a2:jI):Option jI :=
 ((lp (qu rf) ze) (a0,0,a1,a2)).bind fun r30 =>
 some r30
def jg (rf:((jI×jR×jI)->Option jI)):((jI×jR×jI)->Option jI) :=
 fun (x:(jI×jR×jI))=>uw rf x.1 x.2.1 x.2.2
def kS:((jI×jR×jI)->Option jI):=fun _=>none
def yq (k:Nat):((jI×jR×jI)->Option jI):=lpR kS jg k
def vR (a0:jI) (a1:jR) (a2:jI):Option jI:=(yq ze) (a0,a1,a2)
def xa (rec:(Int×jR×(List (Int×jI)))->Option ((List (Int×jI))⊕(Bool×Bool))) (x:(Int×jR×(List (Int×jI)))):Option ((List (Int×jI))⊕(Bool×Bool)) :=
 cond (decide (x.1<=23))
 ((inR x.1 48).bind fun k14 =>
  (x.2.1[k14]?).bind fun x15 =>
  cond (((aa x15:Nat):Int)==0)
  (rec ((ah .i64 (x.1+1)),x.2.1,x.2.2))
  ((inR x.1 48).bind fun k16 =>
   (x.2.1[k16]?).bind fun x17 =>
   (vR x17 x.2.1 ([]:jI)).bind fun r18 =>
   cond (decide (((aa r18:Nat):Int)>48))
   (some (aG (true,false)))
   (cond (yM (aa x.2.2+aa ([(x.1,r18)]:List (Int×jI))) 32)
    (rec ((ah .i64 (x.1+1)),x.2.1,(x.2.2++([(x.1,r18)]:List (Int×jI)))))
    (none))))
 (some (aU x.2.2))
def vM (a0:jS) (a1:jI) (a2:jI):Option (Bool×Bool×(List (Int×jI))) :=
 (zK a0 a1).bind fun r22 =>
 (zK a0 a2).bind fun r23 =>
 cond (((aa r22:Nat):Int) != ((aa r23:Nat):Int))
 (some (false,true,([]:(List (Int×jI)))))
 ((rb a0 r22 r23 (az 48 ([]:jI))).bind fun r24 =>
  cond (!r24.1)
  (some (false,true,([]:(List (Int×jI)))))
  (((lp xa ze) (0,r24.2,([]:(List (Int×jI))))).bind fun r25 =>
   yA r25
   (fun z26=>some (true,true,z26))
   (fun z27=>some (z27.1,z27.2,([]:(List (Int×jI)))))))
def tC (a0:jQ) (a1:Int):Option jQ :=
 (vU a0 none (some a1)).bind fun y3 =>
 cond (yM (aa ([]:List zd)+aa y3) 32)
 ((vU a0 (some (ah .i64 (a1+1))) none).bind fun y4 =>
  cond (yM (aa (([]:List zd)++y3)+aa y4) 32)
  (some ((([]:List zd)++y3)++y4))
  (none))
 (none)
def YG (a0:jQ) (_a1:jQ) (a2:jR) (a3:jQ) (_a4:jQ) (a5:jR) (a6:jQ):Option (jQ×jR×jQ) :=
 cond (yM (aa a2) 24)
 (cond (yM (aa a2+aa a5) 24)
  (cond (yM (aa a3) 32)
   (cond (yM (aa a3+aa a6) 32)
    (some (a0,(a2++a5),(a3++a6)))
    (none))
   (none))
  (none))
 (none)
def sD (a0:Bool) (a1:jI) (a2:Bool) (a3:jI):Option Bool :=
 cond (a0==a2)
 ((xA a1 a3).bind fun r2 =>
  some r2)
 (some false)
def vC (rec:(jQ×Int×Bool×Int×jQ)->Option (Bool×jQ)) (x:(jQ×Int×Bool×Int×jQ)):Option (Bool×jQ) :=
 cond (decide (x.2.2.2.1<((aa x.2.2.2.2:Nat):Int)))
 (cond x.2.2.1
  (rec (x.1,x.2.1,true,(ah .i64 (x.2.2.2.1+1)),x.2.2.2.2))
  ((inR x.2.2.2.1 (aa x.2.2.2.2)).bind fun k7 =>
   (x.2.2.2.2[k7]?).bind fun x8 =>
   (gx x.1 x.2.1).bind fun e9 =>
   (sD x8.1 x8.2 e9.1 e9.2).bind fun r10 =>
   rec (x.1,x.2.1,r10,(ah .i64 (x.2.2.2.1+1)),x.2.2.2.2)))
 (some (x.2.2.1,x.2.2.2.2))
def uH (rec:(jQ×Int×jQ)->Option jQ) (x:(jQ×Int×jQ)):Option jQ :=
 cond (decide (x.2.1<((aa x.1:Nat):Int)))
 (((lp vC ze) (x.1,x.2.1,false,0,x.2.2)).bind fun r13 =>
  cond (!r13.1)
  ((gx x.1 x.2.1).bind fun e14 =>
   cond (yM (aa r13.2+aa ([(e14.1,e14.2)]:List zd)) 32)
   (rec (x.1,(ah .i64 (x.2.1+1)),(r13.2++([(e14.1,e14.2)]:List zd))))
   (none))
  (rec (x.1,(ah .i64 (x.2.1+1)),r13.2)))
 (some x.2.2)
def Yu (a0:jQ):Option jQ :=
 ((lp uH ze) (a0,0,([]:jQ))).bind fun r16 =>
 some r16
def wM (rec:(jR×Int×Int×jQ×jR×jQ×(List (Int×jI)))->Option (List (Int×jI))) (x:(jR×Int×Int×jQ×jR×jQ×(List (Int×jI)))):Option (List (Int×jI)) :=
 (gx x.1 x.2.1).bind fun e29 =>
 cond (decide (x.2.2.1<((aa e29:Nat):Int)))
 ((gx x.1 x.2.1).bind fun e30 =>
  (gx e30 x.2.2.1).bind fun e31 =>
  cond (decide (e31<0))
  ((Qj x.2.2.2.2.2.2 (ah .i64 ((-1) - e31))).bind fun r32 =>
   cond (decide (r32<0))
   (cond (yM (aa x.2.2.2.2.2.2+aa ([((ah .i64 ((-1) - e31)),([(ah .i64 ((-1) - ((aa x.2.2.2.2.2.2:Nat):Int)))]:List Int))]:List (Int×jI))) 32)
    (rec (x.1,x.2.1,(ah .i64 (x.2.2.1+1)),x.2.2.2.1,x.2.2.2.2.1,x.2.2.2.2.2.1,(x.2.2.2.2.2.2++([((ah .i64 ((-1) - e31)),([(ah .i64 ((-1) - ((aa x.2.2.2.2.2.2:Nat):Int)))]:List Int))]:List (Int×jI)))))
    (none))
   (rec (x.1,x.2.1,(ah .i64 (x.2.2.1+1)),x.2.2.2.1,x.2.2.2.2.1,x.2.2.2.2.2.1,x.2.2.2.2.2.2)))
  (rec (x.1,x.2.1,(ah .i64 (x.2.2.1+1)),x.2.2.2.1,x.2.2.2.2.1,x.2.2.2.2.2.1,x.2.2.2.2.2.2)))
 (some x.2.2.2.2.2.2)
def vB (rec:(Int×Bool×Int×jQ×jR×jQ×jQ×jQ×jR)->Option (Bool×jQ×jQ×jR)) (x:(Int×Bool×Int×jQ×jR×jQ×jQ×jQ×jR)):Option (Bool×jQ×jQ×jR) :=
 cond (decide (x.2.2.1<((aa x.2.2.2.2.2.2.2.2:Nat):Int)))
 (cond x.2.1
  (rec (x.1,true,(ah .i64 (x.2.2.1+1)),x.2.2.2.1,x.2.2.2.2.1,x.2.2.2.2.2.1,x.2.2.2.2.2.2.1,x.2.2.2.2.2.2.2.1,x.2.2.2.2.2.2.2.2))
  ((inR x.2.2.1 (aa x.2.2.2.2.2.2.2.2)).bind fun k9 =>
   (x.2.2.2.2.2.2.2.2[k9]?).bind fun x10 =>
   (gx x.2.2.2.2.1 x.1).bind fun e11 =>
   (xA x10 e11).bind fun r12 =>
   rec (x.1,r12,(ah .i64 (x.2.2.1+1)),x.2.2.2.1,x.2.2.2.2.1,x.2.2.2.2.2.1,x.2.2.2.2.2.2.1,x.2.2.2.2.2.2.2.1,x.2.2.2.2.2.2.2.2)))
 (some (x.2.1,x.2.2.2.2.2.2.1,x.2.2.2.2.2.2.2.1,x.2.2.2.2.2.2.2.2))
def uC (rec:(jR×Int×jQ×jR×jQ×(List (Int×jI)))->Option (List (Int×jI))) (x:(jR×Int×jQ×jR×jQ×(List (Int×jI)))):Option (List (Int×jI)) :=
 cond (decide (x.2.1<((aa x.1:Nat):Int)))
 (((lp wM ze) (x.1,x.2.1,0,x.2.2.1,x.2.2.2.1,x.2.2.2.2.1,x.2.2.2.2.2)).bind fun r35 =>
  rec (x.1,(ah .i64 (x.2.1+1)),x.2.2.1,x.2.2.2.1,x.2.2.2.2.1,r35))
 (some x.2.2.2.2.2)
def uM (rec:(Int×jQ×jR×jQ×jQ×jQ×jR)->Option (jQ×jQ×jR)) (x:(Int×jQ×jR×jQ×jQ×jQ×jR)):Option (jQ×jQ×jR) :=
 cond (decide (x.1<((aa x.2.2.1:Nat):Int)))
 (((lp vB ze) (x.1,false,0,x.2.1,x.2.2.1,x.2.2.2.1,x.2.2.2.2.1,x.2.2.2.2.2.1,x.2.2.2.2.2.2)).bind fun r17 =>
  cond (!r17.1)
  ((gx x.2.2.1 x.1).bind fun e18 =>
   cond (yM (aa r17.2.2.2+aa ([e18]:List jI)) 24)
   (rec ((ah .i64 (x.1+1)),x.2.1,x.2.2.1,x.2.2.2.1,r17.2.1,r17.2.2.1,(r17.2.2.2++([e18]:List jI))))
   (none))
  (rec ((ah .i64 (x.1+1)),x.2.1,x.2.2.1,x.2.2.2.1,r17.2.1,r17.2.2.1,r17.2.2.2)))
 (some (x.2.2.2.2.1,x.2.2.2.2.2.1,x.2.2.2.2.2.2))
def QM (a0:jQ) (a1:jR) (a2:jQ):Option (jQ×jR×jQ) :=
 (Yu a0).bind fun r38 =>
 (Yu a2).bind fun r39 =>
 ((lp uM ze) (0,a0,a1,a2,r38,r39,([]:jR))).bind fun r40 =>
 (kV r40.1 r40.2.2 r40.2.1).bind fun r41 =>
 ((lp uC ze) (r41,0,r40.1,r40.2.2,r40.2.1,([]:(List (Int×jI))))).bind fun r42 =>
 (tu r42 r40.1 r40.2.2 r40.2.1).bind fun r43 =>
 some (r43.1,r43.2.1,r43.2.2)
def kU (a0:jS) (a1:(List (Int×jI))) (a2:jQ) (a3:jR) (a4:jQ):Option (jQ×jR×Bool×jQ) :=
 (tu a1 a2 a3 a4).bind fun r4 =>
 (kp a0 r4.1 r4.2.1 r4.2.2).bind fun r5 =>
 cond (!r5)
 (some (([]:jQ),([]:jR),false,([]:jQ)))
 ((QM r4.1 r4.2.1 r4.2.2).bind fun r6 =>
  some (r6.1,r6.2.1,true,r6.2.2))
def wa (s1:Int):List (Int×jI)->Nat->Option (Unit⊕Int)
 | [],_i=>some (aU ())
 | e::es,i =>
  cond (e.1==s1)
  (some (aG (i:Int)))
  (wa s1 es (i+1))
theorem X3 (s0:(List (Int×jI))) (s1:Int) (hl:aa s0<=maxLen):lp rE ze (s0,s1,0)=wa s1 s0 0:=tW rE (fun i=>(s0,s1,i)) (fun es i=>wa s1 es i) hl (fun r i h=>by unfold rE wa; simp only[h,cond_false]) (fun r i e es h g w k=>by unfold rE wa; simp only[h,cond_true,g,af,w,k])
def yK (s0:(List (Int×jI))):List Int->jI->Option jI
 | [],s3=>some s3
 | e::es,s3 =>
  cond (decide (e<0))
  ((Qj s0 (ah .i64 ((-1) - e))).bind fun r18 =>
   cond (decide (r18<0))
   (cond (yM (aa s3+aa ([e]:List Int)) 8)
    (yK s0 es (s3++([e]:List Int)))
    (none))
   ((gx s0 r18).bind fun e20 =>
    cond (yM (aa s3+aa e20.2) 8)
    (yK s0 es (s3++e20.2))
    (none)))
  (cond (yM (aa s3+aa ([e]:List Int)) 8)
   (yK s0 es (s3++([e]:List Int)))
   (none))
theorem QN (s0:(List (Int×jI))) (s1:jI) (s3:jI) (hl:aa s1<=maxLen):lp tQ ze (s0,s1,0,s3)=yK s0 s1 s3:=xG tQ (fun i s3=>(s0,s1,i,s3)) (fun es i s3=>yK s0 es s3) hl (fun r i s3 h=>by unfold tQ yK; simp only[h,cond_false]) (fun r i s3 e es h g w k=>by unfold tQ yK; simp only[h,cond_true,g,af,w,k]) s3
def qS (s0:(List (Int×jI))) (s5:jQ) (s6:jR):List zd->jQ->Option (jQ×jR×jQ)
 | [],s7=>some (s5,s6,s7)
 | e::es,s7 =>
  (vT s0 e.2).bind fun r26 =>
  cond (yM (aa s7+aa ([(e.1,r26)]:List zd)) 32)
  (qS s0 s5 s6 es (s7++([(e.1,r26)]:List zd)))
  (none)
theorem QL (s0:(List (Int×jI))) (s2:jQ) (s3:jR) (s4:jQ) (s5:jQ) (s6:jR) (s7:jQ) (hl:aa s4<=maxLen):lp uz ze (s0,0,s2,s3,s4,s5,s6,s7)=qS s0 s5 s6 s4 s7:=xG uz (fun i s7=>(s0,i,s2,s3,s4,s5,s6,s7)) (fun es i s7=>qS s0 s5 s6 es s7) hl (fun r i s7 h=>by unfold uz qS; simp only[h,cond_false]) (fun r i s7 e es h g w k=>by unfold uz qS; simp only[h,cond_true,g,af,w,k]) s7
def qY (s0:(List (Int×jI))) (s5:jQ):List jI->jR->Option (jQ×jR)
 | [],s6=>some (s5,s6)
 | e::es,s6 =>
  (vT s0 e).bind fun r16 =>
  cond (yM (aa s6+aa ([r16]:List jI)) 24)
  (qY s0 s5 es (s6++([r16]:List jI)))
  (none)
theorem Y8 (s0:(List (Int×jI))) (s2:jQ) (s3:jR) (s4:jQ) (s5:jQ) (s6:jR) (hl:aa s3<=maxLen):lp uP ze (s0,0,s2,s3,s4,s5,s6)=qY s0 s5 s3 s6:=xG uP (fun i s6=>(s0,i,s2,s3,s4,s5,s6)) (fun es i s6=>qY s0 s5 es s6) hl (fun r i s6 h=>by unfold uP qY; simp only[h,cond_false]) (fun r i s6 e es h g w k=>by unfold uP qY; simp only[h,cond_true,g,af,w,k]) s6
def qX (s0:(List (Int×jI))):List zd->jQ->Option jQ
 | [],s5=>some s5
 | e::es,s5 =>
  (vT s0 e.2).bind fun r9 =>
  cond (yM (aa s5+aa ([(e.1,r9)]:List zd)) 32)
  (qX s0 es (s5++([(e.1,r9)]:List zd)))
  (none)
theorem Qr (s0:(List (Int×jI))) (s2:jQ) (s3:jR) (s4:jQ) (s5:jQ) (hl:aa s2<=maxLen):lp uI ze (s0,0,s2,s3,s4,s5)=qX s0 s2 s5:=xG uI (fun i s5=>(s0,i,s2,s3,s4,s5)) (fun es i s5=>qX s0 es s5) hl (fun r i s5 h=>by unfold uI qX; simp only[h,cond_false]) (fun r i s5 e es h g w k=>by unfold uI qX; simp only[h,cond_true,g,af,w,k]) s5
def y8 (s0:Int):List Int->(List (Int×jI))->Option ((List (Int×jI))⊕Bool)
 | [],s6=>some (aU s6)
 | e::es,s6 =>
  cond (decide ((ah .i64 (e+s0))>23))
  (some (aG false))
  (cond (yM (aa s6+aa ([(e,([(ah .i64 ((ah .i64 ((-1) - e)) - s0))]:List Int))]:List (Int×jI))) 32)
   (y8 s0 es (s6++([(e,([(ah .i64 ((ah .i64 ((-1) - e)) - s0))]:List Int))]:List (Int×jI))))
   (none))
theorem Z1 (s0:Int) (s1:jI) (s3:jQ) (s4:jR) (s5:jQ) (s6:(List (Int×jI))) (hl:aa s1<=maxLen):lp xj ze (s0,s1,0,s3,s4,s5,s6)=y8 s0 s1 s6:=xG xj (fun i s6=>(s0,s1,i,s3,s4,s5,s6)) (fun es i s6=>y8 s0 es s6) hl (fun r i s6 h=>by unfold xj y8; simp only[h,cond_false]) (fun r i s6 e es h g w k=>by unfold xj y8; simp only[h,cond_true,g,af,w,k]) s6
def xE (s1:jI):List Int->Nat->Option (Unit⊕Bool)
 | [],_i=>some (aU ())
 | e::es,i =>
  (gx s1 (i:Int)).bind fun e4 =>
  cond (e != e4)
  (some (aG false))
  (xE s1 es (i+1))
theorem Qi (s0:jI) (s1:jI) (hl:aa s0<=maxLen):lp uy ze (s0,s1,0)=xE s1 s0 0:=tW uy (fun i=>(s0,s1,i)) (fun es i=>xE s1 es i) hl (fun r i h=>by unfold uy xE; simp only[h,cond_false]) (fun r i e es h g w k=>by unfold uy xE; simp only[h,cond_true,g,af,w,k])
def zB (rf:((Int×jI×jR)->Option Bool)) (s0:Int) (s3:jR):List Int->Option (Unit⊕Bool)
 | []=>some (aU ())
 | e::es =>
  cond (decide (e≥0))
  (zB rf s0 s3 es)
  (cond ((ah .i64 ((-1) - e))==s0)
   (some (aG true))
   ((inR (ah .i64 ((-1) - e)) 48).bind fun k10 =>
    (s3[k10]?).bind fun x11 =>
    cond (decide (((aa x11:Nat):Int)>0))
    ((inR (ah .i64 ((-1) - e)) 48).bind fun k12 =>
     (s3[k12]?).bind fun x13 =>
     (rf (s0,x13,s3)).bind fun r14 =>
     cond r14
     (some (aG true))
     (zB rf s0 s3 es))
    (zB rf s0 s3 es)))
theorem kg (rf:((Int×jI×jR)->Option Bool)) (s0:Int) (s1:jI) (s3:jR) (hl:aa s1<=maxLen):lp (qt rf) ze (s0,s1,0,s3)=zB rf s0 s3 s1:=tW (qt rf) (fun i=>(s0,s1,i,s3)) (fun es i=>zB rf s0 s3 es) hl (fun r i h=>by unfold qt zB; simp only[h,cond_false]) (fun r i e es h g w k=>by unfold qt zB; simp only[h,cond_true,g,af,w,k])
def zM (rf:(((jS×jI×jI×jR)->Option (Bool×jR))×((jS×jR×jR×jR)->Option (Bool×jR)))) (s0:jS) (s2:jR):List jI->Nat->jR->Option (jR⊕(Bool×jR))
 | [],_i,s4=>some (aU s4)
 | e::es,i,s4 =>
  (gx s2 (i:Int)).bind fun e8 =>
  (rf.1 (s0,e,e8,s4)).bind fun r9 =>
  cond (!r9.1)
  (some (aG (false,r9.2)))
  (zM rf s0 s2 es (i+1) r9.2)
theorem kh (rf:(((jS×jI×jI×jR)->Option (Bool×jR))×((jS×jR×jR×jR)->Option (Bool×jR)))) (s0:jS) (s1:jR) (s2:jR) (s4:jR) (hl:aa s1<=maxLen):lp (qH rf) ze (s0,s1,s2,0,s4)=zM rf s0 s2 s1 0 s4:=xG (qH rf) (fun i s4=>(s0,s1,s2,i,s4)) (fun es i s4=>zM rf s0 s2 es i s4) hl (fun r i s4 h=>by unfold qH zM; simp only[h,cond_false]) (fun r i s4 e es h g w k=>by unfold qH zM; simp only[h,cond_true,g,af,w,k]) s4
def zA (rf:((jI×jR×jI)->Option jI)) (s2:jR):List Int->jI->Option jI
 | [],s3=>some s3
 | e::es,s3 =>
  cond (decide (((aa s3:Nat):Int)<=48))
  (cond (decide (e<0))
   ((inR (ah .i64 ((-1) - e)) 48).bind fun k21 =>
    (s2[k21]?).bind fun x22 =>
    cond (decide (((aa x22:Nat):Int)>0))
    ((inR (ah .i64 ((-1) - e)) 48).bind fun k24 =>
     (s2[k24]?).bind fun x25 =>
     (rf (x25,s2,s3)).bind fun r26 =>
     zA rf s2 es r26)
    (cond (yM (aa s3+aa ([e]:List Int)) 8)
     (zA rf s2 es (s3++([e]:List Int)))
     (none)))
   (cond (yM (aa s3+aa ([e]:List Int)) 8)
    (zA rf s2 es (s3++([e]:List Int)))
    (none)))
  (some s3)
theorem kc (rf:((jI×jR×jI)->Option jI)) (s0:jI) (s2:jR) (s3:jI) (hl:aa s0<=maxLen):lp (qu rf) ze (s0,0,s2,s3)=zA rf s2 s0 s3:=xG (qu rf) (fun i s3=>(s0,i,s2,s3)) (fun es i s3=>zA rf s2 es s3) hl (fun r i s3 h=>by unfold qu zA; simp only[h,cond_false]) (fun r i s3 e es h g w k=>by unfold qu zA; simp only[h,cond_true,g,af,w,k]) s3
def qg (s0:jQ) (s1:Int) (s4:jQ):List zd->Nat->Bool->Option (Bool×jQ)
 | [],_i,s2=>some (s2,s4)
 | _e::es,i,s2 =>
  cond s2
  (qg s0 s1 s4 es (i+1) true)
  ((inR (i:Int) (aa s4)).bind fun k7 =>
   (s4[k7]?).bind fun x8 =>
   (gx s0 s1).bind fun e9 =>
   (sD x8.1 x8.2 e9.1 e9.2).bind fun r10 =>
   qg s0 s1 s4 es (i+1) r10)
theorem QJ (s0:jQ) (s1:Int) (s4:jQ) (s2:Bool) (hl:aa s4<=maxLen):lp vC ze (s0,s1,s2,0,s4)=qg s0 s1 s4 s4 0 s2:=xG vC (fun i s2=>(s0,s1,s2,i,s4)) (fun es i s2=>qg s0 s1 s4 es i s2) hl (fun r i s2 h=>by unfold vC qg; simp only[h,cond_false]) (fun r i s2 e es h _ w k=>by unfold vC qg; simp only[h,cond_true,w,k]) s2
def qO (s0:jQ):List zd->Nat->jQ->Option jQ
 | [],_i,s2=>some s2
 | e::es,i,s2 =>
  ((lp vC ze) (s0,(i:Int),false,0,s2)).bind fun r13 =>
  cond (!r13.1)
  (cond (yM (aa r13.2+aa ([(e.1,e.2)]:List zd)) 32)
   (qO s0 es (i+1) (r13.2++([(e.1,e.2)]:List zd)))
   (none))
  (qO s0 es (i+1) r13.2)
theorem Qc (s0:jQ) (s2:jQ) (hl:aa s0<=maxLen):lp uH ze (s0,0,s2)=qO s0 s0 0 s2:=xG uH (fun i s2=>(s0,i,s2)) (fun es i s2=>qO s0 es i s2) hl (fun r i s2 h=>by unfold uH qO; simp only[h,cond_false]) (fun r i s2 e es h g w k=>by unfold uH qO; simp only[h,cond_true,g,af,w,k]) s2
def qi (s0:Int) (s4:jR) (s6:jQ) (s7:jQ) (s8:jR):List jI->Nat->Bool->Option (Bool×jQ×jQ×jR)
 | [],_i,s1=>some (s1,s6,s7,s8)
 | _e::es,i,s1 =>
  cond s1
  (qi s0 s4 s6 s7 s8 es (i+1) true)
  ((inR (i:Int) (aa s8)).bind fun k9 =>
   (s8[k9]?).bind fun x10 =>
   (gx s4 s0).bind fun e11 =>
   (xA x10 e11).bind fun r12 =>
   qi s0 s4 s6 s7 s8 es (i+1) r12)
theorem QC (s0:Int) (s3:jQ) (s4:jR) (s5:jQ) (s6:jQ) (s7:jQ) (s8:jR) (s1:Bool) (hl:aa s8<=maxLen):lp vB ze (s0,s1,0,s3,s4,s5,s6,s7,s8)=qi s0 s4 s6 s7 s8 s8 0 s1:=xG vB (fun i s1=>(s0,s1,i,s3,s4,s5,s6,s7,s8)) (fun es i s1=>qi s0 s4 s6 s7 s8 es i s1) hl (fun r i s1 h=>by unfold vB qi; simp only[h,cond_false]) (fun r i s1 e es h _ w k=>by unfold vB qi; simp only[h,cond_true,w,k]) s1
def xu (s0:jR) (s2:jQ) (s3:jR) (s4:jQ):List jI->Nat->(List (Int×jI))->Option (List (Int×jI))
 | [],_i,s5=>some s5
 | _e::es,i,s5 =>
  ((lp wM ze) (s0,(i:Int),0,s2,s3,s4,s5)).bind fun r35 =>
  xu s0 s2 s3 s4 es (i+1) r35
theorem Qn (s0:jR) (s2:jQ) (s3:jR) (s4:jQ) (s5:(List (Int×jI))) (hl:aa s0<=maxLen):lp uC ze (s0,0,s2,s3,s4,s5)=xu s0 s2 s3 s4 s0 0 s5:=xG uC (fun i s5=>(s0,i,s2,s3,s4,s5)) (fun es i s5=>xu s0 s2 s3 s4 es i s5) hl (fun r i s5 h=>by unfold uC xu; simp only[h,cond_false]) (fun r i s5 e es h _ w k=>by unfold uC xu; simp only[h,cond_true,w,k]) s5
def qQ (s1:jQ) (s2:jR) (s3:jQ):List jI->Nat->jQ->jQ->jR->Option (jQ×jQ×jR)
 | [],_i,s4,s5,s6=>some (s4,s5,s6)
 | e::es,i,s4,s5,s6 =>
  ((lp vB ze) ((i:Int),false,0,s1,s2,s3,s4,s5,s6)).bind fun r17 =>
  cond (!r17.1)
  (cond (yM (aa r17.2.2.2+aa ([e]:List jI)) 24)
   (qQ s1 s2 s3 es (i+1) r17.2.1 r17.2.2.1 (r17.2.2.2++([e]:List jI)))
   (none))
  (qQ s1 s2 s3 es (i+1) r17.2.1 r17.2.2.1 r17.2.2.2)
theorem QH (s1:jQ) (s2:jR) (s3:jQ) (s4:jQ) (s5:jQ) (s6:jR) (hl:aa s2<=maxLen):lp uM ze (0,s1,s2,s3,s4,s5,s6)=qQ s1 s2 s3 s2 0 s4 s5 s6:=Po uM (fun i s4 s5 s6=>(i,s1,s2,s3,s4,s5,s6)) (fun es i s4 s5 s6=>qQ s1 s2 s3 es i s4 s5 s6) hl (fun r i s4 s5 s6 h=>by unfold uM qQ; simp only[h,cond_false]) (fun r i s4 s5 s6 e es h g w k=>by unfold uM qQ; simp only[h,cond_true,g,af,w,k]) s4 s5 s6
theorem AA (b:List Int):(es:List Int)->(i:Nat)->i+es.length=b.length->xE b es i=some (cond (decide (es=b.drop i)) (.inl ()) (.inr false))
 | [],i,h=>by
  rw[List.drop_of_length_le (by simp at h; omega)]
  rfl
 | e::es,i,h=>by
  simp only[aj] at h;obtain⟨x,hx⟩:∃ x,b[i]? = some x:=⟨_,al (by omega)⟩
  have hd:b.drop i=x::b.drop (i+1):=by
   have h1:=(aq.1 hx).1;rw[aX h1];rw[(aq.1 hx).2]
  unfold xE;rw[qr,hx,af,AA b es (i+1) (by omega),hd]
  by_cases he:e=x
  ·subst he;rw[show (e != e)=false from by simp,cond_false]
   simp
  ·rw[show (e != x)=true from by simp [he],cond_true]
   simp [he]
theorem jZ {a b:List Int} (h:a.length<=1000000):xA a b=some (decide (a=b)):=by
 unfold xA;by_cases hl:a.length=b.length
 ·rw[show (((aa a:Nat):Int) != ((aa b:Nat):Int))=false from by simp [hl],cond_false,Qi _ _ (by unfold maxLen; omega),AA b a 0 (by omega),af,bV]
  cases decide (a=b)<;>rfl
 ·rw[show (((aa a:Nat):Int) != ((aa b:Nat):Int))=true from by simp; omega,cond_true]
  have:a≠b:=fun e=>hl (by rw[e])
  simp [this]
def zbS (o:Option Tm):List Int:=match o with
 | none=>[]
 | some t=>t.codes
structure RepW (a0:List zj) (w:List jI) (B:Bd):Prop where
 len:w.length=48
 at_:∀ x,x<48->w[x]? = some (zbS (B x))
 ok:∀ x t,B x=some t->x<24∧t.ok a0 24∧t.codes.length<=48
theorem RepW.small {a0:List zj} {w:List jI} {B:Bd} (h:RepW a0 w B):WK B:=fun x t ht=>by
 obtain⟨h1,h2,h3⟩:=h.ok x t ht;rw[Tm.codes_len] at h3;exact ⟨by omega,h3⟩
theorem RepW.set {a0:List zj} {w:List jI} {B:Bd} (h:RepW a0 w B) {x:Nat} (hx:x<24) {t:Tm} (ht:t.ok a0 24) (hl:t.codes.length<=48):RepW a0 (w.set x t.codes) (Pl B x t) where
 len:=by rw[ci]; exact h.len
 at_:=fun y hy=>by
  have:=h.len;by_cases he:y=x
  ·subst he;rw[cy (by omega),sE]
   rfl
  ·rw[cI (dj he),Zn _ _ he];exact h.at_ y hy
 ok:=fun y u hy=>by
  by_cases he:y=x
  ·subst he;rw[sE] at hy;injection hy with hy;subst hy;exact ⟨hx,ht,hl⟩
  ·rw[Zn _ _ he] at hy;exact h.ok y u hy
theorem Xp (t:Tm):0<t.codes.length:=by rw[Tm.codes_len]; exact t.size_pos
section
variable {a0:List zj} {w:List jI} {B:Bd} {σ:Sb} (hT:RepW a0 w B) (hG:Good B σ)
include hT hG
theorem PR:∀(m k:Nat) (t:Tm),Y2 t<=m->m<=k->t.ok a0 24->t.codes.length<=48 ->
  ∃ u:Tm,lp x9 k (t.codes,w)=some u.codes∧u.ok a0 24∧u.codes.length<=48∧(∀ θ,SolB θ B->t.sub θ=u.sub θ)∧∀ y,u = .v y->B y=none:=by
 intro m
 induction m with
 | zero=>intro k t hm; cases t<;>simp [Y2] at hm
 | succ m ih =>
  intro k t hm hk ho hl;obtain⟨k,rfl⟩:∃ k',k=k'+1:=⟨k - 1,by omega⟩
  rw[zr];have key:=fun t (h1:Y2 t<=m) h2 h3=>ih k t h1 (by omega) h2 h3
  generalize lp x9 k=rec at key ⊢;unfold x9;cases t with
  | v x =>
   have hx:x<24:=ho;have hc:(Tm.v x).codes=[-1 - (x:Int)]:=rfl;have w1:ah .i64 ((-1) - (-1 - (x:Int)))=(x:Int):=by rw[zu]<;>omega
   rw[hc];simp only[aj,bb,qm,aC,af,w1];rw[show ((((0+1:Nat):Int))==1)=true from rfl,cond_true,decide_eq_true (show -1 - (x:Int)<0 by omega),cond_true,qd (show x<48 by omega),af,hT.at_ x (by omega),af]
   cases hb:B x with
   | none =>
    refine ⟨.v x,rfl,ho,hl,fun θ _=>rfl,fun y hy=>by injection hy with hy; rw[← hy]; exact hb⟩
   | some u =>
    obtain⟨-,h2,h3⟩:=hT.ok x u hb;have hp:=Xp u;show ∃ u1,(cond (decide (((aa u.codes:Nat):Int)>0)) _ _)=_∧_;rw[decide_eq_true (show ((aa u.codes:Nat):Int)>0 by omega),cond_true]
    obtain⟨u',g1,g2,g3,g4,g5⟩:=key u (by
     cases u with
     | v y=>have:=hG.down _ y hb; simp only[Y2] at hm ⊢; omega
     | f c as=>simp only[Y2] at hm ⊢; omega) h2 h3
    refine ⟨u',?_,g2,g3,fun θ hθ=>(hθ _ u hb).trans (g4 θ hθ),g5⟩;show (w[x]?).bind _=_;rw[hT.at_ x (by omega),hb]
    exact g1
  | f c as =>
   refine ⟨.f c as,?_,ho,hl,fun θ _=>rfl,fun y hy=>by cases hy⟩
   have hc:(Tm.f c as).codes=(c:Int)::zb as:=rfl;rw[hc];simp only[qm,aC,af];rw[decide_eq_false (show ¬(c:Int)<0 by omega),cond_false]
   cases (((aa ((c:Int)::zb as):Nat):Int)==1)<;>rfl
theorem IJ {t:Tm} (ho:t.ok a0 24) (hl:t.codes.length<=48) :
  ∃ u:Tm,vD t.codes w=some u.codes∧u.ok a0 24∧u.codes.length<=48∧(∀ θ,SolB θ B->t.sub θ=u.sub θ)∧∀ y,u = .v y->B y=none:=by
 obtain⟨u,h1,h2⟩:=PR hT hG (Y2 t) ze t (aE _) (by
  cases t with
  | v x=>have:x<24:=ho; simp only[Y2]; unfold ze; omega
  | f c as=>simp only[Y2]; unfold ze; omega) ho hl
 refine ⟨u,?_,h2⟩;unfold vD;rw[h1];rfl
theorem Fp {v:Nat} (hv0:B v=none):∀(k m:Nat) (es:List Int),(∀ c∈es,-24<=c)->es.length<=1000->(∀ c∈es,c<0->B (-1 - c).toNat≠none->Good.rank σ (-1 - c).toNat<m)->m<k ->
  ∃ b,yR k ((v:Int),es,w)=some b∧(b=true↔∃ c∈es,c<0∧(σ (-1 - c).toNat).has v):=by
 intro k
 induction k with
 | zero=>intro m es _ _ _ h; omega
 | succ k ih =>
  intro m es hc hl hr hm;show ∃ b,uu (yR k) (v:Int) es w=some b∧_;unfold uu;rw[kg _ _ _ _ (by unfold maxLen; omega)]
  have go:∀ es:List Int,(∀ c∈es,-24<=c)->(∀ c∈es,c<0->B (-1 - c).toNat≠none->Good.rank σ (-1 - c).toNat<m) ->
    ∃ b,zB (yR k) (v:Int) w es=some (cond b (.inr true) (.inl ()))∧(b=true↔∃ c∈es,c<0∧(σ (-1 - c).toNat).has v):=by
   intro es
   induction es with
   | nil=>intro _ _; exact ⟨false,rfl,by simp⟩
   | cons e es ihe =>
    intro hc hr;obtain⟨b,g1,g2⟩:=ihe (fun c h=>hc c (ai _ h)) fun c h=>hr c (ai _ h);have he:=hc e (ak ..);unfold zB;by_cases h0:e≥0
    ·rw[decide_eq_true h0,cond_true];refine ⟨b,g1,g2.trans ?_⟩;constructor
     ·rintro⟨c,h1,h2⟩; exact ⟨c,ai _ h1,h2⟩
     ·rintro⟨c,h1,h2,h3⟩;rcases aB.1 h1 with rfl | h1
      ·omega
      ·exact ⟨c,h1,h2,h3⟩
    ·rw[decide_eq_false h0,cond_false];obtain⟨u,rfl⟩:∃ u:Nat,e = -1 - (u:Int):=⟨(-1 - e).toNat,by omega⟩
     have hu:u<24:=by omega
     have hn:(-1 - (-1 - (u:Int))).toNat=u:=by omega
     have w1:ah .i64 ((-1) - (-1 - (u:Int)))=(u:Int):=by rw[zu]<;>omega
     rw[w1];by_cases huv:u=v
     ·subst huv;rw[show (((u:Nat):Int)==((u:Nat):Int))=true from by simp,cond_true]
      exact ⟨true,rfl,⟨fun _=>⟨_,ak ..,by omega,by rw[hn,hG.free _ hv0]; rfl⟩,fun _=>rfl⟩⟩
     ·rw[show (((u:Nat):Int)==((v:Nat):Int))=false from by simp; omega,cond_false]
      simp only[qd (show u<48 by omega),af,hT.at_ u (by omega)]
      cases hb:B u with
      | none =>
       show ∃ b,(cond (decide (((aa ([]:List Int):Nat):Int)>0)) _ _)=_∧_;refine ⟨b,g1,g2.trans ?_⟩;constructor
       ·rintro⟨c,h1,h2⟩; exact ⟨c,ai _ h1,h2⟩
       ·rintro⟨c,h1,h2,h3⟩;rcases aB.1 h1 with rfl | h1
        ·rw[hn,hG.free _ hb] at h3;have h3:u=v:=h3;exact absurd h3 huv
        ·exact ⟨c,h1,h2,h3⟩
      | some t =>
       obtain⟨-,h2,h3⟩:=hT.ok u t hb;have hp:=Xp t;show ∃ b,(cond (decide (((aa t.codes:Nat):Int)>0)) _ _)=_∧_;rw[decide_eq_true (show ((aa t.codes:Nat):Int)>0 by omega),cond_true]
       have hcodes:∀ c∈t.codes,-24<=c∧(c<0->t.has (-1 - c).toNat):=fun c hcm=>by
        have h1:c∈zb [t]:=by simp [zb,hcm]
        by_cases hc0:c<0
        ·have h4:=(rF hc0 [t]).1 h1;have h5:t.has (-1 - c).toNat:=by rcases h4 with h4 | h4; exact h4; exact absurd h4 (by simp [Xw])
         have h6:=Tm.ok_has t h2 h5;exact ⟨by omega,fun _=>h5⟩
        ·exact ⟨by omega,fun h=>absurd h hc0⟩
       obtain⟨b1,k1,k2⟩:=ih (Good.rank σ u) t.codes (fun c h=>(hcodes c h).1) (by omega) (fun c hcm h0 _=>hG.rank_lt hb ((hcodes c hcm).2 h0) (by have:=(hcodes c hcm).1; omega)) (by
        have:=hr _ (ak ..) (by omega) (by rw[hn,hb]; simp)
        rw[hn] at this;omega)
       have k1:yR k ((v:Int),zbS (some t),w)=some b1:=k1;rw[k1,af];have hb1:b1=true↔(σ u).has v:=by
        rw[k2,hG.bound u t hb,Tm.has_sub];constructor
        ·rintro⟨c,h4,h5,h6⟩;exact ⟨_,(hcodes c h4).2 h5,h6⟩
        ·rintro⟨y,h4,h5⟩;refine ⟨-1 - (y:Int),?_,by omega,by rw[show (-1 - (-1 - (y:Int))).toNat=y by omega]; exact h5⟩
         have:=(rF (c := -1 - (y:Int)) (by omega) [t]).2 (by rw[show (-1 - (-1 - (y:Int))).toNat=y by omega]; exact .inl h4)
         simpa[zb] using this
       cases b1 with
       | true =>
        refine ⟨true,rfl,⟨fun _=>⟨_,ak ..,by omega,?_⟩,fun _=>rfl⟩⟩
        rw[hn];exact hb1.1 rfl
       | false =>
        refine ⟨b,g1,g2.trans ?_⟩;constructor
        ·rintro⟨c,h1,h2⟩; exact ⟨c,ai _ h1,h2⟩
        ·rintro⟨c,h1,h2,h3⟩;rcases aB.1 h1 with rfl | h1
         ·rw[hn] at h3;exact absurd (hb1.2 h3) (by simp)
         ·exact ⟨c,h1,h2,h3⟩
  obtain⟨b,g1,g2⟩:=go es hc hr;rw[g1,af];exact ⟨b,by cases b<;>rfl,g2⟩
end
structure Qf (out E r:List Int):Prop where
 fits:out.length+E.length<=48->r=out++E
 over:48<out.length+E.length->48<r.length
 len:r.length<=max out.length 49
theorem Qf.step {out E1 E2 r1 r:List Int} (h:Qf out E1 r1) (h':Qf r1 E2 r):Qf out (E1++E2) r where
 fits:=fun hl=>by
  rw[ax] at hl;have e:=h.fits (by omega)
  have e2:=h'.fits (by rw[e,ax]; omega)
  rw[e2,e,bc]
 over:=fun hl=>by
  rw[ax] at hl;by_cases h1:out.length+E1.length<=48
  ·have e:=h.fits h1;refine h'.over ?_;rw[e,ax]; omega
  ·exact h'.over (by have:=h.over (by omega); omega)
 len:=by have:=h.len; have:=h'.len; omega
theorem Qf.full {out E:List Int} (h:48<out.length):Qf out E out:=⟨fun hl=>by omega,fun _=>h,by omega⟩
theorem Qf.one {out:List Int} (c:Int) (h:out.length<=48):Qf out [c] (out++[c]):=⟨fun _=>rfl,fun hl=>by rw[ax]; exact hl,by rw[ax]; simp; omega⟩
theorem Qf.nil (out:List Int):Qf out [] out:=⟨fun _=>by simp,fun h=>by simpa using h,by omega⟩
theorem YA {a0:List zj} {t:Tm} (ho:t.ok a0 24):∀ c∈t.codes,-24<=c∧(c<0->t.has (-1 - c).toNat):=fun c hcm=>by
 by_cases hc0:c<0
 ·have h5:=(Tm.mem_codes hc0 t).1 hcm;have h6:=Tm.ok_has t ho h5;exact ⟨by omega,fun _=>h5⟩
 ·exact ⟨by omega,fun h=>absurd h hc0⟩
section
variable {a0:List zj} {w:List jI} {B:Bd} {σ:Sb} (hT:RepW a0 w B) (hG:Good B σ)
include hT hG
theorem RD:∀(k m:Nat) (es out:List Int),(∀ c∈es,-24<=c)->es.length<=1000->(∀ c∈es,c<0->B (-1 - c).toNat≠none->Good.rank σ (-1 - c).toNat<m)->m<k->out.length<=1000 ->
  ∃ r,yq k (es,w,out)=some r∧Qf out (es.flatMap (Zx σ)) r:=by
 intro k
 induction k with
 | zero=>intro m es out _ _ _ h; omega
 | succ k ih =>
  intro m es out hc hl hr hm ho;show ∃ r,uw (yq k) es w out=some r∧_;unfold uw;rw[kc _ _ _ _ (by unfold maxLen; omega)]
  have go:∀(es out:List Int),(∀ c∈es,-24<=c)->(∀ c∈es,c<0->B (-1 - c).toNat≠none->Good.rank σ (-1 - c).toNat<m)->out.length<=1000 ->
    ∃ r,zA (yq k) w es out=some r∧Qf out (es.flatMap (Zx σ)) r:=by
   intro es
   induction es with
   | nil=>intro out _ _ _; exact ⟨out,rfl,Qf.nil out⟩
   | cons e es ihe =>
    intro out hc hr ho;have ihe:=fun out ho=>ihe out (fun c h=>hc c (ai _ h)) (fun c h=>hr c (ai _ h)) ho;have he:=hc e (ak ..);unfold zA;by_cases h48:out.length<=48
    ·rw[decide_eq_true (show ((aa out:Nat):Int)<=48 by omega),cond_true,bt]
     have plain:Zx σ e=[e]->∃ r,(cond (yM (aa out+aa ([e]:List Int)) 8) (zA (yq k) w es (out++([e]:List Int))) none)=some r∧Qf out (Zx σ e++es.flatMap (Zx σ)) r:=fun hx=>by
      obtain⟨r,g1,g2⟩:=ihe (out++[e]) (by simp; omega)
      rw[zp (by simp; omega),cond_true,g1,hx]
      exact ⟨r,rfl,(Qf.one e h48).step g2⟩
     by_cases h0:e<0
     ·rw[decide_eq_true h0,cond_true];obtain⟨u,rfl⟩:∃ u:Nat,e = -1 - (u:Int):=⟨(-1 - e).toNat,by omega⟩
      have hu:u<24:=by omega
      have hn:(-1 - (-1 - (u:Int))).toNat=u:=by omega
      have w1:ah .i64 ((-1) - (-1 - (u:Int)))=(u:Int):=by rw[zu]<;>omega
      rw[w1];simp only[qd (show u<48 by omega),af,hT.at_ u (by omega)]
      cases hb:B u with
      | none =>
       show ∃ r,(cond (decide (((aa ([]:List Int):Nat):Int)>0)) _ _)=_∧_;refine plain ?_;unfold Zx;rw[if_pos h0,hn,hG.free u hb];rfl
      | some t =>
       obtain⟨-,h2,h3⟩:=hT.ok u t hb;have hp:=Xp t;show ∃ r,(cond (decide (((aa t.codes:Nat):Int)>0)) _ _)=_∧_;rw[decide_eq_true (show ((aa t.codes:Nat):Int)>0 by omega),cond_true]
       have hcodes:=YA h2;obtain⟨r1,k1,k2⟩:=ih (Good.rank σ u) t.codes out (fun c h=>(hcodes c h).1) (by omega) (fun c hcm h0 _=>hG.rank_lt hb ((hcodes c hcm).2 h0) (by have:=(hcodes c hcm).1; omega)) (by
        have:=hr _ (ak ..) (by omega) (by rw[hn,hb]; simp)
        rw[hn] at this;omega) ho
       have k1:yq k (zbS (some t),w,out)=some r1:=k1;rw[k1,af];obtain⟨r,g1,g2⟩:=ihe r1 (by have:=k2.len; omega)
       refine ⟨r,g1,Qf.step (r1:=r1) ?_ g2⟩;have:Zx σ (-1 - (u:Int))=t.codes.flatMap (Zx σ):=by
        unfold Zx;rw[if_pos h0,hn,hG.bound u t hb,Tm.codes_sub];rfl
       rw[this];exact k2
     ·rw[decide_eq_false h0,cond_false];refine plain ?_;unfold Zx;rw[if_neg h0]
    ·rw[decide_eq_false (show ¬((aa out:Nat):Int)<=48 by omega),cond_false]
     exact ⟨out,rfl,Qf.full (by omega)⟩
  obtain⟨r,g1,g2⟩:=go es out hc hr ho;rw[g1,af];exact ⟨r,rfl,g2⟩
theorem Hp {t:Tm} (ho:t.ok a0 24) (hl:t.codes.length<=48):∃ r,vR t.codes w []=some r∧Qf [] (t.sub σ).codes r:=by
 rw[Tm.codes_sub];refine RD hT hG ze 100 t.codes [] (fun c h=>(YA ho c h).1) (by omega) (fun c _ _ _ => ?_) (by unfold ze; omega) (by simp)
 have:=Good.rank_le σ (-1 - c).toNat;omega
theorem DW {v:Nat} (hv0:B v=none) {t:Tm} (ho:t.ok a0 24) (hl:t.codes.length<=48):∃ b,t6 (v:Int) t.codes w=some b∧(b=true↔(t.sub σ).has v):=by
 obtain⟨b,h1,h2⟩:=Fp hT hG hv0 ze 100 t.codes (fun c h=>(YA ho c h).1) (by omega) (fun c _ _ _=>by have:=Good.rank_le σ (-1 - c).toNat; omega) (by unfold ze; omega)
 refine ⟨b,h1,h2.trans ?_⟩;rw[Tm.has_sub];constructor
 ·rintro⟨c,h4,h5,h6⟩;exact ⟨_,(YA ho c h4).2 h5,h6⟩
 ·rintro⟨y,h4,h5⟩;refine ⟨-1 - (y:Int),(Tm.mem_codes (by omega) t).2 (by rw[show (-1 - (-1 - (y:Int))).toNat=y by omega]; exact h4),by omega,by rw[show (-1 - (-1 - (y:Int))).toNat=y by omega]; exact h5⟩
end
structure OutW (a0:List zj) (B:Bd) (E:List (Tm×Tm)) (r:Bool×List jI):Prop where
 yes:r.1=true->∃ B' σ',RepW a0 r.2 B'∧Good B' σ'∧∀ θ,SolB θ B'↔SolB θ B∧Sol θ E
 no:r.1=false->∀ θ,SolB θ B->Sol θ E->False
theorem t8 {θ:Sb} {t u:Tm}:Sol θ [(t,u)]↔t.sub θ=u.sub θ:=by simp [Sol]
theorem Jq {a0:List zj} {w:List jI} {B:Bd} {σ:Sb} (hT:RepW a0 w B) (hG:Good B σ) {x:Nat} (hx:x<24) (hb:B x=none) {c:Nat} {as:List Tm} (ho:(Tm.f c as).ok a0 24) (hl:(Tm.f c as).codes.length<=48) :
  ∃ r,zy [-1 - (x:Int)] (Tm.f c as).codes false w=some r∧OutW a0 B [(.v x,.f c as)] r:=by
 unfold zy;have w1:ah .i64 ((-1) - (-1 - (x:Int)))=(x:Int):=by rw[zu]<;>omega
 simp only[qm,aC,af,cond_false,w1];obtain⟨b,h1,h2⟩:=DW hT hG hb ho hl;rw[h1,af];cases b with
 | true =>
  refine ⟨_,rfl,⟨fun h=>(nomatch h),fun _ θ h3 h4=>hG.occurs (h2.1 rfl) h3 (t8.1 h4)⟩⟩
 | false =>
  simp only[cond_false,qd (show x<48 by omega),af,hT.at_ x (by omega)]
  have hn:¬((Tm.f c as).sub σ).has x:=fun h=>by have:=h2.2 h; cases this
  refine ⟨_,rfl,⟨fun _=>⟨_,_,hT.set hx ho hl,hG.bind hb hn (fun y hy=>by cases hy),fun θ => ?_⟩,fun h=>(nomatch h)⟩⟩
  rw[SolB.upd hb,t8];rfl
theorem Id {a0:List zj} {w:List jI} {B:Bd} {σ:Sb} (hT:RepW a0 w B) (hG:Good B σ) {x y:Nat} (hx:x<24) (hy:y<x) (hbx:B x=none) (hby:B y=none) :
  ∃ r,zy [-1 - (y:Int)] [-1 - (x:Int)] true w=some r∧OutW a0 B [(.v x,.v y)] r:=by
 unfold zy;have w1:ah .i64 ((-1) - (-1 - (x:Int)))=(x:Int):=by rw[zu]<;>omega
 simp only[qm,aC,af,cond_true,w1,qd (show x<48 by omega),hT.at_ x (by omega)]
 have hn:¬((Tm.v y).sub σ).has x:=by
  show ¬(σ y).has x;rw[hG.free y hby];intro h;have h:y=x:=h;omega
 have hset:RepW a0 (w.set x (Tm.v y).codes) (Pl B x (.v y)):=hT.set hx (show y<24 by omega) (by show 1<=48; omega)
 refine ⟨_,rfl,⟨fun _=>⟨_,_,hset,hG.bind hbx hn (fun z hz=>by injection hz with hz; omega),fun θ => ?_⟩,fun h=>(nomatch h)⟩⟩
 rw[SolB.upd hbx,t8];rfl
theorem OutW.via {a0:List zj} {B:Bd} {E E':List (Tm×Tm)} {r:Bool×List jI} (h:OutW a0 B E r) (he:∀ θ,SolB θ B->(Sol θ E↔Sol θ E')):OutW a0 B E' r where
 yes:=fun hr=>by
  obtain⟨B',σ',h1,h2,h3⟩:=h.yes hr;exact ⟨B',σ',h1,h2,fun θ=>(h3 θ).trans ⟨fun ⟨a,b⟩=>⟨a,(he θ a).1 b⟩,fun ⟨a,b⟩=>⟨a,(he θ a).2 b⟩⟩⟩
 no:=fun hr θ h1 h2=>h.no hr θ h1 ((he θ h1).2 h2)
def Dep (R:List Tm) (B:Bd) (δ:Nat) (t:Tm):Prop:=∀ θ,SolB θ B->∃ c∈R,δ+(t.sub θ).ht<=(c.sub θ).ht
theorem Dep.mono {R:List Tm} {B B':Bd} {δ:Nat} {t:Tm} (h:Dep R B δ t) (hB:∀ θ,SolB θ B'->SolB θ B):Dep R B' δ t:=fun θ hθ=>h θ (hB θ hθ)
theorem Dep.lt {R:List Tm} {B:Bd} {σ:Sb} {δ:Nat} {t:Tm} (h:Dep R B δ t) (hG:Good B σ) (hS:WK B) (hR:∀ c∈R,c.size<=48):δ<2500:=by
 obtain⟨c,hc,h1⟩:=h σ hG.bound;have h2:=Tm.ht_sub (s:=σ) (M:=49*49) c fun x _=>hG.low hS x;have h3:=c.ht_size;have h4:=hR c hc;have h5:=zde (t.sub σ);omega
theorem HY {a0:List zj} {t u:Tm} (ht:t.ok a0 24) (hu:u.ok a0 24) (h:t.codes=u.codes):t=u:=by
 have:=sc (a0:=a0) _ [t] [u] (aE _) ⟨ht,trivial⟩ ⟨hu,trivial⟩ (by simp [zb,h])
 injection this
def Sm (a0:List zj) (t:Tm):Prop:=t.ok a0 24∧t.codes.length<=48
def LZ (a0:List zj) (R:List Tm) (k:Nat):Prop:=∀(δ:Nat) (w:List jI) (B:Bd) (σ:Sb) (t u:Tm),RepW a0 w B->Good B σ->Sm a0 t->Sm a0 u->Dep R B δ t->2*(2600 - δ)<=k ->
 ∃ r,(zD k).1 (a0,t.codes,u.codes,w)=some r∧OutW a0 B [(t,u)] r
def zbw (a0:List zj) (R:List Tm) (k:Nat):Prop:=∀(δ:Nat) (w:List jI) (B:Bd) (σ:Sb) (ts us:List Tm),RepW a0 w B->Good B σ->(∀ t∈ts,Sm a0 t)->(∀ t∈us,Sm a0 t)->ts.length=us.length->ts.length<=1000->(∀ t∈ts,Dep R B δ t)->2*(2600 - δ)+1<=k ->
 ∃ r,(zD k).2 (a0,ts.map Tm.codes,us.map Tm.codes,w)=some r∧OutW a0 B (ts.zip us) r
theorem Rg {a0:List zj} {R:List Tm} {k:Nat} (hp:LZ a0 R k):zbw a0 R (k+1):=by
 intro δ w B σ ts us hT hG hts hus hl hlen hd hk;show ∃ r,tc (zD k) a0 (ts.map Tm.codes) (us.map Tm.codes) w=some r∧_;unfold tc;rw[kh _ _ _ _ _ (by rw[aO]; unfold maxLen; omega)]
 have go:∀(ts vs:List Tm) (i:Nat) (w:List jI) (B:Bd) (σ:Sb),RepW a0 w B->Good B σ->us.drop i=vs->(∀ t∈ts,Sm a0 t)->ts.length=vs.length->(∀ t∈ts,Dep R B δ t) ->
   (∃ w',zM (zD k) a0 (us.map Tm.codes) (ts.map Tm.codes) i w=some (.inl w')∧OutW a0 B (ts.zip vs) (true,w')) ∨
   (∃ w',zM (zD k) a0 (us.map Tm.codes) (ts.map Tm.codes) i w=some (.inr (false,w'))∧OutW a0 B (ts.zip vs) (false,w')):=by
  intro ts
  induction ts with
  | nil =>
   intro vs i w B σ hT hG hdr _ hl _;exact .inl ⟨w,rfl,⟨fun _=>⟨B,σ,hT,hG,fun θ=>⟨fun h=>⟨h,Sol.nil⟩,fun h=>h.1⟩⟩,fun h=>(nomatch h)⟩⟩
  | cons t ts ih =>
   intro vs i w B σ hT hG hdr hts hl hd;cases vs with
   | nil=>simp at hl
   | cons v vs =>
    have hgv:us[i]? = some v:=zn hdr;have hvm:v∈us:=aM hgv;obtain⟨r,h1,h2⟩:=hp δ w B σ t v hT hG (hts t (ak ..)) (hus v hvm) (hd t (ak ..)) (by omega)
    rw[aJ];unfold zM;rw[qr,br,hgv];simp only[bD,af];rw[h1,af];obtain⟨b,w1⟩:=r;cases b with
    | false =>
     refine .inr ⟨w1,rfl,⟨fun h=>(nomatch h),fun _ θ h3 h4=>h2.no rfl θ h3 ?_⟩⟩;rw[dZ,Sol.cons] at h4;exact t8.2 h4.1
    | true =>
     obtain⟨B',σ',g1,g2,g3⟩:=h2.yes rfl;have comb:∀{r2:Bool×List jI},OutW a0 B' (ts.zip vs) r2->OutW a0 B ((t::ts).zip (v::vs)) r2:=fun {r2} h=>by
      rw[dZ];refine ⟨fun hr => ?_,fun hr θ h3 h4 => ?_⟩
      ·obtain⟨B2,σ2,k1,k2,k3⟩:=h.yes hr;refine ⟨B2,σ2,k1,k2,fun θ => ?_⟩;rw[k3,g3,t8,and_assoc,Sol.cons (p:=(t,v)) (E:=ts.zip vs)]
      ·rw[Sol.cons] at h4;exact h.no hr θ ((g3 θ).2 ⟨h3,t8.2 h4.1⟩) h4.2
     rcases ih vs (i+1) w1 B' σ' g1 g2 (zi hdr) (fun t h=>hts t (ai _ h)) (by simpa using hl) (fun t h=>(hd t (ai _ h)).mono fun θ hθ=>((g3 θ).1 hθ).1) with ⟨w',q1,q2⟩ | ⟨w',q1,q2⟩
     ·exact .inl ⟨w',q1,comb q2⟩
     ·exact .inr ⟨w',q1,comb q2⟩
 rcases go ts us 0 w B σ hT hG rfl hts hl hd with ⟨w',h1,h2⟩ | ⟨w',h1,h2⟩
 ·rw[h1]; exact ⟨_,rfl,h2⟩
 ·rw[h1]; exact ⟨_,rfl,h2⟩
theorem OL {a0:List zj} (hs:SignOk a0) {R:List Tm} (hR:∀ c∈R,c.size<=48) {k:Nat} (ha:zbw a0 R k):LZ a0 R (k+1):=by
 intro δ w B σ t u hT hG ht hu hd hk;show ∃ r,wY (zD k) a0 t.codes u.codes w=some r∧_;obtain⟨t1,a1,a2,a3,a4,a5⟩:=IJ hT hG ht.1 ht.2;obtain⟨u1,b1,b2,b3,b4,b5⟩:=IJ hT hG hu.1 hu.2
 -- it is enough to speak of these
 suffices h:∃ r,wY (zD k) a0 t.codes u.codes w=some r∧OutW a0 B [(t1,u1)] r by
  obtain⟨r,h1,h2⟩:=h;exact ⟨r,h1,h2.via fun θ hθ=>by rw[t8,t8,a4 θ hθ,b4 θ hθ]⟩
 have eta:∀{o:Option (Bool×List jI)} {E:List (Tm×Tm)},(∃ r,o=some r∧OutW a0 B E r)->∃ r,(o.bind fun r=>some (r.1,r.2))=some r∧OutW a0 B E r:=fun ⟨r,h1,h2⟩=>⟨r,by rw[h1]; rfl,h2⟩
 have flip:∀{o:Option (Bool×List jI)} {p q:Tm},(∃ r,o=some r∧OutW a0 B [(p,q)] r)->∃ r,o=some r∧OutW a0 B [(q,p)] r:=fun ⟨r,h1,h2⟩=>⟨r,h1,h2.via fun θ _=>by rw[t8,t8]; exact eq_comm⟩
 unfold wY;rw[a1,af,b1,af,jZ (by omega),af]
 by_cases he:t1.codes=u1.codes
 ·have:=HY a2 b2 he;subst this;rw[decide_eq_true he,cond_true];exact ⟨_,rfl,⟨fun _=>⟨B,σ,hT,hG,fun θ=>⟨fun h=>⟨h,t8.2 rfl⟩,fun h=>h.1⟩⟩,fun h=>(nomatch h)⟩⟩
 rw[decide_eq_false he,cond_false];have hne:t1≠u1:=fun h=>he (by rw[h])
 clear he a1 b1;cases t1 with
 | v x =>
  have hx:x<24:=a2;have hbx:=a5 x rfl;have c1:(Tm.v x).codes=[-1 - (x:Int)]:=rfl;have d1:decide (-1 - (x:Int)<0)=true:=decide_eq_true (by omega)
  have d2:decide (-1 - (x:Int)≥0)=false:=decide_eq_false (by omega)
  cases u1 with
  | v y =>
   have hy:y<24:=b2;have hby:=b5 y rfl;have c2:(Tm.v y).codes=[-1 - (y:Int)]:=rfl;have d3:decide (-1 - (y:Int)<0)=true:=decide_eq_true (by omega)
   have hxy:x≠y:=fun h=>hne (by rw[h])
   rw[c1,c2];by_cases hlt:y<x
   ·have d4:decide (-1 - (x:Int) < -1 - (y:Int))=true:=decide_eq_true (by omega)
    simp only[qm,aC,af,d1,d3,d4,cond_true];exact eta (Id hT hG hx hlt hbx hby)
   ·have d4:decide (-1 - (x:Int) < -1 - (y:Int))=false:=decide_eq_false (by omega)
    simp only[qm,aC,af,d1,d2,d3,d4,cond_true,cond_false];exact eta (flip (Id hT hG hy (by omega) hby hbx))
  | f c as =>
   have c2:(Tm.f c as).codes=(c:Int)::zb as:=rfl;have d3:decide ((c:Int)<0)=false:=decide_eq_false (by omega)
   have h1:=Jq hT hG hx hbx b2 b3;rw[c2] at h1;rw[c1,c2];simp only[qm,aC,af,d1,d2,d3,cond_true,cond_false];exact eta h1
 | f c as =>
  have c1:(Tm.f c as).codes=(c:Int)::zb as:=rfl;have d1:decide ((c:Int)<0)=false:=decide_eq_false (by omega)
  have d2:decide ((c:Int)≥0)=true:=decide_eq_true (by omega)
  cases u1 with
  | v y =>
   have hy:y<24:=b2;have hby:=b5 y rfl;have c2:(Tm.v y).codes=[-1 - (y:Int)]:=rfl;have d3:decide (-1 - (y:Int)<0)=true:=decide_eq_true (by omega)
   have h1:=Jq hT hG hy hby a2 a3;rw[c1] at h1;rw[c1,c2];simp only[qm,aC,af,d1,d2,d3,cond_true,cond_false];exact eta (flip h1)
  | f d bs =>
   have c2:(Tm.f d bs).codes=(d:Int)::zb bs:=rfl;have d3:decide ((d:Int)<0)=false:=decide_eq_false (by omega)
   rw[c1,c2];simp only[qm,aC,af,d1,d2,d3,cond_true,cond_false];by_cases hcd:c=d
   ·subst hcd;rw[show ((c:Int) != (c:Int))=false from by simp,cond_false]
    have hla:as.length=bs.length:=by
     have h1:=a2.1;have h2:=b2.1;rw[h1] at h2;injection h2
    rw[c1,aj] at a3;rw[c2,aj] at b3;have hw:∀{xs:List Tm},(zb xs).length<=48->∀ t∈xs,t.codes.length<=48:=fun h t ht=>aK (rd ht) h;rw[u9,af,wd hs (by omega) (yv as a2.2),af,u9,af,wd hs (by omega) (yv bs b2.2),af]
    have hlt:=hd.lt hG hT.small hR;obtain⟨r,h1,h2⟩:=ha (δ+1) w B σ as bs hT hG (fun t h=>⟨vH.1 a2.2 t h,hw (by omega) t h⟩) (fun t h=>⟨vH.1 b2.2 t h,hw (by omega) t h⟩) hla (by
      have:=YJ (yv as a2.2);rw[aO] at this;omega) (fun a ham θ hθ=>by
      obtain⟨c',hc',h5⟩:=hd θ hθ;refine ⟨c',hc',?_⟩;rw[a4 θ hθ] at h5;have h6:((Tm.f c as).sub θ).ht=htR (w8 θ as)+1:=rfl;have h7:=Bi (ts:=w8 θ as) (t:=a.sub θ) (by rw[Y7]; exact bh ham)
      omega) (by omega)
    rw[h1,af];refine ⟨_,rfl,h2.via fun θ _ => ?_⟩;rw[Sol.zip hla,t8,zec];simp
   ·rw[show ((c:Int) != (d:Int))=true from by simp; omega,cond_true]
    refine ⟨_,rfl,⟨fun h=>(nomatch h),fun _ θ _ h4 => ?_⟩⟩;rw[t8,zec] at h4;exact hcd h4.1
theorem Ph {a0:List zj} (hs:SignOk a0) {R:List Tm} (hR:∀ c∈R,c.size<=48):∀ k,LZ a0 R k∧zbw a0 R k:=by
 intro k
 induction k with
 | zero =>
  refine ⟨fun δ w B σ t u hT hG _ _ hd hk => ?_,fun δ w B σ ts us _ _ _ _ _ _ _ hk=>by omega⟩
  have:=hd.lt hG hT.small hR;omega
 | succ k ih=>exact ⟨OL hs hR ih.2,Rg ih.1⟩
theorem zhT (a0:List zj):RepW a0 (az 48 ([]:List Int)) (fun _=>none) where
 len:=by simp
 at_:=fun x hx=>by rw[bK,if_pos hx]; rfl
 ok:=fun x t h=>by cases h
theorem GV {a0:List zj} {w:List jI} {B:Bd} {σ:Sb} (hT:RepW a0 w B) (hG:Good B σ):∀(m v k:Nat) (out:List (Int×List Int)),24 - v=m->v<=24->m<k->out.length<=v ->
  lp xa k ((v:Int),w,out)=some (cond (xJ σ ((aR 24).drop v)) (.inl (out++w9 B σ ((aR 24).drop v))) (.inr (true,false))):=by
 intro m
 induction m with
 | zero =>
  intro v k out hm hv hk ho;obtain⟨k,rfl⟩:∃ k',k=k'+1:=⟨k - 1,by omega⟩
  rw[zr];generalize lp xa k=rec;unfold xa;have:v=24:=by omega
  subst this;rw[show (aR 24).drop 24=[] from rfl]
  simp [w9,xJ]
 | succ m ih =>
  intro v k out hm hv hk ho;obtain⟨k,rfl⟩:∃ k',k=k'+1:=⟨k - 1,by omega⟩
  rw[zr];have key:=fun out' ho'=>ih (v+1) k out' (by omega) (by omega) (by omega) ho'
  generalize lp xa k=rec at key ⊢;unfold xa;have w1:ah .i64 ((v:Int)+1)=((v+1:Nat):Int):=by rw[zu]<;>omega
  have hdr:(aR 24).drop v=v::(aR 24).drop (v+1):=by
   rw[aX (by simp; omega)]
   simp
  simp only[decide_eq_true (show (v:Int)<=23 by omega),cond_true,qd (show v<48 by omega),af,hT.at_ v (by omega),w1]
  rw[hdr];cases hb:B v with
  | none =>
   show (cond (((aa ([]:List Int):Nat):Int)==0) _ _)=_;rw[show (((aa ([]:List Int):Nat):Int)==0)=true from rfl,cond_true,key out (by omega)]
   have hs:(σ v).size<=48:=by rw[hG.free v hb]; simp [Tm.size]
   have hb:Fa B v=false:=by simp [Fa,hb]
   simp [w9,xJ,hb,hs]
  | some t =>
   obtain⟨-,h2,h3⟩:=hT.ok v t hb;have hp:=Xp t;show (cond (((aa t.codes:Nat):Int)==0) _ ((vR t.codes w []).bind _))=_;rw[show (((aa t.codes:Nat):Int)==0)=false from by simp; intro h; rw[h] at hp; simp at hp,cond_false]
   obtain⟨r,g1,g2⟩:=Hp hT hG h2 h3;rw[← hG.bound v t hb] at g2;rw[g1,af];by_cases hs:(σ v).size<=48
   ·have hr:=g2.fits (by rw[Tm.codes_len]; simpa using hs)
    rw[bx] at hr;subst hr;rw[decide_eq_false (show ¬((aa (σ v).codes:Nat):Int)>48 by rw[Tm.codes_len]; omega),cond_false,zp (by simp only[aZ]; omega),cond_true,key _ (by simp only[ax,aZ]; omega)]
    have hb:Fa B v=true:=by simp [Fa,hb]
    simp [w9,xJ,hb,hs]
   ·have hr:=g2.over (by rw[Tm.codes_len]; simp; omega)
    rw[decide_eq_true (show ((aa r:Nat):Int)>48 by omega),cond_true]
    simp [xJ,hs]
theorem Xq {a0:List zj} (hs:SignOk a0) {ts us:List Tm} (ht:okR a0 24 ts) (hu:okR a0 24 us) (hlx:(zb ts).length<=48) (hly:(zb us).length<=48) :
  (vM a0 (zb ts) (zb us)=some (false,true,[])∧(ts.length≠us.length∨∀ θ,¬ Sol θ (ts.zip us))) ∨
  (ts.length=us.length∧∃ σ,Mgu σ (ts.zip us)∧vM a0 (zb ts) (zb us)=some (true,xJ σ (aR 24),cond (xJ σ (aR 24)) (sB σ) [])):=by
 unfold vM;rw[wd hs (by omega) (yv ts ht),af,wd hs (by omega) (yv us hu),af]
 by_cases hl:ts.length=us.length
 ·rw[show (((aa (ts.map Tm.codes):Nat):Int) != ((aa (us.map Tm.codes):Nat):Int))=false from by simp [hl],cond_false]
  have sm:∀{xs:List Tm},okR a0 24 xs->(zb xs).length<=48->∀ t∈xs,Sm a0 t:=fun h1 h2 t h=>⟨vH.1 h1 t h,aK (rd h) h2⟩;have hR:∀ c∈ts,c.size<=48:=fun c hc=>by have:=(sm ht hlx c hc).2; rwa [Tm.codes_len] at this
  obtain⟨r,h1,h2⟩:=(Ph hs hR ze).2 0 (az 48 []) (fun _=>none) .v ts us (zhT a0) Good.empty (sm ht hlx) (sm hu hly) hl (by
   have:=YJ (yv ts ht);rw[aO] at this;omega) (fun t h θ _=>⟨t,h,by omega⟩) (by unfold ze; omega)
  have h1:rb a0 (ts.map Tm.codes) (us.map Tm.codes) (az 48 [])=some r:=h1;rw[h1,af];cases hb:r.1 with
  | false=>exact .inl ⟨rfl,.inr fun θ h=>h2.no hb θ (fun _ _ h=>(nomatch h)) h⟩
  | true =>
   obtain⟨B',σ,g1,g2,g3⟩:=h2.yes hb;refine .inr ⟨hl,σ,Mgu.of g2 g3,?_⟩;have:=GV g1 g2 24 0 ze [] rfl (by omega) (by unfold ze; omega) (by simp)
   rw[show ((0:Nat):Int)=0 from rfl] at this
   rw[aA,cond_false,this,bV];have he:w9 B' σ (aR 24)=sB σ:=by
    unfold w9 sB;rw[show Fa B'=moved σ from funext (F7 g2)]
   cases xJ σ (aR 24) with
   | true=>simp only[cond_true,af,tB,bx,he]
   | false=>rfl
 ·rw[show (((aa (ts.map Tm.codes):Nat):Int) != ((aa (us.map Tm.codes):Nat):Int))=true from by simp; omega,cond_true]
  exact .inl ⟨rfl,.inl hl⟩
theorem ze7 (v:Int):(es:List (Int×List Int))->(i:Nat)->(sW es v=none∧wa v es i=some (.inl ()))∨∃(j:Nat) (e:Int×List Int),wa v es i=some (.inr ((i+j:Nat):Int))∧es[j]? = some e∧sW es v=some e.2
 | [],i=>.inl ⟨rfl,rfl⟩
 | e::es,i=>by
  unfold wa sW;rw[dW];cases h:e.1==v with
  | true=>exact .inr ⟨0,e,rfl,rfl,rfl⟩
  | false =>
   rw[cond_false];rcases ze7 v es (i+1) with ⟨h1,h2⟩ | ⟨j,e',h1,h2,h3⟩
   ·exact .inl ⟨h1,h2⟩
   ·exact .inr ⟨j+1,e',by rw[h1,show i+1+j=i+(j+1) from by omega],by simpa using h2,h3⟩
theorem ON {s:List (Int×List Int)} (hl:s.length<=1000) (v:Int):(sW s v=none∧Qj s v=some (-1))∨∃(j:Nat) (e:Int×List Int),Qj s v=some (j:Int)∧s[j]? = some e∧sW s v=some e.2:=by
 unfold Qj;rw[X3 _ _ (by unfold maxLen; omega)]
 rcases ze7 v s 0 with ⟨h1,h2⟩ | ⟨j,e,h1,h2,h3⟩
 ·exact .inl ⟨h1,by rw[h2]; rfl⟩
 ·exact .inr ⟨j,e,by rw[h1,aN]; rfl,h2,h3⟩
theorem Su {s:List (Int×List Int)} (h:BindsOk s):(es out:List Int)->(∀ c∈es,-1000000<=c∧c<=1000000)->out.length+1000*es.length<=1000000000->yK s es out=some (out++onB s es)
 | [],out,_,_=>by simp [yK,onB]
 | c::es,out,hc,hl=>by
  have hc0:=hc c (ak ..);simp only[aj] at hl;have ih:=fun out hl=>Su h es out (fun c h=>hc c (ai _ h)) hl;unfold yK;have plain:onC s c=[c]->(cond (yM (aa out+aa ([c]:List Int)) 8) (yK s es (out++([c]:List Int))) none)=some (out++onB s (c::es)):=fun hx=>by
   rw[zp (by simp; omega),cond_true,ih _ (by simp; omega)]
   unfold onB;rw[bt,hx,bc]
  by_cases h0:c<0
  ·rw[decide_eq_true h0,cond_true];have w1:ah .i64 ((-1) - c) = -1 - c:=by rw[zu]<;>omega
   rw[w1];rcases ON h.len (-1 - c) with ⟨h1,h2⟩ | ⟨j,e,h1,h2,h3⟩
   ·rw[h2,af,show decide ((-1:Int)<0)=true from rfl,cond_true]
    refine plain ?_;unfold onC;rw[h1,decide_eq_false (show ¬ c≥0 by omega)]
    rfl
   ·have he:=(h.all e (aM h2)).2;rw[h1,af,decide_eq_false (show ¬(j:Int)<0 by omega),cond_false,qr,h2,af,zp (by omega),cond_true,ih _ (by rw[ax]; omega)]
    unfold onB;have:onC s c=e.2:=by
     unfold onC;rw[h3,decide_eq_false (show ¬ c≥0 by omega)]
     rfl
    rw[bt,this,bc]
  ·rw[decide_eq_false h0,cond_false];refine plain ?_;unfold onC;rw[decide_eq_true (show c≥0 by omega)]
   rfl
theorem Ia {s:List (Int×List Int)} (h:BindsOk s) {r:List Int} (hr:uU r):vT s r=some (onB s r):=by
 have:=hr.1;unfold vT;rw[QN _ _ _ (by unfold maxLen; omega),Su h r [] hr.2 (by simp; omega)]
 rfl
theorem Lf {s:List (Int×List Int)} (h:BindsOk s):(es out:List zd)->(∀ l∈es,uU l.2)->out.length+es.length<=1000000->qX s es out=some (out++KC s es)
 | [],out,_,_=>by simp [qX,KC]
 | e::es,out,hn,hl=>by
  simp only[aj] at hl;unfold qX;rw[Ia h (hn e (ak ..)),af,zp (by simp; omega),cond_true,Lf h es _ (fun l hl=>hn l (ai _ hl)) (by simp; omega)]
  simp [KC]
theorem LD {s:List (Int×List Int)} (h:BindsOk s) (s5:List zd):(es out:List jI)->(∀ l∈es,uU l)->out.length+es.length<=1000000->qY s s5 es out=some (s5,out++Fy s es)
 | [],out,_,_=>by simp [qY,Fy]
 | e::es,out,hn,hl=>by
  simp only[aj] at hl;unfold qY;rw[Ia h (hn e (ak ..)),af,zp (by simp; omega),cond_true,LD h s5 es _ (fun l hl=>hn l (ai _ hl)) (by simp; omega)]
  simp [Fy]
theorem Hq {s:List (Int×List Int)} (h:BindsOk s) (s5:List zd) (s6:List jI):(es out:List zd)->(∀ l∈es,uU l.2)->out.length+es.length<=1000000->qS s s5 s6 es out=some (s5,s6,out++KC s es)
 | [],out,_,_=>by simp [qS,KC]
 | e::es,out,hn,hl=>by
  simp only[aj] at hl;unfold qS;rw[Ia h (hn e (ak ..)),af,zp (by simp; omega),cond_true,Hq h s5 s6 es _ (fun l hl=>hn l (ai _ hl)) (by simp; omega)]
  simp [KC]
theorem Bu {s:List (Int×List Int)} (h:BindsOk s) {L:List zd} {T:List jI} {C:List zd} (hL:∀ l∈L,uU l.2) (hT:∀ l∈T,uU l) (hC:∀ l∈C,uU l.2) (h1:L.length<=1000) (h2:T.length<=1000) (h3:C.length<=1000) :
  tu s L T C=some (KC s L,Fy s T,KC s C):=by
 unfold tu;rw[Qr _ _ _ _ _ (by unfold maxLen; omega),Lf h L [] hL (by simp; omega),af,
  Y8 _ _ _ _ _ _ (by unfold maxLen; omega),LD h _ T [] hT (by simp; omega),af,
  QL _ _ _ _ _ _ _ (by unfold maxLen; omega),Hq h _ _ C [] hC (by simp; omega),af]
 simp
theorem Fg {l k:zd} (h:l.2.length<=1000000):sD l.1 l.2 k.1 k.2=some (decide (l=k)):=by
 obtain⟨n,r⟩:=l;obtain⟨n',r'⟩:=k;unfold sD;by_cases hn:n=n'
 ·subst hn;simp only[beq_self_eq_true,cond_true];rw[jZ h,af];simp
 ·rw[show (n==n')=false from by simp [hn],cond_false]
  simp [hn]
theorem N3 {s0 out:List zd} {i0:Nat} {e0:zd} (he:s0[i0]? = some e0) (ho:∀ l∈out,l.2.length<=1000000):(es:List zd)->(i:Nat)->(b:Bool)->out.drop i=es->qg s0 (i0:Int) out es i b=some (b||decide (e0∈es),out)
 | [],i,b,_=>by simp [qg]
 | e::es,i,b,hd=>by
  have ih:=fun b=>N3 he ho es (i+1) b (zi hd);unfold qg;cases b with
  | true=>rw[cond_true,ih true]; rfl
  | false =>
   have hi:=zL hd;have hg:=zn hd;rw[cond_false,qd hi,af,hg,af,qr,he,af,Fg (ho e (aM hg)),af,ih]
   congr 2
   rw[et,cU,bO,decide_eq_true_iff,decide_eq_true_iff,decide_eq_true_iff,aB];exact ⟨fun h=>h.imp gn id,fun h=>h.imp gn id⟩
theorem BP {s0:List zd} (hs:∀ l∈s0,l.2.length<=1000000):(es:List zd)->(i:Nat)->(out:List zd)->s0.drop i=es->(∀ l∈out,l.2.length<=1000000)->out.length+es.length<=1000000->qO s0 es i out=some (zN es out)
 | [],i,out,_,_,_=>rfl
 | e::es,i,out,hd,ho,hl=>by
  simp only[aj] at hl;have hg:=zn hd;have hem:=aM hg;unfold qO zN;rw[QJ _ _ _ _ (by unfold maxLen; omega),N3 hg ho out 0 false rfl,af,cU]
  by_cases hm:e∈out
  ·have e1:∀ inst:Decidable (e∈out),@decide (e∈out) inst=true:=fun _=>decide_eq_true hm;simp only[e1,aA,cond_false,cond_true];exact BP hs es (i+1) out (zi hd) ho (by omega)
  ·have e1:∀ inst:Decidable (e∈out),@decide (e∈out) inst=false:=fun _=>decide_eq_false hm;simp only[e1,bJ,cond_true,cond_false];rw[zp (by simp; omega),cond_true]
   exact BP hs es (i+1) _ (zi hd) (fun l hl=>by
    rcases aQ.1 hl with hl | hl
    ·exact ho l hl
    ·rw[bE.1 hl]; exact hs e hem) (by simp; omega)
theorem NJ {L:List zd} (hs:∀ l∈L,l.2.length<=1000000) (hl:L.length<=1000):Yu L=some (zN L []):=by
 unfold Yu;rw[Qc _ _ (by unfold maxLen; omega),BP hs L 0 [] rfl (fun _ h=>(nomatch h)) (by simp; omega)]
 rfl
theorem NB {s4 out:List jI} {s6 s7:List zd} {i0:Nat} {e0:List Int} (he:s4[i0]? = some e0) (ho:∀ l∈out,l.length<=1000000):(es:List jI)->(i:Nat)->(b:Bool)->out.drop i=es->qi (i0:Int) s4 s6 s7 out es i b=some (b||decide (e0∈es),s6,s7,out)
 | [],i,b,_=>by simp [qi]
 | e::es,i,b,hd=>by
  have ih:=fun b=>NB (s6:=s6) (s7:=s7) he ho es (i+1) b (zi hd);unfold qi;cases b with
  | true=>rw[cond_true,ih true]; rfl
  | false =>
   have hi:=zL hd;have hg:=zn hd;rw[cond_false,qd hi,af,hg,af,qr,he,af,jZ (ho e (aM hg)),af,ih]
   congr 2
   rw[et,cU,bO,decide_eq_true_iff,decide_eq_true_iff,decide_eq_true_iff,aB];exact ⟨fun h=>h.imp gn id,fun h=>h.imp gn id⟩
theorem DG {s1 s3 s4 s5:List zd} {s2:List jI} (hs:∀ l∈s2,l.length<=1000000):(es:List jI)->(i:Nat)->(out:List jI)->s2.drop i=es->(∀ l∈out,l.length<=1000000)->out.length+es.length<=1000000->qQ s1 s2 s3 es i s4 s5 out=some (s4,s5,zN es out)
 | [],i,out,_,_,_=>rfl
 | e::es,i,out,hd,ho,hl=>by
  simp only[aj] at hl;have hg:=zn hd;have hem:=aM hg;unfold qQ zN;rw[QC _ _ _ _ _ _ _ _ (by unfold maxLen; omega),NB hg ho out 0 false rfl,af,cU]
  by_cases hm:e∈out
  ·have e1:∀ inst:Decidable (e∈out),@decide (e∈out) inst=true:=fun _=>decide_eq_true hm;simp only[e1,aA,cond_false,cond_true];exact DG hs es (i+1) out (zi hd) ho (by omega)
  ·have e1:∀ inst:Decidable (e∈out),@decide (e∈out) inst=false:=fun _=>decide_eq_false hm;simp only[e1,bJ,cond_true,cond_false];rw[zp (by simp; omega),cond_true]
   exact DG hs es (i+1) _ (zi hd) (fun l hl=>by
    rcases aQ.1 hl with hl | hl
    ·exact ho l hl
    ·rw[bE.1 hl]; exact hs e hem) (by simp; omega)
def UU (bs:List (Int×List Int)) (c:Int):List (Int×List Int):=cond (decide (c<0)&&(sW bs (-1 - c)).isNone) (bs++[(-1 - c,[-1 - (bs.length:Int)])]) bs
def Tu (bs:List (Int×List Int)) (r:List Int):List (Int×List Int):=r.foldl UU bs
theorem PT (bs:List (Int×List Int)) (c:Int):(UU bs c).length<=bs.length+1:=by
 unfold UU;cases decide (c<0)&&(sW bs (-1 - c)).isNone<;>simp
theorem Pz (r:List Int):(bs:List (Int×List Int))->(Tu bs r).length<=bs.length+r.length:=by
 unfold Tu
 induction r with
 | nil=>intro bs; simp
 | cons c r ih =>
  intro bs;have:=ih (UU bs c);have:=PT bs c;simp only[List.foldl_cons,aj];omega
theorem L7 {rows:List jI} {i:Nat} {r:List Int} (hr:rows[i]? = some r) (L:List zd) (T:List jI) (C:List zd) (hrl:r.length<=1000):∀(es:List Int) (j k:Nat) (bs:List (Int×List Int)),r.drop j=es->(∀ c∈es,-1000000<=c∧c<=1000000)->es.length<k->bs.length+es.length<=1000 ->
  lp wM k (rows,(i:Int),(j:Int),L,T,C,bs)=some (Tu bs es)
 | [],j,k,bs,hd,_,hk,_=>by
  obtain⟨k,rfl⟩:∃ k',k=k'+1:=⟨k - 1,by simp at hk; omega⟩
  rw[zr];generalize lp wM k=rec;unfold wM;have:=qG hd;rw[qr,hr,af,decide_eq_false (show ¬(j:Int)<((aa r:Nat):Int) by omega),cond_false]
  rfl
 | c::es,j,k,bs,hd,hc,hk,hb=>by
  obtain⟨k,rfl⟩:∃ k',k=k'+1:=⟨k - 1,by simp at hk; omega⟩
  simp only[aj] at hk hb;have hlt:=zL hd;have hc0:=hc c (ak ..);rw[zr];have key:=fun bs hb=>L7 hr L T C hrl es (j+1) k bs (zi hd) (fun c h=>hc c (ai _ h)) (by omega) hb
  generalize lp wM k=rec at key ⊢;unfold wM;have w1:ah .i64 ((j:Int)+1)=((j+1:Nat):Int):=by rw[zu]<;>omega
  have w2:ah .i64 ((-1) - c) = -1 - c:=by rw[zu]<;>omega
  have w3:ah .i64 ((-1) - ((aa bs:Nat):Int)) = -1 - (bs.length:Int):=by rw[zu]<;>omega
  simp only[qr,hr,af,zn hd,w1,w2,w3];rw[decide_eq_true (show (j:Int)<((aa r:Nat):Int) by omega),cond_true]
  show _=some (Tu (UU bs c) es);unfold UU;by_cases h0:c<0
  ·rw[decide_eq_true h0,cond_true,aY];rcases ON (s:=bs) (by omega) (-1 - c) with ⟨h1,h2⟩ | ⟨q,e,h1,h2,h3⟩
   ·rw[h2,af,show decide ((-1:Int)<0)=true from rfl,cond_true,zp (by simp; omega),cond_true,key _ (by simp; omega),h1]
    rfl
   ·rw[h1,af,decide_eq_false (show ¬(q:Int)<0 by omega),cond_false,key _ (by omega),h3]
    rfl
  ·rw[decide_eq_false h0,cond_false,bn,cond_false,key _ (by omega)]
theorem L5 {rows:List jI} (L:List zd) (T:List jI) (C:List zd) (hrows:∀ r∈rows,uU r):(es:List jI)->(i:Nat)->(bs:List (Int×List Int))->rows.drop i=es->bs.length+zo es<=1000 ->
  xu rows L T C es i bs=some (es.foldl Tu bs)
 | [],_,_,_,_=>rfl
 | e::es,i,bs,hd,hb=>by
  have hg:=zn hd;have he:=hrows e (aM hg);have hs:zo (e::es)=e.length+zo es:=by simp [zo]
  unfold xu;have:=L7 hg L T C he.1 e 0 ze bs rfl he.2 (by have:=he.1; unfold ze; omega) (by omega)
  rw[show ((0:Nat):Int)=0 from rfl] at this
  have hl:=Pz e bs;rw[this,af,L5 L T C hrows es (i+1) _ (zi hd) (by omega)]
  rfl
structure Rl (s:Ju) (bs:List (Int×List Int)):Prop where
 cnt:(bs.length:Int)=s.2
 at_:∀ v:Nat,sW bs (v:Int)=if s.1.getD v 0=0 then none else some [-(s.1.getD v 0)]
 one:∀ b∈bs,b.2.length=1
theorem IU (bs:List (Int×List Int)) (v w:Int) (t:List Int):sW (bs++[(v,t)]) w=match sW bs w with
  | some u=>some u
  | none=>cond (v==w) (some t) none:=by
 unfold sW;rw[List.find?_append];cases h:bs.find? fun b=>b.1==w with
 | some b=>rfl
 | none =>
  simp only[Option.none_or,dW,List.find?_nil,Option.map_none];cases v==w<;>rfl
theorem rl0:Rl (az 24 (0:Int),0) [] where
 cnt:=rfl
 at_:=fun v=>by
  rw[if_pos]
  ·rfl
  ·show (az 24 (0:Int)).getD v 0=0;rw[aD,bK];split<;>rfl
 one:=fun _ h=>(nomatch h)
theorem Rl.ok {s:Ju} {bs:List (Int×List Int)} (h:Rl s bs) (hI:RenI s):BindsOk bs where
 len:=by have:=h.cnt; have:=hI.next; omega
 all:=fun b hb=>by
  have:=h.one b hb;exact ⟨fun e=>by rw[e] at this; simp at this,by omega⟩
theorem Rl.step {s:Ju} {bs:List (Int×List Int)} (h:Rl s bs) (hI:RenI s) {c:Int} (hc : -24<=c):Rl (WQ s c).2 (UU bs c):=by
 unfold WQ UU;by_cases h0:c≥0
 ·rw[decide_eq_true h0,cond_true,decide_eq_false (show ¬ c<0 by omega),bn,cond_false]
  exact h
 ·rw[decide_eq_false h0,cond_false,decide_eq_true (show c<0 by omega),aY]
  obtain⟨v,rfl⟩:∃ v:Nat,c = -1 - (v:Int):=⟨(-1 - c).toNat,by omega⟩
  have e1:(-1 - (-1 - (v:Int)))=(v:Int):=by omega
  rw[e1,bq,h.at_ v];by_cases hz:s.1.getD v 0=0
  ·rw[if_pos hz,show (s.1.getD v 0==0)=true from by rw[hz]; rfl,cond_true,show (none:Option jI).isNone=true from rfl,cond_true]
   have hv:v<s.1.length:=by rw[hI.len]; omega
   have hcnt:=h.cnt;refine ⟨by show (((bs++[_]).length:Nat):Int)=s.2+1; rw[ax,← hcnt]; simp,fun w => ?_,fun b hb => ?_⟩
   ·rw[IU,h.at_ w];show _=if (s.1.set v (s.2+1)).getD w 0=0 then none else some [-((s.1.set v (s.2+1)).getD w 0)]
    rw[sw hv];have hn:=hI.next;by_cases hw:w=v
    ·subst hw;rw[if_pos hz,if_pos rfl,if_neg (show ¬ s.2+1=0 by omega)]
     simp only[beq_self_eq_true,cond_true];rw[show -1 - (bs.length:Int) = -(s.2+1) from by omega]
    ·rw[if_neg hw];by_cases hz2:s.1.getD w 0=0
     ·rw[if_pos hz2];simp only;rw[show (((v:Nat):Int)==((w:Nat):Int))=false from by simp; omega]
      rfl
     ·rw[if_neg hz2]
   ·rcases aQ.1 hb with hb | hb
    ·exact h.one b hb
    ·rw[bE.1 hb]; rfl
  ·rw[if_neg hz,show (s.1.getD v 0==0)=false from by simpa using hz,cond_false]
   exact h
theorem Rl.row:(r:List Int)->{s:Ju}->{bs:List (Int×List Int)}->Rl s bs->RenI s->(∀ c∈r,-24<=c)->Rl (sZ s r).2 (Tu bs r)
 | [],_,_,h,_,_=>h
 | c::r,s,bs,h,hI,hc=>by
  have h1:=h.step hI (hc c (ak ..));exact Rl.row r h1 (G7 hI (hc c (ak ..))).1 fun d hd=>hc d (ai _ hd)
theorem Rl.lits:(ls:List zd)->{s:Ju}->{bs:List (Int×List Int)}->Rl s bs->RenI s->(∀ l∈ls,∀ c∈l.2,-24<=c)->Rl (wk s ls).2 ((ls.map (·.2)).foldl Tu bs)
 | [],_,_,h,_,_=>h
 | l::ls,s,bs,h,hI,hc=>by
  have h1:=h.row l.2 hI (hc l (ak ..));exact Rl.lits ls h1 (ZU l.2 hI (hc l (ak ..))).1 fun d hd=>hc d (ai _ hd)
theorem Rl.rows:(ls:List jI)->{s:Ju}->{bs:List (Int×List Int)}->Rl s bs->RenI s->(∀ l∈ls,∀ c∈l,-24<=c)->Rl (uS s ls).2 (ls.foldl Tu bs)
 | [],_,_,h,_,_=>h
 | l::ls,s,bs,h,hI,hc=>by
  have h1:=h.row l hI (hc l (ak ..));exact Rl.rows ls h1 (ZU l hI (hc l (ak ..))).1 fun d hd=>hc d (ai _ hd)
theorem Ga {f:Ju} (hI:RenI f) {bs:List (Int×List Int)} (h:Rl f bs):(r:List Int)->(∀ c∈r,-24<=c)->(∀ x,Ft r x->f.1.getD x.toNat 0≠0)->onB bs r=tX (fun v=>.v (rho f v)) r
 | [],_,_=>rfl
 | c::r,hc,hz=>by
  have ih:=Ga hI h r (fun d hd=>hc d (ai _ hd)) fun x ⟨d,hd,h1⟩=>hz x ⟨d,ai _ hd,h1⟩;have hc0:=hc c (ak ..);unfold onB tX at ih ⊢;rw[bt,bt,ih]
  congr 1
  unfold onC Zx;by_cases h0:c≥0
  ·rw[decide_eq_true h0,cond_true,if_neg (by omega)]
  ·rw[decide_eq_false h0,cond_false,if_pos (by omega)]
   obtain⟨v,rfl⟩:∃ v:Nat,c = -1 - (v:Int):=⟨(-1 - c).toNat,by omega⟩
   have e1:(-1 - (-1 - (v:Int)))=(v:Int):=by omega
   have hv:=hz (v:Int) ⟨_,ak ..,by omega,by omega⟩
   rw[bq] at hv;rw[e1,h.at_ v,if_neg hv,bq];have:=hI.rng v;unfold rho;show [-(f.1.getD v 0)]=[-1 - (((f.1.getD v 0).toNat - 1:Nat):Int)]
   congr 1
   omega
theorem zbu {L:List zd} {T:List jI} {C:List zd} (hc:∀ r∈yB L T C,Cds r) (hl:L.length<=100) (ht:T.length<=100) (hcl:C.length<=100) (hsum:zo (L.map (·.2))+zo T+zo (C.map (·.2))<=1000):QM L T C=some (rX L T C):=by
 have cL:∀ l∈L,Cds l.2:=fun l h=>hc _ (x6 h);have cT:∀ l∈T,Cds l:=fun l h=>hc _ (uN h);have cC:∀ l∈C,Cds l.2:=fun l h=>hc _ (vQ h);have mL:∀ l,l∈zN L []↔l∈L:=fun l=>by simpa using qP (x:=l) L []
 have mT:∀ l,l∈zN T []↔l∈T:=fun l=>by simpa using qP (x:=l) T []
 have mC:∀ l,l∈zN C []↔l∈C:=fun l=>by simpa using qP (x:=l) C []
 have lL:=x5 L [];have lT:=x5 T [];have lC:=x5 C [];simp only[bb,aN] at lL lT lC;have big:∀ r:List Int,Cds r->r.length<=1000000:=fun r h=>by have:=h.1; omega
 unfold QM;rw[NJ (fun l h=>big _ (cL l h)) (by omega),af,NJ (fun l h=>big _ (cC l h)) (by omega),af,
  QH _ _ _ _ _ _ (by unfold maxLen; omega),DG (fun l h=>big _ (cT l h)) T 0 [] rfl (fun _ h=>(nomatch h)) (by simp; omega),af]
 simp only;rw[Yw _ _ _ (by omega) (by omega) (by omega),af]
 have nr:∀ r∈(zN L []).map (·.2)++zN T []++(zN C []).map (·.2),Cds r:=fun r hr=>by
  rcases aQ.1 hr with hr | hr
  ·rcases aQ.1 hr with hr | hr
   ·obtain⟨l,hl,rfl⟩:=aW.1 hr; exact cL l ((mL l).1 hl)
   ·exact cT r ((mT r).1 hr)
  ·obtain⟨l,hl,rfl⟩:=aW.1 hr; exact cC l ((mC l).1 hl)
 have sL:zo ((zN L []).map (·.2))<=zo (L.map (·.2)):=by
  have:=jM (fun l:zd=>l.2.length) L [];have h4:(([]:List zd).map (fun l:zd=>l.2.length)).sum=0:=rfl;rw[h4,aN] at this;unfold zo;rw[cF,cF];exact this
 have sC:zo ((zN C []).map (·.2))<=zo (C.map (·.2)):=by
  have:=jM (fun l:zd=>l.2.length) C [];have h4:(([]:List zd).map (fun l:zd=>l.2.length)).sum=0:=rfl;rw[h4,aN] at this;unfold zo;rw[cF,cF];exact this
 have sT:zo (zN T [])<=zo T:=by
  have:=jM aa T [];unfold zo;simpa using this
 rw[Qn _ _ _ _ _ (by simp only[ax,aO]; unfold maxLen; omega),L5 _ _ _ (fun r hr=>(nr r hr).near) _ 0 [] bV (by rw[wb,wb]; simp only[bb]; omega),af,eH,eH]
 -- the numbering
 obtain⟨a1,a2,a3,a4⟩:=je (zN L []) zhm fun l hl=>fun c h=>((cL l ((mL l).1 hl)).2 c h).1;obtain⟨b1,b2,b3,b4⟩:=XT (zN T []) a1 fun l hl=>fun c h=>((cT l ((mT l).1 hl)).2 c h).1;obtain⟨c1,c2,c3,c4⟩:=je (zN C []) b1 fun l hl=>fun c h=>((cC l ((mC l).1 hl)).2 c h).1;have r1:=rl0.lits (zN L []) zhm fun l hl=>fun c h=>((cL l ((mL l).1 hl)).2 c h).1;have r2:=r1.rows (zN T []) a1 fun l hl=>fun c h=>((cT l ((mT l).1 hl)).2 c h).1;have r3:=r2.lits (zN C []) b1 fun l hl=>fun c h=>((cC l ((mC l).1 hl)).2 c h).1;have nz1:∀ x,Zu ((zN L []).map (·.2)) x->(wk (uS (wk (az 24 0,0) (zN L [])).2 (zN T [])).2 (zN C [])).2.1.getD x.toNat 0≠0:=fun x hx=>by
  have:=a3 x hx;rw[c2 _ (by rw[b2 _ this]; exact this),b2 _ this]
  exact this
 have nz2:∀ x,Zu (zN T []) x->(wk (uS (wk (az 24 0,0) (zN L [])).2 (zN T [])).2 (zN C [])).2.1.getD x.toNat 0≠0:=fun x hx=>by
  have:=b3 x hx;rw[c2 _ this];exact this
 rw[Bu (r3.ok c1) (fun l h=>(cL l ((mL l).1 h)).near) (fun l h=>(cT l ((mT l).1 h)).near) (fun l h=>(cC l ((mC l).1 h)).near) (by omega) (by omega) (by omega),af]
 unfold rX zga;rw[a4 _ (b2.trans c2),b4 _ c2,c4 _ (ExtS.refl _)];have eL:KC _ (zN L [])=uV _ (zN L []):=bS fun l h=>by
  show (l.1,_)=(l.1,_);rw[Ga c1 r3 l.2 (fun c hh=>((cL l ((mL l).1 h)).2 c hh).1) fun x hx=>nz1 x ⟨_,bh h,hx⟩]
 have eT:Fy _ (zN T [])=(zN T []).map _:=bS fun l h=>Ga c1 r3 l (fun c hh=>((cT l ((mT l).1 h)).2 c hh).1) fun x hx=>nz2 x ⟨_,h,hx⟩;have eC:KC _ (zN C [])=uV _ (zN C []):=bS fun l h=>by
  show (l.1,_)=(l.1,_);rw[Ga c1 r3 l.2 (fun c hh=>((cC l ((mC l).1 h)).2 c hh).1) fun x hx=>c3 x ⟨_,bh h,hx⟩]
 rw[eL,eT,eC]
end Go.Abs.Q
