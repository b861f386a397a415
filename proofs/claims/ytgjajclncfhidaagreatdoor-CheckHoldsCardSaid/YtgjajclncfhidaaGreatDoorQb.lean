import Derived.Test.YtgjajclncfhidaaGreatDoorQa
/-
  What the functions make of plain values, and what the law says of that.
-/
open BitVec renaming ofInt -> dh, toNat_and -> gr, toNat_ofInt -> f8
open Bool renaming and_eq_true -> ay, and_self -> cJ, eq_iff_iff -> eg, not_false -> bE, not_true -> az, or_eq_true -> b9, true_and -> aN
open Function renaming comp_apply -> iq
open Go.IntKind renaming bits -> cS, signed -> eV, wrap -> ag
open Int renaming tmod -> dM, tmod_lt_of_pos -> eW, tmod_nonneg -> fH, toNat -> bc, toNat_natCast -> bo, toNat_of_nonneg -> cy
open List renaming all_cons -> bX, all_eq_true -> aD, any_cons -> ee, any_eq_true -> dw, any_map -> hY, append_assoc -> aW, append_nil -> bO, append_of_mem -> dH, concat_eq_append -> fL, countP_append -> f7, countP_cons_of_neg -> en, countP_cons_of_pos -> dz, countP_le_length -> ez, drop_drop -> cf, drop_eq_getElem_cons -> aY, drop_left -> dy, drop_zero -> bQ, eq_nil_or_concat -> fK, filter_cons_of_neg -> cQ, filter_cons_of_pos -> dc, flatMap -> hO, flatMap_cons -> bv, getD_eq_getElem?_getD -> aE, getElem?_append_left -> bP, getElem?_append_right -> bI, getElem?_cons_zero -> aB, getElem?_eq_getElem -> al, getElem?_eq_some_iff -> aw, getElem?_map -> bh, getElem?_replicate -> bF, getElem?_set_ne -> cq, getElem?_set_self -> bU, getElem_mem -> dx, isEmpty -> dU, length -> af, length_append -> am, length_cons -> ak, length_drop -> bq, length_map -> aF, length_nil -> bm, length_range -> ex, length_set -> bY, length_singleton -> aX, length_zip -> gF, map -> cV, map_append -> cd, map_congr_left -> bx, map_cons -> aK, map_id -> im, map_id' -> fE, map_map -> cm, mem_append -> aI, mem_append_left -> bk, mem_append_right -> bp, mem_cons -> aG, mem_cons_of_mem -> ai, mem_cons_self -> aj, mem_filter -> dp, mem_iff_getElem -> cg, mem_iff_getElem? -> cX, mem_map -> aR, mem_map_of_mem -> aZ, mem_of_getElem? -> aJ, mem_range -> bZ, mem_singleton -> bb, nil_append -> bl, nodup_cons -> dL, of_mem_zip -> gG, pairwise_cons -> cA, range -> aL, replicate -> ax, set -> bw, set_eq_take_append_cons_drop -> eo, sum_cons -> cD, take_append_drop -> bW, zip_cons_cons -> el
open List.Pairwise renaming nil -> ge
open Nat renaming add_assoc -> bK, add_comm -> dj, add_mul -> bf, add_mul_mod_self_left -> eZ, and_le_right -> gu, beq -> aA, le_refl -> aC, le_trans -> aT, lt_or_ge -> bG, mod_eq_of_lt -> eB, mul_add -> io, mul_comm -> gj, mul_le_mul_left -> dt, mul_le_mul_right -> aS, pow_le_pow_right -> eJ, pow_pos -> gC, pow_succ -> gh, strongRecOn -> cU, sub_self -> ep, zero_add -> aP, zero_le -> bN
open Ne renaming symm -> dD
open Option renaming bind_some -> aa, getD_some -> bj, isNone_none -> c5, isNone_some -> cw, map_some -> bD
open Option.some renaming injEq -> aq
open Sum renaming inl -> aU, inr -> aH
namespace Go.Abs.Q
open Go Go.Abs
inductive Tm where
 | v (n:Nat)
 | f (c:Nat) (as:List Tm)
mutual
def Tm.codes:Tm->List Int
 | .v n=>[-1 - (n:Int)]
 | .f c as=>(c:Int)::za as
def za:List Tm->List Int
 | []=>[]
 | t::ts=>t.codes++za ts
end
mutual
def Tm.size:Tm->Nat
 | .v _=>1
 | .f _ as=>qJ as+1
def qJ:List Tm->Nat
 | []=>0
 | t::ts=>t.size+qJ ts
end
abbrev Sb:=Nat->Tm
mutual
def Tm.sub (s:Sb):Tm->Tm
 | .v n=>s n
 | .f c as=>.f c (qO s as)
def qO (s:Sb):List Tm->List Tm
 | []=>[]
 | t::ts=>t.sub s::qO s ts
end
mutual
def Tm.has (x:Nat):Tm->Prop
 | .v n=>n=x
 | .f _ as=>jr x as
def jr (x:Nat):List Tm->Prop
 | []=>False
 | t::ts=>t.has x∨jr x ts
end
mutual
def Tm.ok (a0:List zg) (N:Nat):Tm->Prop
 | .v n=>n<N
 | .f c as=>uV a0 (c:Int)=some as.length∧okR a0 N as
def okR (a0:List zg) (N:Nat):List Tm->Prop
 | []=>True
 | t::ts=>t.ok a0 N∧okR a0 N ts
end
theorem kQ (s:Sb):(ts:List Tm)->(qO s ts).length=ts.length
 | []=>rfl
 | t::ts=>by simp [qO,kQ s ts]
theorem vf {a0:List zg} {N:Nat}:{ts:List Tm}->(okR a0 N ts↔∀ t∈ts,t.ok a0 N)
 | []=>by simp [okR]
 | t::ts=>by simp [okR,vf (ts:=ts)]
theorem rX {x:Nat}:{ts:List Tm}->(jr x ts↔∃ t∈ts,t.has x)
 | []=>by simp [jr]
 | t::ts=>by simp [jr,rX (ts:=ts)]
theorem Ye (s:Sb):(ts:List Tm)->qO s ts=ts.map (Tm.sub s)
 | []=>rfl
 | t::ts=>by simp [qO,Ye s ts]
theorem X8:(ts:List Tm)->za ts=ts.flatMap Tm.codes
 | []=>rfl
 | t::ts=>by simp [za,X8 ts]
theorem G6:(ts:List Tm)->qJ ts=(ts.map Tm.size).sum
 | []=>rfl
 | t::ts=>by simp [qJ,G6 ts]
theorem uY (ts us:List Tm):za (ts++us)=za ts++za us:=by simp [X8]
theorem Wr (ts us:List Tm):qJ (ts++us)=qJ ts+qJ us:=by simp [G6]
theorem PF (s:Sb) (ts us:List Tm):qO s (ts++us)=qO s ts++qO s us:=by simp [Ye]
mutual
theorem Tm.codes_len:(t:Tm)->t.codes.length=t.size
 | .v _=>rfl
 | .f c as=>by simp [Tm.codes,Tm.size,tO as]
theorem tO:(ts:List Tm)->(za ts).length=qJ ts
 | []=>rfl
 | t::ts=>by simp [za,qJ,Tm.codes_len t,tO ts]
end
theorem Tm.size_pos (t:Tm):0<t.size:=by cases t<;>simp [Tm.size]
mutual
theorem Tm.sub_ext {s u:Sb}:(t:Tm)->(∀ x,t.has x->s x=u x)->t.sub s=t.sub u
 | .v n,h=>h n rfl
 | .f c as,h=>by rw[Tm.sub,Tm.sub,CI as h]
theorem CI {s u:Sb}:(ts:List Tm)->(∀ x,jr x ts->s x=u x)->qO s ts=qO u ts
 | [],_=>rfl
 | t::ts,h=>by rw[qO,qO,Tm.sub_ext t fun x hx=>h x (.inl hx),CI ts fun x hx=>h x (.inr hx)]
end
mutual
theorem Tm.sub_sub (s u:Sb):(t:Tm)->(t.sub s).sub u=t.sub fun x=>(s x).sub u
 | .v n=>rfl
 | .f c as=>by rw[Tm.sub,Tm.sub,Tm.sub,BE s u as]
theorem BE (s u:Sb):(ts:List Tm)->qO u (qO s ts)=qO (fun x=>(s x).sub u) ts
 | []=>rfl
 | t::ts=>by rw[qO,qO,qO,Tm.sub_sub s u t,BE s u ts]
end
mutual
theorem Tm.sub_v:(t:Tm)->t.sub .v=t
 | .v n=>rfl
 | .f c as=>by rw[Tm.sub,TJ as]
theorem TJ:(ts:List Tm)->qO .v ts=ts
 | []=>rfl
 | t::ts=>by rw[qO,Tm.sub_v t,TJ ts]
end
mutual
theorem Tm.has_sub {s:Sb} {y:Nat}:(t:Tm)->((t.sub s).has y↔∃ x,t.has x∧(s x).has y)
 | .v n=>⟨fun h=>⟨n,rfl,h⟩,fun ⟨x,hx,h⟩=>by cases hx; exact h⟩
 | .f c as=>by show jr y (qO s as)↔_; rw[jz as]; rfl
theorem jz {s:Sb} {y:Nat}:(ts:List Tm)->(jr y (qO s ts)↔∃ x,jr x ts∧(s x).has y)
 | []=>⟨fun h=>h.elim,fun ⟨_,h,_⟩=>h.elim⟩
 | t::ts=>by
  show (t.sub s).has y∨jr y (qO s ts)↔∃ x,(t.has x∨jr x ts)∧_;rw[Tm.has_sub t,jz ts];constructor
  ·rintro (⟨x,h1,h2⟩ | ⟨x,h1,h2⟩)
   ·exact ⟨x,.inl h1,h2⟩
   ·exact ⟨x,.inr h1,h2⟩
  ·rintro⟨x,h1 | h1,h2⟩
   ·exact .inl ⟨x,h1,h2⟩
   ·exact .inr ⟨x,h1,h2⟩
end
mutual
theorem Tm.size_has {s:Sb} {x:Nat}:(t:Tm)->t.has x->(s x).size<=(t.sub s).size
 | .v n,h=>by cases h; exact aC _
 | .f c as,h=>by have:=ZA (s:=s) as h; show _<=qJ (qO s as)+1; omega
theorem ZA {s:Sb} {x:Nat}:(ts:List Tm)->jr x ts->(s x).size<=qJ (qO s ts)
 | [],h=>h.elim
 | t::ts,h=>by
  show _<=(t.sub s).size+qJ (qO s ts);rcases h with h | h
  ·have:=Tm.size_has (s:=s) t h; omega
  ·have:=ZA (s:=s) ts h; omega
end
mutual
theorem Tm.size_sub {s:Sb} {M:Nat}:(t:Tm)->(1<=M)->(∀ x,t.has x->(s x).size<=M)->(t.sub s).size<=t.size*M
 | .v n,_,h=>by have:=h n rfl; simpa[Tm.sub,Tm.size] using this
 | .f c as,hM,h=>by
  have:=Bb (s:=s) as hM h;show qJ (qO s as)+1<=(qJ as+1)*M;rw[bf]; omega
theorem Bb {s:Sb} {M:Nat}:(ts:List Tm)->(1<=M)->(∀ x,jr x ts->(s x).size<=M)->qJ (qO s ts)<=qJ ts*M
 | [],_,_=>by simp [qO,qJ]
 | t::ts,hM,h=>by
  have h1:=Tm.size_sub (s:=s) t hM fun x hx=>h x (.inl hx);have h2:=Bb (s:=s) ts hM fun x hx=>h x (.inr hx);show (t.sub s).size+qJ (qO s ts)<=(t.size+qJ ts)*M;rw[bf]; omega
end
mutual
theorem Tm.ok_sub {a0:List zg} {N M:Nat} {s:Sb}:(t:Tm)->t.ok a0 N->(∀ x,t.has x->(s x).ok a0 M)->(t.sub s).ok a0 M
 | .v n,_,h=>h n rfl
 | .f c as,ho,h=>⟨by rw[kQ]; exact ho.1,XS as ho.2 h⟩
theorem XS {a0:List zg} {N M:Nat} {s:Sb}:(ts:List Tm)->okR a0 N ts->(∀ x,jr x ts->(s x).ok a0 M)->okR a0 M (qO s ts)
 | [],_,_=>trivial
 | t::ts,ho,h=>⟨Tm.ok_sub t ho.1 fun x hx=>h x (.inl hx),XS ts ho.2 fun x hx=>h x (.inr hx)⟩
end
mutual
theorem Tm.ok_has {a0:List zg} {N x:Nat}:(t:Tm)->t.ok a0 N->t.has x->x<N
 | .v n,ho,h=>by cases h; exact ho
 | .f c as,ho,h=>wZ as ho.2 h
theorem wZ {a0:List zg} {N x:Nat}:(ts:List Tm)->okR a0 N ts->jr x ts->x<N
 | [],_,h=>h.elim
 | t::ts,ho,h=>h.elim (Tm.ok_has t ho.1) (wZ ts ho.2)
end
mutual
theorem Tm.ok_mono {a0:List zg} {N M:Nat} (hNM:N<=M):(t:Tm)->t.ok a0 N->t.ok a0 M
 | .v _n,ho=>Nat.lt_of_lt_of_le ho hNM
 | .f _c as,ho=>⟨ho.1,CU hNM as ho.2⟩
theorem CU {a0:List zg} {N M:Nat} (hNM:N<=M):(ts:List Tm)->okR a0 N ts->okR a0 M ts
 | [],_=>trivial
 | t::ts,ho=>⟨Tm.ok_mono hNM t ho.1,CU hNM ts ho.2⟩
end
mutual
theorem Tm.mem_codes {c:Int} (hc:c<0):(t:Tm)->(c∈t.codes↔t.has (-1 - c).toNat)
 | .v n=>by
  show c∈[-1 - (n:Int)]↔n=_;rw[bb];omega
 | .f d as=>by
  show c∈(d:Int)::za as↔jr _ as;rw[aG,← kv hc as];have:c≠(d:Int):=by omega
  simp [this]
theorem kv {c:Int} (hc:c<0):(ts:List Tm)->(c∈za ts↔jr (-1 - c).toNat ts)
 | []=>by simp [za,jr]
 | t::ts=>by
  show c∈t.codes++za ts↔_∨_;rw[aI,Tm.mem_codes hc t,kv hc ts]
end
theorem Fn {a0:List zg} {x:Int} {q:Nat} (h:uV a0 x=some q):(x<0 ∧ -24<=x∧q=0)∨∃ c:Nat,x=(c:Int):=by
 unfold uV at h;by_cases h0:x<0
 ·rw[decide_eq_true h0,cond_true] at h;by_cases h1 : -24<=x
  ·rw[decide_eq_true h1] at h; injection h with h; exact .inl ⟨h0,h1,h.symm⟩
  ·rw[decide_eq_false h1] at h; cases h
 ·exact .inr ⟨x.toNat,by omega⟩
theorem Rz {a0:List zg}:∀(n:Nat) (ps:List jI),(∀ p∈ps,p.length<=n)->(∀ p∈ps,sk a0 1 p=some p.length)->∃ ts:List Tm,okR a0 24 ts∧ps=ts.map Tm.codes:=by
 intro n
 induction n with
 | zero =>
  intro ps h hs;cases ps with
  | nil=>exact ⟨[],trivial,rfl⟩
  | cons p ps =>
   have h1:=h p (aj ..);have h2:=Kx (hs p (aj ..));omega
 | succ n ih =>
  intro ps
  induction ps with
  | nil=>intro _ _; exact ⟨[],trivial,rfl⟩
  | cons p ps ihp =>
   intro h hs;obtain⟨ts,h1,h2⟩:=ihp (fun q hq=>h q (ai _ hq)) (fun q hq=>hs q (ai _ hq));obtain⟨x,r,q,rfl,ha,hr⟩:=B4 (hs p (aj ..));have hl:=h _ (aj ..);rw[ak] at hl;rcases Fn ha with ⟨h3,h4,rfl⟩ | ⟨c,rfl⟩
   ·have hr0:r=[]:=by
     have:sk a0 0 r=some 0:=by cases r<;>rfl
     rw[this] at hr;exact List.length_eq_zero_iff.1 (by injection hr with hr; omega)
    subst hr0;refine ⟨.v (-1 - x).toNat::ts,⟨by show (-1 - x).toNat<24; omega,h1⟩,?_⟩
    rw[aK,← h2];show [x]::ps=[-1 - (((-1 - x).toNat:Nat):Int)]::ps;rw[show -1 - (((-1 - x).toNat:Nat):Int)=x from by omega]
   ·obtain⟨qs,hq,hql⟩:=zar q r hr;obtain⟨hf,hqs⟩:=QK r.length r qs (aC _) hq;have hlen:∀ p∈qs,p.length<=n:=fun p hp=>by
     have h5:p.length<=qs.flatten.length:=by
      obtain⟨l1,l2,rfl⟩:=dH hp;simp; omega
     rw[hf] at h5;omega
    obtain⟨us,h5,h6⟩:=ih qs hlen fun p hp=>(hqs p hp).2;refine ⟨.f c us::ts,⟨⟨by rw[ha,← hql,h6,aF],h5⟩,h1⟩,?_⟩
    rw[aK,← h2];show ((c:Int)::r)::ps=((c:Int)::za us)::ps;rw[X8,hO,← h6,hf]
theorem Sv {a0:List zg} {xs:List Int} {ps:List jI} (h:V1 a0 xs=some ps):∃ ts:List Tm,okR a0 24 ts∧ps=ts.map Tm.codes∧xs=za ts:=by
 obtain⟨h1,h2⟩:=QK xs.length xs ps (aC _) h;obtain⟨ts,h3,h4⟩:=Rz (a0:=a0) xs.length ps (fun p hp=>by
  have:p.length<=ps.flatten.length:=by
   obtain⟨l1,l2,rfl⟩:=dH hp;simp; omega
  rwa [h1] at this) fun p hp=>(h2 p hp).2
 exact ⟨ts,h3,h4,by rw[X8,hO,← h4,h1]⟩
theorem On {a0:List zg} {n:Nat} (h:n<24):uV a0 (-1 - (n:Int))=some 0:=by
 unfold uV;rw[decide_eq_true (show -1 - (n:Int)<0 by omega),cond_true,decide_eq_true (show -24 <= -1 - (n:Int) by omega)]
 rfl
mutual
theorem Tm.sk_codes {a0:List zg}:(t:Tm)->t.ok a0 24->sk a0 1 t.codes=some t.codes.length
 | .v n,h=>by
  show sk a0 1 [-1 - (n:Int)]=some 1;unfold sk;rw[On h];rfl
 | .f c as,h=>by
  have:=Ds as h.2;show sk a0 1 ((c:Int)::za as)=some (za as).length.succ;unfold sk;rw[h.1];simp only[aP,this,bD]
theorem Ds {a0:List zg}:(ts:List Tm)->okR a0 24 ts->sk a0 ts.length (za ts)=some (za ts).length
 | [],_=>rfl
 | t::ts,h=>by
  show sk a0 (ts.length+1) (t.codes++za ts)=_;rw[dj];exact TR (Tm.sk_codes t h.1) (Ds ts h.2)
end
theorem BM {a0:List zg}:{xs:List Int}->{n k:Nat}->(ys:List Int)->sk a0 n xs=some k->sk a0 n (xs++ys)=some k
 | [],0,k,ys,h=>by simp [sk] at h; subst h; cases ys<;>rfl
 | [],n+1,k,ys,h=>by simp [sk] at h
 | x::xs,0,k,ys,h=>by simp [sk] at h; subst h; rfl
 | x::xs,n+1,k,ys,h=>by
  unfold sk at h;cases ha:uV a0 x with
  | none=>rw[ha] at h; cases h
  | some m =>
   rw[ha] at h;simp only[Option.map_eq_some_iff] at h;obtain⟨j,hj,rfl⟩:=h;rw[List.cons_append];unfold sk;rw[ha];simp only[BM ys hj,bD]
theorem yf {a0:List zg}:(ts:List Tm)->okR a0 24 ts->V1 a0 (za ts)=some (ts.map Tm.codes)
 | [],_=>rfl
 | t::ts,h=>by
  have hp:=t.size_pos;have hl:=t.codes_len;have h1:=Tm.sk_codes t h.1;show V1 a0 (t.codes++za ts)=_;have hne:t.codes++za ts≠[]:=fun e=>by
   have:=congrArg af e;rw[am,bm] at this;omega
  rw[rj hne,BM _ h1];simp only[dy,List.take_left,yf ts h.2,bD,aK]
def Tm.up (d:Nat) (t:Tm):Tm:=t.sub fun n=>.v (n+d)
theorem Tm.up_zero (t:Tm):t.up 0=t:=t.sub_v
theorem Tm.up_size (d:Nat) (t:Tm):(t.up d).size=t.size:=by
 have h1:(t.up d).size<=t.size*1:=Tm.size_sub t (aC _) fun x _=>aC _;have h2:((t.up d).sub fun n=>.v (n - d)).size<=(t.up d).size*1:=Tm.size_sub _ (aC _) fun x _=>aC _;have h3:(t.up d).sub (fun n=>.v (n - d))=t:=by
  unfold Tm.up;rw[Tm.sub_sub,show (fun x=>(Tm.v (x+d)).sub fun n=>.v (n - d))=Tm.v from by
   funext x
   show Tm.v (x+d - d)=_;rw[Nat.add_sub_cancel],Tm.sub_v]
 rw[h3] at h2;omega
theorem Tm.up_ok {a0:List zg} {N d:Nat} {t:Tm} (h:t.ok a0 N):(t.up d).ok a0 (N+d):=Tm.ok_sub t h fun x hx=>by
 have:=Tm.ok_has t h hx;show x+d<N+d;omega
theorem Tm.up_has {d y:Nat} {t:Tm}:(t.up d).has y↔∃ x,t.has x∧x+d=y:=Tm.has_sub t
abbrev Bd:=Nat->Option Tm
def SolB (θ:Sb) (B:Bd):Prop:=∀ x t,B x=some t->θ x=t.sub θ
def Sol (θ:Sb) (E:List (Tm×Tm)):Prop:=∀ p∈E,p.1.sub θ=p.2.sub θ
theorem Sol.nil {θ:Sb}:Sol θ []:=fun _ h=>nomatch h
theorem Sol.cons {θ:Sb} {p:Tm×Tm} {E:List (Tm×Tm)}:Sol θ (p::E)↔p.1.sub θ=p.2.sub θ∧Sol θ E:=by simp [Sol]
theorem Sol.append {θ:Sb} {E F:List (Tm×Tm)}:Sol θ (E++F)↔Sol θ E∧Sol θ F:=by
 simp only[Sol,aI];exact ⟨fun h=>⟨fun p hp=>h p (.inl hp),fun p hp=>h p (.inr hp)⟩,fun h p hp=>hp.elim (h.1 p) (h.2 p)⟩
theorem Sol.zip {θ:Sb}:{ts us:List Tm}->ts.length=us.length->(Sol θ (ts.zip us)↔qO θ ts=qO θ us)
 | [],[],_=>by simp [Sol,qO]
 | [],_::_,h=>by simp at h
 | _::_,[],h=>by simp at h
 | t::ts,u::us,h=>by
  rw[el,Sol.cons,Sol.zip (by simpa using h)]
  simp [qO]
structure Good (B:Bd) (σ:Sb):Prop where
 free:∀ x,B x=none->σ x = .v x
 bound:∀ x t,B x=some t->σ x=t.sub σ
 down:∀ x y,B x=some (.v y)->y<x
theorem Good.empty:Good (fun _=>none) .v:=⟨fun _ _=>rfl,fun _ _ h=>(nomatch h),fun _ _ h=>(nomatch h)⟩
theorem Good.ind {B:Bd} {σ:Sb} (h:Good B σ) {P:Nat->Prop} (hf:∀ x,B x=none->P x) (hb:∀ x t,B x=some t->(∀ y,t.has y->P y)->P x):∀ x,P x:=by
 have key:∀ n x,(σ x).size=n->P x:=by
  intro n
  induction n using cU with
  | _ n ihn =>
   intro x
   induction x using cU with
   | _ x ihx =>
    intro hn;cases hx:B x with
    | none=>exact hf x hx
    | some t =>
     refine hb x t hx fun y hy => ?_;have hs:=h.bound x t hx;cases t with
     | v z =>
      have hz:z=y:=hy;subst hz;exact ihx z (h.down x z hx) (by rw[← hn,hs]; rfl)
     | f c as =>
      have:=ZA (s:=σ) as hy;refine ihn (σ y).size ?_ y rfl;rw[← hn,hs];show _<qJ (qO σ as)+1;omega
 exact fun x=>key _ x rfl
theorem Good.fac {B:Bd} {σ θ:Sb} (h:Good B σ) (hθ:SolB θ B):∀ x,(σ x).sub θ=θ x:=by
 refine h.ind (fun x hx=>by rw[h.free x hx]; rfl) fun x t hx ih => ?_
 rw[h.bound x t hx,Tm.sub_sub,hθ x t hx];exact Tm.sub_ext t fun y hy=>ih y hy
theorem Good.facT {B:Bd} {σ θ:Sb} (h:Good B σ) (hθ:SolB θ B) (t:Tm):(t.sub σ).sub θ=t.sub θ:=by
 rw[Tm.sub_sub];exact Tm.sub_ext t fun y _=>h.fac hθ y
theorem Good.root {B:Bd} {σ:Sb} (h:Good B σ):∀ x y,(σ x).has y->B y=none:=by
 refine h.ind (fun x hx y hy => ?_) fun x t hx ih y hy => ?_
 ·rw[h.free x hx] at hy;have hy:x=y:=hy;exact hy▸hx
 ·rw[h.bound x t hx] at hy;obtain⟨z,h1,h2⟩:=(Tm.has_sub t).1 hy;exact ih z h1 y h2
theorem Good.idem {B:Bd} {σ:Sb} (h:Good B σ) (t:Tm):(t.sub σ).sub σ=t.sub σ:=h.facT h.bound t
theorem Good.le {B:Bd} {σ:Sb} (h:Good B σ):∀ x y,σ x = .v y->y<=x:=by
 refine h.ind (fun x hx y hy => ?_) fun x t hx ih y hy => ?_
 ·rw[h.free x hx] at hy; injection hy with hy; omega
 ·rw[h.bound x t hx] at hy;cases t with
  | v z =>
   have h1:=h.down x z hx;have h2:=ih z rfl y hy;omega
  | f c as=>cases hy
theorem Good.moved {B:Bd} {σ:Sb} (h:Good B σ) {x:Nat}:B x≠none↔σ x ≠ .v x:=by
 constructor
 ·intro hb he;cases hx:B x with
  | none=>exact hb hx
  | some t =>
   have h1:=h.bound x t hx;rw[he] at h1;cases t with
   | v z =>
    have h2:=h.down x z hx;have h3:=h.le z x h1.symm;omega
   | f c as=>cases h1
 ·intro hs hb;exact hs (h.free x hb)
theorem Good.unique {B B':Bd} {σ σ':Sb} (h:Good B σ) (h':Good B' σ') (hs:∀ θ,SolB θ B↔SolB θ B'):σ=σ':=by
 have f1:∀ x,(σ x).sub σ'=σ' x:=h.fac ((hs σ').2 h'.bound);have f2:∀ x,(σ' x).sub σ=σ x:=h'.fac ((hs σ).1 h.bound);have root:∀ y,B y=none->σ' y = .v y:=by
  intro y hy;have h1:(σ' y).sub σ = .v y:=by rw[f2,h.free y hy]
  cases hz:σ' y with
  | f c as=>rw[hz] at h1; cases h1
  | v z =>
   rw[hz] at h1;have h2:=h'.le y z hz;have h3:=h.le z y h1;have:z=y:=by omega
   rw[this]
 funext x
 rw[← f1 x]
 conv=>lhs; rw[← Tm.sub_v (σ x)]
 exact Tm.sub_ext _ fun y hy=>(root y (h.root x y hy)).symm
def one (x:Nat) (u:Tm):Sb:=fun y=>if y=x then u else .v y
def PH (B:Bd) (x:Nat) (t:Tm):Bd:=fun y=>if y=x then some t else B y
theorem re (B:Bd) (x:Nat) (t:Tm):PH B x t x=some t:=by simp [PH]
theorem Yb (B:Bd) {x y:Nat} (t:Tm) (h:y≠x):PH B x t y=B y:=by simp [PH,h]
theorem SolB.upd {B:Bd} {x:Nat} {t:Tm} {θ:Sb} (hx:B x=none):SolB θ (PH B x t)↔SolB θ B∧θ x=t.sub θ:=by
 constructor
 ·intro h;refine ⟨fun y u hy=>h y u ?_,h x t (re ..)⟩;rw[Yb _ _ fun e=>by rw[e,hx] at hy; cases hy]
  exact hy
 ·rintro⟨h1,h2⟩ y u hy;by_cases he:y=x
  ·subst he;rw[re] at hy;injection hy with hy;subst hy;exact h2
  ·rw[Yb _ _ he] at hy;exact h1 y u hy
theorem U9 {x:Nat} {u t:Tm} (h:¬ t.has x):t.sub (one x u)=t:=by
 conv=>rhs; rw[← Tm.sub_v t]
 refine Tm.sub_ext t fun y hy => ?_;have hne:y≠x:=fun e=>h (e▸hy);unfold one;rw[if_neg hne]
theorem Good.bind {B:Bd} {σ:Sb} (h:Good B σ) {x:Nat} {t:Tm} (hx:B x=none) (hn:¬(t.sub σ).has x) (hd:∀ y,t = .v y->y<x):Good (PH B x t) fun y=>(σ y).sub (one x (t.sub σ)) where
 free:=fun y hy=>by
  have hne:y≠x:=fun e=>by rw[e,re] at hy; cases hy
  rw[Yb _ _ hne] at hy;rw[h.free y hy];show one x _ y=_;simp [one,hne]
 bound:=fun y u hy=>by
  by_cases he:y=x
  ·subst he;rw[re] at hy;injection hy with hy;subst hy;rw[h.free y hx,← Tm.sub_sub,U9 hn];show one y _ y=_;simp [one]
  ·rw[Yb _ _ he] at hy;rw[h.bound y u hy,Tm.sub_sub]
 down:=fun y z hy=>by
  by_cases he:y=x
  ·subst he;rw[re] at hy;injection hy with hy;exact hd z hy
  ·rw[Yb _ _ he] at hy;exact h.down y z hy
theorem Good.occurs {B:Bd} {σ θ:Sb} (h:Good B σ) {x c:Nat} {as:List Tm} (hh:((Tm.f c as).sub σ).has x) (hθ:SolB θ B) (he:θ x=(Tm.f c as).sub θ):False:=by
 have h1:=h.facT hθ (.f c as);rw[← he] at h1;have h2:=ZA (s:=θ) (qO σ as) hh;have h3:(((Tm.f c as).sub σ).sub θ).size=(θ x).size:=by rw[h1]
 have h4:qJ (qO θ (qO σ as))+1=(θ x).size:=h3;omega
def VY (B:Bd):Prop:=∀ x t,B x=some t->x<48∧t.size<=48
def Good.less (σ:Sb) (y x:Nat):Bool:=decide ((σ y).size<(σ x).size)||(decide ((σ y).size=(σ x).size)&&decide (y<x))
def Good.rank (σ:Sb) (x:Nat):Nat:=(aL 48).countP fun y=>Good.less σ y x
theorem Kt {α:Type} {p q:α->Bool} {a:α}:{l:List α}->a∈l->(∀ x∈l,p x=true->q x=true)->p a=false->q a=true->l.countP p<l.countP q
 | [],h,_,_,_=>nomatch h
 | b::l,hm,hi,hp,hq=>by
  have h2:l.countP p<=l.countP q:=List.countP_mono_left fun x hx h=>hi x (ai _ hx) h;rcases aG.1 hm with rfl | hm
  ·rw[en (by simp [hp]),dz hq]
   omega
  ·have h1:=Kt hm (fun x hx=>hi x (ai _ hx)) hp hq;cases hb:p b with
   | true=>rw[dz hb,dz (hi b (aj ..) hb)]; omega
   | false =>
    rw[en (by simp [hb])]
    cases hc:q b with
    | true=>rw[dz hc]; omega
    | false=>rw[en (by simp [hc])]; exact h1
theorem Good.small {B:Bd} {σ:Sb} (h:Good B σ) (hb:VY B):∀ x,(σ x).size<=48 ^ 49:=by
 have key:∀ x,B x≠none->(σ x).size<=48 ^ (Good.rank σ x+1):=by
  refine h.ind (fun x hx hn=>absurd hx hn) fun x t hx ih _ => ?_;obtain⟨hx48,ht⟩:=hb x t hx;rw[h.bound x t hx];have h1:1<=48 ^ Good.rank σ x:=gC (by omega)
  refine aT (Tm.size_sub t h1 fun y hy => ?_) ?_
  ·cases hy0:B y with
   | none=>rw[h.free y hy0]; exact h1
   | some u =>
    refine aT (ih y hy (by rw[hy0]; simp)) (eJ (by omega) ?_)
    have hlt:Good.less σ y x=true:=by
     unfold Good.less;have hs:=h.bound x t hx;cases t with
     | v z =>
      have hz:z=y:=hy;subst hz;have h2:=h.down x z hx;have h3:(σ z).size=(σ x).size:=by rw[hs]; rfl
      simp [h3,h2]
     | f c as =>
      have h2:=ZA (s:=σ) as hy;have h3:(σ x).size=qJ (qO σ as)+1:=by rw[hs]; rfl
      rw[decide_eq_true (show (σ y).size<(σ x).size by omega)]
      rfl
    refine Kt (a:=y) (bZ.2 (hb y u hy0).1) (fun z _ hz => ?_) (by simp [Good.less]) hlt
    simp only[Good.less,b9,ay,decide_eq_true_eq] at hz hlt ⊢;omega
  ·rw[gh,gj];exact dt _ ht
 intro x;by_cases hx:B x=none
 ·rw[h.free x hx];exact gC (by omega)
 ·refine aT (key x hx) (eJ (by omega) ?_)
  have:Good.rank σ x<=(aL 48).length:=ez;rw[ex] at this;omega
theorem Good.small_sub {B:Bd} {σ:Sb} (h:Good B σ) (hb:VY B) (t:Tm):(t.sub σ).size<=t.size*48 ^ 49 :=
 Tm.size_sub t (gC (by omega)) fun x _=>h.small hb x
def Out (B:Bd) (E:List (Tm×Tm)):Option Bd->Prop
 | none=>∀ θ,SolB θ B->Sol θ E->False
 | some B'=>(∃ σ,Good B' σ)∧VY B'∧∀ θ,SolB θ B'↔SolB θ B∧Sol θ E
theorem Out.via {B B1:Bd} {E E1:List (Tm×Tm)} (h:∀ θ,(SolB θ B1∧Sol θ E1)↔(SolB θ B∧Sol θ E)) {o:Option Bd} (ho:Out B1 E1 o):Out B E o:=by
 cases o with
 | none=>exact fun θ h1 h2=>ho θ ((h θ).2 ⟨h1,h2⟩).1 ((h θ).2 ⟨h1,h2⟩).2
 | some B'=>exact ⟨ho.1,ho.2.1,fun θ=>(ho.2.2 θ).trans (h θ)⟩
theorem Out.done {B:Bd} {σ:Sb} (h:Good B σ) (hs:VY B):Out B [] (some B):=⟨⟨σ,h⟩,hs,fun _=>⟨fun h=>⟨h,Sol.nil⟩,fun h=>h.1⟩⟩
theorem zea {θ:Sb} {c d:Nat} {as bs:List Tm}:(Tm.f c as).sub θ=(Tm.f d bs).sub θ↔c=d∧qO θ as=qO θ bs:=by
 simp [Tm.sub]
abbrev PI:=List Int×Int
abbrev PO:=Option jI×Int
def Pc (a0:List zg) (N:Nat) (p:List Int) (d:Int) (t:Tm):Prop:=∃ u n,Tm.ok a0 24 u∧p=u.codes∧d=((n:Nat):Int)∧n<=N∧t=u.up n∧p.length<=48
def Pr (a0:List zg) (N:Nat) (p:List Int) (d:Int) (ts:List Tm):Prop:=∃ us n,okR a0 24 us∧p=za us∧d=((n:Nat):Int)∧n<=N∧ts=us.map (Tm.up n)∧p.length<=48
theorem Pc.size {a0:List zg} {N:Nat} {p:List Int} {d:Int} {t:Tm} (h:Pc a0 N p d t):t.size=p.length∧t.size<=48:=by
 obtain⟨u,n,h1,rfl,h2,h3,rfl,h4⟩:=h;rw[Tm.up_size,Tm.codes_len];rw[Tm.codes_len] at h4;exact ⟨rfl,h4⟩
theorem Pc.lt {a0:List zg} {N:Nat} (hN:N<=24) {p:List Int} {d:Int} {t:Tm} (h:Pc a0 N p d t) {x:Nat} (hx:t.has x):x<48:=by
 obtain⟨u,n,h1,rfl,h2,h3,rfl,h4⟩:=h;have:=Tm.ok_has _ (Tm.up_ok (d:=n) h1) hx;omega
theorem Pc.cases {a0:List zg} {N:Nat} {p:List Int} {d:Int} {t:Tm} (h:Pc a0 N p d t) :
  (∃ k n:Nat,p=[-1 - (k:Int)]∧d=(n:Int)∧k<24∧n<=N∧t = .v (k+n))∨∃ c r ts,p=((c:Nat):Int)::r∧t = .f c ts∧uV a0 (c:Int)=some ts.length∧Pr a0 N r d ts:=by
 obtain⟨u,n,h1,rfl,h2,h3,rfl,h4⟩:=h;cases u with
 | v k=>exact .inl ⟨k,n,rfl,h2,h1,h3,rfl⟩
 | f c as =>
  have h4:(za as).length+1<=48:=h4;refine .inr ⟨c,za as,as.map (Tm.up n),rfl,?_,by rw[aF]; exact h1.1,as,n,h1.2,rfl,h2,h3,rfl,by omega⟩
  show Tm.f c (qO _ as)=_;rw[Ye];rfl
def Pq (a0:List zg) (N:Nat) (q:List Int×Int×List Int×Int) (e:Tm×Tm):Prop:=Pc a0 N q.1 q.2.1 e.1∧Pc a0 N q.2.2.1 q.2.2.2 e.2
def PqL (a0:List zg) (N:Nat):List (List Int×Int×List Int×Int)->List (Tm×Tm)->Prop
 | [],es=>es=[]
 | q::qs,es=>∃ e es',es=e::es'∧Pq a0 N q e∧PqL a0 N qs es'
theorem PqL.append {a0:List zg} {N:Nat}:{qs:List (List Int×Int×List Int×Int)}->{es:List (Tm×Tm)}->{qs':List (List Int×Int×List Int×Int)}->{es':List (Tm×Tm)}->PqL a0 N qs es->PqL a0 N qs' es'->PqL a0 N (qs++qs') (es++es')
 | [],_,_,_,h,h'=>by have h:_=[]:=h; subst h; exact h'
 | q::qs,_,_,_,h,h'=>by
  obtain⟨e,es,rfl,h1,h2⟩:=h;exact ⟨e,_,rfl,h1,PqL.append h2 h'⟩
theorem PqL.length {a0:List zg} {N:Nat}:{qs:List (List Int×Int×List Int×Int)}->{es:List (Tm×Tm)}->PqL a0 N qs es->es.length=qs.length
 | [],_,h=>by have h:_=[]:=h; subst h; rfl
 | q::qs,_,h=>by
  obtain⟨e,es,rfl,h1,h2⟩:=h;simp [PqL.length h2]
theorem PqL.split {a0:List zg} {N:Nat}:{qs:List (List Int×Int×List Int×Int)}->{qs':List (List Int×Int×List Int×Int)}->{es:List (Tm×Tm)}->PqL a0 N (qs++qs') es->∃ e1 e2,es=e1++e2∧PqL a0 N qs e1∧PqL a0 N qs' e2
 | [],_,es,h=>⟨[],es,rfl,rfl,h⟩
 | q::qs,_,_,h=>by
  obtain⟨e,es,rfl,h1,h2⟩:=h;obtain⟨e1,e2,rfl,h3,h4⟩:=PqL.split h2;exact ⟨e::e1,e2,rfl,⟨e,e1,rfl,h1,h3⟩,h4⟩
def PcO (a0:List zg) (N:Nat) (e:PO) (o:Option Tm):Prop:=match e.1 with
 | none=>o=none
 | some p=>∃ t,o=some t∧Pc a0 N p e.2 t
structure RepT (a0:List zg) (N:Nat) (to:List PO) (B:Bd):Prop where
 len:to.length=48
 at_:∀ x e,to[x]? = some e->PcO a0 N e (B x)
 out:∀ x,48<=x->B x=none
theorem RepT.small {a0:List zg} {N:Nat} {to:List PO} {B:Bd} (h:RepT a0 N to B):VY B:=by
 intro x t hx;have hlt:x<48:=by
  rcases bG x 48 with h' | h'
  ·exact h'
  ·rw[h.out x h'] at hx; cases hx
 refine ⟨hlt,?_⟩;have hl:x<to.length:=by rw[h.len]; exact hlt
 have hg:to[x]? = some to[x]:=al hl;have:=h.at_ x _ hg;unfold PcO at this;split at this
 ·rw[hx] at this; cases this
 ·obtain⟨u,h1,h2⟩:=this;rw[hx] at h1; injection h1 with h1; subst h1;exact h2.size.2
theorem RepT.get {a0:List zg} {N:Nat} {to:List PO} {B:Bd} (h:RepT a0 N to B) {x:Nat} (hx:x<48):∃ e,to[x]? = some e∧PcO a0 N e (B x):=by
 have hl:x<to.length:=by rw[h.len]; exact hx
 have hg:to[x]? = some to[x]:=al hl;exact ⟨_,hg,h.at_ x _ hg⟩
theorem RepT.set {a0:List zg} {N:Nat} {to:List PO} {B:Bd} (h:RepT a0 N to B) {x:Nat} (hx:x<48) {p:List Int} {d:Int} {t:Tm} (hp:Pc a0 N p d t):RepT a0 N (to.set x (some p,d)) (PH B x t) where
 len:=by rw[bY]; exact h.len
 at_:=fun y e hy=>by
  by_cases he:y=x
  ·subst he;rw[bU (by rw[h.len]; exact hx)] at hy
   injection hy with hy;subst hy;rw[re];exact ⟨t,rfl,hp⟩
  ·rw[cq (dD he)] at hy;rw[Yb _ _ he];exact h.at_ y e hy
 out:=fun y hy=>by
  rw[Yb _ _ (by omega)]
  exact h.out y hy
theorem WE {N:Nat} (hN:N<=24) {k n:Nat} (hk:k<24) (hn:n<=N) (p:List Int):yT p (n:Int) (-1 - (k:Int))=some ((k+n:Nat):Int):=by
 unfold yT;rw[qx (by omega) (by omega),aa]
 congr 1
 rw[zo]<;>omega
def Xf:Tm->Nat
 | .v x=>x+2
 | .f _ _=>1
theorem RA {a0:List zg} {N:Nat} (hN:N<=24) {to:List PO} {B:Bd} {σ:Sb} (hT:RepT a0 N to B) (hG:Good B σ):∀(m k:Nat) (p:List Int) (d:Int) (t:Tm) (z:Int),Xf t<=m->m<=k->Pc a0 N p d t ->
  ∃ p' d' t',lp vu k (a0,to,p,d,z)=some (p',d')∧Pc a0 N p' d' t'∧(∀ θ,SolB θ B->t.sub θ=t'.sub θ)∧∀ y,t' = .v y->B y=none:=by
 intro m
 induction m with
 | zero=>intro k p d t z hm; cases t<;>simp [Xf] at hm
 | succ m ih =>
  intro k p d t z hm hk hp;obtain⟨k,rfl⟩:∃ k',k=k'+1:=⟨k - 1,by omega⟩
  rw[zv];have key:=fun p d t (h1:Xf t<=m) h2=>ih k p d t z h1 (by omega) h2
  generalize lp vu k=rec at key ⊢;unfold vu;rcases hp.cases with ⟨x,n,rfl,rfl,hx,hn,rfl⟩ | ⟨c,r,ts,rfl,rfl,hc,hr⟩
  ·simp only[z6,aB,aa];rw[decide_eq_true (show -1 - (x:Int)<0 by omega),cond_true,WE hN hx hn,aa,ym (by omega),aa]
   obtain⟨e,he,hpe⟩:=hT.get (x:=x+n) (by omega)
   rw[he,aa];unfold PcO at hpe;split at hpe
   ·rename_i h1;rw[h1];exact ⟨_,_,_,rfl,hp,fun θ _=>rfl,fun y hy=>by injection hy with hy; rw[← hy]; exact hpe⟩
   ·rename_i q h1;obtain⟨u,hu,hq⟩:=hpe;rw[h1];simp only[cw,cond_false,bj];obtain⟨p',d',t',h2,h3,h4,h5⟩:=key q e.2 u (by
     cases u with
     | v y=>have:=hG.down _ y hu; simp only[Xf] at hm ⊢; omega
     | f c as=>simp only[Xf] at hm ⊢; omega) hq
    exact ⟨p',d',t',h2,h3,fun θ hθ=>(hθ _ u hu).trans (h4 θ hθ),h5⟩
  ·simp only[z6,aB,aa];rw[decide_eq_false (show ¬(c:Int)<0 by omega),cond_false]
   exact ⟨_,_,_,rfl,hp,fun θ _=>rfl,fun y hy=>by cases hy⟩
theorem DB {a0:List zg} {N:Nat} (hN:N<=24) {to:List PO} {B:Bd} {σ:Sb} (hT:RepT a0 N to B) (hG:Good B σ) {p:List Int} {d:Int} {t:Tm} (hp:Pc a0 N p d t) :
  ∃ p' d' t',vl p d a0 to=some (p',d')∧Pc a0 N p' d' t'∧(∀ θ,SolB θ B->t.sub θ=t'.sub θ)∧∀ y,t' = .v y->B y=none:=by
 obtain⟨p',d',t',h1,h2⟩:=RA hN hT hG (Xf t) ze p d t 0 (aC _) (by
  cases t with
  | v x=>have:=hp.lt hN (x:=x) rfl; simp only[Xf]; unfold ze; omega
  | f c as=>simp only[Xf]; unfold ze; omega) hp
 refine ⟨p',d',t',?_,h2⟩;unfold vl;rw[h1];rfl
section
variable {a0:List zg} {N:Nat} {to:List PO} {B:Bd} {σ:Sb} {v:Nat}
def DoneV (B:Bd) (v:Nat) (seen:List Bool) (y:Nat):Prop:=y≠v∧(B y≠none->seen[y]? = some true)
def PcL (a0:List zg) (N:Nat):List PI->List Tm->Prop
 | [],ts=>ts=[]
 | p::ps,ts=>∃ t ts',ts=t::ts'∧Pc a0 N p.1 p.2 t∧PcL a0 N ps ts'
theorem PcL.append:{ps:List PI}->{ts:List Tm}->{ps':List PI}->{ts':List Tm}->PcL a0 N ps ts->PcL a0 N ps' ts'->PcL a0 N (ps++ps') (ts++ts')
 | [],_,_,_,h,h'=>by have h:_=[]:=h; subst h; exact h'
 | q::qs,_,_,_,h,h'=>by
  obtain⟨e,es,rfl,h1,h2⟩:=h;exact ⟨e,_,rfl,h1,PcL.append h2 h'⟩
theorem PcL.split:{ps:List PI}->{ps':List PI}->{ts:List Tm}->PcL a0 N (ps++ps') ts->∃ t1 t2,ts=t1++t2∧PcL a0 N ps t1∧PcL a0 N ps' t2
 | [],_,ts,h=>⟨[],ts,rfl,rfl,h⟩
 | q::qs,_,_,h=>by
  obtain⟨e,es,rfl,h1,h2⟩:=h;obtain⟨e1,e2,rfl,h3,h4⟩:=PcL.split h2;exact ⟨e::e1,e2,rfl,⟨e,e1,rfl,h1,h3⟩,h4⟩
theorem PcL.length:{ps:List PI}->{ts:List Tm}->PcL a0 N ps ts->ts.length=ps.length
 | [],_,h=>by have h:_=[]:=h; subst h; rfl
 | q::qs,_,h=>by
  obtain⟨e,es,rfl,h1,h2⟩:=h;simp [PcL.length h2]
def Qw (seen:List Bool):Nat:=seen.countP fun b => !b
theorem F6 {seen:List Bool} {x:Nat} (h:seen[x]? = some false):Qw (seen.set x true)+1=Qw seen:=by
 unfold Qw;obtain⟨hx,he⟩:=aw.1 h;have h1:=bW x seen;have h2:seen.drop x=false::seen.drop (x+1):=by rw[aY hx,he]
 have h3:seen.set x true=seen.take x++true::seen.drop (x+1):=by rw[eo,if_pos hx]
 conv=>rhs; rw[← h1,h2]
 rw[h3];simp [f7];omega
theorem Jf (hN:N<=24) (hT:RepT a0 N to B) {n:Nat} (hn:n<=N) (p0:List Int):∀(es:List Int) (seen:List Bool) (todo:List PI) (ts:List Tm),(∀ c∈es,-24<=c)->seen.length=48->todo.length+Qw seen<=1000->PcL a0 N todo ts ->
  (zl (v:Int) to p0 (n:Int) es seen todo=some (.inr true)∧∃ c∈es,c<0∧(-1 - c).toNat+n=v) ∨
  ∃ seen' more us,zl (v:Int) to p0 (n:Int) es seen todo=some (.inl (seen',todo++more))∧seen'.length=48∧more.length+Qw seen'=Qw seen∧PcL a0 N more us ∧
   (∀ y:Nat,seen[y]? = some true->seen'[y]? = some true)∧(∀ c∈es,c<0->DoneV B v seen' ((-1 - c).toNat+n))∧(∀ y:Nat,seen'[y]? = some true->seen[y]? = some true∨∃ u,B y=some u∧u∈us) ∧
   (∀ u∈us,∃ c∈es,c<0∧B ((-1 - c).toNat+n)=some u)
 | [],seen,todo,ts,_,hs,_,_=>.inr ⟨seen,[],[],by rw[bO]; rfl,hs,by simp,rfl,fun _ h=>h,fun c h=>(nomatch h),fun y h=>.inl h,fun u h=>(nomatch h)⟩
 | e::es,seen,todo,ts,hc,hs,hl,hp=>by
  have he:=hc e (aj ..);have hc':∀ c∈es,-24<=c:=fun c h=>hc c (ai _ h)
  -- the variable is passed over
  have pass:∀ f:List Bool->List PI->Option ((List Bool×List PI)⊕Bool),f seen todo=zl (v:Int) to p0 (n:Int) es seen todo->(e<0->DoneV B v seen ((-1 - e).toNat+n)) ->
    ((f seen todo=some (.inr true)∧∃ c∈e::es,c<0∧(-1 - c).toNat+n=v) ∨
    ∃ seen' more us,f seen todo=some (.inl (seen',todo++more))∧seen'.length=48∧more.length+Qw seen'=Qw seen∧PcL a0 N more us ∧
     (∀ y:Nat,seen[y]? = some true->seen'[y]? = some true)∧(∀ c∈e::es,c<0->DoneV B v seen' ((-1 - c).toNat+n))∧(∀ y:Nat,seen'[y]? = some true->seen[y]? = some true∨∃ u,B y=some u∧u∈us) ∧
     (∀ u∈us,∃ c∈e::es,c<0∧B ((-1 - c).toNat+n)=some u)):=by
   intro f hf hd;rw[hf];rcases Jf hN hT hn p0 es seen todo ts hc' hs hl hp with ⟨h1,c,h2,h3⟩ | ⟨seen',more,us,h1,h2,h3,h4,h5,h6,h7,h8⟩
   ·exact .inl ⟨h1,c,ai _ h2,h3⟩
   ·refine .inr ⟨seen',more,us,h1,h2,h3,h4,h5,fun c hcm hc0 => ?_,h7,fun u hu => ?_⟩
    ·rcases aG.1 hcm with rfl | hcm
     ·exact ⟨(hd hc0).1,fun hb=>h5 _ ((hd hc0).2 hb)⟩
     ·exact h6 c hcm hc0
    ·obtain⟨c,h9,h10⟩:=h8 u hu;exact ⟨c,ai _ h9,h10⟩
  unfold zl;by_cases h0:e≥0
  ·rw[decide_eq_true h0,cond_true];exact pass (fun seen todo=>zl (v:Int) to p0 (n:Int) es seen todo) rfl fun h=>by omega
  ·rw[decide_eq_false h0,cond_false];obtain⟨k,hk,rfl⟩:∃ k:Nat,k<24∧e = -1 - (k:Int):=⟨(-1 - e).toNat,by omega,by omega⟩
   have hk2:(-1 - (-1 - (k:Int))).toNat=k:=by omega
   rw[WE hN hk hn,aa];by_cases hv:k+n=v
   ·rw[hv,show (((v:Nat):Int)==(v:Int))=true from by simp,cond_true]
    exact .inl ⟨rfl,_,aj ..,by omega,by rw[hk2]; exact hv⟩
   ·rw[show (((k+n:Nat):Int)==(v:Int))=false from by simp; omega,cond_false,ym (show k+n<48 by omega),aa]
    obtain⟨b,hb⟩:∃ b,seen[k+n]? = some b:=⟨seen[k+n]'(by omega),al (by omega)⟩
    rw[hb,aa];obtain⟨q,hq,hpq⟩:=hT.get (x:=k+n) (by omega)
    cases b with
    | true =>
     simp only[az,cond_false];exact pass (fun seen todo=>zl (v:Int) to p0 (n:Int) es seen todo) rfl fun _=>by rw[hk2]; exact ⟨hv,fun _=>hb⟩
    | false =>
     simp only[bE,cond_true,aa,hq];unfold PcO at hpq;split at hpq
     ·rename_i h1;rw[h1];simp only[c5,az,cond_false];exact pass (fun seen todo=>zl (v:Int) to p0 (n:Int) es seen todo) rfl fun _=>by rw[hk2]; exact ⟨hv,fun hn=>absurd hpq hn⟩
     ·rename_i q1 h1;obtain⟨u,hu,hpu⟩:=hpq;rw[h1];simp only[cw,bE,cond_true,bj,hb,aa];have hun:=F6 hb;rw[zp (show (todo.length+([(q1,q.2)]:List PI).length)*32<=140737488351232 by simp; omega),cond_true]
      have hset:(seen.set (k+n) true)[k+n]? = some true:=bU (by omega)
      have hmono:∀ y:Nat,seen[y]? = some true->(seen.set (k+n) true)[y]? = some true:=fun y hy=>by
       by_cases hyk:y=k+n
       ·subst hyk; exact hset
       ·rw[cq (dD hyk)]; exact hy
      have hbk:∀ y:Nat,(seen.set (k+n) true)[y]? = some true->seen[y]? = some true∨y=k+n:=fun y hy=>by
       by_cases hyk:y=k+n
       ·exact .inr hyk
       ·rw[cq (dD hyk)] at hy; exact .inl hy
      rcases Jf hN hT hn p0 es (seen.set (k+n) true) (todo++[(q1,q.2)]) (ts++[u]) hc' (by rw[bY]; exact hs) (by simp; omega) (hp.append ⟨u,[],rfl,hpu,rfl⟩) with ⟨h2,c,h3,h4⟩ | ⟨seen',more,us,h2,h3,h4,h5,h6,h7,h8,h9⟩
      ·exact .inl ⟨h2,c,ai _ h3,h4⟩
      ·refine .inr ⟨seen',(q1,q.2)::more,u::us,by rw[h2,aW]; rfl,h3,by simp; omega,⟨u,us,rfl,hpu,h5⟩,fun y hy=>h6 y (hmono y hy),fun c hcm hc0 => ?_,fun y hy => ?_,fun w hw => ?_⟩
       ·rcases aG.1 hcm with rfl | hcm
        ·rw[hk2]; exact ⟨hv,fun _=>h6 _ hset⟩
        ·exact h7 c hcm hc0
       ·rcases h8 y hy with h10 | ⟨w,h10,h11⟩
        ·rcases hbk y h10 with h12 | rfl
         ·exact .inl h12
         ·exact .inr ⟨u,hu,aj ..⟩
        ·exact .inr ⟨w,h10,ai _ h11⟩
       ·rcases aG.1 hw with rfl | hw
        ·exact ⟨_,aj ..,by omega,by rw[hk2]; exact hu⟩
        ·obtain⟨c,h10,h11⟩:=h9 w hw;exact ⟨c,ai _ h10,h11⟩
theorem Pc.vars {p:List Int} {d:Int} {t:Tm} (h:Pc a0 N p d t):∃ n:Nat,d=(n:Int)∧n<=N∧(∀ c∈p,-24<=c)∧∀ y,t.has y↔∃ c∈p,c<0∧(-1 - c).toNat+n=y:=by
 obtain⟨u,n,h1,rfl,h2,h3,rfl,h4⟩:=h;refine ⟨n,h2,h3,fun c hc => ?_,fun y => ?_⟩
 ·by_cases h0:c<0
  ·have:=Tm.ok_has u h1 ((Tm.mem_codes h0 u).1 hc); omega
  ·omega
 ·rw[Tm.up_has];constructor
  ·rintro⟨x,hx,rfl⟩;have hc:(-1 - (x:Int))<0:=by omega
   refine ⟨-1 - (x:Int),(Tm.mem_codes hc u).2 (by rw[show (-1 - (-1 - (x:Int))).toNat=x from by omega]; exact hx),hc,by omega⟩
  ·rintro⟨c,hc,h0,rfl⟩;exact ⟨_,(Tm.mem_codes h0 u).1 hc,rfl⟩
structure WInv (B:Bd) (σ:Sb) (v:Nat) (t:Tm) (seen:List Bool) (ts:List Tm):Prop where
 snd:∀ u∈ts,(u.sub σ).has v->(t.sub σ).has v
 top:t∈ts∨∀ y,t.has y->DoneV B v seen y
 cls:∀ x u,seen[x]? = some true->B x=some u->u∈ts∨∀ y,u.has y->DoneV B v seen y
theorem DoneV.mono {seen seen':List Bool} (h:∀ y:Nat,seen[y]? = some true->seen'[y]? = some true) {y:Nat} (hd:DoneV B v seen y):DoneV B v seen' y:=⟨hd.1,fun hb=>h y (hd.2 hb)⟩
theorem FF (hN:N<=24) (hT:RepT a0 N to B) (hG:Good B σ) (hv:B v=none) (t:Tm):∀(m k:Nat) (seen:List Bool) (todo:List PI) (ts:List Tm) (z:List Int) (z2:Int),todo.length+Qw seen=m->m<k->m<=100->seen.length=48->PcL a0 N todo ts->WInv B σ v t seen ts ->
  ∃ r,lp wr k ((v:Int),a0,to,z,z2,seen,todo)=some r∧((r = .inr true∧(t.sub σ).has v)∨(r = .inl ()∧¬(t.sub σ).has v)):=by
 intro m
 induction m using cU with
 | _ m ih =>
  intro k seen todo ts z z2 hm hk hm1 hs hp hI;obtain⟨k,rfl⟩:∃ k',k=k'+1:=⟨k - 1,by omega⟩
  rw[zv];have key:=fun (m':Nat) (h:m'<m) seen todo ts z z2 h1 h2 h3 h4=>ih m' h k seen todo ts z z2 h1 (by omega) (by omega) h2 h3 h4
  generalize lp wr k=rec at key ⊢;unfold wr;rcases fK todo with rfl | ⟨todo',p,rfl⟩
  ·have hts:ts=[]:=hp;subst hts;refine ⟨_,rfl,.inr ⟨rfl,?_⟩⟩;have hcl:∀ x u,seen[x]? = some true->B x=some u->∀ y,u.has y->DoneV B v seen y:=fun x u h1 h2=>(hI.cls x u h1 h2).resolve_left (fun h=>nomatch h);have hno:∀ x,DoneV B v seen x->¬(σ x).has v:=by
    refine hG.ind (fun x hx hd hh => ?_) fun x u hx ihx hd hh => ?_
    ·rw[hG.free x hx] at hh;exact hd.1 hh
    ·rw[hG.bound x u hx] at hh;obtain⟨y,h1,h2⟩:=(Tm.has_sub u).1 hh;exact ihx y h1 (hcl x u (hd.2 (by rw[hx]; simp)) hx y h1) h2
   intro hh;obtain⟨y,h1,h2⟩:=(Tm.has_sub t).1 hh;exact hno y ((hI.top.resolve_left fun h=>nomatch h) y h1) h2
  ·rw[fL] at *;obtain⟨ts',us0,rfl,hp1,hp2⟩:=PcL.split hp;obtain⟨u0,us1,rfl,hu0,hus1⟩:=hp2;have hus1:us1=[]:=hus1;subst hus1;simp only[am,aX] at hm;obtain⟨q,d⟩:=p;obtain⟨n,rfl,hn,hcs,hvars⟩:=hu0.vars;have e1:ag .i64 (((af (todo'++[(q,(n:Int))]):Nat):Int) - 1)=((todo'.length:Nat):Int):=by
    rw[am,aX,zo]<;>omega
   have e2:inR ((todo'.length:Nat):Int) (af (todo'++[(q,(n:Int))]))=some todo'.length:=ym (by simp)
   have e3:(todo'++[(q,(n:Int))])[todo'.length]? = some (q,(n:Int)):=QQ _ [] _;have e4:decide (((af (todo'++[(q,(n:Int))]):Nat):Int)>0)=true:=decide_eq_true (by rw[am,aX]; omega)
   simp only[e1,e2,e3,e4,aa,cond_true,CE];have hsz:u0.size=q.length∧u0.size<=48:=hu0.size;rw[jp _ _ _ _ _ _ _ _ (by unfold maxLen; omega)]
   rcases Jf (v:=v) hN hT hn q q seen todo' ts' hcs hs (by omega) hp1 with ⟨h1,c,h2,h3,h4⟩ | ⟨seen',more,us,h1,h2,h3,h4,h5,h6,h7,h8⟩
   ·rw[h1];refine ⟨_,rfl,.inl ⟨rfl,hI.snd u0 (by simp) ?_⟩⟩
    refine (Tm.has_sub u0).2 ⟨v,(hvars v).2 ⟨c,h2,h3,h4⟩,?_⟩;rw[hG.free v hv];rfl
   ·rw[h1];simp only[aa,vT];refine key (todo'.length+more.length+Qw seen') (by omega) seen' (todo'++more) (ts'++us) q (n:Int) (by simp) h2 (hp1.append h4) ⟨fun w hw hh => ?_,?_,fun x w hx hw => ?_⟩
    ·rcases aI.1 hw with hw | hw
     ·exact hI.snd w (by simp [hw]) hh
     ·obtain⟨c,h9,h10,h11⟩:=h8 w hw;refine hI.snd u0 (by simp) ((Tm.has_sub u0).2 ⟨_,(hvars _).2 ⟨c,h9,h10,rfl⟩,?_⟩)
      rw[hG.bound _ w h11];exact hh
    ·have hdone:∀ y,u0.has y->DoneV B v seen' y:=fun y hy=>by
      obtain⟨c,h9,h10,rfl⟩:=(hvars y).1 hy;exact h6 c h9 h10
     rcases hI.top with ht | ht
     ·rcases aI.1 ht with ht | ht
      ·exact .inl (by simp [ht])
      ·rw[bb.1 ht]; exact .inr hdone
     ·exact .inr fun y hy=>(ht y hy).mono h5
    ·have hdone:∀ y,u0.has y->DoneV B v seen' y:=fun y hy=>by
      obtain⟨c,h9,h10,rfl⟩:=(hvars y).1 hy;exact h6 c h9 h10
     rcases h7 x hx with h9 | ⟨w',h9,h10⟩
     ·rcases hI.cls x w h9 hw with ht | ht
      ·rcases aI.1 ht with ht | ht
       ·exact .inl (by simp [ht])
       ·rw[bb.1 ht]; exact .inr hdone
      ·exact .inr fun y hy=>(ht y hy).mono h5
     ·rw[hw] at h9; injection h9 with h9; subst h9;exact .inl (by simp [h10])
theorem A7 (hN:N<=24) (hT:RepT a0 N to B) (hG:Good B σ) (hv:B v=none) {p:List Int} {d:Int} {t:Tm} (hp:Pc a0 N p d t) :
  ∃ r,tj (v:Int) p d a0 to=some r∧(r=true↔(t.sub σ).has v):=by
 have hun:Qw (ax 48 false)=48:=by decide
 obtain⟨r,h1,h2⟩:=FF hN hT hG hv t 49 ze (ax 48 false) [(p,d)] [t] p d (by rw[hun]; rfl) (by unfold ze; omega) (by omega) (by simp) ⟨t,[],rfl,hp,rfl⟩
  ⟨fun u hu h=>by rw[bb.1 hu] at h; exact h,.inl (by simp),fun x u hx _=>by
   rw[bF] at hx;split at hx<;>simp at hx⟩
 unfold tj;rw[h1];rcases h2 with ⟨rfl,h2⟩ | ⟨rfl,h2⟩
 ·exact ⟨true,rfl,by simp [h2]⟩
 ·exact ⟨false,rfl,by simp [h2]⟩
end
mutual
def Tm.ht:Tm->Nat
 | .v _=>1
 | .f _ as=>htR as+1
def htR:List Tm->Nat
 | []=>0
 | t::ts=>max t.ht (htR ts)
end
mutual
theorem Tm.ht_size:(t:Tm)->t.ht<=t.size
 | .v _=>aC _
 | .f _ as=>by have:=Cr as; simp only[Tm.ht,Tm.size]; omega
theorem Cr:(ts:List Tm)->htR ts<=qJ ts
 | []=>aC _
 | t::ts=>by have:=t.ht_size; have:=Cr ts; simp only[htR,qJ]; omega
end
mutual
theorem Tm.ht_sub {s:Sb} {M:Nat}:(t:Tm)->(∀ x,t.has x->(s x).ht<=M)->(t.sub s).ht<=t.ht+M
 | .v n,h=>by have:=h n rfl; simp only[Tm.sub,Tm.ht]; omega
 | .f _ as,h=>by have:=Oj as h; simp only[Tm.sub,Tm.ht]; omega
theorem Oj {s:Sb} {M:Nat}:(ts:List Tm)->(∀ x,jr x ts->(s x).ht<=M)->htR (qO s ts)<=htR ts+M
 | [],_=>by simp [qO,htR]
 | t::ts,h=>by
  have h1:=Tm.ht_sub t fun x hx=>h x (.inl hx);have h2:=Oj ts fun x hx=>h x (.inr hx);simp only[qO,htR]; omega
end
theorem B0:{ts:List Tm}->{t:Tm}->t∈ts->t.ht<=htR ts
 | u::us,t,h=>by
  rcases aG.1 h with rfl | h
  ·simp only[htR]; omega
  ·have:=B0 h; simp only[htR]; omega
theorem Good.rank_lt {B:Bd} {σ:Sb} (h:Good B σ) {x y:Nat} {t:Tm} (hx:B x=some t) (hy:t.has y) (h48:y<48):Good.rank σ y<Good.rank σ x:=by
 have hlt:Good.less σ y x=true:=by
  unfold Good.less;have hs:=h.bound x t hx;cases t with
  | v z =>
   have hz:z=y:=hy;subst hz;have h2:=h.down x z hx;have h3:(σ z).size=(σ x).size:=by rw[hs]; rfl
   simp [h3,h2]
  | f c as =>
   have h2:=ZA (s:=σ) as hy;have h3:(σ x).size=qJ (qO σ as)+1:=by rw[hs]; rfl
   rw[decide_eq_true (show (σ y).size<(σ x).size by omega)]
   rfl
 refine Kt (a:=y) (bZ.2 h48) (fun z _ hz => ?_) (by simp [Good.less]) hlt
 simp only[Good.less,b9,ay,decide_eq_true_eq] at hz hlt ⊢;omega
theorem Good.rank_le (σ:Sb) (x:Nat):Good.rank σ x<=48:=by
 have:Good.rank σ x<=(aL 48).length:=ez;rwa [ex] at this
theorem Good.low {B:Bd} {σ:Sb} (h:Good B σ) (hb:VY B):∀ x,(σ x).ht<=49*49:=by
 have key:∀ x,B x≠none->(σ x).ht<=49*(Good.rank σ x+1):=by
  refine h.ind (fun x hx hn=>absurd hx hn) fun x t hx ih _ => ?_;obtain⟨hx48,ht⟩:=hb x t hx;rw[h.bound x t hx];have h0:=t.ht_size;have:=Tm.ht_sub (s:=σ) (M:=49*Good.rank σ x+1) t fun y hy=>(by
   cases hy0:B y with
   | none=>rw[h.free y hy0]; simp only[Tm.ht]; omega
   | some u =>
    have h1:=ih y hy (by rw[hy0]; simp)
    have h2:=h.rank_lt hx hy (hb y u hy0).1;have:49*(Good.rank σ y+1)<=49*Good.rank σ x:=dt _ (by omega)
    omega)
  omega
 intro x;by_cases hx:B x=none
 ·rw[h.free x hx]; simp [Tm.ht]
 ·have h1:=key x hx;have h2:=Good.rank_le σ x;have:49*(Good.rank σ x+1)<=49*49:=dt _ (by omega)
  omega
def zco (n m:Nat) (us ws:List Tm):List (List Int×Int×List Int×Int):=List.zipWith (fun a b=>(a.codes,(n:Int),b.codes,(m:Int))) us ws
theorem uR {ts:List Tm} {t:Tm} (h:t∈ts):t.codes.length<=(za ts).length:=by
 obtain⟨l1,l2,rfl⟩:=dH h;rw[uY];simp [za];omega
theorem CX {a0:List zg} {N n m:Nat} (hn:n<=N) (hm:m<=N):{us ws:List Tm}->okR a0 24 us->okR a0 24 ws->(∀ t∈us,t.codes.length<=48)->(∀ t∈ws,t.codes.length<=48) ->
  PqL a0 N (zco n m us ws) ((us.map (Tm.up n)).zip (ws.map (Tm.up m)))
 | [],_,_,_,_,_=>rfl
 | _::_,[],_,_,_,_=>rfl
 | u::_us,w::_ws,hu,hw,hlu,hlw =>
  ⟨(u.up n,w.up m),_,rfl,⟨⟨u,n,hu.1,rfl,rfl,hn,rfl,hlu u (aj ..)⟩,⟨w,m,hw.1,rfl,rfl,hm,rfl,hlw w (aj ..)⟩⟩,
   CX hn hm hu.2 hw.2 (fun t h=>hlu t (ai _ h)) fun t h=>hlw t (ai _ h)⟩
theorem Bu (ps2:List jI) (n m:Nat):(us ws:List Tm)->(i:Nat)->(out:List (List Int×Int×List Int×Int))->ps2.drop i=ws.map Tm.codes->us.length=ws.length->out.length+us.length<=1000000 ->
  zO ps2 (n:Int) (m:Int) (us.map Tm.codes) i out=some (out++zco n m us ws)
 | [],ws,i,out,_,_,_=>by simp [zO,zco]
 | u::us,[],i,out,_,h,_=>by simp at h
 | u::us,w::ws,i,out,h,hl,hr=>by
  simp only[ak] at hl hr;rw[aK] at h;rw[aK];unfold zO;rw[y8,zr h,aa,zp (by simp only[aX]; omega),cond_true,Bu ps2 n m us ws (i+1) _ (zj h) (by omega) (by simp only[am,aX]; omega)]
  simp [zco]
theorem Gg {a0:List zg} (h:SignOk a0) {N:Nat} {p q:List Int} {d e:Int} {ts us:List Tm} (hp:Pr a0 N p d ts) (hq:Pr a0 N q e us) (hl:ts.length=us.length) (to:List PO) {out:List (List Int×Int×List Int×Int)} (ho:out.length<=100000) :
  ∃ more,xb p d q e a0 to out=some (out++more)∧PqL a0 N more (ts.zip us):=by
 obtain⟨us0,n,h1,rfl,rfl,h2,rfl,h3⟩:=hp;obtain⟨ws0,m,h4,rfl,rfl,h5,rfl,h6⟩:=hq;simp only[aF] at hl;have hls:us0.length<=48:=by
  have:=ka (yf us0 h1);rw[aF] at this;omega
 refine ⟨zco n m us0 ws0,?_,CX h2 h5 h1 h4 (fun t ht=>aT (uR ht) h3) fun t ht=>aT (uR ht) h6⟩;unfold xb;rw[tc h (by omega) (yf us0 h1),aa,tc h (by omega) (yf ws0 h4),aa,
  jf _ _ _ _ _ _ _ (by rw[aF]; unfold maxLen; omega),Bu _ n m us0 ws0 0 out rfl hl (by omega)]
 rfl
theorem Ia {a0:List zg} {N:Nat} {p:List Int} {d:Int} {t:Tm} (h:Pc a0 N p d t):nn p=some p:=by
 have h1:=h.size;have h2:=t.size_pos;cases p with
 | nil=>simp at h1; omega
 | cons x r=>rfl
theorem Eg {a0:List zg} {N:Nat} (hN:N<=24) {to:List PO} {B:Bd} {σ:Sb} (hT:RepT a0 N to B) (hG:Good B σ) {p q:List Int} {d e:Int} {v:Nat} {u:Tm} (hp:Pc a0 N p d (.v v)) (hq:Pc a0 N q e u) (hv:B v=none) (hu:∀ y,u = .v y->B y=none) :
  ∃ r to',qB p d q e a0 to=some (r,a0,to')∧((r=false∧∀ θ,SolB θ B->θ v=u.sub θ->False)∨(r=true∧∃ B' σ',RepT a0 N to' B'∧Good B' σ'∧∀ θ,SolB θ B'↔SolB θ B∧θ v=u.sub θ)):=by
 have hv48:v<48:=hp.lt hN rfl;rcases hp.cases with ⟨k,n,rfl,rfl,hk,hn,he⟩ | ⟨_,_,_,_,he,_⟩
 case inr=>cases he
 injection he with he;subst he;unfold qB;simp only[z6,aB,aa,WE hN hk hn];rcases hq.cases with ⟨k2,n2,rfl,rfl,hk2,hn2,rfl⟩ | ⟨c,r,ts,rfl,rfl,hc,hr⟩
 ·simp only[aB,aa,WE hN hk2 hn2];rw[decide_eq_false (show ¬(-1 - (k2:Int)≥0) by omega),cond_false]
  have hw:=hu _ rfl;by_cases h1:k2+n2>k+n
  ·rw[decide_eq_true (show ((k2+n2:Nat):Int)>((k+n:Nat):Int) by omega),cond_true,ym (by omega),aa]
   obtain⟨x,hx,-⟩:=hT.get (x:=k2+n2) (by omega)
   rw[hx,aa,Ia hp,aa];refine ⟨true,_,rfl,.inr ⟨rfl,_,_,hT.set (by omega) hp,hG.bind hw ?_ ?_,fun θ=>(SolB.upd hw).trans ?_⟩⟩
   ·show ¬(σ (k+n)).has (k2+n2);rw[hG.free _ hv];show ¬(k+n=k2+n2);omega
   ·intro y hy;injection hy with hy;omega
   ·show _∧θ (k2+n2)=θ (k+n)↔_∧θ (k+n)=θ (k2+n2);exact ⟨fun h=>⟨h.1,h.2.symm⟩,fun h=>⟨h.1,h.2.symm⟩⟩
  ·rw[decide_eq_false (show ¬(((k2+n2:Nat):Int)>((k+n:Nat):Int)) by omega),cond_false]
   by_cases h2:k2+n2<k+n
   ·rw[decide_eq_true (show ((k2+n2:Nat):Int)<((k+n:Nat):Int) by omega),cond_true,ym (by omega),aa]
    obtain⟨x,hx,-⟩:=hT.get (x:=k+n) (by omega)
    rw[hx,aa,Ia hq,aa];refine ⟨true,_,rfl,.inr ⟨rfl,_,_,hT.set (by omega) hq,hG.bind hv ?_ ?_,fun θ=>SolB.upd hv⟩⟩
    ·show ¬(σ (k2+n2)).has (k+n);rw[hG.free _ hw];show ¬(k2+n2=k+n);omega
    ·intro y hy;injection hy with hy;omega
   ·rw[decide_eq_false (show ¬(((k2+n2:Nat):Int)<((k+n:Nat):Int)) by omega),cond_false]
    have:k2+n2=k+n:=by omega
    refine ⟨true,_,rfl,.inr ⟨rfl,B,σ,hT,hG,fun θ=>⟨fun h=>⟨h,?_⟩,fun h=>h.1⟩⟩⟩;show θ (k+n)=θ (k2+n2);rw[this]
 ·simp only[aB,aa];rw[decide_eq_true (show (c:Int)≥0 by omega),cond_true]
  obtain⟨w,hw1,hw2⟩:=A7 hN hT hG hv hq;rw[hw1,aa];cases w with
  | true =>
   refine ⟨false,_,rfl,.inl ⟨rfl,fun θ h1 h2=>hG.occurs (hw2.1 rfl) h1 h2⟩⟩
  | false =>
   rw[cond_false,ym (by omega),aa]
   obtain⟨x,hx,-⟩:=hT.get (x:=k+n) (by omega)
   rw[hx,aa,Ia hq,aa];refine ⟨true,_,rfl,.inr ⟨rfl,_,_,hT.set (by omega) hq,hG.bind hv (fun h=>by have:=hw2.2 h; cases this) (fun y hy=>by cases hy),fun θ=>SolB.upd hv⟩⟩
def wt (σ:Sb) (E:List (Tm×Tm)):Nat:=(E.map fun e=>(e.1.sub σ).size).sum
theorem Jm (σ:Sb) (E F:List (Tm×Tm)):wt σ (E++F)=wt σ E+wt σ F:=by simp [wt]
theorem TI (σ:Sb) (e:Tm×Tm):wt σ [e]=(e.1.sub σ).size:=by simp [wt]
theorem Lx (σ:Sb):{ts us:List Tm}->ts.length=us.length->wt σ (ts.zip us)=qJ (qO σ ts)
 | [],_,_=>rfl
 | _::_,[],h=>by simp at h
 | t::ts,u::us,h=>by
  have:=Lx σ (ts:=ts) (us:=us) (by simpa using h)
  simp only[wt] at this ⊢;simp only[el,aK,cD,qO,qJ,this]
def HtOk (R:List Tm) (B:Bd) (i:Nat) (t:Tm):Prop:=∃ δ:Nat,i<=47+3*δ∧∀ θ,SolB θ B->∃ c∈R,δ+(t.sub θ).ht<=(c.sub θ).ht
def StkOk (R:List Tm) (B:Bd) (E:List (Tm×Tm)):Prop:=∀(i:Nat) e,E[i]? = some e->HtOk R B i e.1
theorem HtOk.mono {R:List Tm} {B B':Bd} {i:Nat} {t:Tm} (h:HtOk R B i t) (hB:∀ θ,SolB θ B'->SolB θ B):HtOk R B' i t:=by
 obtain⟨δ,h1,h2⟩:=h;exact ⟨δ,h1,fun θ hθ=>h2 θ (hB θ hθ)⟩
theorem StkOk.mono {R:List Tm} {B B':Bd} {E:List (Tm×Tm)} (h:StkOk R B E) (hB:∀ θ,SolB θ B'->SolB θ B):StkOk R B' E:=fun i e he=>(h i e he).mono hB
theorem StkOk.left {R:List Tm} {B:Bd} {E F:List (Tm×Tm)} (h:StkOk R B (E++F)):StkOk R B E:=fun i e he=>h i e (by
 rw[bP (aw.1 he).1]; exact he)
theorem StkOk.len {R:List Tm} {B:Bd} {σ:Sb} {E:List (Tm×Tm)} (h:StkOk R B E) (hG:Good B σ) (hS:VY B) (hR:∀ c∈R,c.size<=48):E.length<=8000:=by
 rcases Nat.eq_zero_or_pos E.length with h0 | h0
 ·omega
 ·obtain⟨δ,h1,h2⟩:=h (E.length - 1) E[E.length - 1] (al (by omega))
  obtain⟨c,hc,h3⟩:=h2 σ hG.bound;have h4:=Tm.ht_sub (s:=σ) c fun x _=>hG.low hS x;have h5:=c.ht_size;have h6:=hR c hc;omega
theorem zc1 (t:Tm):0<t.ht:=by cases t<;>simp [Tm.ht]
def SameR (a0:List zg) (N:Nat) (B:Bd) (E:List (Tm×Tm)) (r:Bool×List zg×List PO):Prop :=
 r.2.1=a0∧((r.1=false∧Out B E none)∨(r.1=true∧∃ B',RepT a0 N r.2.2 B'∧Out B E (some B')))
theorem SameR.via {a0:List zg} {N:Nat} {B B1:Bd} {E E1:List (Tm×Tm)} (h:∀ θ,(SolB θ B1∧Sol θ E1)↔(SolB θ B∧Sol θ E)) {r:Bool×List zg×List PO} (hr:SameR a0 N B1 E1 r):SameR a0 N B E r :=
 ⟨hr.1,hr.2.imp (fun h1=>⟨h1.1,Out.via h h1.2⟩) fun ⟨h1,B',h2,h3⟩=>⟨h1,B',h2,Out.via h h3⟩⟩
theorem RJ {a0:List zg} (hs:SignOk a0) {N:Nat} (hN:N<=24) (R:List Tm) (hR:∀ c∈R,c.size<=48):∀(n:Nat) (to:List PO) (B:Bd) (σ:Sb) (todo:List (List Int×Int×List Int×Int)) (E:List (Tm×Tm)),
  RepT a0 N to B->Good B σ->PqL a0 N todo E->StkOk R B E ->
  (∃ r,(∀ k,lp zw (k+n) (a0,to,todo)=some r)∧SameR a0 N B E r)∨∃ B' σ',Good B' σ'∧VY B'∧(∀ θ,SolB θ B'->SolB θ B)∧n<=wt σ' E:=by
 intro n
 induction n with
 | zero=>intro to B σ todo E hT hG _ _; exact .inr ⟨B,σ,hG,hT.small,fun _ h=>h,bN _⟩
 | succ n ih =>
  intro to B σ todo E hT hG hP hK;have hlen:=hK.len hG hT.small hR;have hpl:=hP.length
  -- one round, and what is left
  have go:∀(to1:List PO) (B1:Bd) (σ1:Sb) (todo1:List (List Int×Int×List Int×Int)) (E1:List (Tm×Tm)),RepT a0 N to1 B1->Good B1 σ1->PqL a0 N todo1 E1->StkOk R B1 E1 ->
    (∀ θ,(SolB θ B1∧Sol θ E1)↔(SolB θ B∧Sol θ E))->(∀ θ,SolB θ B1->SolB θ B)->(∀ σ',SolB σ' B1->wt σ' E1+1<=wt σ' E)->(∀ rec,zw rec (a0,to,todo)=rec (a0,to1,todo1)) ->
    ((∃ r,(∀ k,lp zw (k+(n+1)) (a0,to,todo)=some r)∧SameR a0 N B E r)∨∃ B' σ',Good B' σ'∧VY B'∧(∀ θ,SolB θ B'->SolB θ B)∧n+1<=wt σ' E):=by
   intro to1 B1 σ1 todo1 E1 h1 h2 h3 h4 h5 h6 h7 h8;rcases ih to1 B1 σ1 todo1 E1 h1 h2 h3 h4 with ⟨r,h9,h10⟩ | ⟨B',σ',h9,h10,h11,h12⟩
   ·refine .inl ⟨r,fun k => ?_,h10.via h5⟩;rw[← bK,zv,h8];exact h9 k
   ·have:=h7 σ' (h11 _ h9.bound);exact .inr ⟨B',σ',h9,h10,fun θ hθ=>h6 θ (h11 θ hθ),by omega⟩
  have stop:∀ r,SameR a0 N B E r->(∀ rec,zw rec (a0,to,todo)=some r) ->
    ((∃ r,(∀ k,lp zw (k+(n+1)) (a0,to,todo)=some r)∧SameR a0 N B E r)∨∃ B' σ',Good B' σ'∧VY B'∧(∀ θ,SolB θ B'->SolB θ B)∧n+1<=wt σ' E) :=
   fun r h1 h2=>.inl ⟨r,fun k=>by rw[← bK,zv,h2],h1⟩
  rcases fK todo with rfl | ⟨todo',t,rfl⟩
  ·have hE:E=[]:=hP;subst hE;exact stop (true,a0,to) ⟨rfl,.inr ⟨rfl,B,hT,Out.done hG hT.small⟩⟩ fun rec=>rfl
  ·rw[fL] at *;obtain⟨p,d,q,e⟩:=t;obtain⟨E',F,rfl,hP',hF⟩:=PqL.split hP;obtain⟨⟨s,u⟩,F',rfl,⟨hps,hqu⟩,hF'⟩:=hF;have hF':F'=[]:=hF';subst hF';have hps:Pc a0 N p d s:=hps;have hqu:Pc a0 N q e u:=hqu;obtain⟨p1,d1,s1,hw1,hp1,hs1,hb1⟩:=DB hN hT hG hps;obtain⟨q1,e1,u1,hw2,hq1,hu1,hb2⟩:=DB hN hT hG hqu;simp only[am,aX] at hlen hpl;have x1:ag .i64 (((af (todo'++[(p,d,q,e)]):Nat):Int) - 1)=((todo'.length:Nat):Int):=by
    rw[am,aX,zo]<;>omega
   have x2:inR ((todo'.length:Nat):Int) (af (todo'++[(p,d,q,e)]))=some todo'.length:=ym (by simp)
   have x3:(todo'++[(p,d,q,e)])[todo'.length]? = some (p,d,q,e):=QQ _ [] _;have x4:(((af (todo'++[(p,d,q,e)]):Nat):Int)==0)=false:=by simp; omega
   have hsol:∀ θ,SolB θ B->(Sol θ (E'++[(s,u)])↔Sol θ E'∧s1.sub θ=u1.sub θ):=fun θ hθ=>by
    rw[Sol.append,Sol.cons,hs1 θ hθ,hu1 θ hθ];exact ⟨fun h=>⟨h.1,h.2.1⟩,fun h=>⟨h.1,h.2,Sol.nil⟩⟩
   -- one round
   have round:∀ rec,zw rec (a0,to,todo'++[(p,d,q,e)])=(gx p1 0).bind fun e34=>cond (decide (e34<0))
     ((qB p1 d1 q1 e1 a0 to).bind fun r35=>cond r35.1 (rec (r35.2.1,r35.2.2,todo')) (some (false,r35.2.1,r35.2.2)))
     ((gx q1 0).bind fun e36=>cond (decide (e36<0))
      ((qB q1 e1 p1 d1 a0 to).bind fun r37=>cond r37.1 (rec (r37.2.1,r37.2.2,todo')) (some (false,r37.2.1,r37.2.2)))
      ((gx p1 0).bind fun e38=>(gx q1 0).bind fun e39=>cond (e38 != e39) (some (false,a0,to))
       ((uh p1 (some 1) none).bind fun y40=>(uh q1 (some 1) none).bind fun y41=>(xb y40 d1 y41 e1 a0 to todo').bind fun r42=>rec (a0,to,r42)))):=by
    intro rec;unfold zw;simp only[x1,x2,x3,x4,aa,cond_false,CE,hw1,hw2]
   have hbind:∀{B1:Bd} {v:Nat} {w:Tm},(∀ θ,SolB θ B1↔SolB θ B∧θ v=w.sub θ)->(∀ θ,SolB θ B->(s1.sub θ=u1.sub θ↔θ v=w.sub θ))->∀ θ,(SolB θ B1∧Sol θ E')↔(SolB θ B∧Sol θ (E'++[(s,u)])):=by
    intro B1 v w h1 h2 θ;rw[h1 θ];constructor
    ·rintro⟨⟨h3,h4⟩,h5⟩;exact ⟨h3,(hsol θ h3).2 ⟨h5,(h2 θ h3).2 h4⟩⟩
    ·rintro⟨h3,h4⟩;have h6:=(hsol θ h3).1 h4;exact ⟨⟨h3,(h2 θ h3).1 h6.2⟩,h6.1⟩
   have hwt:∀ σ',wt σ' E'+1<=wt σ' (E'++[(s,u)]):=fun σ'=>by
    rw[Jm,TI];have:=(s.sub σ').size_pos;show wt σ' E'+1<=wt σ' E'+(s.sub σ').size;omega
   rcases hp1.cases with ⟨k1,n1,rfl,rfl,hk1,hn1,rfl⟩ | ⟨c1,r1,ts1,rfl,rfl,hc1,hr1⟩
   ·-- a variable on the left
    obtain⟨r,to1,hput,hres⟩:=Eg hN hT hG hp1 hq1 (hb1 _ rfl) hb2;rcases hres with ⟨rfl,hno⟩ | ⟨rfl,B1,σ1,hT1,hG1,hB1⟩
    ·refine stop (false,a0,to1) ⟨rfl,.inl ⟨rfl,fun θ h1 h2=>hno θ h1 ((hsol θ h1).1 h2).2⟩⟩ fun rec => ?_;rw[round,z6,aB,aa,decide_eq_true (show -1 - (k1:Int)<0 by omega),cond_true,hput]
     rfl
    ·refine go to1 B1 σ1 todo' E' hT1 hG1 hP' (hK.left.mono fun θ h=>((hB1 θ).1 h).1) (hbind hB1 fun θ _=>Iff.rfl) (fun θ h=>((hB1 θ).1 h).1) (fun σ' _=>hwt σ') fun rec => ?_;rw[round,z6,aB,aa,decide_eq_true (show -1 - (k1:Int)<0 by omega),cond_true,hput]
     rfl
   ·rcases hq1.cases with ⟨k2,n2,rfl,rfl,hk2,hn2,rfl⟩ | ⟨c2,r2,ts2,rfl,rfl,hc2,hr2⟩
    ·obtain⟨r,to1,hput,hres⟩:=Eg hN hT hG hq1 hp1 (hb2 _ rfl) hb1;rcases hres with ⟨rfl,hno⟩ | ⟨rfl,B1,σ1,hT1,hG1,hB1⟩
     ·refine stop (false,a0,to1) ⟨rfl,.inl ⟨rfl,fun θ h1 h2=>hno θ h1 ((hsol θ h1).1 h2).2.symm⟩⟩ fun rec => ?_;rw[round];simp only[z6,aB,aa];rw[decide_eq_false (show ¬(c1:Int)<0 by omega),cond_false,decide_eq_true (show -1 - (k2:Int)<0 by omega),cond_true,hput]
      rfl
     ·refine go to1 B1 σ1 todo' E' hT1 hG1 hP' (hK.left.mono fun θ h=>((hB1 θ).1 h).1) (hbind hB1 fun θ _=>⟨fun h=>h.symm,fun h=>h.symm⟩) (fun θ h=>((hB1 θ).1 h).1) (fun σ' _=>hwt σ') fun rec => ?_;rw[round];simp only[z6,aB,aa];rw[decide_eq_false (show ¬(c1:Int)<0 by omega),cond_false,decide_eq_true (show -1 - (k2:Int)<0 by omega),cond_true,hput]
      rfl
    ·by_cases hcc:c1=c2
     ·subst hcc;have hl:ts1.length=ts2.length:=by rw[hc1] at hc2; injection hc2
      have hl3:ts1.length<=3:=Wa hs hc1;obtain⟨more,hm1,hm2⟩:=Gg hs hr1 hr2 hl to (out:=todo') (by omega)
      refine go to B σ (todo'++more) (E'++ts1.zip ts2) hT hG (hP'.append hm2) ?_ ?_ (fun _ h=>h) ?_ fun rec => ?_
      ·intro i e hi;rcases bG i E'.length with hlt | hge
       ·rw[bP hlt] at hi;exact hK.left i e hi
       ·rw[bI hge] at hi;have hi3:i - E'.length<3:=by
         have:=(aw.1 hi).1;rw[gF] at this;omega
        obtain⟨δ,h1,h2⟩:=hK E'.length (s,u) (by rw[bI (aC _),ep]; rfl)
        refine ⟨δ+1,by omega,fun θ hθ => ?_⟩
        obtain⟨c,hc,h3⟩:=h2 θ hθ;refine ⟨c,hc,?_⟩;have h3:δ+(s.sub θ).ht<=(c.sub θ).ht:=h3;rw[hs1 θ hθ] at h3;have h4:e.1∈ts1:=(gG (a:=e.1) (b:=e.2) (aJ hi)).1;have h5:(e.1.sub θ).ht<=htR (qO θ ts1):=B0 (by rw[Ye]; exact aZ h4)
        have h6:((Tm.f c1 ts1).sub θ).ht=htR (qO θ ts1)+1:=rfl;omega
      ·intro θ;rw[Sol.append,Sol.zip hl];constructor
       ·rintro⟨h1,h2,h3⟩;exact ⟨h1,(hsol θ h1).2 ⟨h2,zea.2 ⟨rfl,h3⟩⟩⟩
       ·rintro⟨h1,h2⟩;have h3:=(hsol θ h1).1 h2;exact ⟨h1,h3.1,(zea.1 h3.2).2⟩
      ·intro σ' hσ';rw[Jm,Jm,TI,Lx σ' hl];show _<=wt σ' E'+(s.sub σ').size;rw[hs1 σ' hσ'];show _<=wt σ' E'+(qJ (qO σ' ts1)+1);omega
      ·rw[round];simp only[z6,aB,aa];rw[decide_eq_false (show ¬(c1:Int)<0 by omega),cond_false,cond_false,show ((c1:Int) != (c1:Int))=false from by simp,cond_false,wW,aa,wW,aa,hm1]
       rfl
     ·refine stop (false,a0,to) ⟨rfl,.inl ⟨rfl,fun θ h1 h2=>hcc (zea.1 ((hsol θ h1).1 h2).2).1⟩⟩ fun rec => ?_;rw[round];simp only[z6,aB,aa];rw[decide_eq_false (show ¬(c1:Int)<0 by omega),cond_false,decide_eq_false (show ¬(c2:Int)<0 by omega),cond_false,show ((c1:Int) != (c2:Int))=true from by simp; omega,cond_true]
theorem HK {a0:List zg} (hs:SignOk a0) {N:Nat} (hN:N<=24) {to:List PO} {B:Bd} {σ:Sb} (hT:RepT a0 N to B) (hG:Good B σ) {p q:List Int} {d e:Int} {ts us:List Tm} (hp:Pr a0 N p d ts) (hq:Pr a0 N q e us) (hl:ts.length=us.length) :
  ∃ r,wB p d q e a0 to=some r∧SameR a0 N B (ts.zip us) r:=by
 have eta:∀ o:Option (Bool×List zg×List PO),(o.bind fun r=>some (r.1,r.2.1,r.2.2))=o:=fun o=>by cases o<;>rfl
 obtain⟨more,hm1,hm2⟩:=Gg hs hp hq hl to (out:=[]) (by simp)
 have e0:wB p d q e a0 to=lp zw (ze+1) (a0,to,more):=by
  unfold wB;rw[hm1,aa,zv,bl];generalize lp zw ze=rec;unfold zw;simp only[eta]
 have hsz:∀ c∈ts,c.size<=48:=fun c hc=>by
  obtain⟨us0,n,h1,rfl,h2,h3,rfl,h4⟩:=hp;obtain⟨c0,h5,rfl⟩:=aR.1 hc;rw[Tm.up_size,← Tm.codes_len];exact aT (uR h5) h4
 have hlen:ts.length<=48:=by
  obtain⟨us0,n,h1,rfl,h2,h3,rfl,h4⟩:=hp;have:=ka (yf us0 h1);rw[aF] at this ⊢;omega
 have hK:StkOk ts B (ts.zip us):=fun i x hi=>by
  have hi0:=(aw.1 hi).1;rw[gF] at hi0;exact ⟨0,by omega,fun θ _=>⟨x.1,(gG (a:=x.1) (b:=x.2) (aJ hi)).1,by omega⟩⟩
 rw[e0];rcases RJ hs hN ts hsz (48*(48*48 ^ 49)+1) to B σ more (ts.zip us) hT hG hm2 hK with ⟨r,h1,h2⟩ | ⟨B',σ',h1,h2,h3,h4⟩
 ·have:=h1 (ze+1 - (48*(48*48 ^ 49)+1));rw[show ze+1 - (48*(48*48 ^ 49)+1)+(48*(48*48 ^ 49)+1)=ze+1 from by unfold ze; omega] at this
  exact ⟨r,this,h2⟩
 ·exfalso;rw[Lx σ' hl,Ye,G6,cm] at h4;have h5:∀ l:List Tm,(∀ c∈l,c.size<=48)->(l.map (Tm.size ∘ Tm.sub σ')).sum<=l.length*(48*48 ^ 49):=by
   intro l
   induction l with
   | nil=>intro _; simp
   | cons c l ih =>
    intro h;have h6:=ih fun c hc=>h c (ai _ hc);have h7:=h1.small_sub h2 c;have h8:=h c (aj ..);have h9:c.size*48 ^ 49<=48*48 ^ 49:=aS _ h8;simp only[aK,cD,ak,iq];rw[bf,Nat.one_mul];omega
  have h6:=h5 ts hsz;have h7:ts.length*(48*48 ^ 49)<=48*(48*48 ^ 49):=aS _ hlen;omega
def Yt (s:Sb) (c:Int):List Int:=if c<0 then (s (-1 - c).toNat).codes else [c]
mutual
theorem Tm.codes_sub (s:Sb):(t:Tm)->(t.sub s).codes=t.codes.flatMap (Yt s)
 | .v n=>by
  show (s n).codes=[-1 - (n:Int)].flatMap (Yt s);simp only[bv,List.flatMap_nil,bO,Yt];rw[if_pos (by omega),show (-1 - (-1 - (n:Int))).toNat=n from by omega]
 | .f c as=>by
  show (c:Int)::za (qO s as)=((c:Int)::za as).flatMap (Yt s);rw[bv,kA s as];unfold Yt;rw[if_neg (by omega)]
  rfl
theorem kA (s:Sb):(ts:List Tm)->za (qO s ts)=(za ts).flatMap (Yt s)
 | []=>rfl
 | t::ts=>by
  show (t.sub s).codes++za (qO s ts)=(t.codes++za ts).flatMap (Yt s);rw[Tm.codes_sub s t,kA s ts,List.flatMap_append]
end
theorem FK {k:Nat} (hk:k<24) (p:Option jI):xO p 0 (-1 - (k:Int))=some (k:Int):=by
 unfold xO;rw[qx (by omega) (by omega),aa]
 congr 1
 rw[zo]<;>omega
section
variable {a0:List zg} {to:List PO} {B:Bd} {σ:Sb}
def zb6 (o:List Int):Option jI:=if o.length<=48 then some o else none
theorem BV (hT:RepT a0 0 to B) (hG:Good B σ) (p:List Int) (hp48:p.length<=48) (rf:((Option jI)×Int×jS×(List PO))->Option (Option jI))
  (hrf:∀(y:Nat) q d u,(-1 - (y:Int))∈p->to[y]? = some (some q,d)->B y=some u->rf (some q,d,a0,to)=some (zb6 (u.sub σ).codes)):∀(es:List Int) (i k:Nat) (out:List Int),p.drop i=es->es.length<k->(∀ c∈es,-24<=c)->out.length<=48 ->
  lp (yP rf) k (some p,((p.length:Nat):Int),(i:Int),a0,to,some p,0,out)=some (if out.length+(es.flatMap (Yt σ)).length<=48 then .inl (out++es.flatMap (Yt σ)) else .inr ()):=by
 intro es
 induction es with
 | nil =>
  intro i k out h hk _ ho;obtain⟨k,rfl⟩:∃ k',k=k'+1:=⟨k - 1,by simp at hk; omega⟩
  rw[zv];generalize lp (yP rf) k=rec;unfold yP;have hi:p.length<=i:=by
   have:=congrArg af h;simp at this; omega
  rw[decide_eq_false (show ¬((i:Int)<((p.length:Nat):Int)) by omega),cond_false]
  simp [ho]
 | cons c es ih =>
  intro i k out h hk hc ho;obtain⟨k,rfl⟩:∃ k',k=k'+1:=⟨k - 1,by simp at hk; omega⟩
  rw[zv];have key:=fun out' ho'=>ih (i+1) k out' (zj h) (by simp at hk; omega) (fun c h=>hc c (ai _ h)) ho'
  generalize lp (yP rf) k=rec at key ⊢;unfold yP;have hget:=zr h;have hi:i<p.length:=(aw.1 hget).1;have hmem:c∈p:=aJ hget;have hw:ag .i64 ((i:Int)+1)=((i+1:Nat):Int):=by rw[zo]<;>omega
  rw[decide_eq_true (show ((i:Int)<((p.length:Nat):Int)) by omega),cond_true]
  simp only[bj,y8,hget,aa,hw]
  -- one code that stays
  have stay:Yt σ c=[c]->(((nn ([c]:List Int)).bind fun _=>some false).bind fun z=>cond z (some (aH ()))
    (cond (decide ((ag .i64 (((af out:Nat):Int)+((af ([c]:List Int):Nat):Int)))>48)) (some (aH ()))
     (cond (yK (af out+af ([c]:List Int)) 8) (rec (some p,((p.length:Nat):Int),((i+1:Nat):Int),a0,to,some p,0,(out++([c]:List Int)))) none))) =
    some (if out.length+((c::es).flatMap (Yt σ)).length<=48 then .inl (out++(c::es).flatMap (Yt σ)) else .inr ()):=by
   intro he;have e1:(nn ([c]:List Int))=some [c]:=rfl;rw[e1,bv,he];have w2:ag .i64 (((af out:Nat):Int)+((af ([c]:List Int):Nat):Int))=((out.length+1:Nat):Int):=by
    rw[zo]<;>simp only[aX]<;>omega
   simp only[aa,cond_false,w2];simp only[am,aX];by_cases h48:out.length+1<=48
   ·rw[decide_eq_false (show ¬(((out.length+1:Nat):Int)>48) by omega),cond_false,zp (by omega),cond_true,key _ (by simp; omega)]
    simp only[am,aX,aW];have:out.length+1+(es.flatMap (Yt σ)).length=out.length+(1+(es.flatMap (Yt σ)).length):=by omega
    rw[this]
   ·rw[decide_eq_true (show (((out.length+1:Nat):Int)>48) by omega),cond_true,if_neg (by omega)]
  by_cases h0:c<0
  ·obtain⟨y,hy,rfl⟩:∃ y:Nat,y<24∧c = -1 - (y:Int):=⟨(-1 - c).toNat,by have:=hc c (aj ..); omega,by omega⟩
   rw[decide_eq_true h0,cond_true,FK hy,aa,ym (show y<48 by omega),aa]
   obtain⟨e,he,hpe⟩:=hT.get (x:=y) (by omega)
   rw[he,aa];have hexp:Yt σ (-1 - (y:Int))=(σ y).codes:=by
    unfold Yt;rw[if_pos h0,show (-1 - (-1 - (y:Int))).toNat=y from by omega]
   unfold PcO at hpe;split at hpe
   ·rename_i h1;rw[h1];simp only[c5,az,cond_false];exact stay (by rw[hexp,hG.free y hpe]; rfl)
   ·rename_i q h1;obtain⟨u,hu,hq⟩:=hpe;rw[h1];simp only[cw,bE,cond_true,aa,ym (show y<48 by omega),he]
    rw[h1,hrf y q e.2 u hmem (by rw[he,← h1]) hu,aa]
    rw[bv,hexp,hG.bound y u hu];unfold zb6;by_cases hsz:(u.sub σ).codes.length<=48
    ·rw[if_pos hsz];have w2:ag .i64 (((af out:Nat):Int)+(((u.sub σ).codes.length:Nat):Int))=((out.length+(u.sub σ).codes.length:Nat):Int):=by
      rw[zo]<;>omega
     simp only[cw,cond_false,bj,w2];simp only[am];by_cases h48:out.length+(u.sub σ).codes.length<=48
     ·rw[decide_eq_false (show ¬(((out.length+(u.sub σ).codes.length:Nat):Int)>48) by omega),cond_false,zp (by omega),cond_true,key _ (by simp; omega)]
      simp only[am,aW];rw[bK]
     ·rw[decide_eq_true (show (((out.length+(u.sub σ).codes.length:Nat):Int)>48) by omega),cond_true,if_neg (by omega)]
    ·rw[if_neg hsz];simp only[c5,cond_true,am];rw[if_neg (by omega)]
  ·rw[decide_eq_false h0,cond_false];exact stay (by unfold Yt; rw[if_neg h0])
theorem OD (hT:RepT a0 0 to B) (hG:Good B σ):∀(k m:Nat) (p:List Int) (d:Int) (t:Tm),Pc a0 0 p d t->(∀ y,t.has y->B y≠none->Good.rank σ y<m)->m<k ->
  qS k (some p,d,a0,to)=some (zb6 (t.sub σ).codes):=by
 intro k
 induction k with
 | zero=>intro m p d t _ _ h; omega
 | succ k ih =>
  intro m p d t hp hm hk;obtain⟨u,n,h1,rfl,rfl,h2,rfl,h3⟩:=hp;have hn:n=0:=by omega
  subst hn;rw[Tm.up_zero] at hm ⊢;have hsmall:∀ c∈u.codes,-24<=c:=fun c hc=>by
   by_cases h0:c<0
   ·have:=Tm.ok_has u h1 ((Tm.mem_codes h0 u).1 hc); omega
   ·omega
  show sK (qS k) (some u.codes) ((0:Nat):Int) a0 to=_;unfold sK;have hr:=BV hT hG u.codes h3 (qS k) (fun y q d w hy hto hw=>by
   have hyu:u.has y:=by
    have:=(Tm.mem_codes (by omega) u).1 hy
    rwa [show (-1 - (-1 - (y:Int))).toNat=y from by omega] at this
   have hpc:Pc a0 0 q d w:=by
    have:=hT.at_ y _ hto;obtain⟨t',h5,h6⟩:=(show ∃ t,B y=some t∧Pc a0 0 q d t from this)
    rw[hw] at h5; injection h5 with h5; subst h5;exact h6
   have hlt:=hm y hyu (by rw[hw]; simp)
   exact ih (Good.rank σ y) q d w hpc (fun z hz hb=>hG.rank_lt hw hz (by
    cases hbz:B z with
    | none=>exact absurd hbz hb
    | some x=>exact (hT.small z x hbz).1)) (by omega)) u.codes 0 ze [] rfl (by unfold ze; omega) hsmall (by simp)
  simp only[bj];have hr:lp (yP (qS k)) ze (some u.codes,((u.codes.length:Nat):Int),0,a0,to,some u.codes,((0:Nat):Int),[])=_:=hr;rw[hr,← Tm.codes_sub];unfold zb6;have hne:nn (u.sub σ).codes=some (u.sub σ).codes:=Va fun e=>by
   have:=congrArg af e;rw[Tm.codes_len] at this;have:=(u.sub σ).size_pos;simp at *; omega
  by_cases h48:(u.sub σ).codes.length<=48
  ·simp only[bm,aP,bl];rw[if_pos h48,if_pos h48];simp only[aa,vT,hne]
  ·simp only[bm,aP];rw[if_neg h48,if_neg h48];rfl
theorem Fb (hT:RepT a0 0 to B) (hG:Good B σ) {p:List Int} {d:Int} {t:Tm} (hp:Pc a0 0 p d t):kN (some p) d a0 to=some (zb6 (t.sub σ).codes):=by
 refine OD hT hG ze 49 p d t hp (fun y _ _ => ?_) (by unfold ze; omega)
 have:=Good.rank_le σ y;omega
def Hm (B:Bd) (v:Nat):Bool:=(B v).isSome
def vU (B:Bd) (σ:Sb) (vs:List Nat):List (Int×List Int):=(vs.filter (Hm B)).map fun v:Nat=>((v:Int),(σ v).codes)
def qZ (σ:Sb) (vs:List Nat):Bool:=vs.all fun x=>decide ((σ x).size<=48)
theorem Cg (hT:RepT a0 0 to B) (hG:Good B σ):∀(m v k:Nat) (out:List (Int×List Int)),24 - v=m->v<=24->m<k->out.length<=v ->
  lp vk k ((v:Int),a0,to,out)=some (cond (qZ σ ((aL 24).drop v)) (.inl (out++vU B σ ((aL 24).drop v))) (.inr (false,401))):=by
 intro m
 induction m with
 | zero =>
  intro v k out hm hv hk ho;obtain⟨k,rfl⟩:∃ k',k=k'+1:=⟨k - 1,by omega⟩
  rw[zv];generalize lp vk k=rec;unfold vk;have:v=24:=by omega
  subst this;rw[show (aL 24).drop 24=[] from rfl]
  simp [vU,qZ]
 | succ m ih =>
  intro v k out hm hv hk ho;obtain⟨k,rfl⟩:∃ k',k=k'+1:=⟨k - 1,by omega⟩
  rw[zv];have key:=fun out' ho'=>ih (v+1) k out' (by omega) (by omega) (by omega) ho'
  generalize lp vk k=rec at key ⊢;unfold vk;have w:ag .i64 ((v:Int)+1)=((v+1:Nat):Int):=by rw[zo]<;>omega
  obtain⟨e,he,hpe⟩:=hT.get (x:=v) (by omega)
  have hdr:(aL 24).drop v=v::(aL 24).drop (v+1):=by
   rw[aY (by simp; omega)]
   simp
  simp only[decide_eq_true (show (v:Int)<24 by omega),cond_true,ym (show v<48 by omega),aa,he,w]
  rw[hdr];unfold PcO at hpe;split at hpe
  ·rename_i h1;rw[h1];simp only[c5,cond_true];rw[key out (by omega)]
   have hs:(σ v).size<=48:=by rw[hG.free v hpe]; simp [Tm.size]
   have hb:Hm B v=false:=by simp [Hm,hpe]
   simp [vU,qZ,hb,hs]
  ·rename_i q h1;obtain⟨u,hu,hq⟩:=hpe;rw[h1];simp only[cw,cond_false];rw[Fb hT hG hq,aa,← hG.bound v u hu];unfold zb6;rw[Tm.codes_len];by_cases hs:(σ v).size<=48
   ·rw[if_pos hs];simp only[cw,cond_false,bj];rw[yc (by rw[Tm.codes_len]; omega),aa,zp (by simp only[aX]; omega),cond_true,key _ (by simp only[am,aX]; omega)]
    have hb:Hm B v=true:=by simp [Hm,hu]
    simp [vU,qZ,hb,hs]
   ·rw[if_neg hs];simp only[c5,cond_true];simp [qZ,hs]
end
structure Mgu (σ:Sb) (E:List (Tm×Tm)):Prop where
 sol:Sol σ E
 gen:∀ θ,Sol θ E->∀ x,(σ x).sub θ=θ x
 le:∀ x y,σ x = .v y->y<=x
 idem:∀ x,(σ x).sub σ=σ x
theorem Mgu.of {B:Bd} {σ:Sb} {E:List (Tm×Tm)} (hG:Good B σ) (h:∀ θ,SolB θ B↔SolB θ (fun _=>none)∧Sol θ E):Mgu σ E where
 sol:=((h σ).1 hG.bound).2
 gen:=fun θ hθ=>hG.fac ((h θ).2 ⟨fun _ _ h=>(nomatch h),hθ⟩)
 le:=hG.le
 idem:=fun x=>by rw[← hG.fac hG.bound x]; exact hG.idem _
theorem Mgu.unique {σ σ':Sb} {E:List (Tm×Tm)} (h:Mgu σ E) (h':Mgu σ' E):σ=σ':=by
 have f1:∀ x,(σ x).sub σ'=σ' x:=h.gen σ' h'.sol;have f2:∀ x,(σ' x).sub σ=σ x:=h'.gen σ h.sol;have root:∀ y,σ y = .v y->σ' y = .v y:=by
  intro y hy;have h1:(σ' y).sub σ = .v y:=by rw[f2,hy]
  cases hz:σ' y with
  | f c as=>rw[hz] at h1; cases h1
  | v z =>
   rw[hz] at h1;have h2:=h'.le y z hz;have h3:=h.le z y h1;have:z=y:=by omega
   rw[this]
 have fix:∀ t:Tm,t.sub σ=t->∀ y,t.has y->σ y = .v y:=by
  intro t;have key:∀ n,(∀ t:Tm,t.size<=n->t.sub σ=t->∀ y,t.has y->σ y = .v y)∧∀ ts:List Tm,qJ ts<=n->qO σ ts=ts->∀ y,jr y ts->σ y = .v y:=by
   intro n
   induction n with
   | zero =>
    refine ⟨fun t ht=>absurd t.size_pos (by omega),fun ts hts he y hy => ?_⟩
    cases ts with
    | nil=>exact hy.elim
    | cons t ts=>have:=t.size_pos; simp only[qJ] at hts; omega
   | succ n ih =>
    have h1:∀ t:Tm,t.size<=n+1->t.sub σ=t->∀ y,t.has y->σ y = .v y:=by
     intro t ht he y hy;cases t with
     | v z =>
      have hy:z=y:=hy;subst hy;exact he
     | f c as =>
      have he:Tm.f c (qO σ as)=Tm.f c as:=he;injection he with _ he;simp only[Tm.size] at ht;exact ih.2 as (by omega) he y hy
    refine ⟨h1,fun ts => ?_⟩
    induction ts with
    | nil=>intro _ _ y hy; exact hy.elim
    | cons t ts iht =>
     intro hts he y hy;have he:t.sub σ::qO σ ts=t::ts:=he;injection he with he1 he2;simp only[qJ] at hts;have:=t.size_pos;rcases hy with hy | hy
     ·exact h1 t (by omega) he1 y hy
     ·exact ih.2 ts (by omega) he2 y hy
  exact (key t.size).1 t (aC _)
 funext x
 rw[← f1 x]
 conv=>lhs; rw[← Tm.sub_v (σ x)]
 exact Tm.sub_ext _ fun y hy=>(root y (fix _ (h.idem x) y hy)).symm
def moved (σ:Sb) (v:Nat):Bool:=match σ v with
 | .v y => !(y==v)
 | .f _ _=>true
theorem H7 {B:Bd} {σ:Sb} (h:Good B σ) (v:Nat):Hm B v=moved σ v:=by
 have:=h.moved (x:=v);unfold Hm moved;cases hb:B v with
 | none =>
  rw[h.free v hb];simp
 | some t =>
  have h1:=this.1 (by rw[hb]; simp)
  cases hs:σ v with
  | f c as=>rfl
  | v y =>
   rw[hs] at h1;have:y≠v:=fun e=>h1 (by rw[e])
   simp [this]
def te (σ:Sb):List (Int×List Int):=((aL 24).filter (moved σ)).map fun v:Nat=>((v:Int),(σ v).codes)
theorem zgT (a0:List zg) (N:Nat):RepT a0 N to0 (fun _=>none) where
 len:=by simp [to0]
 at_:=fun x e h=>by
  have hx:x<48:=by
   have:=(aw.1 h).1;simpa[to0] using this
  rw[zbo hx] at h;injection h with h;rw[← h];rfl
 out:=fun _ _=>rfl
theorem Q5 {a0:List zg} {xs ys:List Int} {ts us:List Tm} (hs:SignOk a0) (hx:xs=za ts) (hy:ys=za us) (ht:okR a0 24 ts) (hu:okR a0 24 us) (hb:uU a0=true) (hlx:xs.length<=48) (hly:ys.length<=48) :
  (uI a0 xs ys=some (false,0,[])∧(ts.length≠us.length∨∀ θ,¬ Sol θ (ts.zip us))) ∨
  (ts.length=us.length∧∃ σ,Mgu σ (ts.zip us)∧(∀ x,x<24->(σ x).ok a0 24)∧uI a0 xs ys=some (cond (qZ σ (aL 24)) (true,0,te σ) (false,401,[]))):=by
 have hr:∀{zs:List Int} {ws:List Tm},zs=za ws->okR a0 24 ws->zs.length<=48->YO a0 zs=some ws.length:=by
  intro zs ws h1 h2 h3;unfold YO uq;rw[hb,decide_eq_true h3,h1,yf ws h2];simp
 unfold uI;rw[Yg,hr hx ht hlx,aa,Yg,hr hy hu hly,aa];simp only;rw[show ((0:Int) != 0)=false from rfl,cond_false,cond_false]
 by_cases hl:ts.length=us.length
 ·rw[hl,show (((us.length:Nat):Int) != ((us.length:Nat):Int))=false from by simp,cond_false]
  obtain⟨r,h1,h2,h3⟩:=HK hs (N:=0) (by omega) (zgT a0 0) Good.empty (p:=xs) (q:=ys) (d:=0) (e:=0) (ts:=ts) (us:=us)
   ⟨ts,0,ht,hx,rfl,aC _,by rw[show Tm.up 0=id from funext Tm.up_zero,im],hlx⟩ ⟨us,0,hu,hy,rfl,aC _,by rw[show Tm.up 0=id from funext Tm.up_zero,im],hly⟩ hl
  have h1:wB xs 0 ys 0 a0 (ax 48 ((none:Option jI),(0:Int)))=some r:=h1;rw[h1,aa];rcases h3 with ⟨h3,h4⟩ | ⟨h3,B',h4,⟨σ,h5⟩,-,h6⟩
  ·rw[h3];exact .inl ⟨rfl,.inr fun θ h=>h4 θ (fun _ _ h=>(nomatch h)) h⟩
  ·rw[h3];have hok:∀ x,x<24->(σ x).ok a0 24:=by
    refine h5.ind (fun x hx hlt=>by rw[h5.free x hx]; exact hlt) fun x t hx ih _ => ?_
    have hto:Pc a0 0 t.codes 0 t:=by
     obtain⟨e,he,hpe⟩:=h4.get (x:=x) (h4.small x t hx).1;unfold PcO at hpe;split at hpe
     ·rw[hx] at hpe; cases hpe
     ·obtain⟨u,hu,hq⟩:=hpe;rw[hx] at hu; injection hu with hu; subst hu;obtain⟨u0,n,g1,g2,g3,g4,g5,g6⟩:=hq;have:n=0:=by omega
      subst this;rw[Tm.up_zero] at g5;subst g5;exact ⟨t,0,g1,rfl,rfl,aC _,(Tm.up_zero t).symm,by rw[← g2]; exact g6⟩
    obtain⟨u0,n,g1,g2,g3,g4,g5,g6⟩:=hto;have:n=0:=by omega
    subst this;rw[Tm.up_zero] at g5;subst g5;rw[h5.bound x t hx];exact Tm.ok_sub t g1 fun y hy=>ih y hy (Tm.ok_has t g1 hy)
   refine .inr ⟨rfl,σ,Mgu.of h5 h6,hok,?_⟩;simp only[az,cond_false];have:=Cg (a0:=r.2.1) (by rw[h2]; exact h4) h5 24 0 ze [] rfl (by omega) (by unfold ze; omega) (by simp)
   rw[show ((0:Nat):Int)=0 from rfl] at this
   rw[this,bQ];have he:vU B' σ (aL 24)=te σ:=by
    unfold vU te;rw[show Hm B'=moved σ from funext (H7 h5)]
   cases qZ σ (aL 24) with
   | true=>simp only[cond_true,aa,vT,bl,he]
   | false=>rfl
 ·rw[show (((ts.length:Nat):Int) != ((us.length:Nat):Int))=true from by simp; omega,cond_true]
  exact .inl ⟨rfl,.inl hl⟩
theorem Ly {n:Int} (h1:0<=n) (h2:n<=9223372036854775807):ag .u64 n=n:=by
 simp [ag,eV,cS];omega
theorem zeU {l h:Nat} (hl:l+h<=1000000000):ag .i64 (Int.fdiv (ag .u64 (ag .i64 ((l:Int)+(h:Int)))) (2 ^ min (bc 1) (cS .u64)))=(((l+h) / 2:Nat):Int):=by
 rw[zo (n:=(l:Int)+(h:Int)) (by omega) (by omega),Ly (by omega) (by omega)]
 have:(2:Int) ^ min (bc 1) (cS .u64)=2:=by decide
 rw[this,Int.fdiv_eq_ediv_of_nonneg _ (by omega)]
 rw[zo]<;>omega
theorem Aa (a b:Int):Kb a b=some (decide (a<b)):=by
 unfold Kb Wy;simp
abbrev Rise (xs:List Int):Prop:=xs.Pairwise (· < ·)
theorem Rise.lt {xs:List Int} (h:Rise xs) {i j:Nat} {x y:Int} (hi:xs[i]? = some x) (hj:xs[j]? = some y) (hij:i<j):x<y:=by
 obtain⟨h1,rfl⟩:=aw.1 hi;obtain⟨h2,rfl⟩:=aw.1 hj;exact List.pairwise_iff_getElem.1 h i j h1 h2 hij
theorem PB {xs:List Int} (h:Rise xs) (hl:xs.length<=1000000) (t:Int) (z:Int):∀(m l r k:Nat),r - l=m->l<=r->r<=xs.length->m<k->(∀(i:Nat) x,xs[i]? = some x->i<l->x<t)->(∀(i:Nat) x,xs[i]? = some x->r<=i->t<=x) ->
  ∃ q:Nat,lp yW k (xs,t,z,(l:Int),(r:Int))=some (q:Int)∧q<=xs.length∧(∀(i:Nat) x,xs[i]? = some x->i<q->x<t)∧∀(i:Nat) x,xs[i]? = some x->q<=i->t<=x:=by
 intro m
 induction m using cU with
 | _ m ih =>
  intro l r k hm hlr hr hk h1 h2;obtain⟨k,rfl⟩:∃ k',k=k'+1:=⟨k - 1,by omega⟩
  rw[zv];have key:=fun l r (h3:r - l<m) h4 h5 h6 h7=>ih (r - l) h3 l r k rfl h4 h5 (by omega) h6 h7
  generalize lp yW k=rec at key ⊢;unfold yW;by_cases hlt:l<r
  ·have hml:(l+r) / 2<xs.length:=by omega
   simp only[decide_eq_true (show (l:Int)<(r:Int) by omega),cond_true,zeU (show l+r<=1000000000 by omega),y8,al hml,aa,Aa]
   have hget:=al hml;have w:ag .i64 ((((l+r) / 2:Nat):Int)+1)=(((l+r) / 2+1:Nat):Int):=by rw[zo]<;>omega
   by_cases hc:xs[(l+r) / 2]<t
   ·rw[decide_eq_true hc,cond_true,w];refine key ((l+r) / 2+1) r (by omega) (by omega) hr (fun i x hi hil => ?_) h2
    rcases bG i ((l+r) / 2) with hi2 | hi2
    ·have:=h.lt hi hget hi2; omega
    ·have:i=(l+r) / 2:=by omega
     subst this;rw[hget] at hi; injection hi with hi; omega
   ·rw[decide_eq_false hc,cond_false];refine key l ((l+r) / 2) (by omega) (by omega) (by omega) h1 (fun i x hi hil => ?_)
    rcases bG ((l+r) / 2) i with hi2 | hi2
    ·have:=h.lt hget hi hi2; omega
    ·have:i=(l+r) / 2:=by omega
     subst this;rw[hget] at hi; injection hi with hi; omega
  ·rw[decide_eq_false (show ¬((l:Int)<(r:Int)) by omega),cond_false]
   have:l=r:=by omega
   subst this;exact ⟨l,rfl,hr,h1,h2⟩
theorem UX {xs:List Int} (h:Rise xs) (hl:xs.length<=1000000) (t:Int):∃(q:Nat) (b:Bool),wk xs t=some ((q:Int),b)∧q<=xs.length∧(∀(i:Nat) x,xs[i]? = some x->i<q->x<t)∧(∀(i:Nat) x,xs[i]? = some x->q<=i->t<=x)∧(b=true↔t∈xs):=by
 obtain⟨q,h1,h2,h3,h4⟩:=PB h hl t ((xs.length:Nat):Int) xs.length 0 xs.length ze rfl (bN _) (aC _) (by unfold ze; omega) (fun i x _ h=>by omega) (fun i x hi h=>by
  have:=(aw.1 hi).1; omega)
 have h1:lp yW ze (xs,t,((xs.length:Nat):Int),0,((xs.length:Nat):Int))=some (q:Int):=h1;unfold wk;rw[h1,aa];by_cases hq:q<xs.length
 ·rw[decide_eq_true (show ((q:Int)<((xs.length:Nat):Int)) by omega),cond_true,y8,al hq,aa]
  have hget:=al hq;by_cases he:xs[q]=t
  ·rw[show (xs[q]==t)=true from by simp [he],cond_true]
   exact ⟨q,true,rfl,h2,h3,h4,by simp only[true_iff]; rw[← he]; exact dx hq⟩
  ·rw[show (xs[q]==t)=false from by simp [he],cond_false,aa]
   have hn:ri xs[q]=some false:=by unfold ri; simp
   rw[hn,aa,cond_false];refine ⟨q,false,rfl,h2,h3,h4,?_⟩;constructor
   ·intro h; cases h
   ·intro hm;exfalso;obtain⟨i,hi⟩:=cX.1 hm;rcases Nat.lt_trichotomy i q with h5 | h5 | h5
    ·have:=h3 i t hi h5; omega
    ·subst h5; rw[hget] at hi; injection hi with hi; exact he hi
    ·have:=h.lt hget hi h5;have:=h4 q _ hget (aC _);omega
 ·rw[decide_eq_false (show ¬((q:Int)<((xs.length:Nat):Int)) by omega),cond_false]
  refine ⟨q,false,rfl,h2,h3,h4,?_⟩;constructor
  ·intro h; cases h
  ·intro hm;exfalso;obtain⟨i,hi⟩:=cX.1 hm;have:=h3 i t hi (by have:=(aw.1 hi).1; omega)
   omega
theorem Az {xs:List Int} (h:Rise xs) {q:Nat} {t:Int} (_hq:q<=xs.length) (h1:∀(i:Nat) x,xs[i]? = some x->i<q->x<t) (h2:∀(i:Nat) x,xs[i]? = some x->q<=i->t<=x) (h3:t∉xs):Rise (QC xs q [t]):=by
 unfold QC Rise;have ht:∀ x∈xs.take q,x<t:=fun x hx=>by
  obtain⟨i,hi⟩:=cX.1 hx;rw[List.getElem?_take] at hi;split at hi
  ·exact h1 i x hi (by assumption)
  ·cases hi
 have hd:∀ x∈xs.drop q,t<x:=fun x hx=>by
  obtain⟨i,hi⟩:=cX.1 hx;rw[List.getElem?_drop] at hi;have h4:=h2 _ x hi (by omega)
  have:x≠t:=fun e=>h3 (e▸aJ hi);omega
 rw[List.pairwise_append];refine ⟨h.sublist (List.take_sublist ..),?_,fun x hx y hy => ?_⟩
 ·rw[List.singleton_append,cA];exact ⟨hd,h.sublist (List.drop_sublist ..)⟩
 ·have h5:=ht x hx;rcases aI.1 hy with hy | hy
  ·rw[bb.1 hy]; exact h5
  ·have:=hd y hy; omega
theorem Mf {xs:List Int} {q:Nat} {t x:Int}:x∈QC xs q [t]↔x∈xs∨x=t:=by
 unfold QC;simp only[aI,bb];constructor
 ·rintro (h | h | h)
  ·exact .inl (List.mem_of_mem_take h)
  ·exact .inr h
  ·exact .inl (List.mem_of_mem_drop h)
 ·rintro (h | h)
  ·rw[← bW q xs] at h;rcases aI.1 h with h | h
   ·exact .inl h
   ·exact .inr (.inr h)
  ·exact .inr (.inl h)
def HH (r:List Int) (x:Int):Prop:=∃ c∈r,c<0∧x = -1 - c
theorem G3:(es vs:List Int)->Rise vs->vs.length+es.length<=1000000->(∀ c∈es,-1000000<=c∧c<=1000000)->∃ ws,yG es vs=some ws∧Rise ws∧(∀ x,x∈ws↔x∈vs∨HH es x)∧ws.length<=vs.length+es.length
 | [],vs,h,_,_=>⟨vs,rfl,h,fun x=>⟨.inl,fun h=>h.elim (fun h=>h) fun ⟨c,hc,_⟩=>(nomatch hc)⟩,aC _⟩
 | e::es,vs,h,hl,hc=>by
  rw[ak] at hl;have he:=hc e (aj ..);have hc':∀ c∈es,-1000000<=c∧c<=1000000:=fun c h=>hc c (ai _ h);unfold yG;by_cases h0:e≥0
  ·rw[decide_eq_true h0,cond_true];obtain⟨ws,h1,h2,h3,h4⟩:=G3 es vs h (by omega) hc'
   refine ⟨ws,h1,h2,fun x=>(h3 x).trans ?_,by rw[ak]; omega⟩
   constructor
   ·rintro (h5 | ⟨c,h5,h6⟩)
    ·exact .inl h5
    ·exact .inr ⟨c,ai _ h5,h6⟩
   ·rintro (h5 | ⟨c,h5,h6,h7⟩)
    ·exact .inl h5
    ·rcases aG.1 h5 with rfl | h5
     ·omega
     ·exact .inr ⟨c,h5,h6,h7⟩
  ·rw[decide_eq_false h0,cond_false,qx (by omega) (by omega),aa]
   obtain⟨q,b,h1,h2,h3,h4,h5⟩:=UX h (by omega) (-1 - e)
   rw[h1,aa];have fin:∀{vs':List Int},(∀ x,x∈vs'↔x∈vs∨x = -1 - e)->∀ x,(x∈vs'∨HH es x)↔(x∈vs∨HH (e::es) x):=by
    intro vs' hv x;rw[hv x];constructor
    ·rintro ((h6 | h6) | ⟨c,h6,h7⟩)
     ·exact .inl h6
     ·exact .inr ⟨e,aj ..,by omega,h6⟩
     ·exact .inr ⟨c,ai _ h6,h7⟩
    ·rintro (h6 | ⟨c,h6,h7,h8⟩)
     ·exact .inl (.inl h6)
     ·rcases aG.1 h6 with rfl | h6
      ·exact .inl (.inr h8)
      ·exact .inr ⟨c,h6,h7,h8⟩
   cases b with
   | true =>
    simp only[az,cond_false];obtain⟨ws,h6,h7,h8,h9⟩:=G3 es vs h (by omega) hc'
    refine ⟨ws,h6,h7,fun x=>(h8 x).trans (fin (fun x=>⟨.inl,fun h=>h.elim (fun h=>h) fun h => ?_⟩) x),by rw[ak]; omega⟩
    rw[h];exact h5.1 rfl
   | false =>
    simp only[bE,cond_true,aa];have hn : -1 - e∉vs:=fun h=>by have:=h5.2 h; cases this
    have hi:ki (q:Int) vs [-1 - e]=some (QC vs q [-1 - e]):=by
     unfold ki zeA;rw[zp (by simp; omega)]
     have e1:Pv (q:Int)=true:=by simp [Pv]
     have e2:decide ((q:Int)<=(af vs:Int))=true:=by simp; omega
     have e3:Ei ((af [-1 - e]:Nat):Int)=true:=by simp [Ei]
     rw[e1,e2,e3,bo];rfl
    rw[hi,aa];have hlen:(QC vs q [-1 - e]).length=vs.length+1:=Vz vs _ h2;obtain⟨ws,h6,h7,h8,h9⟩:=G3 es (QC vs q [-1 - e]) (Az h h2 h3 h4 hn) (by omega) hc'
    exact ⟨ws,h6,h7,fun x=>(h8 x).trans (fin (fun x=>Mf) x),by rw[ak]; omega⟩
theorem DM {r vs:List Int} (h:Rise vs) (hl:vs.length+r.length<=1000000) (hc:∀ c∈r,-1000000<=c∧c<=1000000):∃ ws,tm r vs=some ws∧Rise ws∧(∀ x,x∈ws↔x∈vs∨HH r x)∧ws.length<=vs.length+r.length:=by
 obtain⟨ws,h1,h2⟩:=G3 r vs h hl hc;refine ⟨ws,?_,h2⟩;unfold tm;rw[Qr _ _ (by unfold maxLen; omega),h1]
 rfl
def ZK (rs:List jI) (x:Int):Prop:=∃ r∈rs,HH r x
theorem Wd {r:List Int} {rs:List jI} {x:Int}:ZK (r::rs) x↔HH r x∨ZK rs x:=by simp [ZK]
theorem tv {rs ss:List jI} {x:Int}:ZK (rs++ss) x↔ZK rs x∨ZK ss x:=by
 simp only[ZK,aI];constructor
 ·rintro⟨r,h | h,h2⟩
  ·exact .inl ⟨r,h,h2⟩
  ·exact .inr ⟨r,h,h2⟩
 ·rintro (⟨r,h,h2⟩ | ⟨r,h,h2⟩)
  ·exact ⟨r,.inl h,h2⟩
  ·exact ⟨r,.inr h,h2⟩
theorem jc (r:List Int) (rs:List jI):zk (r::rs)=r.length+zk rs:=by simp [zk]
theorem wV (rs ss:List jI):zk (rs++ss)=zk rs+zk ss:=by simp [zk]
theorem NY:(es:List zc)->(vs:List Int)->Rise vs->vs.length+zk (es.map (·.2))<=1000000->(∀ l∈es,tS l.2) ->
  ∃ ws,qR es vs=some ws∧Rise ws∧(∀ x,x∈ws↔x∈vs∨ZK (es.map (·.2)) x)∧ws.length<=vs.length+zk (es.map (·.2))
 | [],vs,h,_,_=>⟨vs,rfl,h,fun x=>⟨.inl,fun h=>h.elim (fun h=>h) fun ⟨c,hc,_⟩=>(nomatch hc)⟩,by simp [zk]⟩
 | e::es,vs,h,hl,hn=>by
  rw[aK,jc] at hl;unfold qR;obtain⟨ws,h1,h2,h3,h4⟩:=DM h (r:=e.2) (by omega) (hn e (aj ..)).2
  rw[h1,aa];obtain⟨xs,h5,h6,h7,h8⟩:=NY es ws h2 (by omega) fun l hl=>hn l (ai _ hl)
  refine ⟨xs,h5,h6,fun x => ?_,by rw[aK,jc]; omega⟩
  rw[h7 x,h3 x,aK,Wd,or_assoc]
theorem L8:(es:List jI)->(vs:List Int)->Rise vs->vs.length+zk es<=1000000->(∀ l∈es,tS l) ->
  ∃ ws,qW es vs=some ws∧Rise ws∧(∀ x,x∈ws↔x∈vs∨ZK es x)∧ws.length<=vs.length+zk es
 | [],vs,h,_,_=>⟨vs,rfl,h,fun x=>⟨.inl,fun h=>h.elim (fun h=>h) fun ⟨c,hc,_⟩=>(nomatch hc)⟩,by simp [zk]⟩
 | e::es,vs,h,hl,hn=>by
  rw[jc] at hl;unfold qW;obtain⟨ws,h1,h2,h3,h4⟩:=DM h (r:=e) (by omega) (hn e (aj ..)).2
  rw[h1,aa];obtain⟨xs,h5,h6,h7,h8⟩:=L8 es ws h2 (by omega) fun l hl=>hn l (ai _ hl)
  refine ⟨xs,h5,h6,fun x => ?_,by rw[jc]; omega⟩
  rw[h7 x,h3 x,Wd,or_assoc]
def yh (L:List zc) (T:List jI) (C:List zc):List jI:=L.map (·.2)++C.map (·.2)++T
theorem rM {a0:List zg} (hs:SignOk a0) {L:List zc} {T:List jI} {C:List zc} (h:qy a0 L T C=true):∃ ws,yL a0 L T C=some (0,ws)∧Rise ws∧∀ x,x∈ws↔ZK (yh L T C) x:=by
 obtain⟨-,h1,h2,h3,h4,h5,h6,h7⟩:=zz h;have n1:=kp hs h4;have n2:=W9 hs h5;have n3:=kp hs h6;unfold yL;rw[zG,aa,h];simp only[az,cond_false];rw[jx (by omega),aa,Qu _ _ _ _ _ (by unfold maxLen; simp; omega)]
 obtain⟨ws,h8,h9,h10,h11⟩:=NY (L++C) [] ge (by rw[cd,wV]; simp; omega) (fun l hl=>(aI.1 hl).elim (n1 l) (n3 l))
 rw[h8,aa,Qd _ _ (by unfold maxLen; omega)]
 rw[cd,wV] at h11;obtain⟨xs,h12,h13,h14,-⟩:=L8 T ws h9 (by simp at h11; omega) n2
 rw[h12];refine ⟨xs,rfl,h13,fun x => ?_⟩;rw[h14 x,h10 x,cd];unfold yh;rw[tv,tv,tv];simp
def upC (by_:Int) (c:Int):Int:=cond (decide (c<0)) (c - by_) c
def rN (b:Int) (ls:List zc):List zc:=ls.map fun l=>(l.1,l.2.map (upC b))
theorem JH (b:Int) (hb:0<=b∧b<=1000):(es done:List Int)->(k:Nat)->es.length<k->done.length+es.length<=1000000->(∀ c∈es,-1000000<=c∧c<=1000000) ->
  lp qF k (((done.length+es.length:Nat):Int),(done.length:Int),b,done++es)=some (done++es.map (upC b))
 | [],done,k,hk,hl,hc=>by
  obtain⟨k,rfl⟩:∃ k',k=k'+1:=⟨k - 1,by omega⟩
  rw[zv];generalize lp qF k=rec;unfold qF;simp
 | e::es,done,k,hk,hl,hc=>by
  obtain⟨k,rfl⟩:∃ k',k=k'+1:=⟨k - 1,by omega⟩
  rw[zv];have he:=hc e (aj ..);have hl':done.length+(es.length+1)<=1000000:=hl;have key:=fun e'=>JH b hb es (done++[e']) k (Nat.lt_of_succ_lt_succ hk) (by simp; omega) (fun c hx=>hc c (ai _ hx))
  generalize lp qF k=rec at key ⊢;unfold qF;have e1:decide (((done.length:Nat):Int)<((done.length+(e::es).length:Nat):Int))=true:=by rw[decide_eq_true_eq,ak]; omega
  have e2:inR ((done.length:Nat):Int) (af (done++e::es))=some done.length:=ym (by simp)
  have e3:ag .i64 (((done.length:Nat):Int)+1)=((done.length+1:Nat):Int):=by rw[zo]<;>omega
  have key2:=fun e'=>by
   have:=key e';rw[aW,am,aX,bK,dj 1 es.length] at this;exact this
  simp only[e1,cond_true,e2,aa,QQ,e3];by_cases h0:e<0
  ·have hu:upC b e=e - b:=by unfold upC; rw[decide_eq_true h0]; rfl
   have w:ag .i64 (e - b)=e - b:=by rw[zo]<;>omega
   rw[decide_eq_true h0,cond_true,w];have hset:(done++e::es).set done.length (e - b)=done++(e - b)::es:=by
    rw[List.set_append_right _ _ (aC _),ep]; rfl
   rw[hset,aK,hu];have:=key2 (e - b);exact this.trans (by simp)
  ·have hu:upC b e=e:=by unfold upC; rw[decide_eq_false h0]; rfl
   rw[decide_eq_false h0,cond_false,aK,hu];have:=key2 e;exact this.trans (by simp)
theorem Il {b:Int} (hb:0<=b∧b<=1000) {r:List Int} (hn:tS r):qD r b=some (r.map (upC b)):=by
 unfold qD;rw[yc (by have:=hn.1; omega),aa]
 have:=JH b hb r [] ze (by have:=hn.1; unfold ze; omega) (by have:=hn.1; simp; omega) hn.2
 simp only[bm,aP,bl] at this;have h0:((0:Nat):Int)=0:=rfl;rw[h0] at this;rw[this];rfl
theorem I4 {b:Int} (hb:0<=b∧b<=1000):(es out:List zc)->(∀ l∈es,tS l.2)->out.length+es.length<=1000000->yF b es out=some (out++rN b es)
 | [],out,_,_=>by simp [yF,rN]
 | e::es,out,hn,hl=>by
  rw[ak] at hl;unfold yF;rw[Il hb (hn e (aj ..)),aa,zp (show (out.length+([(e.1,e.2.map (upC b))]:List zc).length)*32<=140737488351232 by simp; omega),cond_true,
   I4 hb es _ (fun l hl=>hn l (ai _ hl)) (by simp; omega)]
  simp [rN]
theorem Bi {b:Int} (hb:0<=b∧b<=1000) (s7:List zc):(es out:List jI)->(∀ l∈es,tS l)->out.length+es.length<=1000000->yE b s7 es out=some (s7,out++es.map (cV (upC b)))
 | [],out,_,_=>by simp [yE]
 | e::es,out,hn,hl=>by
  rw[ak] at hl;unfold yE;rw[Il hb (hn e (aj ..)),aa,zp (show (out.length+([e.map (upC b)]:List jI).length)*24<=140737488351232 by simp; omega),cond_true,
   Bi hb s7 es _ (fun l hl=>hn l (ai _ hl)) (by simp; omega)]
  simp
theorem IM {b:Int} (hb:0<=b∧b<=1000) (s4:List zc) (s5:List jI):(es out:List zc)->(∀ l∈es,tS l.2)->out.length+es.length<=1000000->yw b s4 s5 es out=some (s4,s5,out++rN b es)
 | [],out,_,_=>by simp [yw,rN]
 | e::es,out,hn,hl=>by
  rw[ak] at hl;unfold yw;rw[Il hb (hn e (aj ..)),aa,zp (show (out.length+([(e.1,e.2.map (upC b))]:List zc).length)*32<=140737488351232 by simp; omega),cond_true,
   IM hb s4 s5 es _ (fun l hl=>hn l (ai _ hl)) (by simp; omega)]
  simp [rN]
theorem Jp {b:Int} (hb:0<=b∧b<=1000) {L:List zc} {T:List jI} {C:List zc} (hL:∀ l∈L,tS l.2) (hT:∀ l∈T,tS l) (hC:∀ l∈C,tS l.2) (h1:L.length<=1000) (h2:T.length<=1000) (h3:C.length<=1000) :
  zJ L T C b=some (rN b L,T.map (cV (upC b)),rN b C):=by
 unfold zJ Yx;rw[ZQ _ _ _ _ _ _ (by unfold maxLen; omega),I4 hb L [] hL (by simp; omega),aa,
  YC _ _ _ _ _ _ _ (by unfold maxLen; omega),Bi hb _ T [] hT (by simp; omega),aa,
  ZS _ _ _ _ _ (by unfold maxLen; omega),IM hb _ _ C [] hC (by simp; omega),aa]
 simp
def TopV (rs:List jI) (m:Int):Prop:=(∀ x,ZK rs x->x<m)∧(m=0∨ZK rs (m - 1))
theorem O0 {ws:List Int} {rs:List jI} (h:Rise ws) (hm:∀ x,x∈ws↔ZK rs x):(ws=[]∧TopV rs 0)∨∃ x,ws[ws.length - 1]? = some x∧0<ws.length∧TopV rs (x+1):=by
 cases hw:ws with
 | nil=>exact .inl ⟨rfl,⟨fun x hx=>(by have:=(hm x).2 hx; rw[hw] at this; cases this),.inl rfl⟩⟩
 | cons w ws' =>
  rw[← hw];have hl:0<ws.length:=by rw[hw]; simp
  refine .inr ⟨ws[ws.length - 1],al (by omega),hl,⟨fun x hx => ?_,.inr ?_⟩⟩
  ·obtain⟨i,hi⟩:=cX.1 ((hm x).2 hx);have hil:=(aw.1 hi).1;rcases bG i (ws.length - 1) with h1 | h1
   ·have:=h.lt hi (al (show ws.length - 1<ws.length by omega)) h1; omega
   ·have:i=ws.length - 1:=by omega
    subst this;rw[al (by omega)] at hi
    injection hi with hi; omega
  ·rw[show ws[ws.length - 1]+1 - 1=ws[ws.length - 1] from by omega]
   exact (hm _).1 (dx _)
def vn (s:Sb) (r:List Int):List Int:=r.flatMap (Yt s)
theorem GK (σ:Sb) (v:Nat):(vs:List Nat)->rI ((vs.filter (moved σ)).map fun v:Nat=>((v:Int),(σ v).codes)) (v:Int)=if v∈vs∧moved σ v=true then some (σ v).codes else none
 | []=>by simp [rI]
 | w::vs=>by
  have ih:=GK σ v vs;cases hm:moved σ w with
  | false =>
   rw[cQ (by simp [hm]),ih]
   by_cases hv:v=w
   ·subst hv;simp [hm]
   ·simp [hv]
  | true =>
   rw[dc hm,aK];unfold rI at ih ⊢;rw[List.find?_cons];by_cases hv:v=w
   ·subst hv;simp [hm]
   ·rw[show (((w:Nat):Int)==(v:Int))=false from by simp; omega,ih]
    simp [hv]
theorem Ay {σ:Sb} {r:List Int} (h:∀ c∈r,-24<=c):onB (te σ) r=vn σ r:=by
 unfold onB vn
 induction r with
 | nil=>rfl
 | cons c r ih =>
  rw[bv,bv,ih fun c hc=>h c (ai _ hc)]
  congr 1
  have hc:=h c (aj ..);unfold onC Yt;by_cases h0:c≥0
  ·rw[decide_eq_true h0,cond_true,if_neg (by omega)]
  ·rw[decide_eq_false h0,cond_false,if_pos (by omega)]
   obtain⟨k,hk,rfl⟩:∃ k:Nat,k<24∧c = -1 - (k:Int):=⟨(-1 - c).toNat,by omega,by omega⟩
   have e1:(-1:Int) - (-1 - (k:Int))=(k:Int):=by omega
   rw[e1,bo];unfold te;rw[GK σ k];cases hm:moved σ k with
   | true=>simp [hk]
   | false =>
    have:σ k = .v k:=by
     unfold moved at hm;split at hm
     ·rename_i y hy;have:y=k:=by simpa using hm
      rw[hy,this]
     ·cases hm
    rw[this];simp [Tm.codes]
theorem Q0 {σ:Sb} (h:qZ σ (aL 24)=true):BindsOk (te σ) where
 len:=by
  unfold te;rw[aF];have:=List.length_filter_le (moved σ) (aL 24);simp at this;omega
 all:=fun b hb=>by
  unfold te at hb;obtain⟨v,hv,rfl⟩:=aR.1 hb;have hv:=(dp.1 hv).1;have h1:=aD.1 h v hv;have h2:=(σ v).size_pos;have h3:=(σ v).codes_len;have h4:(σ v).size<=48:=of_decide_eq_true h1;refine ⟨fun e => ?_,?_⟩
  ·have:=congrArg af e;simp only[bm] at this;omega
  ·show (σ v).codes.length<=1000;omega
def qK (s:Sb) (ls:List zc):List zc:=ls.map fun l=>(l.1,vn s l.2)
theorem Ke {σ:Sb} {ls:List zc} (h:∀ l∈ls,∀ c∈l.2,-24<=c):JY (te σ) ls=qK σ ls:=by
 unfold JY qK;exact bx fun l hl=>by rw[Ay (h l hl)]
theorem CT {σ:Sb} {rs:List jI} (h:∀ r∈rs,∀ c∈r,-24<=c):HD (te σ) rs=rs.map (vn σ):=by
 unfold HD;exact bx fun r hr=>Ay (h r hr)
theorem v6 {a0:List zg} {xs:List Int} (h:vq a0 xs=true):∃(c:Nat) (ts:List Tm) (e:zg),xs=(c:Int)::za ts∧okR a0 24 ts∧a0[c]? = some e∧e.2.1=0∧((ts.length:Nat):Int)=e.2.2.1∧(za ts).length<=48∧uU a0=true:=by
 obtain⟨x,r,e,ps,rfl,h0,h1,-,h2,h3,h4,h5,h6⟩:=QW h;obtain⟨ts,h7,h8,h9⟩:=Sv h5;refine ⟨x.toNat,ts,e,by rw[← h9,cy h0],h7,h1,h2,?_,by rw[← h9]; exact h4,h3⟩
 rw[← h6,h8,aF]
theorem R1 {a0:List zg} {c:Nat} {ts:List Tm} {e:zg} (h1:okR a0 24 ts) (h2:a0[c]? = some e) (h3:e.2.1=0) (h4:((ts.length:Nat):Int)=e.2.2.1) (h5:(za ts).length<=48) (h6:uU a0=true):vq a0 ((c:Int)::za ts)=true:=by
 unfold vq;simp only[bo,h2];unfold uq;rw[h6,decide_eq_true h5];simp [h3,yf ts h1,h4]
theorem V8 (b:Nat):(ts:List Tm)->(za ts).map (upC (b:Int))=za (ts.map (Tm.up b)):=by
 intro ts;have h:=kA (fun n=>Tm.v (n+b)) ts;have e:ts.map (Tm.up b)=qO (fun n=>Tm.v (n+b)) ts:=by rw[Ye]; rfl
 rw[e,h];generalize za ts=r
 induction r with
 | nil=>rfl
 | cons c r ih =>
  rw[aK,bv,ih]
  congr 1
  unfold upC Yt;by_cases h0:c<0
  ·rw[decide_eq_true h0,cond_true,if_pos h0];show [c - (b:Int)]++_=[-1 - (((-1 - c).toNat+b:Nat):Int)]++_;rw[show -1 - (((-1 - c).toNat+b:Nat):Int)=c - (b:Int) from by omega]
   rfl
  ·rw[decide_eq_false h0,cond_false,if_neg h0];rfl
theorem kn {ts:List Tm} {x:Int}:HH (za ts) x↔∃ k:Nat,x=(k:Int)∧jr k ts:=by
 constructor
 ·rintro⟨c,h1,h2,rfl⟩;exact ⟨(-1 - c).toNat,by omega,(kv h2 ts).1 h1⟩
 ·rintro⟨k,rfl,hk⟩;refine ⟨-1 - (k:Int),(kv (by omega) ts).2 (by rwa [show (-1 - (-1 - (k:Int))).toNat=k from by omega]),by omega,by omega⟩
theorem K0 {a0:List zg} {L:List zc} {T:List jI} {C:List zc} (h:qy a0 L T C=true):∀ r∈yh L T C,rF r:=by
 obtain⟨-,-,-,-,h4,h5,h6,-⟩:=zz h;intro r hr;unfold yh at hr;rcases aI.1 hr with hr | hr
 ·rcases aI.1 hr with hr | hr
  ·obtain⟨l,hl,rfl⟩:=aR.1 hr; exact wh h4 l hl
  ·obtain⟨l,hl,rfl⟩:=aR.1 hr; exact wh h6 l hl
 ·exact Yp h5 r hr
theorem Zb {a0:List zg} {L:List zc} {T:List jI} {C:List zc} (h:qy a0 L T C=true) {x:Int} (hx:ZK (yh L T C) x):0<=x∧x<24:=by
 obtain⟨r,hr,c,hc,h0,rfl⟩:=hx;have:=(K0 h r hr).2 c hc;omega
abbrev ApR:=List zc×List jI×Bool×List zc
theorem apart_spec {a0:List zg} (hs:SignOk a0) {L:List zc} {T:List jI} {C:List zc} {L':List zc} {T':List jI} {C':List zc} (h:qy a0 L T C=true) (h':qy a0 L' T' C'=true) :
  ∃ b:Nat,b<=24∧TopV (yh L T C) (b:Int) ∧
   ((vN a0 L T C L' T' C'=some ([],[],false,[])∧∃ x,ZK (yh L' T' C') x∧23<x+(b:Int)) ∨
    (vN a0 L T C L' T' C'=some (rN (b:Int) L',T'.map (cV (upC (b:Int))),true,rN (b:Int) C')∧∀ x,ZK (yh L' T' C') x->x+(b:Int)<=23)):=by
 obtain⟨ws,h1,h2,h3⟩:=rM hs h;obtain⟨ws',h1',h2',h3'⟩:=rM hs h';obtain⟨-,l1,l2,l3,l4,l5,l6,-⟩:=zz h';have hsh:∀ b:Nat,b<=24->zJ L' T' C' (b:Int)=some (rN (b:Int) L',T'.map (cV (upC (b:Int))),rN (b:Int) C'):=fun b hb =>
  Jp (by omega) (kp hs l4) (W9 hs l5) (kp hs l6) (by omega) (by omega) (by omega)
 -- the second half
 have second:∀ b:Nat,b<=24->∃ o:Option ApR,((yL a0 L' T' C').bind fun r17 =>
   cond (decide (((af r17.2:Nat):Int)>0))
   ((inR (ag .i64 (((af r17.2:Nat):Int) - 1)) (af r17.2)).bind fun k18 =>
    (r17.2[k18]?).bind fun x19 =>
    cond (decide ((ag .i64 (x19+(b:Int)))>23))
    (some (([]:jQ),([]:jR),false,([]:jQ)))
    ((zJ L' T' C' (b:Int)).bind fun r20 =>
     some (r20.1,r20.2.1,true,r20.2.2)))
   ((zJ L' T' C' (b:Int)).bind fun r21 =>
    some (r21.1,r21.2.1,true,r21.2.2)))=o∧((o=some ([],[],false,[])∧∃ x,ZK (yh L' T' C') x∧23<x+(b:Int)) ∨
    (o=some (rN (b:Int) L',T'.map (cV (upC (b:Int))),true,rN (b:Int) C')∧∀ x,ZK (yh L' T' C') x->x+(b:Int)<=23)):=by
  intro b hb;refine ⟨_,rfl,?_⟩;rw[h1',aa];simp only;rcases O0 h2' h3' with ⟨rfl,h4⟩ | ⟨x,h4,h5,h6,h7⟩
  ·rw[show decide (((af ([]:List Int):Nat):Int)>0)=false from rfl,cond_false,hsh b hb]
   refine .inr ⟨rfl,fun x hx => ?_⟩;have:=h4.1 x hx;have:=(Zb h' hx).1;omega
  ·have hvx:ZK (yh L' T' C') x:=by
    rcases h7 with h7 | h7
    ·have:=(h3' x).1 (aJ h4); exact this
    ·rwa [show x+1 - 1=x from by omega] at h7
   have hx:=Zb h' hvx;have hwl:ws'.length<=1000000∨True:=.inr trivial;have e1:ag .i64 (((af ws':Nat):Int) - 1)=((ws'.length - 1:Nat):Int)∨ws'.length>1000000:=by
    rcases bG 1000000 ws'.length with h8 | h8
    ·exact .inr h8
    ·left; rw[zo]<;>omega
   have hlen:ws'.length<=24:=by
    -- numbers below 24 that rise
    have key:∀(ys:List Int) (m:Int),Rise ys->(∀ y∈ys,m<=y∧y<24)->(ys.length:Int)<=24 - m∨ys=[]:=by
     intro ys
     induction ys with
     | nil=>intro m _ _; exact .inr rfl
     | cons y ys ih =>
      intro m hr hy;have hr:=cA.1 hr;have hy0:=hy y (aj ..);rcases ih (y+1) hr.2 (fun z hz=>⟨by have:=hr.1 z hz; omega,(hy z (ai _ hz)).2⟩) with h8 | h8
      ·left; rw[ak]; omega
      ·subst h8; left; simp; omega
    rcases key ws' 0 h2' fun y hy=>Zb h' ((h3' y).1 hy) with h8 | h8
    ·omega
    ·rw[h8]; simp
   have e1:ag .i64 (((af ws':Nat):Int) - 1)=((ws'.length - 1:Nat):Int):=by rw[zo]<;>omega
   rw[decide_eq_true (show ((af ws':Nat):Int)>0 by omega),cond_true,e1,ym (by omega),aa,h4,aa]
   have e2:ag .i64 (x+(b:Int))=x+(b:Int):=by rw[zo]<;>omega
   simp only[e2];by_cases hf:x+(b:Int)>23
   ·rw[decide_eq_true hf,cond_true];exact .inl ⟨rfl,x,hvx,by omega⟩
   ·rw[decide_eq_false hf,cond_false,hsh b hb];refine .inr ⟨rfl,fun y hy => ?_⟩;have:=h6 y hy;omega
 unfold vN;rw[h1,aa];simp only;rcases O0 h2 h3 with ⟨rfl,h4⟩ | ⟨x,h4,h5,h6⟩
 ·rw[show decide (((af ([]:List Int):Nat):Int)>0)=false from rfl,cond_false]
  obtain⟨o,h8,h9⟩:=second 0 (by omega)
  rw[show ((0:Nat):Int)=0 from rfl] at h8 h9
  refine ⟨0,by omega,h4,?_⟩
  have h8':=h8;rw[show ((0:Nat):Int)=0 from rfl]
  refine h9.imp (fun h=>⟨?_,h.2⟩) fun h=>⟨?_,h.2⟩
  ·exact h8.trans h.1
  ·exact h8.trans h.1
 ·have hvx:ZK (yh L T C) x:=(h3 x).1 (aJ h4);have hx:=Zb h hvx;have hlen:ws.length<=24:=by
   have key:∀(ys:List Int) (m:Int),Rise ys->(∀ y∈ys,m<=y∧y<24)->(ys.length:Int)<=24 - m∨ys=[]:=by
    intro ys
    induction ys with
    | nil=>intro m _ _; exact .inr rfl
    | cons y ys ih =>
     intro m hr hy;have hr:=cA.1 hr;have hy0:=hy y (aj ..);rcases ih (y+1) hr.2 (fun z hz=>⟨by have:=hr.1 z hz; omega,(hy z (ai _ hz)).2⟩) with h8 | h8
     ·left; rw[ak]; omega
     ·subst h8; left; simp; omega
   rcases key ws 0 h2 fun y hy=>Zb h ((h3 y).1 hy) with h8 | h8
   ·omega
   ·rw[h8]; simp
  have e1:ag .i64 (((af ws:Nat):Int) - 1)=((ws.length - 1:Nat):Int):=by rw[zo]<;>omega
  rw[decide_eq_true (show ((af ws:Nat):Int)>0 by omega),cond_true,e1,ym (by omega),aa,h4,aa]
  have e2:ag .i64 (x+1)=(((x+1).toNat:Nat):Int):=by rw[zo]<;>omega
  rw[e2];obtain⟨o,h8,h9⟩:=second (x+1).toNat (by omega)
  refine ⟨(x+1).toNat,by omega,by rw[cy (show (0:Int)<=x+1 by omega)]; exact h6,?_⟩
  refine h9.imp (fun h=>⟨?_,h.2⟩) fun h=>⟨?_,h.2⟩
  ·exact h8.trans h.1
  ·exact h8.trans h.1
abbrev Xc:=List zc×List jI×Bool×Int×List zc
def wb (k:Int):Option Xc:=some ([],[],false,k,[])
theorem Th {α β:Type} (f:α->β) {xs:List α} {i:Int} {x:α} (h:gx xs i=some x):gx (xs.map f) i=some (f x):=by
 unfold gx at h ⊢;cases hd:decide (0<=i) with
 | false=>rw[hd] at h; cases h
 | true =>
  rw[hd,cond_true] at h;rw[cond_true,bh,h];rfl
theorem jA {α:Type} {xs:List α} {i:Int} {x:α} (h:gx xs i=some x):x∈xs:=by
 unfold gx at h;cases hd:decide (0<=i) with
 | false=>rw[hd] at h; cases h
 | true =>
  rw[hd,cond_true] at h;exact aJ h
def Cds (r:List Int):Prop:=r.length<=1000∧∀ c∈r,-24<=c∧c<=1000000
theorem Cds.near {r:List Int} (h:Cds r):tS r:=⟨h.1,fun c hc=>by have:=h.2 c hc; omega⟩
theorem Z3 {a0:List zg} (hs:SignOk a0) {L:List zc} {T:List jI} {C:List zc} (h:qy a0 L T C=true):∀ r∈yh L T C,Cds r:=by
 intro r hr;have h1:=K0 h r hr;obtain⟨-,-,-,-,h4,h5,h6,-⟩:=zz h;have h2:tS r:=by
  unfold yh at hr;rcases aI.1 hr with hr | hr
  ·rcases aI.1 hr with hr | hr
   ·obtain⟨l,hl,rfl⟩:=aR.1 hr; exact kp hs h4 l hl
   ·obtain⟨l,hl,rfl⟩:=aR.1 hr; exact kp hs h6 l hl
  ·exact W9 hs h5 r hr
 exact ⟨h2.1,fun c hc=>⟨h1.2 c hc,(h2.2 c hc).2⟩⟩
theorem T7 {b:Nat} {r:List Int} (h:Cds r) (hb:∀ x,HH r x->x+(b:Int)<=23):Cds (r.map (upC (b:Int))):=by
 refine ⟨by rw[aF]; exact h.1,fun c hc => ?_⟩
 obtain⟨d,hd,rfl⟩:=aR.1 hc;have h1:=h.2 d hd;unfold upC;by_cases h0:d<0
 ·have:=hb (-1 - d) ⟨d,hd,h0,rfl⟩;rw[decide_eq_true h0,cond_true]; omega
 ·rw[decide_eq_false h0,cond_false]; omega
theorem MG {a0:List zg} {b:Nat} {ts:List Tm} (h:okR a0 24 ts) (hb:∀ k:Nat,jr k ts->k+b<24):okR a0 24 (ts.map (Tm.up b)):=by
 have e:ts.map (Tm.up b)=qO (fun n=>Tm.v (n+b)) ts:=by rw[Ye]; rfl
 rw[e];exact XS ts h fun x hx=>hb x hx
theorem IA (b:Nat) (c:Nat) (ts:List Tm):((c:Int)::za ts).map (upC (b:Int))=(c:Int)::za (ts.map (Tm.up b)):=by
 rw[aK,V8];unfold upC;rw[decide_eq_false (show ¬((c:Int)<0) by omega)]
 rfl
theorem yQ {L:List zc} {T:List jI} {C:List zc} {l:zc} (h:l∈L):l.2∈yh L T C:=by
 unfold yh;exact bk _ (bk _ (aZ h))
theorem xc {L:List zc} {T:List jI} {C:List zc} {l:zc} (h:l∈C):l.2∈yh L T C:=by
 unfold yh;exact bk _ (bp _ (aZ h))
theorem xu {L:List zc} {T:List jI} {C:List zc} {r:List Int} (h:r∈T):r∈yh L T C:=by
 unfold yh;exact bp _ h
theorem ED {σ:Sb} (hsh:qZ σ (aL 24)=true) {L:List zc} {T:List jI} {C:List zc} (hL:∀ l∈L,Cds l.2) (hT:∀ r∈T,Cds r) (hC:∀ l∈C,Cds l.2) (h1:L.length<=1000) (h2:T.length<=1000) (h3:C.length<=1000) :
  rE (te σ) L T C=some (qK σ L,T.map (vn σ),qK σ C):=by
 rw[IR (Q0 hsh) (fun l hl=>(hL l hl).near) (fun r hr=>(hT r hr).near) (fun l hl=>(hC l hl).near) h1 h2 h3,
  Ke fun l hl c hc=>((hL l hl).2 c hc).1,Ke fun l hl c hc=>((hC l hl).2 c hc).1,CT fun r hr c hc=>((hT r hr).2 c hc).1]
def Sf (i j:Int) (b:Nat) (L L':List zc):List zc:=zh i L 0++zh j (rN (b:Int) L') 0
def Vb (b:Nat) (T T':List jI):List jI:=T++T'.map (cV (upC (b:Int)))
def Vj (b:Nat) (C C':List zc):List zc:=C++rN (b:Int) C'
def jJ (a0:List zg) (σ:Sb) (L:List zc) (T:List jI) (C:List zc) (k:Int):Option Xc :=
 cond (qy a0 (qK σ L) (T.map (vn σ)) (qK σ C)) (some ((x5 (qK σ L) (T.map (vn σ)) (qK σ C)).1,(x5 (qK σ L) (T.map (vn σ)) (qK σ C)).2.1,true,0,(x5 (qK σ L) (T.map (vn σ)) (qK σ C)).2.2)) (wb k)
theorem YN {a0:List zg} (hs:SignOk a0) {L:List zc} {T:List jI} {C:List zc} {L':List zc} {T':List jI} {C':List zc} (h:qy a0 L T C=true) (h':qy a0 L' T' C'=true) {i j:Int} {n n':Bool} {A A':List Int}
  (hi:gx L i=some (n,A)) (hj:gx L' j=some (n',A')) :
  ((n=n'∨gx A 0≠gx A' 0)∧vL a0 L T C i L' T' C' j=wb 0) ∨
  (n≠n'∧∃(b c:Nat) (ts us:List Tm),b<=24∧TopV (yh L T C) (b:Int)∧A=(c:Int)::za ts∧A'=(c:Int)::za us∧okR a0 24 ts∧okR a0 24 us∧ts.length=us.length ∧
   ((vL a0 L T C i L' T' C' j=wb 1301∧∃ x,ZK (yh L' T' C') x∧23<x+(b:Int)) ∨
    ((∀ x,ZK (yh L' T' C') x->x+(b:Int)<=23) ∧
    ((vL a0 L T C i L' T' C' j=wb 0∧∀ θ,¬ Sol θ (ts.zip (us.map (Tm.up b)))) ∨
     ∃ σ,Mgu σ (ts.zip (us.map (Tm.up b)))∧(∀ x,x<24->(σ x).ok a0 24) ∧
      ((qZ σ (aL 24)=false∧vL a0 L T C i L' T' C' j=wb 1302) ∨
      (qZ σ (aL 24)=true∧vL a0 L T C i L' T' C' j=jJ a0 σ (Sf i j b L L') (Vb b T T') (Vj b C C') 1302)))))):=by
 obtain⟨hsb,l1,l2,l3,l4,l5,l6,-⟩:=zz h;obtain⟨-,l1',l2',l3',l4',l5',l6',-⟩:=zz h';have hA:=aD.1 l4 (n,A) (jA hi);have hA':=aD.1 l4' (n',A') (jA hj);obtain⟨c,ts,e,rfl,ho,he,-,hlen,hl48,-⟩:=v6 hA;obtain⟨c',us,e',rfl,ho',he',-,hlen',hl48',-⟩:=v6 hA';unfold vL;rw[hi,aa,hj,aa];simp only[aa];by_cases hn:n=n'
 ·subst hn;rw[show (n==n)=true from by simp,cond_true]
  exact .inl ⟨.inl rfl,rfl⟩
 ·rw[show (n==n')=false from by simp [hn],cond_false]
  simp only[z6,aB,aa];by_cases hc:c=c'
  ·subst hc;rw[show ((c:Int) != (c:Int))=false from by simp,cond_false]
   have hll:ts.length=us.length:=by
    rw[he] at he'; injection he' with he'; subst he';omega
   refine .inr ⟨hn,?_⟩;obtain⟨b,hb,htop,hap⟩:=apart_spec hs h h';refine ⟨b,c,ts,us,hb,htop,rfl,rfl,ho,ho',hll,?_⟩;rcases hap with ⟨hap,hfar⟩ | ⟨hap,hnear⟩
   ·rw[hap];exact .inl ⟨rfl,hfar⟩
   ·rw[hap];simp only[aa,az,cond_false];refine .inr ⟨hnear,?_⟩;have hj2:gx (rN (b:Int) L') j=some (n',((c:Int)::za us).map (upC (b:Int))):=Th _ hj;rw[hj2];simp only[wW,aa];rw[IA,wW];simp only[aa];have hvar:∀ k:Nat,jr k us->k+b<24:=fun k hk=>by
     have:=hnear (k:Int) ⟨_,yQ (jA hj),by
      obtain⟨c0,h1,h2,h3⟩:=kn.2 ⟨k,rfl,hk⟩;exact ⟨c0,ai _ h1,h2,h3⟩⟩
     omega
    have hlu:(za (us.map (Tm.up b))).length<=48:=by rw[← V8,aF]; exact hl48'
    rcases Q5 hs (xs:=za ts) (ys:=za (us.map (Tm.up b))) rfl rfl ho (MG ho' hvar) hsb hl48 hlu with ⟨hu,hno⟩ | ⟨-,σ,hm,hok,hu⟩
    ·rw[hu];refine .inl ⟨rfl,?_⟩;rcases hno with hno | hno
     ·rw[aF] at hno; exact absurd hll hno
     ·exact hno
    ·rw[hu];refine .inr ⟨σ,hm,hok,?_⟩;cases hsh:qZ σ (aL 24) with
     | false=>exact .inl ⟨rfl,rfl⟩
     | true =>
      refine .inr ⟨rfl,?_⟩;simp only[cond_true,aa,show ((0:Int) != 0)=false from rfl,cond_false,az]
      have hul:(rN (b:Int) L').length=L'.length:=by simp [rN]
      have hucl:(rN (b:Int) C').length=C'.length:=by simp [rN]
      rw[uB i j (by omega) (by omega) (by omega) (by omega) (by simp; omega) (by omega),aa]
      simp only;have hcd:=Z3 hs h;have hcd':=Z3 hs h';have hwl:=sG i L 0;have hwl':=sG j (rN (b:Int) L') 0;have hup:∀ r∈yh L' T' C',Cds (r.map (upC (b:Int))):=fun r hr=>T7 (hcd' r hr) fun x hx=>hnear x ⟨r,hr,hx⟩;have hupl:∀ ls:List zc,(∀ l∈ls,l.2∈yh L' T' C')->∀ l∈rN (b:Int) ls,Cds l.2:=fun ls hls l hl=>by
       obtain⟨l0,h0,rfl⟩:=aR.1 hl;exact hup _ (hls l0 h0)
      rw[ED hsh (fun l hl => ?_) (fun r hr => ?_) (fun l hl => ?_) (by rw[am]; omega) (by rw[am,aF]; omega) (by rw[am]; omega),aa,xK,aa]
      ·unfold jJ Sf Vb Vj;cases hmy:qy a0 (qK σ (zh i L 0++zh j (rN (b:Int) L') 0)) ((T++T'.map (cV (upC (b:Int)))).map (vn σ)) (qK σ (C++rN (b:Int) C')) with
       | true=>rfl
       | false=>rfl
      ·rcases aI.1 hl with hl | hl
       ·exact hcd _ (yQ (qC L 0 hl))
       ·exact hupl L' (fun l hl=>yQ hl) l (qC _ 0 hl)
      ·rcases aI.1 hr with hr | hr
       ·exact hcd _ (xu hr)
       ·obtain⟨r0,h0,rfl⟩:=aR.1 hr;exact hup _ (xu h0)
      ·rcases aI.1 hl with hl | hl
       ·exact hcd _ (xc hl)
       ·exact hupl C' (fun l hl=>xc hl) l hl
  ·rw[show ((c:Int) != (c':Int))=true from by simp; omega,cond_true]
   refine .inl ⟨.inr ?_,rfl⟩;intro hcc;injection hcc with hcc;omega
theorem yH {a0:List zg}:∀(n:Nat) (ts us:List Tm),qJ ts<=n->okR a0 24 ts->okR a0 24 us->za ts=za us->ts=us:=by
 intro n
 induction n with
 | zero =>
  intro ts us hn _ _ he;cases ts with
  | cons t ts=>have:=t.size_pos; simp only[qJ] at hn; omega
  | nil =>
   cases us with
   | nil=>rfl
   | cons u us =>
    have:=congrArg af he;rw[tO,tO] at this;have:=u.size_pos;simp only[qJ] at *; omega
 | succ n ih =>
  intro ts us hn ho ho' he;cases ts with
  | nil =>
   cases us with
   | nil=>rfl
   | cons u us =>
    have:=congrArg af he;rw[tO,tO] at this;have:=u.size_pos;simp only[qJ] at *; omega
  | cons t ts =>
   cases us with
   | nil =>
    have:=congrArg af he;rw[tO,tO] at this;have:=t.size_pos;simp only[qJ] at *; omega
   | cons u us =>
    have he:t.codes++za ts=u.codes++za us:=he;cases t with
    | v k =>
     cases u with
     | v k' =>
      have he:(-1 - (k:Int))::za ts=(-1 - (k':Int))::za us:=he;injection he with h1 h2;have:k=k':=by omega
      rw[this,ih ts us (by simp only[qJ,Tm.size] at hn; omega) ho.2 ho'.2 h2]
     | f c as =>
      have he:(-1 - (k:Int))::za ts=(c:Int)::(za as++za us):=he;injection he with h1 h2;omega
    | f c as =>
     cases u with
     | v k' =>
      have he:(c:Int)::(za as++za ts)=(-1 - (k':Int))::za us:=he;injection he with h1 h2;omega
     | f c' bs =>
      have he:(c:Int)::(za as++za ts)=(c':Int)::(za bs++za us):=he;injection he with h1 h2;have hc:c=c':=by omega
      subst hc;rw[← uY,← uY] at h2;have ha:=ho.1.1;have hb:=ho'.1.1;rw[ha] at hb;injection hb with hb;have:=ih (as++ts) (bs++us) (by rw[Wr]; simp only[qJ,Tm.size] at hn; omega)
       (vf.2 fun t ht=>(aI.1 ht).elim (vf.1 ho.1.2 t) (vf.1 ho.2 t))
       (vf.2 fun t ht=>(aI.1 ht).elim (vf.1 ho'.1.2 t) (vf.1 ho'.2 t)) h2
      obtain⟨h3,h4⟩:=List.append_inj this hb;rw[h3,h4]
theorem YJ (L:List zc) (T:List jI) (C:List zc) (i:Int):t7 L T C i=some (zW L i):=by
 unfold t7 zW;by_cases h:i≥0
 ·rw[decide_eq_true h,cond_true,aN]
 ·rw[decide_eq_false h,cond_false,Bool.false_and]
theorem Xm (a0:List zg) (L:List zc) (T:List jI) (C:List zc) (i:Int) (L':List zc) (T':List jI) (C':List zc) (j:Int) :
  sH a0 L T C i L' T' C' j=cond (qy a0 L T C&&qy a0 L' T' C'&&zW L i&&zW L' j) (vL a0 L T C i L' T' C' j) (wb 1300):=by
 unfold sH;rw[zG,aa,zG,aa,YJ,aa,YJ,aa];have eta:∀ o:Option Xc,(o.bind fun r=>some (r.1,r.2.1,r.2.2.1,r.2.2.2.1,r.2.2.2.2))=o:=fun o=>by cases o<;>rfl
 cases qy a0 L T C with
 | false=>rfl
 | true =>
  cases qy a0 L' T' C' with
  | false=>rfl
  | true =>
   cases zW L i with
   | false=>rfl
   | true =>
    cases zW L' j with
    | false=>rfl
    | true=>exact eta _
theorem Fh (a0:List zg) (n:Bool) (A:List Int):Qg a0 n A=some (vq a0 A):=by
 unfold Qg;rw[Zd];rfl
theorem WP {α:Type} [DecidableEq α]:(a b:List α)->a.Nodup->(∀ x∈a,x∈b)->a.length<=b.length
 | [],_,_,_=>bN _
 | x::a,b,hn,hs=>by
  have hn:=dL.1 hn;have hx:=hs x (aj ..);have h1:∀ y∈a,y∈b.erase x:=fun y hy=>by
   have hne:y≠x:=fun e=>hn.1 (e▸hy);exact (List.mem_erase_of_ne hne).2 (hs y (ai _ hy))
  have h2:=WP a (b.erase x) hn.2 h1;rw[List.length_erase_of_mem hx] at h2;have:=List.length_pos_of_mem hx;simp only[ak];omega
theorem Rx (b:Nat) (ts:List Tm):ts.map (Tm.up b)=qO (fun n=>Tm.v (n+b)) ts:=by rw[Ye]; rfl
theorem wq {L:List zc} {i:Int} (h:zW L i=true):∃ l,gx L i=some l:=by
 unfold zW at h;simp only[ay,decide_eq_true_eq] at h;obtain⟨l,h1,-⟩:=WN (xs:=L) h.1 h.2;exact ⟨l,h1⟩
def Kl (a0:jI):Option Bool :=
 some (decide (((af a0:Nat):Int)<=6))
def V9 (a0:Int) (a1:jI):Option (Int×jI) :=
 some ((ag .i64 (1+(ag .i64 (dM (ag .u64 a0) 3)))),a1)
def kq (rec:(jI×Int×Int)->Option (Unit⊕Bool)) (x:(jI×Int×Int)):Option (Unit⊕Bool) :=
 cond (decide (x.2.2<((af x.1:Nat):Int)))
 ((gx x.1 x.2.2).bind fun e2 =>
  cond (e2==(ag .i64 ((-1) - x.2.1)))
  (some (aH true))
  (rec (x.1,x.2.1,(ag .i64 (x.2.2+1)))))
 (some (aU ()))
def IJ (a0:jI) (a1:Int):Option Bool :=
 ((lp kq ze) (a0,a1,0)).bind fun r6 =>
 yb r6
 (fun _z7=>some false)
 (fun z8=>some z8)
def vi (rec:(jI×Int×jI)->Option jI) (x:(jI×Int×jI)):Option jI :=
 cond (decide (x.2.1<=23))
 ((IJ x.1 x.2.1).bind fun r3 =>
  cond r3
  (cond (yK (af x.2.2+af ([x.2.1]:List Int)) 8)
   (rec (x.1,(ag .i64 (x.2.1+1)),(x.2.2++([x.2.1]:List Int))))
   (none))
  (rec (x.1,(ag .i64 (x.2.1+1)),x.2.2)))
 (some x.2.2)
def XW (a0:jI):Option jI :=
 ((lp vi ze) (a0,0,([]:jI))).bind fun r5 =>
 some r5
def uk (rec:(jR×Int×jI)->Option jI) (x:(jR×Int×jI)):Option jI :=
 cond (decide (x.2.1<((af x.1:Nat):Int)))
 ((gx x.1 x.2.1).bind fun e4 =>
  cond (yK (af x.2.2+af e4) 8)
  (rec (x.1,(ag .i64 (x.2.1+1)),(x.2.2++e4)))
  (none))
 (some x.2.2)
def tw (a0:jQ) (a1:jR) (a2:jQ):Option jI :=
 (ZF a0 a1 a2).bind fun r7 =>
 ((lp uk ze) (r7,0,([]:jI))).bind fun r8 =>
 (XW r8).bind fun r9 =>
 some r9
def GZ:Option jI :=
 cond (eqI 24 24)
 (cond (Pv 24)
  (cond (yK (bc 24) 8)
   (some (ax (bc 24) (0:Int)))
   (none))
  (none))
 (none)
def xA (rec:(jI×Int×Int×Int×jI)->Option Int) (x:(jI×Int×Int×Int×jI)):Option Int :=
 cond (decide (x.2.2.1<((af x.1:Nat):Int)))
 ((gx x.1 x.2.2.1).bind fun e2 =>
  rec (x.1,(ag .u64 ((ag .u64 ((ag .u64 (x.2.1*5))+(ag .u64 e2)))+3)),(ag .i64 (x.2.2.1+1)),x.2.2.2.1,x.2.2.2.2))
 (some x.2.1)
def xo (a0:Int) (a1:jI) (a2:Int) (a3:jI):Option Int :=
 cond (((af a1:Nat):Int)==0)
 (some 0)
 (((lp xA ze) (a3,(ag .u64 (ag .i64 ((ag .i64 (a2*7))+1))),0,a0,a1)).bind fun r6 =>
  cond (decide ((ag .u64 ((af a1:Nat):Int))=0))
  (none)
  ((gx a1 (ag .i64 (dM r6 (ag .u64 ((af a1:Nat):Int))))).bind fun e7 =>
   (O1 .and .i64 e7 255).bind fun b8 =>
   some b8))
def qe (rf:((Int×jI×jS×jI×Int×jI)->Option (Int×Int))) (rec:(jS×jI×Int×jI×Int×Int×Int×jI×jI)->Option (Int×jI)) (x:(jS×jI×Int×jI×Int×Int×Int×jI×jI)):Option (Int×jI) :=
 (gx x.1 x.2.2.2.2.1).bind fun e7 =>
 cond (decide (x.2.2.2.2.2.1<e7.2.2.1))
 ((rf (x.2.2.2.2.2.2.1,x.2.2.2.2.2.2.2.1,x.1,x.2.1,x.2.2.1,x.2.2.2.1)).bind fun r8 =>
  cond (yK (af x.2.2.2.2.2.2.2.2+af ([r8.1]:List Int)) 8)
  (rec (x.1,x.2.1,r8.2,x.2.2.2.1,x.2.2.2.2.1,(ag .i64 (x.2.2.2.2.2.1+1)),x.2.2.2.2.2.2.1,x.2.2.2.2.2.2.2.1,(x.2.2.2.2.2.2.2.2++([r8.1]:List Int))))
  (none))
 (some (x.2.2.1,x.2.2.2.2.2.2.2.2))
def tZ (rf:((Int×jI×jS×jI×Int×jI)->Option (Int×Int))) (a0:Int) (a1:jI) (a2:jS) (a3:jI) (a4:Int) (a5:jI):Option (Int×Int) :=
 (gx a3 a4).bind fun e11 =>
 cond (decide (e11<0))
 ((gx a5 (ag .i64 ((-1) - e11))).bind fun e12 =>
  some (e12,(ag .i64 (a4+1))))
 (((lp (qe rf) ze) (a2,a3,(ag .i64 (a4+1)),a5,e11,0,a0,a1,([]:jI))).bind fun r13 =>
  (xo a0 a1 e11 r13.2).bind fun r14 =>
  cond (decide (a0=0))
  (none)
  (some ((dM r14 a0),r13.1)))
def ZW (rf:((Int×jI×jS×jI×Int×jI)->Option (Int×Int))):((Int×jI×jS×jI×Int×jI)->Option (Int×Int)) :=
 fun (x:(Int×jI×jS×jI×Int×jI))=>tZ rf x.1 x.2.1 x.2.2.1 x.2.2.2.1 x.2.2.2.2.1 x.2.2.2.2.2
def ZU:((Int×jI×jS×jI×Int×jI)->Option (Int×Int)):=fun _=>none
def xy (k:Nat):((Int×jI×jS×jI×Int×jI)->Option (Int×Int)):=lpR ZU ZW k
def rJ (a0:Int) (a1:jI) (a2:jS) (a3:jI) (a4:Int) (a5:jI):Option (Int×Int):=(xy ze) (a0,a1,a2,a3,a4,a5)
def yN (rec:(jS×jI×jI×Int×Int×jI×jI)->Option jI) (x:(jS×jI×jI×Int×Int×jI×jI)):Option jI :=
 cond (decide (x.2.2.2.1<((af x.2.1:Nat):Int)))
 ((rJ x.2.2.2.2.1 x.2.2.2.2.2.1 x.1 x.2.1 x.2.2.2.1 x.2.2.1).bind fun r3 =>
  cond (yK (af x.2.2.2.2.2.2+af ([r3.1]:List Int)) 8)
  (rec (x.1,x.2.1,x.2.2.1,r3.2,x.2.2.2.2.1,x.2.2.2.2.2.1,(x.2.2.2.2.2.2++([r3.1]:List Int))))
  (none))
 (some x.2.2.2.2.2.2)
def vB (a0:Int) (a1:jI) (a2:jS) (a3:jI) (a4:jI):Option jI :=
 ((lp yN ze) (a2,a3,a4,0,a0,a1,([]:jI))).bind fun r5 =>
 some r5
def uJ (a0:Int) (a1:jI) (a2:jS) (a3:jI) (a4:jI):Option Bool :=
 (uh a3 (some 1) none).bind fun y11 =>
 (vB a0 a1 a2 y11 a4).bind fun r12 =>
 (gx a3 0).bind fun e13 =>
 cond (e13==0)
 ((inR 0 (af r12)).bind fun k14 =>
  (r12[k14]?).bind fun x15 =>
  (inR 1 (af r12)).bind fun k16 =>
  (r12[k16]?).bind fun x17 =>
  some (x15==x17))
 ((gx a3 0).bind fun e18 =>
  (xo a0 a1 e18 r12).bind fun r19 =>
  (O1 .and .i64 r19 1).bind fun b20 =>
  some (b20==1))
def va (a0:Int) (a1:jI) (a2:jS) (a3:Bool) (a4:jI) (a5:jI):Option Bool :=
 (uJ a0 a1 a2 a4 a5).bind fun r2 =>
 some (!(r2==a3))
def vW (a0:Int) (a1:jI) (a2:jS) (a3:jI) (a4:jI):Option Bool :=
 (vB a0 a1 a2 a3 a4).bind fun r4 =>
 (xo a0 a1 101 r4).bind fun r5 =>
 (O1 .and .i64 r5 2).bind fun b6 =>
 some (b6==2)
def xF (rec:(jS×jI×Int×Int×jI×jQ×jR×jQ)->Option (Unit⊕Bool)) (x:(jS×jI×Int×Int×jI×jQ×jR×jQ)):Option (Unit⊕Bool) :=
 cond (decide (x.2.2.1<((af x.2.2.2.2.2.2.1:Nat):Int)))
 ((gx x.2.2.2.2.2.2.1 x.2.2.1).bind fun e15 =>
  (vW x.2.2.2.1 x.2.2.2.2.1 x.1 e15 x.2.1).bind fun r16 =>
  cond r16
  (some (aH true))
  (rec (x.1,x.2.1,(ag .i64 (x.2.2.1+1)),x.2.2.2.1,x.2.2.2.2.1,x.2.2.2.2.2.1,x.2.2.2.2.2.2.1,x.2.2.2.2.2.2.2)))
 (some (aU ()))
def xG (rec:(jS×jI×Int×Int×jI×jQ×jR×jQ)->Option (Unit⊕Bool)) (x:(jS×jI×Int×Int×jI×jQ×jR×jQ)):Option (Unit⊕Bool) :=
 cond (decide (x.2.2.1<((af x.2.2.2.2.2.1:Nat):Int)))
 ((gx x.2.2.2.2.2.1 x.2.2.1).bind fun e9 =>
  (va x.2.2.2.1 x.2.2.2.2.1 x.1 e9.1 e9.2 x.2.1).bind fun r10 =>
  cond r10
  (some (aH true))
  (rec (x.1,x.2.1,(ag .i64 (x.2.2.1+1)),x.2.2.2.1,x.2.2.2.2.1,x.2.2.2.2.2.1,x.2.2.2.2.2.2.1,x.2.2.2.2.2.2.2)))
 (some (aU ()))
def xH (rec:(jS×jI×Int×Int×jI×jQ×jR×jQ)->Option (Unit⊕Bool)) (x:(jS×jI×Int×Int×jI×jQ×jR×jQ)):Option (Unit⊕Bool) :=
 cond (decide (x.2.2.1<((af x.2.2.2.2.2.2.2:Nat):Int)))
 ((gx x.2.2.2.2.2.2.2 x.2.2.1).bind fun e3 =>
  (va x.2.2.2.1 x.2.2.2.2.1 x.1 e3.1 e3.2 x.2.1).bind fun r4 =>
  cond (!r4)
  (some (aH true))
  (rec (x.1,x.2.1,(ag .i64 (x.2.2.1+1)),x.2.2.2.1,x.2.2.2.2.1,x.2.2.2.2.2.1,x.2.2.2.2.2.2.1,x.2.2.2.2.2.2.2)))
 (some (aU ()))
def uw (a0:Int) (a1:jI) (a2:jS) (a3:jQ) (a4:jR) (a5:jQ) (a6:jI):Option Bool :=
 ((lp xH ze) (a2,a6,0,a0,a1,a3,a4,a5)).bind fun r22 =>
 yb r22
 (fun _z23=>((lp xG ze) (a2,a6,0,a0,a1,a3,a4,a5)).bind fun r24 =>
  yb r24
  (fun _z25=>((lp xF ze) (a2,a6,0,a0,a1,a3,a4,a5)).bind fun r26 =>
   yb r26
   (fun _z27=>some false)
   (fun z28=>some z28))
  (fun z29=>some z29))
 (fun z30=>some z30)
def xI (rec:(jI×Int×jI×Int×jI)->Option (jI⊕zc)) (x:(jI×Int×jI×Int×jI)):Option (jI⊕zc) :=
 cond (decide (x.2.1<((af x.1:Nat):Int)))
 ((gx x.1 x.2.1).bind fun e23 =>
  (inR e23 (af x.2.2.1)).bind fun k24 =>
  (x.2.2.1[k24]?).bind fun x25 =>
  (inR e23 (af x.2.2.1)).bind fun k26 =>
  (x.2.2.1[k26]?).bind fun _x27 =>
  (gx x.1 x.2.1).bind fun e28 =>
  (inR e28 (af (bw x.2.2.1 k26 (ag .i64 (x25+1))))).bind fun k29 =>
  ((bw x.2.2.1 k26 (ag .i64 (x25+1)))[k29]?).bind fun x30 =>
  cond (decide (x30<x.2.2.2.1))
  (some (aH (true,(bw x.2.2.1 k26 (ag .i64 (x25+1))))))
  ((gx x.1 x.2.1).bind fun e31 =>
   (inR e31 (af (bw x.2.2.1 k26 (ag .i64 (x25+1))))).bind fun k32 =>
   ((bw x.2.2.1 k26 (ag .i64 (x25+1)))[k32]?).bind fun _x33 =>
   rec (x.1,(ag .i64 (x.2.1+1)),(bw (bw x.2.2.1 k26 (ag .i64 (x25+1))) k32 0),x.2.2.2.1,x.2.2.2.2)))
 (some (aU x.2.2.1))
def uG (a0:Int) (a1:jI) (a2:jI) (a3:jI):Option zc :=
 ((lp xI ze) (a2,0,a3,a0,a1)).bind fun r37 =>
 yb r37
 (fun z38=>cond (!(dU a3)&&true)
  (cond (aA (af a3) (af z38)&&true)
   (some (false,z38))
   (none))
  (none))
 (fun z39=>cond (!(dU a3)&&true)
  (cond (aA (af a3) (af z39.2)&&true)
   (some (z39.1,z39.2))
   (none))
  (none))
def xN (rec:(jS×jI×Int×jI×jQ×jR×jQ×jI)->Option Bool) (x:(jS×jI×Int×jI×jQ×jR×jQ×jI)):Option Bool :=
 (uw x.2.2.1 x.2.2.2.1 x.1 x.2.2.2.2.1 x.2.2.2.2.2.1 x.2.2.2.2.2.2.1 x.2.2.2.2.2.2.2).bind fun r5 =>
 cond (!r5)
 (some false)
 ((uG x.2.2.1 x.2.2.2.1 x.2.1 x.2.2.2.2.2.2.2).bind fun r6 =>
  cond (!r6.1)
  (some true)
  (rec (x.1,x.2.1,x.2.2.1,x.2.2.2.1,x.2.2.2.2.1,x.2.2.2.2.2.1,x.2.2.2.2.2.2.1,r6.2)))
def zy (a0:Int) (a1:jI) (a2:jS) (a3:jQ) (a4:jR) (a5:jQ):Option Bool :=
 (tw a3 a4 a5).bind fun r8 =>
 (GZ).bind fun r9 =>
 ((lp xN ze) (a2,r8,a0,a1,a3,a4,a5,r9)).bind fun r10 =>
 some r10
def vR (s1:Int):List Int->Option (Unit⊕Bool)
 | []=>some (aU ())
 | e::es =>
  cond (e==(ag .i64 ((-1) - s1)))
  (some (aH true))
  (vR s1 es)
theorem W2 (s0:jI) (s1:Int) (hl:af s0<=maxLen):lp kq ze (s0,s1,0)=vR s1 s0:=sr kq (fun i=>(s0,s1,i)) (fun es i=>vR s1 es) hl (fun r i h=>by unfold kq vR; simp only[h,cond_false]) (fun r i e es h g w k=>by unfold kq vR; simp only[h,cond_true,g,aa,w,k])
def qi:List jI->jI->Option jI
 | [],s2=>some s2
 | e::es,s2 =>
  cond (yK (af s2+af e) 8)
  (qi es (s2++e))
  (none)
theorem Y4 (s0:jR) (s2:jI) (hl:af s0<=maxLen):lp uk ze (s0,0,s2)=qi s0 s2:=x9 uk (fun i s2=>(s0,i,s2)) (fun es i s2=>qi es s2) hl (fun r i s2 h=>by unfold uk qi; simp only[h,cond_false]) (fun r i s2 e es h g w k=>by unfold uk qi; simp only[h,cond_true,g,aa,w,k]) s2
def qu:List Int->Int->Option Int
 | [],s1=>some s1
 | e::es,s1 =>
  qu es (ag .u64 ((ag .u64 ((ag .u64 (s1*5))+(ag .u64 e)))+3))
theorem j3 (s0:jI) (s3:Int) (s4:jI) (s1:Int) (hl:af s0<=maxLen):lp xA ze (s0,s1,0,s3,s4)=qu s0 s1:=x9 xA (fun i s1=>(s0,s1,i,s3,s4)) (fun es i s1=>qu es s1) hl (fun r i s1 h=>by unfold xA qu; simp only[h,cond_false]) (fun r i s1 e es h g w k=>by unfold xA qu; simp only[h,cond_true,g,aa,w,k]) s1
def yC (s0:jS) (s1:jI) (s3:Int) (s4:jI):List jI->Option (Unit⊕Bool)
 | []=>some (aU ())
 | e::es =>
  (vW s3 s4 s0 e s1).bind fun r16 =>
  cond r16
  (some (aH true))
  (yC s0 s1 s3 s4 es)
theorem jX (s0:jS) (s1:jI) (s3:Int) (s4:jI) (s5:jQ) (s6:jR) (s7:jQ) (hl:af s6<=maxLen):lp xF ze (s0,s1,0,s3,s4,s5,s6,s7)=yC s0 s1 s3 s4 s6:=sr xF (fun i=>(s0,s1,i,s3,s4,s5,s6,s7)) (fun es i=>yC s0 s1 s3 s4 es) hl (fun r i h=>by unfold xF yC; simp only[h,cond_false]) (fun r i e es h g w k=>by unfold xF yC; simp only[h,cond_true,g,aa,w,k])
def yy (s0:jS) (s1:jI) (s3:Int) (s4:jI):List zc->Option (Unit⊕Bool)
 | []=>some (aU ())
 | e::es =>
  (va s3 s4 s0 e.1 e.2 s1).bind fun r10 =>
  cond r10
  (some (aH true))
  (yy s0 s1 s3 s4 es)
theorem jY (s0:jS) (s1:jI) (s3:Int) (s4:jI) (s5:jQ) (s6:jR) (s7:jQ) (hl:af s5<=maxLen):lp xG ze (s0,s1,0,s3,s4,s5,s6,s7)=yy s0 s1 s3 s4 s5:=sr xG (fun i=>(s0,s1,i,s3,s4,s5,s6,s7)) (fun es i=>yy s0 s1 s3 s4 es) hl (fun r i h=>by unfold xG yy; simp only[h,cond_false]) (fun r i e es h g w k=>by unfold xG yy; simp only[h,cond_true,g,aa,w,k])
def yz (s0:jS) (s1:jI) (s3:Int) (s4:jI):List zc->Option (Unit⊕Bool)
 | []=>some (aU ())
 | e::es =>
  (va s3 s4 s0 e.1 e.2 s1).bind fun r4 =>
  cond (!r4)
  (some (aH true))
  (yz s0 s1 s3 s4 es)
theorem jZ (s0:jS) (s1:jI) (s3:Int) (s4:jI) (s5:jQ) (s6:jR) (s7:jQ) (hl:af s7<=maxLen):lp xH ze (s0,s1,0,s3,s4,s5,s6,s7)=yz s0 s1 s3 s4 s7:=sr xH (fun i=>(s0,s1,i,s3,s4,s5,s6,s7)) (fun es i=>yz s0 s1 s3 s4 es) hl (fun r i h=>by unfold xH yz; simp only[h,cond_false]) (fun r i e es h g w k=>by unfold xH yz; simp only[h,cond_true,g,aa,w,k])
def zY (s3:Int):List Int->jI->Option (jI⊕zc)
 | [],s2=>some (aU s2)
 | e::es,s2 =>
  (inR e (af s2)).bind fun k24 =>
  (s2[k24]?).bind fun x25 =>
  (inR e (af s2)).bind fun k26 =>
  (s2[k26]?).bind fun _x27 =>
  (inR e (af (bw s2 k26 (ag .i64 (x25+1))))).bind fun k29 =>
  ((bw s2 k26 (ag .i64 (x25+1)))[k29]?).bind fun x30 =>
  cond (decide (x30<s3))
  (some (aH (true,(bw s2 k26 (ag .i64 (x25+1))))))
  ((inR e (af (bw s2 k26 (ag .i64 (x25+1))))).bind fun k32 =>
   ((bw s2 k26 (ag .i64 (x25+1)))[k32]?).bind fun _x33 =>
   zY s3 es (bw (bw s2 k26 (ag .i64 (x25+1))) k32 0))
theorem j6 (s0:jI) (s3:Int) (s4:jI) (s2:jI) (hl:af s0<=maxLen):lp xI ze (s0,0,s2,s3,s4)=zY s3 s0 s2:=x9 xI (fun i s2=>(s0,i,s2,s3,s4)) (fun es i s2=>zY s3 es s2) hl (fun r i s2 h=>by unfold xI zY; simp only[h,cond_false]) (fun r i s2 e es h g w k=>by unfold xI zY; simp only[h,cond_true,g,aa,w,k]) s2
def tN (nums:List Int):Prop:=nums≠[]∧nums.length<=9223372036854775807
theorem jV (n:Int):0<=ag .u64 n∧ag .u64 n<18446744073709551616:=by
 simp [ag,eV,cS];omega
theorem OQ:(es:List Int)->(h:Int)->(0<=h∧h<18446744073709551616)->∃ h',qu es h=some h'∧0<=h'∧h'<18446744073709551616
 | [],h,hh=>⟨h,rfl,hh⟩
 | _e::es,_h,_=>OQ es _ (jV _)
theorem Am (a:Int) (b:Nat) (hb:b<=255):∃ v:Nat,O1 .and .i64 a (b:Int)=some (v:Int)∧v<=b:=by
 refine ⟨(dh 64 a &&& dh 64 (b:Int)).toNat,?_,?_⟩
 ·unfold O1;simp only[aq];have h1:(dh (cS .i64) a &&& dh (cS .i64) (b:Int)).toNat<=255:=by
   rw[gr];refine aT gu ?_;rw[f8];simp [cS];omega
  show ag .i64 _=_;rw[zo (by omega) (by omega)]
  rfl
 ·rw[gr];refine aT gu ?_;rw[f8];simp;omega
theorem Ob (m:Int) {nums:List Int} (hn:tN nums) (c:Int) {xs:List Int} (hl:xs.length<=1000000):∃ v:Nat,xo m nums c xs=some (v:Int)∧v<=255:=by
 unfold xo;have h0:0<nums.length:=List.length_pos_iff.2 hn.1;have hl2:=hn.2;rw[show (((af nums:Nat):Int)==0)=false from by simp; exact hn.1,cond_false,j3 _ _ _ _ (by unfold maxLen; omega)]
 obtain⟨h,h1,h2,h3⟩:=OQ xs _ (jV (ag .i64 ((ag .i64 (c*7))+1)));rw[h1,aa];have hw:ag .u64 ((af nums:Nat):Int)=((nums.length:Nat):Int):=Ly (by omega) (by omega)
 rw[hw,decide_eq_false (show ¬(((nums.length:Nat):Int)=0) by omega),cond_false]
 have r1:0<=dM h ((nums.length:Nat):Int):=fH _ h2;have r2:dM h ((nums.length:Nat):Int)<((nums.length:Nat):Int):=eW _ (by omega)
 generalize dM h ((nums.length:Nat):Int)=q at r1 r2;rw[zo (n:=q) (by omega) (by omega)]
 obtain⟨x,hx,-⟩:=WN (xs:=nums) r1 r2;rw[hx,aa];obtain⟨v,hv,hv2⟩:=Am x 255 (aC _);have hv:O1 .and .i64 x 255=some (v:Int):=hv;rw[hv];exact ⟨v,rfl,hv2⟩
def WH (m:Int) (nums:List Int) (c:Int) (xs:List Int):Int:=(xo m nums c xs).getD 0
theorem Ir (m:Int) {nums:List Int} (hn:tN nums) (c:Int) {xs:List Int} (hl:xs.length<=1000000):xo m nums c xs=some (WH m nums c xs)∧0<=WH m nums c xs∧WH m nums c xs<=255:=by
 obtain⟨v,h1,h2⟩:=Ob m hn c hl;unfold WH;rw[h1];exact ⟨rfl,by simp,by simp; omega⟩
section
variable (m:Int) (nums:List Int)
mutual
def uy (env:Nat->Int):Tm->Int
 | .v n=>env n
 | .f c ts=>dM (WH m nums (c:Int) (rq env ts)) m
def rq (env:Nat->Int):List Tm->List Int
 | []=>[]
 | t::ts=>uy env t::rq env ts
end
theorem Q9 (env:Nat->Int):(ts:List Tm)->(rq m nums env ts).length=ts.length
 | []=>rfl
 | t::ts=>by simp [rq,Q9 env ts]
mutual
theorem Yc (env:Nat->Int) (s:Sb):(t:Tm)->uy m nums env (t.sub s)=uy m nums (fun n=>uy m nums env (s n)) t
 | .v n=>rfl
 | .f c ts=>by
  show dM (WH m nums (c:Int) (rq m nums env (qO s ts))) m=_;rw[km env s ts];rfl
theorem km (env:Nat->Int) (s:Sb):(ts:List Tm)->rq m nums env (qO s ts)=rq m nums (fun n=>uy m nums env (s n)) ts
 | []=>rfl
 | t::ts=>by
  show uy m nums env (t.sub s)::rq m nums env (qO s ts)=_;rw[Yc env s t,km env s ts];rfl
end
mutual
theorem PJ {e e':Nat->Int}:(t:Tm)->(∀ x,t.has x->e x=e' x)->uy m nums e t=uy m nums e' t
 | .v n,h=>h n rfl
 | .f c ts,h=>by
  show dM (WH m nums (c:Int) (rq m nums e ts)) m=dM (WH m nums (c:Int) (rq m nums e' ts)) m;rw[Kg ts h]
theorem Kg {e e':Nat->Int}:(ts:List Tm)->(∀ x,jr x ts->e x=e' x)->rq m nums e ts=rq m nums e' ts
 | [],_=>rfl
 | t::ts,h=>by
  show uy m nums e t::rq m nums e ts=uy m nums e' t::rq m nums e' ts;rw[PJ t fun x hx=>h x (.inl hx),Kg ts fun x hx=>h x (.inr hx)]
end
end
structure EnvOk (m:Int) (E:List Int):Prop where
 len:E.length=24
 rng:∀ x∈E,0<=x∧x<m
def xM (E:List Int) (n:Nat):Int:=E.getD n 0
theorem EnvOk.get {m:Int} {E:List Int} (h:EnvOk m E) {n:Nat} (hn:n<24):E[n]? = some (xM E n):=by
 unfold xM;rw[aE,al (by rw[h.len]; exact hn)]
 rfl
theorem EnvOk.val {m:Int} {E:List Int} (h:EnvOk m E) {n:Nat} (hn:n<24):0<=xM E n∧xM E n<m:=h.rng _ (aJ (h.get hn))
theorem F5 {m:Int} (hm:0<m) {nums:List Int} (hn:tN nums) {env:Nat->Int} {a0:List zg} (hs:SignOk a0) (t:Tm) (ho:t.ok a0 24) (h:∀ x,x<24->0<=env x∧env x<m):0<=uy m nums env t∧uy m nums env t<m:=by
 cases t with
 | v n=>exact h n ho
 | f c ts =>
  have h3:ts.length<=3:=Wa hs ho.1;have h1:=(Ir m hn (c:Int) (xs:=rq m nums env ts) (by rw[Q9]; omega)).2
  exact ⟨fH _ h1.1,eW _ hm⟩
theorem Ib {a0:List zg} (hs:SignOk a0) {c q:Nat} (h:uV a0 (c:Int)=some q):∃ e,gx a0 (c:Int)=some e∧e.2.2.1=(q:Int):=by
 unfold uV at h;rw[decide_eq_false (show ¬(c:Int)<0 by omega),cond_false,bo] at h
 cases he:a0[c]? with
 | none=>rw[he] at h; cases h
 | some e =>
  rw[he] at h;simp only at h;refine ⟨e,by rw[y8,he],?_⟩
  have:=hs.at he;cases hk:(e.2.1==0) with
  | true=>rw[hk] at h; cases h
  | false=>rw[hk] at h; injection h with h; omega
theorem Gi {m:Int} {nums:List Int} {a0:List zg} (rf:(Int×List Int×List zg×List Int×Int×List Int)->Option (Int×Int)) (r E:List Int) (env:Nat->Int) (c q:Nat) (e:zg) (he:gx a0 (c:Int)=some e) (hq:e.2.2.1=(q:Int)) (hr:r.length<=1000) :
  ∀(us:List Tm) (i k p:Nat) (out rest:List Int),i+us.length=q->q<=3->us.length<k->out.length=i->r.drop p=za us++rest ->
   (∀ u∈us,∀ p rest,r.drop p=u.codes++rest->rf (m,nums,a0,r,(p:Int),E)=some (uy m nums env u,((p+u.size:Nat):Int))) ->
   lp (qe rf) k (a0,r,(p:Int),E,(c:Int),(i:Int),m,nums,out)=some (((p+qJ us:Nat):Int),out++rq m nums env us)
 | [],i,k,p,out,rest,hi,hq3,hk,ho,hd,hrf=>by
  obtain⟨k,rfl⟩:∃ k',k=k'+1:=⟨k - 1,by simp at hk; omega⟩
  rw[zv];generalize lp (qe rf) k=rec;unfold qe;simp only[he,aa,hq];rw[decide_eq_false (show ¬((i:Int)<(q:Int)) by simp at hi; omega),cond_false]
  simp [rq,qJ]
 | u::us,i,k,p,out,rest,hi,hq3,hk,ho,hd,hrf=>by
  obtain⟨k,rfl⟩:∃ k',k=k'+1:=⟨k - 1,by simp at hk; omega⟩
  simp only[ak] at hi hk;rw[zv];have hd1:r.drop p=u.codes++(za us++rest):=by rw[hd]; simp [za]
  have hd2:r.drop (p+u.size)=za us++rest:=by
   rw[← cf,hd1,← Tm.codes_len,dy]
  have key:=fun out ho=>Gi rf r E env c q e he hq hr us (i+1) k (p+u.size) out rest (by omega) hq3 (by omega) ho hd2 (fun w hw=>hrf w (ai _ hw))
  generalize lp (qe rf) k=rec at key ⊢;unfold qe;have w:ag .i64 ((i:Int)+1)=((i+1:Nat):Int):=by rw[zo]<;>omega
  simp only[he,aa,hq,w];rw[decide_eq_true (show ((i:Int)<(q:Int)) by omega),cond_true,hrf u (aj ..) p _ hd1,aa,zp (by simp; omega),cond_true,key _ (by simp; omega)]
  simp [rq,qJ,bK]
theorem H3 {m:Int} (hm:0<m) {nums:List Int} (hn:tN nums) {a0:List zg} (hs:SignOk a0) (r:List Int) (hr:r.length<=1000) {E:List Int} (hE:EnvOk m E):∀(k:Nat) (t:Tm) (p:Nat) (rest:List Int),t.size<=k->t.ok a0 24->r.drop p=t.codes++rest ->
  xy k (m,nums,a0,r,(p:Int),E)=some (uy m nums (xM E) t,((p+t.size:Nat):Int)):=by
 intro k
 induction k with
 | zero=>intro t p rest h; have:=t.size_pos; omega
 | succ k ih =>
  intro t p rest hk ho hd;show tZ (xy k) m nums a0 r (p:Int) E=_;have hp:p<r.length:=by
   have:=congrArg af hd;rw[am,Tm.codes_len,bq] at this;have:=t.size_pos;omega
  unfold tZ;have w:ag .i64 ((p:Int)+1)=((p+1:Nat):Int):=by rw[zo]<;>omega
  cases t with
  | v n =>
   have hn24:n<24:=ho;have hd:r.drop p=(-1 - (n:Int))::rest:=hd;rw[y8,zr hd,aa,decide_eq_true (show -1 - (n:Int)<0 by omega),cond_true]
   have w2:ag .i64 ((-1) - (-1 - (n:Int)))=(n:Int):=by rw[zo]<;>omega
   rw[w2,y8,hE.get hn24,aa,w];rfl
  | f c ts =>
   have hd:r.drop p=(c:Int)::(za ts++rest):=hd;have h3:ts.length<=3:=Wa hs ho.1;obtain⟨e,he,hq⟩:=Ib hs ho.1;rw[y8,zr hd,aa,decide_eq_false (show ¬(c:Int)<0 by omega),cond_false,w]
   simp only[Tm.size] at hk;have:=Gi (m:=m) (nums:=nums) (a0:=a0) (xy k) r E (xM E) c ts.length e he hq hr ts 0 ze (p+1) [] rest (by omega) h3 (by unfold ze; omega) rfl (zj hd) (fun u hu p' rest' hd'=>by
    refine ih u p' rest' ?_ (vf.1 ho.2 u hu) hd';have:u.size<=qJ ts:=by
     obtain⟨l1,l2,rfl⟩:=dH hu;rw[Wr]; simp only[qJ]; omega
    omega)
   rw[show ((0:Nat):Int)=0 from rfl] at this
   rw[this,aa,bl];simp only;rw[(Ir m hn (c:Int) (xs:=rq m nums (xM E) ts) (by rw[Q9]; omega)).1,aa,decide_eq_false (show ¬(m=0) by omega),cond_false]
   show some (_,_)=some (_,_);simp only[Tm.size,uy];rw[show p+1+qJ ts=p+(qJ ts+1) from by omega]
theorem Rd {m:Int} (hm:0<m) {nums:List Int} (hn:tN nums) {a0:List zg} (hs:SignOk a0) {r:List Int} (hr:r.length<=1000) {E:List Int} (hE:EnvOk m E) {t:Tm} {p:Nat} {rest:List Int} (ho:t.ok a0 24) (hd:r.drop p=t.codes++rest) :
  rJ m nums a0 r (p:Int) E=some (uy m nums (xM E) t,((p+t.size:Nat):Int)):=by
 refine H3 hm hn hs r hr hE ze t p rest ?_ ho hd;have:=congrArg af hd;rw[am,Tm.codes_len,bq] at this;unfold ze;omega
theorem Gd {m:Int} (hm:0<m) {nums:List Int} (hn:tN nums) {a0:List zg} (hs:SignOk a0) (r:List Int) (hr:r.length<=1000) {E:List Int} (hE:EnvOk m E):(us:List Tm)->(p k:Nat)->(out:List Int)->r.drop p=za us->okR a0 24 us->us.length<k->out.length+us.length<=10000 ->
  lp yN k (a0,r,E,(p:Int),m,nums,out)=some (out++rq m nums (xM E) us)
 | [],p,k,out,hd,_,hk,_=>by
  obtain⟨k,rfl⟩:∃ k',k=k'+1:=⟨k - 1,by simp at hk; omega⟩
  rw[zv];generalize lp yN k=rec;unfold yN;have:r.length<=p:=by
   have:=congrArg af hd;simp [za] at this; omega
  rw[decide_eq_false (show ¬((p:Int)<((af r:Nat):Int)) by omega),cond_false]
  simp [rq]
 | u::us,p,k,out,hd,ho,hk,hl=>by
  obtain⟨k,rfl⟩:∃ k',k=k'+1:=⟨k - 1,by simp at hk; omega⟩
  simp only[ak] at hk hl;rw[zv];have hd1:r.drop p=u.codes++za us:=hd;have hd2:r.drop (p+u.size)=za us:=by
   rw[← cf,hd1,← Tm.codes_len,dy]
  have key:=fun out ho'=>Gd hm hn hs r hr hE us (p+u.size) k out hd2 ho.2 (by omega) ho'
  generalize lp yN k=rec at key ⊢;unfold yN;have hp:p<r.length:=by
   have:=congrArg af hd1;rw[am,Tm.codes_len,bq] at this;have:=u.size_pos;omega
  rw[decide_eq_true (show ((p:Int)<((af r:Nat):Int)) by omega),cond_true,Rd hm hn hs hr hE ho.1 hd1,aa,zp (by simp; omega),cond_true,key _ (by simp; omega)]
  simp [rq]
theorem Bn {m:Int} (hm:0<m) {nums:List Int} (hn:tN nums) {a0:List zg} (hs:SignOk a0) {E:List Int} (hE:EnvOk m E) {us:List Tm} (ho:okR a0 24 us) (hl:(za us).length<=1000) :
  vB m nums a0 (za us) E=some (rq m nums (xM E) us):=by
 have h1:=ka (yf us ho);rw[aF] at h1;unfold vB;have:=Gd hm hn hs (za us) hl hE us 0 ze [] rfl ho (by unfold ze; omega) (by simp; omega)
 rw[show ((0:Nat):Int)=0 from rfl] at this
 rw[this];rfl
def Wz (m:Int) (nums:List Int) (env:Nat->Int) (c:Nat) (ts:List Tm):Bool :=
 cond (c==0) ((rq m nums env ts)[0]? == (rq m nums env ts)[1]?) ((O1 .and .i64 (WH m nums (c:Int) (rq m nums env ts)) 1).getD 0==1)
def kE (m:Int) (nums:List Int) (env:Nat->Int) (ts:List Tm):Bool:=(O1 .and .i64 (WH m nums 101 (rq m nums env ts)) 2).getD 0==2
theorem U6 {m:Int} (hm:0<m) {nums:List Int} (hn:tN nums) {a0:List zg} (hs:SignOk a0) {E:List Int} (hE:EnvOk m E) {c:Nat} {ts:List Tm} {e:zg} (ho:okR a0 24 ts) (he:a0[c]? = some e) (hlen:((ts.length:Nat):Int)=e.2.2.1) (hl:(za ts).length<=48) :
  uJ m nums a0 ((c:Int)::za ts) E=some (Wz m nums (xM E) c ts):=by
 have h1:=ka (yf ts ho);rw[aF] at h1;unfold uJ Wz;rw[wW,aa,Bn hm hn hs hE ho (by omega),aa,z6,aB,aa]
 by_cases hc:c=0
 ·subst hc;have h2:ts.length=2:=by
   rw[hs.eq] at he;injection he with he;subst he;have:((ts.length:Nat):Int)=2:=hlen;omega
  have hv:(rq m nums (xM E) ts).length=2:=by rw[Q9,h2]
  rw[show (((0:Nat):Int)==0)=true from rfl,cond_true,show ((0:Nat)==0)=true from rfl,cond_true]
  have i0:inR 0 (af (rq m nums (xM E) ts))=some 0:=ym (i:=0) (by omega)
  have i1:inR 1 (af (rq m nums (xM E) ts))=some 1:=ym (i:=1) (by omega)
  rw[i0,i1];obtain⟨v0,g0⟩:∃ v,(rq m nums (xM E) ts)[0]? = some v:=⟨_,al (by omega)⟩
  obtain⟨v1,g1⟩:∃ v,(rq m nums (xM E) ts)[1]? = some v:=⟨_,al (by omega)⟩
  simp only[g0,g1,aa];rfl
 ·rw[show ((c:Int)==0)=false from by simp; omega,cond_false,show (c==0)=false from by simp [hc],cond_false]
  simp only[aa];rw[(Ir m hn (c:Int) (xs:=rq m nums (xM E) ts) (by rw[Q9]; omega)).1,aa]
  obtain⟨v,hv,-⟩:=Am (WH m nums (c:Int) (rq m nums (xM E) ts)) 1 (by omega)
  have hv:O1 .and .i64 (WH m nums (c:Int) (rq m nums (xM E) ts)) 1=some (v:Int):=hv;rw[hv];rfl
theorem Rv {m:Int} (hm:0<m) {nums:List Int} (hn:tN nums) {a0:List zg} (hs:SignOk a0) {E:List Int} (hE:EnvOk m E) {ts:List Tm} (ho:okR a0 24 ts) (hl:(za ts).length<=48) :
  vW m nums a0 (za ts) E=some (kE m nums (xM E) ts):=by
 have h1:=ka (yf ts ho);rw[aF] at h1;unfold vW kE;rw[Bn hm hn hs hE ho (by omega),aa,(Ir m hn 101 (xs:=rq m nums (xM E) ts) (by rw[Q9]; omega)).1,aa]
 obtain⟨v,hv,-⟩:=Am (WH m nums 101 (rq m nums (xM E) ts)) 2 (by omega)
 have hv:O1 .and .i64 (WH m nums 101 (rq m nums (xM E) ts)) 2=some (v:Int):=hv;rw[hv];rfl
abbrev wR:=Bool×Nat×List Tm
def cl (l:wR):zc:=(l.1,(l.2.1:Int)::za l.2.2)
def WfL (a0:List zg) (l:wR):Prop:=okR a0 24 l.2.2∧(∃ e,a0[l.2.1]? = some e∧e.2.1=0∧((l.2.2.length:Nat):Int)=e.2.2.1)∧(za l.2.2).length<=48
def WfR (a0:List zg) (ts:List Tm):Prop:=okR a0 24 ts∧(za ts).length<=48
theorem Js {a0:List zg}:(ls:List zc)->su a0 ls=true->∃ lt:List wR,ls=lt.map cl∧∀ l∈lt,WfL a0 l
 | [],_=>⟨[],rfl,fun _ h=>(nomatch h)⟩
 | l::ls,h=>by
  unfold su at h;rw[bX,ay] at h;obtain⟨lt,h1,h2⟩:=Js ls h.2;obtain⟨c,ts,e,h3,h4,h5,h6,h7,h8,-⟩:=v6 h.1;refine ⟨(l.1,c,ts)::lt,by rw[aK,← h1]; show l::ls=(l.1,(c:Int)::za ts)::ls; rw[← h3],fun x hx => ?_⟩
  rcases aG.1 hx with rfl | hx
  ·exact ⟨h4,⟨e,h5,h6,h7⟩,h8⟩
  ·exact h2 x hx
theorem Lh {a0:List zg} {rs:List jI} (h:ZE a0 rs=true):∃ rt:List (List Tm),rs=rt.map za∧∀ r∈rt,WfR a0 r:=by
 obtain⟨n,hn⟩:=Qi h;clear h
 induction rs with
 | nil=>exact ⟨[],rfl,fun _ h=>(nomatch h)⟩
 | cons r rs ih =>
  obtain⟨rt,h1,h2⟩:=ih fun q hq=>hn q (ai _ hq);obtain⟨ps,hc,-,hl,-⟩:=X9 (hn r (aj ..));obtain⟨ts,h3,-,h4⟩:=Sv hc;refine ⟨ts::rt,by rw[aK,← h1,← h4],fun x hx => ?_⟩
  rcases aG.1 hx with rfl | hx
  ·exact ⟨h3,by rw[← h4]; exact hl⟩
  ·exact h2 x hx
theorem Is {a0:List zg} {L:List zc} {T:List jI} {C:List zc} (h:qy a0 L T C=true):∃(Lt:List wR) (Tt:List (List Tm)) (Ct:List wR),L=Lt.map cl∧T=Tt.map za∧C=Ct.map cl∧(∀ l∈Lt,WfL a0 l)∧(∀ r∈Tt,WfR a0 r)∧∀ l∈Ct,WfL a0 l:=by
 obtain⟨-,-,-,-,h4,h5,h6,-⟩:=zz h;obtain⟨Lt,a1,a2⟩:=Js L h4;obtain⟨Tt,b1,b2⟩:=Lh h5;obtain⟨Ct,c1,c2⟩:=Js C h6;exact ⟨Lt,Tt,Ct,a1,b1,c1,a2,b2,c2⟩
def Zw (m:Int) (nums:List Int) (env:Nat->Int) (l:wR):Bool := !(Wz m nums env l.2.1 l.2.2==l.1)
def rK (m:Int) (nums:List Int) (env:Nat->Int) (L:List wR) (T:List (List Tm)) (C:List wR):Bool := !(C.all (Zw m nums env))||(L.any (Zw m nums env)||T.any (kE m nums env))
section
variable {m:Int} (hm:0<m) {nums:List Int} (hn:tN nums) {a0:List zg} (hs:SignOk a0) {E:List Int} (hE:EnvOk m E)
include hm hn hs hE
theorem UO {l:wR} (h:WfL a0 l):va m nums a0 (cl l).1 (cl l).2 E=some (Zw m nums (xM E) l):=by
 obtain⟨h1,⟨e,h2,h3,h4⟩,h5⟩:=h;unfold va;show (uJ m nums a0 ((l.2.1:Int)::za l.2.2) E).bind _=_;rw[U6 hm hn hs hE h1 h2 h4 h5];rfl
theorem L3:(es:List wR)->(∀ l∈es,WfL a0 l)->yz a0 E m nums (es.map cl)=some (cond (es.all (Zw m nums (xM E))) (.inl ()) (.inr true))
 | [],_=>rfl
 | e::es,h=>by
  rw[aK];unfold yz;rw[UO hm hn hs hE (h e (aj ..)),aa,L3 es fun l hl=>h l (ai _ hl),bX];cases Zw m nums (xM E) e<;>rfl
theorem OM:(es:List wR)->(∀ l∈es,WfL a0 l)->yy a0 E m nums (es.map cl)=some (cond (es.any (Zw m nums (xM E))) (.inr true) (.inl ()))
 | [],_=>rfl
 | e::es,h=>by
  rw[aK];unfold yy;rw[UO hm hn hs hE (h e (aj ..)),aa,OM es fun l hl=>h l (ai _ hl),ee];cases Zw m nums (xM E) e<;>rfl
theorem Mt:(es:List (List Tm))->(∀ l∈es,WfR a0 l)->yC a0 E m nums (es.map za)=some (cond (es.any (kE m nums (xM E))) (.inr true) (.inl ()))
 | [],_=>rfl
 | e::es,h=>by
  rw[aK];unfold yC;have he:=h e (aj ..);rw[Rv hm hn hs hE he.1 he.2,aa,Mt es fun l hl=>h l (ai _ hl),ee];cases kE m nums (xM E) e<;>rfl
theorem zbJ {L:List wR} {T:List (List Tm)} {C:List wR} (hL:∀ l∈L,WfL a0 l) (hT:∀ r∈T,WfR a0 r) (hC:∀ l∈C,WfL a0 l) (h1:L.length<=1000) (h2:T.length<=1000) (h3:C.length<=1000) :
  uw m nums a0 (L.map cl) (T.map za) (C.map cl) E=some (rK m nums (xM E) L T C):=by
 unfold uw rK;rw[jZ _ _ _ _ _ _ _ (by rw[aF]; unfold maxLen; omega),L3 hm hn hs hE C hC,aa]
 cases C.all (Zw m nums (xM E)) with
 | false=>rfl
 | true =>
  simp only[cond_true,vT];rw[jY _ _ _ _ _ _ _ (by rw[aF]; unfold maxLen; omega),OM hm hn hs hE L hL,aa]
  cases L.any (Zw m nums (xM E)) with
  | true=>rfl
  | false =>
   simp only[cond_false,vT];rw[jX _ _ _ _ _ _ _ (by rw[aF]; unfold maxLen; omega),Mt hm hn hs hE T hT,aa]
   cases T.any (kE m nums (xM E))<;>rfl
end
def Qt (m:Nat) (E:List Int):List Nat->Nat
 | []=>0
 | v::vs=>(xM E v).toNat+m*Qt m E vs
theorem IC {m:Nat} {E E':List Int}:(vs:List Nat)->(∀ v∈vs,xM E v=xM E' v)->Qt m E vs=Qt m E' vs
 | [],_=>rfl
 | v::vs,h=>by
  unfold Qt;rw[h v (aj ..),IC vs fun w hw=>h w (ai _ hw)]
theorem Q3 {E:List Int} {v w:Nat} {x:Int} (hv:v<E.length):xM (E.set v x) w=if w=v then x else xM E w:=by
 unfold xM;rw[aE,aE];by_cases h:w=v
 ·subst h; rw[bU hv,if_pos rfl]; rfl
 ·rw[cq (dD h),if_neg h]
theorem EnvOk.set {m:Int} {E:List Int} (h:EnvOk m E) {v:Nat} {x:Int} (hx:0<=x∧x<m):EnvOk m (E.set v x) where
 len:=by rw[bY]; exact h.len
 rng:=fun y hy=>by
  rcases List.mem_or_eq_of_mem_set hy with hy | hy
  ·exact h.rng y hy
  ·rw[hy]; exact hx
theorem NH {m:Nat} (hm:0<m) (hm3:m<=1000):(vs:List Nat)->(E:List Int)->vs.Nodup->(∀ v∈vs,v<24)->EnvOk (m:Int) E ->
  (∃ E',zY (m:Int) (vs.map fun v:Nat=>(v:Int)) E=some (.inr (true,E'))∧EnvOk (m:Int) E'∧Qt m E' vs=Qt m E vs+1∧∀ w,w∉vs->xM E' w=xM E w) ∨
  (∃ E',zY (m:Int) (vs.map fun v:Nat=>(v:Int)) E=some (.inl E')∧E'.length=24∧Qt m E vs+1=m ^ vs.length)
 | [],E,_,_,hE=>.inr ⟨E,rfl,hE.len,rfl⟩
 | v::vs,E,hnd,h24,hE=>by
  have hnd:=dL.1 hnd;have hv:=h24 v (aj ..);have hx:=hE.val hv;have hlen:=hE.len;have hwx:ag .i64 (xM E v+1)=xM E v+1:=by rw[zo]<;>omega
  rw[aK];unfold zY;have i1:inR (v:Int) (af E)=some v:=ym (by omega)
  have i2:inR (v:Int) (af (E.set v (xM E v+1)))=some v:=ym (by rw[bY]; omega)
  have g2:(E.set v (xM E v+1))[v]? = some (xM E v+1):=bU (by omega)
  simp only[i1,hE.get hv,aa,hwx,i2,g2,List.set_set];by_cases hlt:xM E v+1<(m:Int)
  ·rw[decide_eq_true hlt,cond_true];refine .inl ⟨_,rfl,hE.set ⟨by omega,hlt⟩,?_,fun w hw => ?_⟩
   ·unfold Qt;rw[Q3 (by omega),if_pos rfl,IC (E:=E.set v (xM E v+1)) (E':=E) vs fun w hw=>by
     rw[Q3 (by omega),if_neg (show w≠v from fun e=>hnd.1 (e▸hw))]]
    omega
   ·rw[Q3 (by omega),if_neg (show w≠v from fun e=>hw (by rw[e]; exact aj ..))]
  ·rw[decide_eq_false hlt,cond_false];have hE0:EnvOk (m:Int) (E.set v 0):=hE.set ⟨by omega,by omega⟩
   have hnum:Qt m (E.set v 0) vs=Qt m E vs:=IC vs fun w hw=>by
    rw[Q3 (by omega),if_neg (show w≠v from fun e=>hnd.1 (e▸hw))]
   have hxm:(xM E v).toNat+1=m:=by omega
   rcases NH hm hm3 vs (E.set v 0) hnd.2 (fun w hw=>h24 w (ai _ hw)) hE0 with ⟨E',h1,h2,h3,h4⟩ | ⟨E',h1,h2,h3⟩
   ·rw[h1];refine .inl ⟨E',rfl,h2,?_,fun w hw => ?_⟩
    ·unfold Qt;rw[h3,hnum,h4 v hnd.1,Q3 (by omega),if_pos rfl,io]
     simp only[Int.toNat_zero];omega
    ·rw[h4 w fun h=>hw (ai _ h),Q3 (by omega),if_neg (show w≠v from fun e=>hw (by rw[e]; exact aj ..))]
   ·rw[h1];refine .inr ⟨E',rfl,h2,?_⟩;unfold Qt;rw[hnum] at h3;rw[ak,gh,← h3,bf,gj m];omega
theorem Pg {m:Nat} (hm:0<m) (hm3:m<=1000) (nums:List Int) {vs:List Nat} {E:List Int} (hnd:vs.Nodup) (h24:∀ v∈vs,v<24) (hE:EnvOk (m:Int) E) :
  (∃ E',uG (m:Int) nums (vs.map fun v:Nat=>(v:Int)) E=some (true,E')∧EnvOk (m:Int) E'∧Qt m E' vs=Qt m E vs+1∧∀ w,w∉vs->xM E' w=xM E w) ∨
  (∃ E',uG (m:Int) nums (vs.map fun v:Nat=>(v:Int)) E=some (false,E')∧Qt m E vs+1=m ^ vs.length):=by
 have hvl:vs.length<=24:=by
  have:=WP vs (aL 24) hnd fun v hv=>bZ.2 (h24 v hv);simpa using this
 have hne:dU E=false:=by
  cases E with
  | nil=>have:=hE.len; simp at this
  | cons _ _=>rfl
 unfold uG;rw[j6 _ _ _ _ (by rw[aF]; unfold maxLen; omega)]
 rcases NH hm hm3 vs E hnd h24 hE with ⟨E',h1,h2,h3⟩ | ⟨E',h1,h2,h3⟩
 ·rw[h1];refine .inl ⟨E',?_,h2,h3⟩;simp only[aa,Lo,hne,bE,cJ,cond_true,hE.len,h2.len];rfl
 ·rw[h1];refine .inr ⟨E',?_,h3⟩;simp only[aa,vT,hne,bE,cJ,cond_true,hE.len,h2];rfl
theorem Ch {m:Nat} (hm:0<m) {E:List Int} (hE:EnvOk (m:Int) E):(vs:List Nat)->(∀ v∈vs,v<24)->Qt m E vs<m ^ vs.length
 | [],_=>by simp [Qt]
 | v::vs,h=>by
  have h1:=hE.val (h v (aj ..));have h2:=Ch hm hE vs fun w hw=>h w (ai _ hw);unfold Qt;rw[ak,gh,gj (m ^ vs.length)];have h3:m*(Qt m E vs+1)<=m*m ^ vs.length:=dt _ h2;rw[io] at h3;omega
theorem EK {m:Nat} (hm:0<m) {E E':List Int} (hE:EnvOk (m:Int) E) (hE':EnvOk (m:Int) E'):(vs:List Nat)->(∀ v∈vs,v<24)->Qt m E vs=Qt m E' vs->∀ v∈vs,xM E v=xM E' v
 | [],_,_,v,hv=>nomatch hv
 | v::vs,h,he,w,hw=>by
  have h1:=hE.val (h v (aj ..));have h2:=hE'.val (h v (aj ..));unfold Qt at he;have e1:((xM E v).toNat+m*Qt m E vs) % m=(xM E v).toNat:=by rw[eZ]; exact eB (by omega)
  have e2:((xM E' v).toNat+m*Qt m E' vs) % m=(xM E' v).toNat:=by rw[eZ]; exact eB (by omega)
  have e3:(xM E v).toNat=(xM E' v).toNat:=by rw[← e1,← e2,he]
  have e4:Qt m E vs=Qt m E' vs:=by
   have:m*Qt m E vs=m*Qt m E' vs:=by omega
   exact Nat.eq_of_mul_eq_mul_left hm this
  rcases aG.1 hw with rfl | hw
  ·omega
  ·exact EK hm hE hE' vs (fun w hw=>h w (ai _ hw)) e4 w hw
theorem Ij {m:Nat} (hm:0<m) (hm3:m<=1000) {nums:List Int} {a0:List zg} {L:List zc} {T:List jI} {C:List zc} {vs:List Nat} (hnd:vs.Nodup) (h24:∀ v∈vs,v<24)
  (here:List Int->Bool) (hh:∀ E,EnvOk (m:Int) E->uw (m:Int) nums a0 L T C E=some (here E)) (hext:∀ E E',EnvOk (m:Int) E->EnvOk (m:Int) E'->(∀ v∈vs,xM E v=xM E' v)->here E=here E') :
  ∀(d k:Nat) (E:List Int),EnvOk (m:Int) E->m ^ vs.length - Qt m E vs<=d->d<k ->
   ∃ b,lp xN k (a0,vs.map (fun v:Nat=>(v:Int)),(m:Int),nums,L,T,C,E)=some b∧(b=true↔∀ E',EnvOk (m:Int) E'->Qt m E vs<=Qt m E' vs->here E'=true):=by
 intro d
 induction d with
 | zero =>
  intro k E hE hd;have:=Ch hm hE vs h24;omega
 | succ d ih =>
  intro k E hE hd hk;obtain⟨k,rfl⟩:∃ k',k=k'+1:=⟨k - 1,by omega⟩
  rw[zv];have key:=fun E hE h=>ih k E hE h (by omega)
  generalize lp xN k=rec at key ⊢;unfold xN;simp only;rw[hh E hE,aa];cases hb:here E with
  | false =>
   refine ⟨false,rfl,?_⟩;constructor
   ·intro h; cases h
   ·intro h; have:=h E hE (aC _); rw[hb] at this; cases this
  | true =>
   simp only[az,cond_false];have self:∀ E',EnvOk (m:Int) E'->Qt m E' vs=Qt m E vs->here E'=true:=fun E' hE' he=>by
    rw[hext E' E hE' hE (EK hm hE' hE vs h24 he),hb]
   rcases Pg hm hm3 nums hnd h24 hE with ⟨E1,h1,h2,h3,h4⟩ | ⟨E1,h1,h2⟩
   ·rw[h1];simp only[aa,az,cond_false];obtain⟨b,g1,g2⟩:=key E1 h2 (by rw[h3]; omega)
    refine ⟨b,g1,g2.trans ⟨fun h E' hE' hle => ?_,fun h E' hE' hle=>h E' hE' (by omega)⟩⟩
    rcases Nat.eq_or_lt_of_le hle with he | hlt
    ·exact self E' hE' he.symm
    ·exact h E' hE' (by omega)
   ·rw[h1];refine ⟨true,rfl,⟨fun _ E' hE' hle => ?_,fun _=>rfl⟩⟩;have:=Ch hm hE' vs h24;exact self E' hE' (by omega)
theorem zet (v:Nat) (hv:v<24):(es:List Int)->vR (v:Int) es=some (cond (decide (-1 - (v:Int)∈es)) (.inr true) (.inl ()))
 | []=>rfl
 | e::es=>by
  unfold vR;have w:ag .i64 ((-1) - (v:Int)) = -1 - (v:Int):=by rw[zo]<;>omega
  rw[w,zet v hv es];by_cases he:e = -1 - (v:Int)
  ·rw[show (e == -1 - (v:Int))=true from by simp [he],decide_eq_true (show -1 - (v:Int)∈e::es by rw[he]; exact aj ..)]
   rfl
  ·rw[show (e == -1 - (v:Int))=false from by simp [he],cond_false]
   by_cases hm:(-1 - (v:Int))∈es
   ·rw[decide_eq_true hm,decide_eq_true (ai _ hm)]
   ·rw[decide_eq_false hm,decide_eq_false fun h=>(aG.1 h).elim (fun h=>he h.symm) hm]
theorem E7 {v:Nat} (hv:v<24) {r:List Int} (hl:r.length<=1000000):IJ r (v:Int)=some (decide (-1 - (v:Int)∈r)):=by
 unfold IJ;rw[W2 _ _ (by unfold maxLen; omega),zet v hv,aa]
 cases decide (-1 - (v:Int)∈r)<;>rfl
def zb9 (r:List Int) (v:Nat):Bool:=decide (-1 - (v:Int)∈r)
theorem Df {r:List Int} (hl:r.length<=1000000):∀(d v k:Nat) (out:List Int),24 - v=d->v<=24->d<k->out.length<=v ->
  lp vi k (r,(v:Int),out)=some (out++(((aL 24).drop v).filter (zb9 r)).map fun v:Nat=>(v:Int)):=by
 intro d
 induction d with
 | zero =>
  intro v k out hd hv hk ho;obtain⟨k,rfl⟩:∃ k',k=k'+1:=⟨k - 1,by omega⟩
  rw[zv];generalize lp vi k=rec;unfold vi;have:v=24:=by omega
  subst this;rw[show (aL 24).drop 24=[] from rfl]
  simp
 | succ d ih =>
  intro v k out hd hv hk ho;obtain⟨k,rfl⟩:∃ k',k=k'+1:=⟨k - 1,by omega⟩
  rw[zv];have key:=fun out ho=>ih (v+1) k out (by omega) (by omega) (by omega) ho
  generalize lp vi k=rec at key ⊢;unfold vi;have w:ag .i64 ((v:Int)+1)=((v+1:Nat):Int):=by rw[zo]<;>omega
  have hdr:(aL 24).drop v=v::(aL 24).drop (v+1):=by
   rw[aY (by simp; omega)]
   simp
  simp only[decide_eq_true (show (v:Int)<=23 by omega),cond_true,E7 (show v<24 by omega) hl,aa,w]
  rw[hdr];by_cases hm:(-1 - (v:Int))∈r
  ·rw[decide_eq_true hm,cond_true,zp (by simp; omega),cond_true,key _ (by simp; omega)]
   have:zb9 r v=true:=decide_eq_true hm;rw[dc this];simp
  ·rw[decide_eq_false hm,cond_false,key _ (by omega)]
   have:¬(zb9 r v=true):=by unfold zb9; rw[decide_eq_false hm]; simp
   rw[cQ this]
theorem O4:(es:List jI)->(out:List Int)->out.length+zk es<=1000000->qi es out=some (out++es.flatten)
 | [],out,_=>by simp [qi]
 | e::es,out,h=>by
  rw[jc] at h;unfold qi;rw[zp (by omega),cond_true,O4 es _ (by rw[am]; omega)]
  simp
def rU (L:List zc) (T:List jI) (C:List zc):List Nat:=(aL 24).filter (zb9 (L.map (·.2)++T++C.map (·.2)).flatten)
theorem Z4 (L:List zc) (T:List jI) (C:List zc):(rU L T C).Nodup:=List.nodup_range.sublist List.filter_sublist
theorem ZV {L:List zc} {T:List jI} {C:List zc}:∀ v∈rU L T C,v<24:=fun _v hv=>bZ.1 (dp.1 hv).1
theorem Qx {L:List zc} {T:List jI} {C:List zc} {v:Nat} (hv:v<24):v∈rU L T C↔ZK (yh L T C) (v:Int):=by
 unfold rU zb9;rw[dp];simp only[bZ,hv,true_and,decide_eq_true_eq,List.mem_flatten];constructor
 ·rintro⟨r,hr,hc⟩;refine ⟨r,?_,_,hc,by omega,by omega⟩
  unfold yh;simp only[aI] at hr ⊢;rcases hr with (hr | hr) | hr
  ·exact .inl (.inl hr)
  ·exact .inr hr
  ·exact .inl (.inr hr)
 ·rintro⟨r,hr,c,hc,h0,he⟩;refine ⟨r,?_,by rw[show -1 - (v:Int)=c from by omega]; exact hc⟩
  unfold yh at hr;simp only[aI] at hr ⊢;rcases hr with (hr | hr) | hr
  ·exact .inl (.inl hr)
  ·exact .inr hr
  ·exact .inl (.inr hr)
theorem rb {L:List zc} {T:List jI} {C:List zc} (h1:L.length<=1000) (h2:T.length<=1000) (h3:C.length<=1000) (hl:zk (L.map (·.2))+zk T+zk (C.map (·.2))<=1000000) :
  tw L T C=some ((rU L T C).map fun v:Nat=>(v:Int)):=by
 unfold tw;rw[Y7 L T C h1 h2 h3,aa,Y4 _ _ (by simp; unfold maxLen; omega),O4 _ _ (by rw[wV,wV]; simp; omega),aa]
 unfold XW;have hf:((L.map (·.2)++T++C.map (·.2)).flatten).length<=1000000:=by
  rw[← R4,wV,wV]; omega
 have:=Df hf 24 0 ze [] rfl (by omega) (by unfold ze; omega) (by simp)
 rw[show ((0:Nat):Int)=0 from rfl,bQ] at this
 simp only[bl] at this ⊢;rw[this];rfl
def Kr (L:List wR) (T:List (List Tm)) (C:List wR) (x:Nat):Prop:=(∃ l∈L,jr x l.2.2)∨(∃ r∈T,jr x r)∨∃ l∈C,jr x l.2.2
theorem G5 {l:wR} {x:Nat}:HH (cl l).2 (x:Int)↔jr x l.2.2:=by
 constructor
 ·rintro⟨c,hc,h0,he⟩;rcases aG.1 hc with rfl | hc
  ·omega
  ·obtain⟨k,h1,h2⟩:=kn.1 ⟨c,hc,h0,he⟩;have:x=k:=by omega
   rw[this]; exact h2
 ·intro h;obtain⟨c,hc,h0,he⟩:=kn.2 ⟨x,rfl,h⟩;exact ⟨c,ai _ hc,h0,he⟩
theorem ZD {L:List wR} {T:List (List Tm)} {C:List wR} {x:Nat}:ZK (yh (L.map cl) (T.map za) (C.map cl)) (x:Int)↔Kr L T C x:=by
 unfold yh Kr;rw[tv,tv];constructor
 ·rintro ((⟨r,hr,h⟩ | ⟨r,hr,h⟩) | ⟨r,hr,h⟩)
  ·obtain⟨q,hq,rfl⟩:=aR.1 hr;obtain⟨l,hl,rfl⟩:=aR.1 hq;exact .inl ⟨l,hl,G5.1 h⟩
  ·obtain⟨q,hq,rfl⟩:=aR.1 hr;obtain⟨l,hl,rfl⟩:=aR.1 hq;exact .inr (.inr ⟨l,hl,G5.1 h⟩)
  ·obtain⟨l,hl,rfl⟩:=aR.1 hr;obtain⟨k,h1,h2⟩:=kn.1 h;have:x=k:=by omega
   exact .inr (.inl ⟨l,hl,by rw[this]; exact h2⟩)
 ·rintro (⟨l,hl,h⟩ | ⟨r,hr,h⟩ | ⟨l,hl,h⟩)
  ·exact .inl (.inl ⟨_,aZ (aZ hl),G5.2 h⟩)
  ·exact .inr ⟨_,aZ hr,kn.2 ⟨x,rfl,h⟩⟩
  ·exact .inl (.inr ⟨_,aZ (aZ hl),G5.2 h⟩)
theorem CS {m:Int} {nums:List Int} {e e':Nat->Int} {l:wR} (h:∀ x,jr x l.2.2->e x=e' x):Zw m nums e l=Zw m nums e' l:=by
 unfold Zw Wz;rw[Kg m nums l.2.2 h]
theorem FM {m:Int} {nums:List Int} {e e':Nat->Int} {r:List Tm} (h:∀ x,jr x r->e x=e' x):kE m nums e r=kE m nums e' r:=by
 unfold kE;rw[Kg m nums r h]
theorem DN {α:Type} {p q:α->Bool} {l:List α} (h:∀ x∈l,p x=q x):l.all p=l.all q:=by
 induction l with
 | nil=>rfl
 | cons a l ih=>rw[bX,bX,h a (aj ..),ih fun x hx=>h x (ai _ hx)]
theorem WB {α:Type} {p q:α->Bool} {l:List α} (h:∀ x∈l,p x=q x):l.any p=l.any q:=by
 induction l with
 | nil=>rfl
 | cons a l ih=>rw[ee,ee,h a (aj ..),ih fun x hx=>h x (ai _ hx)]
theorem YY {m:Int} {nums:List Int} {e e':Nat->Int} {L:List wR} {T:List (List Tm)} {C:List wR} (h:∀ x,Kr L T C x->e x=e' x):rK m nums e L T C=rK m nums e' L T C:=by
 unfold rK;rw[DN (l:=C) fun l hl=>CS fun x hx=>h x (.inr (.inr ⟨l,hl,hx⟩)),WB (l:=L) fun l hl=>CS fun x hx=>h x (.inl ⟨l,hl,hx⟩),
  WB (l:=T) fun r hr=>FM fun x hx=>h x (.inr (.inl ⟨r,hr,hx⟩))]
theorem Xs {m:Nat} (hm:0<m) (hm3:m<=3) {nums:List Int} (hn:tN nums) {a0:List zg} (hs:SignOk a0) {L:List wR} {T:List (List Tm)} {C:List wR} (hmay:qy a0 (L.map cl) (T.map za) (C.map cl)=true) (hL:∀ l∈L,WfL a0 l) (hT:∀ r∈T,WfR a0 r) (hC:∀ l∈C,WfL a0 l) :
  ∃ b,zy (m:Int) nums a0 (L.map cl) (T.map za) (C.map cl)=some b∧(b=true↔∀ E,EnvOk (m:Int) E->rK (m:Int) nums (xM E) L T C=true):=by
 obtain⟨-,h1,h2,h3,-,-,-,h7⟩:=zz hmay;simp only[aF] at h1 h2 h3;have hE0:EnvOk (m:Int) (ax 24 (0:Int)):=⟨by simp,fun x hx=>by have:=List.eq_of_mem_replicate hx; omega⟩
 have h0:Qt m (ax 24 (0:Int)) (rU (L.map cl) (T.map za) (C.map cl))=0:=by
  generalize rU (L.map cl) (T.map za) (C.map cl)=vs
  induction vs with
  | nil=>rfl
  | cons v vs ih =>
   unfold Qt;rw[ih];have:xM (ax 24 (0:Int)) v=0:=by
    unfold xM;rw[aE,bF];split<;>rfl
   rw[this];simp
 have hvar:∀ x,Kr L T C x->x∈rU (L.map cl) (T.map za) (C.map cl):=fun x hx=>by
  have hx:=ZD.2 hx;have:=Zb hmay hx;exact (Qx (by omega)).2 hx
 have hvl:(rU (L.map cl) (T.map za) (C.map cl)).length<=24:=by
  have:=WP _ (aL 24) (Z4 (L.map cl) (T.map za) (C.map cl)) fun v hv=>bZ.2 (ZV v hv);simpa using this
 obtain⟨b,g1,g2⟩:=Ij hm (by omega) (nums:=nums) (a0:=a0) (L:=L.map cl) (T:=T.map za) (C:=C.map cl) (Z4 (L.map cl) (T.map za) (C.map cl)) ZV
  (fun E=>rK (m:Int) nums (xM E) L T C) (fun E hE=>zbJ (by omega) hn hs hE hL hT hC (by omega) (by omega) (by omega))
  (fun E E' _ _ h=>YY fun x hx=>h x (hvar x hx)) (m ^ (rU (L.map cl) (T.map za) (C.map cl)).length) ze (ax 24 (0:Int)) hE0 (by omega) (by
   have e1:m ^ (rU (L.map cl) (T.map za) (C.map cl)).length<=3 ^ (rU (L.map cl) (T.map za) (C.map cl)).length:=Nat.pow_le_pow_left hm3 _;have e2:3 ^ (rU (L.map cl) (T.map za) (C.map cl)).length<=3 ^ 24:=eJ (by omega) hvl
   have e3:(3:Nat) ^ 24=282429536481:=by decide
   unfold ze;omega)
 refine ⟨b,?_,g2.trans ⟨fun h E hE=>h E hE (by rw[h0]; omega),fun h E hE _=>h E hE⟩⟩
 unfold zy;rw[rb (by rw[aF]; omega) (by rw[aF]; omega) (by rw[aF]; omega) (by omega),aa]
 have he:GZ=some (ax 24 (0:Int)):=rfl;rw[he,aa,g1];rfl
abbrev GT:=List Int×Int
def rho (s:GT) (v:Nat):Nat:=(s.1.getD v 0).toNat - 1
structure RenI (s:GT):Prop where
 len:s.1.length=24
 rng:∀ v,0<=s.1.getD v 0∧s.1.getD v 0<=s.2
 inj:∀ v w,s.1.getD v 0=s.1.getD w 0->s.1.getD v 0≠0->v=w
 cnt:((s.1.countP (fun x=>x != 0):Nat):Int)=s.2
def ExtS (s s':GT):Prop:=∀ v,s.1.getD v 0≠0->s'.1.getD v 0=s.1.getD v 0
theorem ExtS.refl (s:GT):ExtS s s:=fun _ _=>rfl
theorem ExtS.trans {s t u:GT} (h:ExtS s t) (h':ExtS t u):ExtS s u:=fun v hv=>(h' v (by rw[h v hv]; exact hv)).trans (h v hv)
theorem RenI.next {s:GT} (h:RenI s):0<=s.2∧s.2<=24:=by
 have h1:=h.cnt;have h2:s.1.countP (fun x=>x != 0)<=s.1.length:=ez;rw[h.len] at h2;omega
theorem RenI.rho_lt {s:GT} (h:RenI s) {v:Nat} (_hv:s.1.getD v 0≠0):rho s v<24:=by
 have h1:=h.rng v;have h2:=h.next;unfold rho;omega
theorem RenI.rho_inj {s:GT} (h:RenI s) {v w:Nat} (hv:s.1.getD v 0≠0) (hw:s.1.getD w 0≠0) (he:rho s v=rho s w):v=w:=by
 have h1:=h.rng v;have h2:=h.rng w;unfold rho at he;exact h.inj v w (by omega) hv
theorem zgv:RenI (ax 24 (0:Int),0) where
 len:=by simp
 rng:=fun v=>by
  rw[aE,bF];split<;>simp
 inj:=fun v w _ h=>by
  exfalso;apply h;rw[aE,bF];split<;>rfl
 cnt:=by decide
theorem Fp {xs:List Int} {v:Nat} {y:Int} (hv:xs[v]? = some 0) (hy:y≠0):(xs.set v y).countP (fun x=>x != 0)=xs.countP (fun x=>x != 0)+1:=by
 obtain⟨hx,he⟩:=aw.1 hv;have h1:=bW v xs;have h2:xs.drop v=0::xs.drop (v+1):=by rw[aY hx,he]
 have h3:xs.set v y=xs.take v++y::xs.drop (v+1):=by rw[eo,if_pos hx]
 conv=>rhs; rw[← h1,h2]
 rw[h3];simp [f7,hy];omega
theorem sU {xs:List Int} {v w:Nat} {y:Int} (hv:v<xs.length):(xs.set v y).getD w 0=if w=v then y else xs.getD w 0:=by
 rw[aE,aE];by_cases h:w=v
 ·subst h; rw[bU hv,if_pos rfl]; rfl
 ·rw[cq (dD h),if_neg h]
theorem Bv {s:GT} (h:RenI s) {c:Int} (hc : -24<=c):RenI (Kp s c).2∧ExtS s (Kp s c).2∧(c<0->(Kp s c).2.1.getD (-1 - c).toNat 0≠0)∧∀ f,ExtS (Kp s c).2 f->[(Kp s c).1]=Yt (fun v=>.v (rho f v)) c:=by
 unfold Kp;by_cases h0:c≥0
 ·rw[decide_eq_true h0,cond_true];refine ⟨h,ExtS.refl s,fun h1=>by omega,fun f _ => ?_⟩
  unfold Yt;rw[if_neg (by omega)]
 ·rw[decide_eq_false h0,cond_false];have hv:(-1 - c).toNat<s.1.length:=by rw[h.len]; omega
  have hexp:∀ f:GT,Yt (fun v=>.v (rho f v)) c=[-1 - ((rho f (-1 - c).toNat:Nat):Int)]:=fun f=>by
   unfold Yt;rw[if_pos (by omega)]
   rfl
  by_cases hz:s.1.getD (-1 - c).toNat 0=0
  ·rw[show (s.1.getD (-1 - c).toNat 0==0)=true from by rw[hz]; rfl,cond_true]
   have hn:=h.next;have hget:s.1[(-1 - c).toNat]? = some 0:=by
    rw[aE,al hv] at hz;rw[al hv];exact congrArg some hz
   refine ⟨⟨by simpa using h.len,fun v => ?_,fun v w he hnz => ?_,?_⟩,fun v hvz => ?_,fun _ => ?_,fun f hf => ?_⟩
   ·show 0<=(s.1.set _ _).getD v 0∧(s.1.set _ _).getD v 0<=s.2+1;rw[sU hv];have:=h.rng v;split<;>omega
   ·have he:(s.1.set (-1 - c).toNat (s.2+1)).getD v 0=(s.1.set (-1 - c).toNat (s.2+1)).getD w 0:=he;have hnz:(s.1.set (-1 - c).toNat (s.2+1)).getD v 0≠0:=hnz;rw[sU hv] at he hnz;rw[sU hv] at he;have h1:=h.rng v;have h2:=h.rng w;by_cases e1:v=(-1 - c).toNat
    ·rw[if_pos e1] at he hnz;by_cases e2:w=(-1 - c).toNat
     ·rw[e1,e2]
     ·rw[if_neg e2] at he; omega
    ·rw[if_neg e1] at he hnz;by_cases e2:w=(-1 - c).toNat
     ·rw[if_pos e2] at he; omega
     ·rw[if_neg e2] at he;exact h.inj v w he hnz
   ·show (((s.1.set (-1 - c).toNat (s.2+1)).countP (fun x=>x != 0):Nat):Int)=s.2+1;rw[Fp hget (by omega),← h.cnt]
    omega
   ·show (s.1.set _ _).getD v 0=_;rw[sU hv];split
    ·rename_i e; rw[e,hz] at hvz; exact absurd rfl hvz
    ·rfl
   ·show (s.1.set _ _).getD _ 0≠0;rw[sU hv,if_pos rfl];omega
   ·rw[hexp];have hf2:=hf (-1 - c).toNat (by
     show (s.1.set _ _).getD _ 0≠0;rw[sU hv,if_pos rfl];omega)
    have hf2:f.1.getD (-1 - c).toNat 0=(s.1.set (-1 - c).toNat (s.2+1)).getD (-1 - c).toNat 0:=hf2;rw[sU hv,if_pos rfl] at hf2;unfold rho;rw[hf2];show [-(s.2+1)]=_
    congr 1
    omega
  ·rw[show (s.1.getD (-1 - c).toNat 0==0)=false from by simpa using hz,cond_false]
   refine ⟨h,ExtS.refl s,fun _=>hz,fun f hf => ?_⟩;rw[hexp];have hf2:f.1.getD (-1 - c).toNat 0=s.1.getD (-1 - c).toNat 0:=hf _ hz;have:=h.rng (-1 - c).toNat;unfold rho;rw[hf2];show [-(s.1.getD (-1 - c).toNat 0)]=_
   congr 1
   omega
theorem QL:(r:List Int)->{s:GT}->RenI s->(∀ c∈r,-24<=c)->RenI (rO s r).2∧ExtS s (rO s r).2∧(∀ x,HH r x->(rO s r).2.1.getD x.toNat 0≠0)∧∀ f,ExtS (rO s r).2 f->(rO s r).1=vn (fun v=>.v (rho f v)) r
 | [],s,h,_=>⟨h,ExtS.refl s,fun x ⟨c,hc,_⟩=>(nomatch hc),fun _ _=>rfl⟩
 | c::r,s,h,hc=>by
  obtain⟨h1,h2,h3,h4⟩:=Bv h (hc c (aj ..));obtain⟨g1,g2,g3,g4⟩:=QL r h1 fun d hd=>hc d (ai _ hd);refine ⟨g1,h2.trans g2,fun x ⟨d,hd,hd0,hx⟩ => ?_,fun f hf => ?_⟩
  ·rcases aG.1 hd with rfl | hd
   ·subst hx;show (rO (Kp s d).2 r).2.1.getD (-1 - d).toNat 0≠0;rw[g2 _ (h3 hd0)];exact h3 hd0
   ·exact g3 x ⟨d,hd,hd0,hx⟩
  ·have hf:ExtS (rO (Kp s c).2 r).2 f:=hf;show (Kp s c).1::(rO (Kp s c).2 r).1=_;unfold vn;rw[bv,← h4 f (g2.trans hf),g4 f hf];rfl
theorem ZH:(ls:List zc)->{s:GT}->RenI s->(∀ l∈ls,∀ c∈l.2,-24<=c)->RenI (vh s ls).2∧ExtS s (vh s ls).2∧(∀ x,ZK (ls.map (·.2)) x->(vh s ls).2.1.getD x.toNat 0≠0)∧∀ f,ExtS (vh s ls).2 f->(vh s ls).1=qK (fun v=>.v (rho f v)) ls
 | [],s,h,_=>⟨h,ExtS.refl s,fun x ⟨c,hc,_⟩=>(nomatch hc),fun _ _=>rfl⟩
 | l::ls,s,h,hc=>by
  obtain⟨h1,h2,h3,h4⟩:=QL l.2 h (hc l (aj ..));obtain⟨g1,g2,g3,g4⟩:=ZH ls h1 fun d hd=>hc d (ai _ hd);refine ⟨g1,h2.trans g2,fun x hx => ?_,fun f hf => ?_⟩
  ·rw[aK,Wd] at hx;rcases hx with hx | hx
   ·show (vh (rO s l.2).2 ls).2.1.getD x.toNat 0≠0;rw[g2 _ (h3 x hx)];exact h3 x hx
   ·exact g3 x hx
  ·have hf:ExtS (vh (rO s l.2).2 ls).2 f:=hf;show (l.1,(rO s l.2).1)::(vh (rO s l.2).2 ls).1=_;rw[h4 f (g2.trans hf),g4 f hf];rfl
theorem Vn:(ls:List jI)->{s:GT}->RenI s->(∀ l∈ls,∀ c∈l,-24<=c)->RenI (tT s ls).2∧ExtS s (tT s ls).2∧(∀ x,ZK ls x->(tT s ls).2.1.getD x.toNat 0≠0)∧∀ f,ExtS (tT s ls).2 f->(tT s ls).1=ls.map (vn (fun v=>.v (rho f v)))
 | [],s,h,_=>⟨h,ExtS.refl s,fun x ⟨c,hc,_⟩=>(nomatch hc),fun _ _=>rfl⟩
 | l::ls,s,h,hc=>by
  obtain⟨h1,h2,h3,h4⟩:=QL l h (hc l (aj ..));obtain⟨g1,g2,g3,g4⟩:=Vn ls h1 fun d hd=>hc d (ai _ hd);refine ⟨g1,h2.trans g2,fun x hx => ?_,fun f hf => ?_⟩
  ·rw[Wd] at hx;rcases hx with hx | hx
   ·show (tT (rO s l).2 ls).2.1.getD x.toNat 0≠0;rw[g2 _ (h3 x hx)];exact h3 x hx
   ·exact g3 x hx
  ·have hf:ExtS (tT (rO s l).2 ls).2 f:=hf;show (rO s l).1::(tT (rO s l).2 ls).1=_;rw[h4 f (g2.trans hf),g4 f hf];rfl
theorem Oq {L:List zc} {T:List jI} {C:List zc} (hc:∀ r∈yh L T C,∀ c∈r,-24<=c):∃ ρ:Nat->Nat,
  x5 L T C=(qK (fun v=>.v (ρ v)) (zT L []),(zT T []).map (vn (fun v=>.v (ρ v))),qK (fun v=>.v (ρ v)) (zT C [])) ∧
  (∀ x,ZK (yh L T C) x->ρ x.toNat<24)∧∀ x y,ZK (yh L T C) x->ZK (yh L T C) y->ρ x.toNat=ρ y.toNat->x.toNat=y.toNat:=by
 have mL:∀ l,l∈zT L []↔l∈L:=fun l=>by simpa using xk (x:=l) L []
 have mT:∀ l,l∈zT T []↔l∈T:=fun l=>by simpa using xk (x:=l) T []
 have mC:∀ l,l∈zT C []↔l∈C:=fun l=>by simpa using xk (x:=l) C []
 obtain⟨a1,a2,a3,a4⟩:=ZH (zT L []) zgv fun l hl=>hc _ (yQ ((mL l).1 hl));obtain⟨b1,b2,b3,b4⟩:=Vn (zT T []) a1 fun l hl=>hc _ (xu ((mT l).1 hl));obtain⟨c1,c2,c3,c4⟩:=ZH (zT C []) b1 fun l hl=>hc _ (xc ((mC l).1 hl));have nz:∀ x,ZK (yh L T C) x->(vh (tT (vh (ax 24 0,0) (zT L [])).2 (zT T [])).2 (zT C [])).2.1.getD x.toNat 0≠0:=by
  intro x hx;unfold yh at hx;rw[tv,tv] at hx;rcases hx with (⟨r,hr,hx⟩ | ⟨r,hr,hx⟩) | ⟨r,hr,hx⟩
  ·obtain⟨l,hl,rfl⟩:=aR.1 hr;have:=a3 x ⟨_,aZ ((mL l).2 hl),hx⟩;rw[c2 _ (by rw[b2 _ this]; exact this),b2 _ this]
   exact this
  ·obtain⟨l,hl,rfl⟩:=aR.1 hr;exact c3 x ⟨_,aZ ((mC l).2 hl),hx⟩
  ·have:=b3 x ⟨_,(mT r).2 hr,hx⟩;rw[c2 _ this];exact this
 refine ⟨rho (vh (tT (vh (ax 24 0,0) (zT L [])).2 (zT T [])).2 (zT C [])).2,?_,fun x hx=>c1.rho_lt (nz x hx),fun x y hx hy he=>c1.rho_inj (nz x hx) (nz y hy) he⟩;unfold x5 zcs;rw[a4 _ (b2.trans c2),b4 _ c2,c4 _ (ExtS.refl _)]
def xp (s:Sb) (l:wR):wR:=(l.1,l.2.1,qO s l.2.2)
theorem Yl (s:Sb) (ls:List wR):qK s (ls.map cl)=(ls.map (xp s)).map cl:=by
 unfold qK;rw[cm,cm];refine bx fun l _ => ?_;show (l.1,vn s ((l.2.1:Int)::za l.2.2))=(l.1,(l.2.1:Int)::za (qO s l.2.2));rw[kA];unfold vn;rw[bv];have:Yt s (l.2.1:Int)=[(l.2.1:Int)]:=by unfold Yt; rw[if_neg (by omega)]
 rw[this];rfl
theorem jb (s:Sb) (rs:List (List Tm)):(rs.map za).map (vn s)=(rs.map (qO s)).map za:=by
 rw[cm,cm];refine bx fun r _ => ?_;show vn s (za r)=za (qO s r);rw[kA];rfl
theorem C6 {m:Int} {nums:List Int} {env:Nat->Int} (s:Sb) (l:wR):Zw m nums env (xp s l)=Zw m nums (fun n=>uy m nums env (s n)) l:=by
 unfold Zw Wz xp;rw[km]
theorem Fa {m:Int} {nums:List Int} {env:Nat->Int} (s:Sb) (r:List Tm):kE m nums env (qO s r)=kE m nums (fun n=>uy m nums env (s n)) r:=by
 unfold kE;rw[km]
theorem Wv {m:Int} {nums:List Int} {env:Nat->Int} (s:Sb) (L:List wR) (T:List (List Tm)) (C:List wR):rK m nums env (L.map (xp s)) (T.map (qO s)) (C.map (xp s))=rK m nums (fun n=>uy m nums env (s n)) L T C:=by
 unfold rK;rw[List.all_map,hY,hY,DN (l:=C) (p:=Zw m nums env ∘ xp s) (q:=Zw m nums fun n=>uy m nums env (s n)) fun l _=>C6 s l,
  WB (l:=L) (p:=Zw m nums env ∘ xp s) (q:=Zw m nums fun n=>uy m nums env (s n)) fun l _=>C6 s l,WB (l:=T) (p:=kE m nums env ∘ qO s) (q:=kE m nums fun n=>uy m nums env (s n)) fun r _=>Fa s r]
theorem Gt {a0:List zg} (hb:uU a0=true) {ts:List Tm} (h:WfR a0 ts):YO a0 (za ts)=some ts.length:=by
 unfold YO uq;rw[hb,decide_eq_true h.2,yf ts h.1];simp
theorem Py {a0:List zg} {rs:List jI} {n:Nat} (h:∀ r∈rs,YO a0 r=some n):ZE a0 rs=true:=by
 cases rs with
 | nil=>rfl
 | cons r rs =>
  unfold ZE;show (match YO a0 r with | none=>false | some n=>rs.all fun q=>YO a0 q==some n)=true
  rw[h r (aj ..)];exact aD.2 fun q hq=>by rw[h q (ai _ hq)]; simp
theorem Gb {a0:List zg} (hb:uU a0=true) {l:wR} (h:WfL a0 l):vq a0 (cl l).2=true:=by
 obtain⟨h1,⟨e,h2,h3,h4⟩,h5⟩:=h;exact R1 h1 h2 h3 h4 h5 hb
theorem UP {a0:List zg} {l k:wR} (hl:WfL a0 l) (hk:WfL a0 k) (h:cl l=cl k):l=k:=by
 obtain⟨n,c,ts⟩:=l;obtain⟨n',c',us⟩:=k;have h:((n,(c:Int)::za ts):zc)=(n',(c':Int)::za us):=h;injection h with h1 h2;injection h2 with h2 h3;have h3:=yH _ ts us (aC _) hl.1 hk.1 h3;have:c=c':=by omega
 rw[h1,this,h3]
theorem Ws {α β:Type} (f:α->β) {as:List α}:(bs:List β)->(∀ b∈bs,b∈as.map f)->∃ as':List α,bs=as'.map f∧∀ a∈as',a∈as
 | [],_=>⟨[],rfl,fun _ h=>(nomatch h)⟩
 | b::bs,h=>by
  obtain⟨as',h1,h2⟩:=Ws f bs fun x hx=>h x (ai _ hx);obtain⟨a,ha,rfl⟩:=aR.1 (h b (aj ..));refine ⟨a::as',by rw[aK,← h1],fun x hx => ?_⟩
  rcases aG.1 hx with rfl | hx
  ·exact ha
  ·exact h2 x hx
theorem OG {α:Type} {p:α->Bool} {a b:List α} (h:∀ x,x∈a↔x∈b):a.any p=b.any p:=by
 rw[eg,dw,dw];exact ⟨fun ⟨x,hx,hp⟩=>⟨x,(h x).1 hx,hp⟩,fun ⟨x,hx,hp⟩=>⟨x,(h x).2 hx,hp⟩⟩
theorem zbg {α:Type} {p:α->Bool} {a b:List α} (h:∀ x,x∈a↔x∈b):a.all p=b.all p:=by
 rw[eg,aD,aD];exact ⟨fun H x hx=>H x ((h x).2 hx),fun H x hx=>H x ((h x).1 hx)⟩
theorem Yw {α:Type} [DecidableEq α] (f:α->Nat):(es out:List α)->((zT es out).map f).sum<=(out.map f).sum+(es.map f).sum
 | [],out=>by simp [zT]
 | e::es,out=>by
  unfold zT;by_cases h:e∈out
  ·rw[decide_eq_true h,cond_true];have:=Yw f es out;simp only[aK,cD];omega
  ·rw[decide_eq_false h,cond_false];have:=Yw f es (out++[e]);simp only[aK,cD,cd,List.sum_append,List.map_nil,List.sum_nil] at this ⊢;omega
abbrev vS (ρ:Nat->Nat):Sb:=fun v=>.v (ρ v)
theorem L0 (ρ:Nat->Nat) (r:List Int):(vn (vS ρ) r).length=r.length:=by
 unfold vn
 induction r with
 | nil=>rfl
 | cons c r ih =>
  rw[bv,am,ih,ak];unfold Yt;split
  ·simp [Tm.codes]; omega
  ·simp; omega
theorem TL {a0:List zg} {ρ:Nat->Nat} {ts:List Tm} (h:WfR a0 ts) (hρ:∀ x,jr x ts->ρ x<24):WfR a0 (qO (vS ρ) ts):=by
 refine ⟨XS ts h.1 fun x hx=>hρ x hx,?_⟩;rw[kA];have:=L0 ρ (za ts);unfold vn at this;rw[this];exact h.2
theorem Tg {a0:List zg} {ρ:Nat->Nat} {l:wR} (h:WfL a0 l) (hρ:∀ x,jr x l.2.2->ρ x<24):WfL a0 (xp (vS ρ) l):=by
 obtain⟨h1,⟨e,h2,h3,h4⟩,h5⟩:=h;have:=TL (a0:=a0) ⟨h1,h5⟩ hρ;exact ⟨this.1,⟨e,h2,h3,by show (((qO (vS ρ) l.2.2).length:Nat):Int)=_; rw[kQ]; exact h4⟩,this.2⟩
theorem JF {a0:List zg} {L:List wR} {T:List (List Tm)} {C:List wR} (hmay:qy a0 (L.map cl) (T.map za) (C.map cl)=true) (hL:∀ l∈L,WfL a0 l) (hT:∀ r∈T,WfR a0 r) (hC:∀ l∈C,WfL a0 l) :
  ∃(L1:List wR) (T1:List (List Tm)) (C1:List wR) (ρ:Nat->Nat),x5 (L.map cl) (T.map za) (C.map cl)=((L1.map (xp (vS ρ))).map cl,(T1.map (qO (vS ρ))).map za,(C1.map (xp (vS ρ))).map cl)∧(∀ l∈L1.map (xp (vS ρ)),WfL a0 l)∧(∀ r∈T1.map (qO (vS ρ)),WfR a0 r)∧(∀ l∈C1.map (xp (vS ρ)),WfL a0 l) ∧
   qy a0 ((L1.map (xp (vS ρ))).map cl) ((T1.map (qO (vS ρ))).map za) ((C1.map (xp (vS ρ))).map cl)=true∧(∀ x,Kr L T C x->ρ x<24)∧(∀ x y,Kr L T C x->Kr L T C y->ρ x=ρ y->x=y)∧(∀ x,Kr (L1.map (xp (vS ρ))) (T1.map (qO (vS ρ))) (C1.map (xp (vS ρ))) x↔∃ y,Kr L T C y∧ρ y=x) ∧
   (∀ l,l∈L1↔l∈L)∧(∀ l,l∈T1↔l∈T)∧∀ l,l∈C1↔l∈C:=by
 obtain⟨hsb,g1,g2,g3,g4,g5,g6,g7⟩:=zz hmay;obtain⟨ρ,hn,hr1,hr2⟩:=Oq (L:=L.map cl) (T:=T.map za) (C:=C.map cl) fun r hr c hc=>(K0 hmay r hr).2 c hc;have hρ:∀ x,Kr L T C x->ρ x<24:=fun x hx=>by
  have:=hr1 x (ZD.2 hx);rwa [bo] at this
 have mL:∀ l,l∈zT (L.map cl) []↔l∈L.map cl:=fun l=>by simpa using xk (x:=l) (L.map cl) []
 have mT:∀ l,l∈zT (T.map za) []↔l∈T.map za:=fun l=>by simpa using xk (x:=l) (T.map za) []
 have mC:∀ l,l∈zT (C.map cl) []↔l∈C.map cl:=fun l=>by simpa using xk (x:=l) (C.map cl) []
 obtain⟨L1,eL,sL⟩:=Ws cl (zT (L.map cl) []) fun b hb=>(mL b).1 hb;obtain⟨T1,eT,sT⟩:=Ws za (zT (T.map za) []) fun b hb=>(mT b).1 hb;obtain⟨C1,eC,sC⟩:=Ws cl (zT (C.map cl) []) fun b hb=>(mC b).1 hb;have bL:∀ l,l∈L1↔l∈L:=fun l=>⟨sL l,fun hl=>by
  have h1:=(mL (cl l)).2 (aZ hl);rw[eL] at h1;obtain⟨k,hk,he⟩:=aR.1 h1;rw[← UP (hL k (sL k hk)) (hL l hl) he];exact hk⟩
 have bC:∀ l,l∈C1↔l∈C:=fun l=>⟨sC l,fun hl=>by
  have h1:=(mC (cl l)).2 (aZ hl);rw[eC] at h1;obtain⟨k,hk,he⟩:=aR.1 h1;rw[← UP (hC k (sC k hk)) (hC l hl) he];exact hk⟩
 have bT:∀ l,l∈T1↔l∈T:=fun l=>⟨sT l,fun hl=>by
  have h1:=(mT (za l)).2 (aZ hl);rw[eT] at h1;obtain⟨k,hk,he⟩:=aR.1 h1;rw[← yH _ k l (aC _) (hT k (sT k hk)).1 (hT l hl).1 he];exact hk⟩
 have wL:∀ l∈L1.map (xp (vS ρ)),WfL a0 l:=fun l hl=>by
  obtain⟨k,hk,rfl⟩:=aR.1 hl;exact Tg (hL k (sL k hk)) fun x hx=>hρ x (.inl ⟨k,sL k hk,hx⟩)
 have wC:∀ l∈C1.map (xp (vS ρ)),WfL a0 l:=fun l hl=>by
  obtain⟨k,hk,rfl⟩:=aR.1 hl;exact Tg (hC k (sC k hk)) fun x hx=>hρ x (.inr (.inr ⟨k,sC k hk,hx⟩))
 have wT:∀ l∈T1.map (qO (vS ρ)),WfR a0 l:=fun l hl=>by
  obtain⟨k,hk,rfl⟩:=aR.1 hl;exact TL (hT k (sT k hk)) fun x hx=>hρ x (.inr (.inl ⟨k,sT k hk,hx⟩))
 have lL:L1.length<=5:=by
  have h1:=congrArg af eL;have h2:=wP (L.map cl) [];rw[aF] at h1 h2 g1;simp at h2; omega
 have lT:T1.length<=3:=by
  have h1:=congrArg af eT;have h2:=wP (T.map za) [];rw[aF] at h1 h2 g2;simp at h2; omega
 have lC:C1.length<=3:=by
  have h1:=congrArg af eC;have h2:=wP (C.map cl) [];rw[aF] at h1 h2 g3;simp at h2; omega
 refine ⟨L1,T1,C1,ρ,?_,wL,wT,wC,?_,hρ,fun x y hx hy he => ?_,fun x => ?_,bL,bT,bC⟩
 ·rw[hn,eL,eT,eC,Yl,jb,Yl]
 ·refine AK hsb (by simpa using lL) (by simpa using lT) (by simpa using lC) ?_ ?_ ?_ ?_
  ·refine aD.2 fun l hl => ?_;obtain⟨k,hk,rfl⟩:=aR.1 hl;exact Gb hsb (wL k hk)
  ·obtain⟨n,hw⟩:=Qi g5;refine Py (n:=n) fun r hr => ?_;obtain⟨k,hk,rfl⟩:=aR.1 hr;rw[Gt hsb (wT k hk)];obtain⟨j,hj,rfl⟩:=aR.1 hk;rw[kQ];have:=hw (za j) (aZ (sT j hj));rwa [Gt hsb (hT j (sT j hj))] at this
  ·refine aD.2 fun l hl => ?_;obtain⟨k,hk,rfl⟩:=aR.1 hl;exact Gb hsb (wC k hk)
  ·have sumL:∀(X X1:List wR),zT (X.map cl) []=X1.map cl->zk (((X1.map (xp (vS ρ))).map cl).map (·.2))<=zk ((X.map cl).map (·.2)):=by
    intro X X1 he;rw[← Yl];have h1:(qK (vS ρ) (X1.map cl)).map (·.2.length)=(X1.map cl).map (·.2.length):=by
     unfold qK;rw[cm];exact bx fun l _=>L0 ρ l.2
    unfold zk;rw[cm,cm];have h2:=Yw (fun l:zc=>l.2.length) (X.map cl) [];rw[he] at h2;have h3:cV (af ∘ fun x=>x.2) (qK (vS ρ) (X1.map cl))=(X1.map cl).map (·.2.length):=h1;rw[h3];have h4:(([]:List zc).map (fun l:zc=>l.2.length)).sum=0:=rfl;have h5:cV (af ∘ fun x=>x.2) (X.map cl)=(X.map cl).map (fun l:zc=>l.2.length):=rfl;rw[h4,aP] at h2;exact h2
   have sumT:zk ((T1.map (qO (vS ρ))).map za)<=zk (T.map za):=by
    rw[← jb];have h2:=Yw af (T.map za) [];rw[eT] at h2;unfold zk;rw[cm];have h3:cV (af ∘ vn (vS ρ)) (T1.map za)=(T1.map za).map af:=bx fun r _=>L0 ρ r;rw[h3];simpa using h2
   have h1:=sumL L L1 eL;have h2:=sumL C C1 eC;omega
 ·have:=hr2 x y (ZD.2 hx) (ZD.2 hy) (by rw[bo,bo]; exact he)
  rwa [bo,bo] at this
 ·constructor
  ·rintro (⟨l,hl,hx⟩ | ⟨r,hr,hx⟩ | ⟨l,hl,hx⟩)
   ·obtain⟨k,hk,rfl⟩:=aR.1 hl;obtain⟨y,hy,he⟩:=(jz k.2.2).1 hx;exact ⟨y,.inl ⟨k,sL k hk,hy⟩,he⟩
   ·obtain⟨k,hk,rfl⟩:=aR.1 hr;obtain⟨y,hy,he⟩:=(jz k).1 hx;exact ⟨y,.inr (.inl ⟨k,sT k hk,hy⟩),he⟩
   ·obtain⟨k,hk,rfl⟩:=aR.1 hl;obtain⟨y,hy,he⟩:=(jz k.2.2).1 hx;exact ⟨y,.inr (.inr ⟨k,sC k hk,hy⟩),he⟩
  ·rintro⟨y,⟨l,hl,hy⟩ | ⟨r,hr,hy⟩ | ⟨l,hl,hy⟩,he⟩
   ·exact .inl ⟨_,aZ ((bL l).2 hl),(jz l.2.2).2 ⟨y,hy,he⟩⟩
   ·exact .inr (.inl ⟨_,aZ ((bT r).2 hr),(jz r).2 ⟨y,hy,he⟩⟩)
   ·exact .inr (.inr ⟨_,aZ ((bC l).2 hl),(jz l.2.2).2 ⟨y,hy,he⟩⟩)
theorem Ao {a0:List zg} {L:List wR} {T:List (List Tm)} {C:List wR} (hmay:qy a0 (L.map cl) (T.map za) (C.map cl)=true) (hL:∀ l∈L,WfL a0 l) (hT:∀ r∈T,WfR a0 r) (hC:∀ l∈C,WfL a0 l) :
  ∃(Ln:List wR) (Tn:List (List Tm)) (Cn:List wR) (ρ:Nat->Nat),x5 (L.map cl) (T.map za) (C.map cl)=(Ln.map cl,Tn.map za,Cn.map cl)∧(∀ l∈Ln,WfL a0 l)∧(∀ r∈Tn,WfR a0 r)∧(∀ l∈Cn,WfL a0 l) ∧
   qy a0 (Ln.map cl) (Tn.map za) (Cn.map cl)=true∧(∀ x,Kr L T C x->ρ x<24)∧(∀ x y,Kr L T C x->Kr L T C y->ρ x=ρ y->x=y)∧(∀ x,Kr Ln Tn Cn x↔∃ y,Kr L T C y∧ρ y=x) ∧
   ∀ m nums env,rK m nums env Ln Tn Cn=rK m nums (fun v=>env (ρ v)) L T C:=by
 obtain⟨L1,T1,C1,ρ,h1,h2,h3,h4,h5,h6,h7,h8,bL,bT,bC⟩:=JF hmay hL hT hC;refine ⟨_,_,_,ρ,h1,h2,h3,h4,h5,h6,h7,h8,fun m nums env => ?_⟩;rw[Wv];unfold rK;rw[zbg bC,OG bL,OG bT];rfl
theorem Kf {m:Nat} (hm:0<m) {nums:List Int} (hn:tN nums) {a0:List zg} (hs:SignOk a0) {env:Nat->Int} (he:∀ x,x<24->0<=env x∧env x<(m:Int)) {σ:Sb} (hσ:∀ x,x<24->(σ x).ok a0 24) :
  ∃ E,EnvOk (m:Int) E∧∀ x,x<24->xM E x=uy (m:Int) nums env (σ x):=by
 refine ⟨(aL 24).map fun x=>uy (m:Int) nums env (σ x),⟨by simp,fun y hy => ?_⟩,fun x hx => ?_⟩
 ·obtain⟨x,hx,rfl⟩:=aR.1 hy;exact F5 (by omega) hn hs _ (hσ x (bZ.1 hx)) he
 ·unfold xM;rw[aE,bh,List.getElem?_range hx];rfl
theorem Sn (a:Int) (nums:List Int):∃ m:Nat,0<m∧m<=3∧V9 a nums=some ((m:Int),nums):=by
 unfold V9;have h0:=(jV a).1;have r1:0<=dM (ag .u64 a) 3:=fH _ h0;have r2:dM (ag .u64 a) 3<3:=eW _ (by omega)
 generalize dM (ag .u64 a) 3=q at r1 r2;refine ⟨(1+q).toNat,by omega,by omega,?_⟩
 have w:ag .i64 (1+ag .i64 q)=((((1+q).toNat:Nat)):Int):=by
  rw[zo (n:=q) (by omega) (by omega),zo (by omega) (by omega),cy (by omega)]
 rw[w]
theorem tu {α:Type} {s:Int} {x:α}:(es:List α)->(i:Nat)->(x∈zh s es i↔∃ k:Nat,es[k]? = some x∧((i+k:Nat):Int)≠s)
 | [],i=>by simp [zh]
 | e::es,i=>by
  have ih:=tu (s:=s) (x:=x) es (i+1);have shift:(∃ k:Nat,(e::es)[k]? = some x∧((i+k:Nat):Int)≠s)↔(e=x∧(i:Int)≠s)∨∃ k:Nat,es[k]? = some x∧((i+1+k:Nat):Int)≠s:=by
   constructor
   ·rintro⟨k,h1,h2⟩;cases k with
    | zero=>exact .inl ⟨by simpa using h1,by simpa using h2⟩
    | succ k=>exact .inr ⟨k,by simpa using h1,by rw[show i+1+k=i+(k+1) from by omega]; exact h2⟩
   ·rintro (⟨h1,h2⟩ | ⟨k,h1,h2⟩)
    ·exact ⟨0,by simp [h1],by simpa using h2⟩
    ·exact ⟨k+1,by simpa using h1,by rw[show i+(k+1)=i+1+k from by omega]; exact h2⟩
  rw[shift,← ih];show (x∈cond ((i:Int) != s) (e::zh s es (i+1)) (zh s es (i+1)))↔_;by_cases hi:(i:Int)=s
  ·rw[show ((i:Int) != s)=false from by simp [hi],cond_false]
   simp [hi]
  ·rw[show ((i:Int) != s)=true from by simp [hi],cond_true,aG]
   constructor
   ·rintro (h | h)
    ·exact .inl ⟨h.symm,hi⟩
    ·exact .inr h
   ·rintro (h | h)
    ·exact .inl h.1.symm
    ·exact .inr h
theorem uM {α β:Type} (f:α->β) (s:Int):(es:List α)->(i:Nat)->zh s (es.map f) i=(zh s es i).map f
 | [],_=>rfl
 | e::es,i=>by
  have ih:=uM f s es (i+1);show cond ((i:Int) != s) (f e::zh s (es.map f) (i+1)) (zh s (es.map f) (i+1))=(cond ((i:Int) != s) (e::zh s es (i+1)) (zh s es (i+1))).map f;cases ((i:Int) != s) with
  | true=>rw[cond_true,cond_true,ih]; rfl
  | false=>rw[cond_false,cond_false,ih]
theorem L7 {a0:List zg} {L:List wR} (h:su a0 (L.map cl)=true) (ho:∀ l∈L,okR a0 24 l.2.2):∀ l∈L,WfL a0 l:=fun l hl=>by
 have h1:vq a0 (cl l).2=true:=aD.1 h (cl l) (aZ hl);obtain⟨c,ts,e,h2,h3,h4,h5,h6,h7,-⟩:=v6 h1;have h2:((l.2.1:Int)::za l.2.2)=(c:Int)::za ts:=h2;injection h2 with h8 h9;have h9:=yH _ l.2.2 ts (aC _) (ho l hl) h3 h9;have h8:l.2.1=c:=by omega
 refine ⟨ho l hl,⟨e,by rw[h8]; exact h4,h5,by rw[h9]; exact h6⟩,by rw[h9]; exact h7⟩
theorem zbR {a0:List zg} {T:List (List Tm)} (h:ZE a0 (T.map za)=true) (ho:∀ r∈T,okR a0 24 r):∀ r∈T,WfR a0 r:=fun r hr=>by
 obtain⟨n,hn⟩:=Qi h;obtain⟨ps,-,-,hl,-⟩:=X9 (hn (za r) (aZ hr));exact ⟨ho r hr,hl⟩
def Holds (m:Nat) (nums:List Int) (L:List wR) (T:List (List Tm)) (C:List wR):Prop:=∀ E,EnvOk (m:Int) E->rK (m:Int) nums (xM E) L T C=true
theorem kz {m:Nat} (hm:0<m) (hm3:m<=3) {nums:List Int} (hn:tN nums) {a0:List zg} (hs:SignOk a0) {σ:Sb} (hσ:∀ x,x<24->(σ x).ok a0 24) {L:List wR} {T:List (List Tm)} {C:List wR}
  (hL:∀ l∈L,okR a0 24 l.2.2) (hT:∀ r∈T,okR a0 24 r) (hC:∀ l∈C,okR a0 24 l.2.2)
  (hmay:qy a0 (qK σ (L.map cl)) ((T.map za).map (vn σ)) (qK σ (C.map cl))=true) :
  qy a0 (x5 (qK σ (L.map cl)) ((T.map za).map (vn σ)) (qK σ (C.map cl))).1 (x5 (qK σ (L.map cl)) ((T.map za).map (vn σ)) (qK σ (C.map cl))).2.1 (x5 (qK σ (L.map cl)) ((T.map za).map (vn σ)) (qK σ (C.map cl))).2.2=true ∧
  ((∀ E,EnvOk (m:Int) E->rK (m:Int) nums (fun n=>uy (m:Int) nums (xM E) (σ n)) L T C=true) ->
   zy (m:Int) nums a0 (x5 (qK σ (L.map cl)) ((T.map za).map (vn σ)) (qK σ (C.map cl))).1 (x5 (qK σ (L.map cl)) ((T.map za).map (vn σ)) (qK σ (C.map cl))).2.1 (x5 (qK σ (L.map cl)) ((T.map za).map (vn σ)) (qK σ (C.map cl))).2.2=some true):=by
 rw[Yl,jb,Yl] at hmay ⊢;have okS:∀{ts:List Tm},okR a0 24 ts->okR a0 24 (qO σ ts):=fun {ts} h=>XS ts h fun x hx=>hσ x (wZ ts h hx);have oL:∀ l∈L.map (xp σ),okR a0 24 l.2.2:=fun l hl=>by
  obtain⟨k,hk,rfl⟩:=aR.1 hl;exact okS (hL k hk)
 have oC:∀ l∈C.map (xp σ),okR a0 24 l.2.2:=fun l hl=>by
  obtain⟨k,hk,rfl⟩:=aR.1 hl;exact okS (hC k hk)
 have oT:∀ l∈T.map (qO σ),okR a0 24 l:=fun l hl=>by
  obtain⟨k,hk,rfl⟩:=aR.1 hl;exact okS (hT k hk)
 obtain⟨-,-,-,-,g4,g5,g6,-⟩:=zz hmay;obtain⟨Ln,Tn,Cn,ρ,e1,w1,w2,w3,w4,w5,w6,w7,w8⟩:=Ao hmay (L7 g4 oL) (zbR g5 oT) (L7 g6 oC);rw[e1];refine ⟨w4,fun H => ?_⟩;obtain⟨b,c1,c2⟩:=Xs hm hm3 hn hs w4 w1 w2 w3;simp only;rw[c1,c2.2 fun E hE => ?_];rw[w8];obtain⟨E',hE',he'⟩:=Kf hm hn hs (env:=xM E) (fun x hx=>hE.val hx) (σ:=fun x=>.v (if ρ x<24 then ρ x else 0)) (fun x _=>by
  show (if ρ x<24 then ρ x else 0)<24
  split<;>omega)
 rw[← H E' hE',← Wv];refine YY fun x hx => ?_;have h24:=w5 x hx;have hx24:x<24:=by
  rcases hx with ⟨l,hl,hx⟩ | ⟨l,hl,hx⟩ | ⟨l,hl,hx⟩
  ·exact wZ _ (oL l hl) hx
  ·exact wZ _ (oT l hl) hx
  ·exact wZ _ (oC l hl) hx
 rw[he' x hx24];show xM E (ρ x)=xM E (if ρ x<24 then ρ x else 0)
 rw[if_pos h24]
theorem Holds.inst {m:Nat} (hm:0<m) {nums:List Int} (hn:tN nums) {a0:List zg} (hs:SignOk a0) {σ:Sb} (hσ:∀ x,x<24->(σ x).ok a0 24) {L:List wR} {T:List (List Tm)} {C:List wR}
  (hv:∀ x,Kr L T C x->x<24) (h:Holds m nums L T C) {E:List Int} (hE:EnvOk (m:Int) E):rK (m:Int) nums (fun n=>uy (m:Int) nums (xM E) (σ n)) L T C=true:=by
 obtain⟨E',hE',he'⟩:=Kf hm hn hs (env:=xM E) (fun x hx=>hE.val hx) hσ;rw[← h E' hE'];exact YY fun x hx=>(he' x (hv x hx)).symm
theorem zF {m:Int} {nums:List Int} {env:Nat->Int} {L:List wR} {T:List (List Tm)} {C:List wR}:rK m nums env L T C=true↔(∃ l∈C,Zw m nums env l=false)∨(∃ l∈L,Zw m nums env l=true)∨∃ r∈T,kE m nums env r=true:=by
 unfold rK;rw[b9,b9,dw,dw,Bool.not_eq_true',List.all_eq_false];simp
mutual
theorem Tm.sub_id:(t:Tm)->t.sub (fun n=>Tm.v n)=t
 | .v n=>rfl
 | .f c as=>by rw[Tm.sub,Vm as]
theorem Vm:(ts:List Tm)->qO (fun n=>Tm.v n) ts=ts
 | []=>rfl
 | t::ts=>by rw[qO,Tm.sub_id t,Vm ts]
end
theorem Sk {m:Int} {nums:List Int} {env:Nat->Int} (l:wR):Zw m nums env (!l.1,l.2) = !Zw m nums env l:=by
 unfold Zw;cases l.1<;>cases Wz m nums env l.2.1 l.2.2<;>rfl
theorem I5 {L:List wR} {i:Int} {x:zc} (h:gx (L.map cl) i=some x):0<=i∧∃ l,L[i.toNat]? = some l∧x=cl l:=by
 unfold gx at h;cases hd:decide (0<=i) with
 | false=>rw[hd] at h; cases h
 | true =>
  rw[hd,cond_true,bh] at h;refine ⟨of_decide_eq_true hd,?_⟩;cases hl:L[i.toNat]? with
  | none=>rw[hl] at h; cases h
  | some l=>rw[hl] at h; injection h with h; exact ⟨l,rfl,h.symm⟩
theorem GU {m:Int} {nums:List Int} {env:Nat->Int} {L:List wR} {T:List (List Tm)} {C:List wR} {j:Int} (h:rK m nums env L T C=true) (hj:∀ k:Nat,(k:Int)=j->∀ l,L[k]? = some l->Zw m nums env l=true->rK m nums env (zh j L 0) T C=true):rK m nums env (zh j L 0) T C=true:=by
 rcases zF.1 h with h | ⟨l,hl,hv⟩ | h
 ·exact zF.2 (.inl h)
 ·obtain⟨k,hk,he⟩:=cg.1 hl;have hg:L[k]? = some l:=by rw[al hk,he]
  by_cases hkj:(k:Int)=j
  ·exact hj k hkj l hg hv
  ·exact zF.2 (.inr (.inl ⟨l,(tu L 0).2 ⟨k,hg,by simpa using hkj⟩,hv⟩))
 ·exact zF.2 (.inr (.inr h))
theorem Qs {a0:List zg} (hs:SignOk a0) {L:List zc} {T:List jI} {C:List zc} (h:qy a0 L T C=true) {i j:Int} {n n':Bool} {A A':List Int} (hi:gx L i=some (n,A)) (hj:gx L j=some (n',A')) :
  (∃ k,Zg a0 L T C i j=wb k) ∨
  (n=n'∧∃(c:Nat) (ts us:List Tm) (σ:Sb),A=(c:Int)::za ts∧A'=(c:Int)::za us∧okR a0 24 ts∧okR a0 24 us∧ts.length=us.length∧Mgu σ (ts.zip us)∧(∀ x,x<24->(σ x).ok a0 24)∧Zg a0 L T C i j=jJ a0 σ (zh j L 0) T C 1401):=by
 obtain⟨hsb,l1,l2,l3,l4,l5,l6,-⟩:=zz h;have hA:=aD.1 l4 (n,A) (jA hi);have hA':=aD.1 l4 (n',A') (jA hj);obtain⟨c,ts,e,rfl,ho,he,-,hlen,hl48,-⟩:=v6 hA;obtain⟨c',us,e',rfl,ho',he',-,hlen',hl48',-⟩:=v6 hA';unfold Zg;rw[hi,aa,hj,aa];simp only;by_cases hn:n=n'
 ·subst hn;rw[show (!(n==n))=false from by simp,cond_false]
  simp only[z6,aB,aa];by_cases hc:c=c'
  ·subst hc;rw[show ((c:Int) != (c:Int))=false from by simp,cond_false,wW,aa,wW,aa]
   rcases Q5 hs (xs:=za ts) (ys:=za us) rfl rfl ho ho' hsb hl48 hl48' with ⟨hu,-⟩ | ⟨hll,σ,hm,hok,hu⟩
   ·rw[hu];exact .inl ⟨0,rfl⟩
   ·rw[hu];cases hsh:qZ σ (aL 24) with
    | false=>exact .inl ⟨1401,rfl⟩
    | true =>
     refine .inr ⟨trivial,c,ts,us,σ,rfl,rfl,ho,ho',hll,hm,hok,?_⟩;simp only[cond_true,aa,show ((0:Int) != 0)=false from rfl,cond_false,az]
     have hcd:=Z3 hs h;have hwl:=sG j L 0;rw[uB j (-1) (by omega) (by omega) (by omega) (by simp) (by simp) (by simp),aa]
     simp only[bO,zh];rw[ED hsh (fun l hl=>hcd _ (yQ (qC L 0 hl))) (fun r hr=>hcd _ (xu hr)) (fun l hl=>hcd _ (xc hl)) (by omega) (by omega) (by omega),aa,xK,aa]
     unfold jJ;cases qy a0 (qK σ (zh j L 0)) (T.map (vn σ)) (qK σ C) with
     | true=>rfl
     | false=>rfl
  ·rw[show ((c:Int) != (c':Int))=true from by simp; omega,cond_true]
   exact .inl ⟨0,rfl⟩
 ·rw[show (!(n==n'))=true from by simp [hn],cond_true]
  exact .inl ⟨0,rfl⟩
theorem jL {a0:List zg} {σ:Sb} {L:List zc} {T:List jI} {C:List zc} {k:Int} (hk:k≠0):∃ r,jJ a0 σ L T C k=some r∧(r.2.2.2.1=0->qy a0 (qK σ L) (T.map (vn σ)) (qK σ C)=true∧(r.1,r.2.1,r.2.2.2.2)=x5 (qK σ L) (T.map (vn σ)) (qK σ C)):=by
 unfold jJ;cases hm:qy a0 (qK σ L) (T.map (vn σ)) (qK σ C) with
 | true=>exact ⟨_,rfl,fun _=>⟨rfl,rfl⟩⟩
 | false=>exact ⟨_,rfl,fun h=>absurd h hk⟩
section
variable {m:Nat} (hm:0<m) (hm3:m<=3) {nums:List Int} (hn:tN nums) {a0:List zg} (hs:SignOk a0)
include hm hm3 hn hs
theorem DU {L:List wR} {T:List (List Tm)} {C:List wR} (hmay:qy a0 (L.map cl) (T.map za) (C.map cl)=true) (hL:∀ l∈L,WfL a0 l) (hT:∀ r∈T,WfR a0 r) (hC:∀ l∈C,WfL a0 l) (i j:Int) :
  ∃ r,ku a0 (L.map cl) (T.map za) (C.map cl) i j=some r∧(r.2.2.2.1=0->r.2.2.1=true->qy a0 r.1 r.2.1 r.2.2.2.2=true∧(Holds m nums L T C->zy (m:Int) nums a0 r.1 r.2.1 r.2.2.2.2=some true)):=by
 unfold ku;have fails:∀{k:Int} {o:Option Xc} {P:Xc->Prop},o=wb k->∃ r,o=some r∧(r.2.2.2.1=0->r.2.2.1=true->P r):=fun h=>⟨_,h,fun _ h=>(nomatch h)⟩;rw[zG,aa,hmay,az,cond_false,uF,aa];cases hpi:zW (L.map cl) i with
 | false=>exact fails (k:=1400) rfl
 | true =>
  rw[az,cond_false,uF,aa];cases hpj:zW (L.map cl) j with
  | false=>exact fails (k:=1400) rfl
  | true =>
   rw[az,cond_false];by_cases hij:i=j
   ·rw[show (i==j)=true from by simp [hij],cond_true]
    exact fails (k:=1400) rfl
   ·rw[show (i==j)=false from by simp [hij],cond_false]
    have eta:∀ o:Option Xc,(o.bind fun r=>some (r.1,r.2.1,r.2.2.1,r.2.2.2.1,r.2.2.2.2))=o:=fun o=>by cases o<;>rfl
    rw[eta];obtain⟨⟨n,A⟩,hi⟩:=wq hpi;obtain⟨⟨n',A'⟩,hj⟩:=wq hpj;rcases Qs hs hmay hi hj with ⟨k,r1⟩ | ⟨hnn,c,ts,us,σ,rfl,rfl,ho,ho',hll,hmgu,hok,r1⟩
    ·exact fails r1
    ·rw[r1,uM];obtain⟨r,g1,g2⟩:=jL (a0:=a0) (σ:=σ) (L:=(zh j L 0).map cl) (T:=T.map za) (C:=C.map cl) (k:=1401) (by omega)
     refine ⟨r,g1,fun h0 _ => ?_⟩;obtain⟨g3,g4⟩:=g2 h0;obtain⟨k1,k2⟩:=kz hm hm3 hn hs hok (fun l hl=>(hL l (qC L 0 hl)).1) (fun r hr=>(hT r hr).1) (fun l hl=>(hC l hl).1) g3;rw[← g4] at k1 k2;refine ⟨k1,fun H=>k2 fun E hE => ?_⟩;have hv:∀ x,Kr L T C x->x<24:=fun x hx=>by
      rcases hx with ⟨l,hl,hx⟩ | ⟨l,hl,hx⟩ | ⟨l,hl,hx⟩
      ·exact wZ _ (hL l hl).1 hx
      ·exact wZ _ (hT l hl).1 hx
      ·exact wZ _ (hC l hl).1 hx
     refine GU (H.inst hm hn hs hok hv hE) fun k hk l hl hlv => ?_;obtain⟨hi0,li,hli,ei⟩:=I5 hi;obtain⟨hj0,lj,hlj,ej⟩:=I5 hj;have hkj:k=j.toNat:=by omega
     have:l=lj:=by rw[hkj,hlj] at hl; injection hl with hl; exact hl.symm
     subst this;refine zF.2 (.inr (.inl ⟨li,(tu L 0).2 ⟨i.toNat,hli,by omega⟩,?_⟩))
     have oi:=(hL li (aJ hli)).1;have oj:=(hL l (aJ hl)).1;injection ei with a1 a2;injection a2 with a2 a3;injection ej with b1 b2;injection b2 with b2 b3;have a3:=yH _ ts li.2.2 (aC _) ho oi a3;have b3:=yH _ us l.2.2 (aC _) ho' oj b3;have hsol:=(Sol.zip hll).1 hmgu.sol;have hval:rq (m:Int) nums (fun n=>uy (m:Int) nums (xM E) (σ n)) ts=rq (m:Int) nums (fun n=>uy (m:Int) nums (xM E) (σ n)) us:=by
      rw[← km,← km,hsol]
     rw[← hlv];unfold Zw Wz;have hc:li.2.1=l.2.1:=by omega
     rw[← a3,← b3,hval,hc,← a1,← b1,hnn]
theorem D6 {L:List wR} {T:List (List Tm)} {C:List wR} (hmay:qy a0 (L.map cl) (T.map za) (C.map cl)=true) (hL:∀ l∈L,WfL a0 l) (hT:∀ r∈T,WfR a0 r) (hC:∀ l∈C,WfL a0 l) (i:Int) :
  ∃ r,wQ a0 (L.map cl) (T.map za) (C.map cl) i=some r∧(r.2.2.1=0->qy a0 r.1 r.2.1 r.2.2.2=true∧(Holds m nums L T C->zy (m:Int) nums a0 r.1 r.2.1 r.2.2.2=some true)):=by
 rw[YK,hmay,aN];cases hpi:zW (L.map cl) i with
 | false=>exact ⟨_,rfl,fun h=>by cases h⟩
 | true =>
  rw[cond_true];by_cases h3:(C.map cl).length=3
  ·rw[decide_eq_true h3]; exact ⟨_,rfl,fun h=>by cases h⟩
  ·rw[decide_eq_false h3,cond_false];refine ⟨_,rfl,fun _ => ?_⟩;obtain⟨x,hi⟩:=wq hpi;obtain⟨hi0,l,hl,rfl⟩:=I5 hi;have hgl:(L.map cl)[i.toNat]? = some (cl l):=by rw[bh,hl]; rfl
   have hlm:=aJ hl;obtain⟨-,-,-,n3,-⟩:=zz hmay;have hm2:=Vl hmay hi0 hgl (by omega)
   have ea:XB (L.map cl) (T.map za) (C.map cl) i=x5 ((zh i L 0).map cl) (T.map za) ((C++[(!l.1,l.2)]).map cl):=by
    unfold XB;rw[hgl,uM,cd];rfl
   have ec:C.map cl++[(!(cl l).1,(cl l).2)]=(C++[(!l.1,l.2)]).map cl:=by rw[cd]; rfl
   rw[ec,uM] at hm2;have i1:∀ X:List wR,X.map (xp fun n=>Tm.v n)=X:=fun X=>by
    have:∀ x:wR,xp (fun n=>Tm.v n) x=x:=fun x=>by
     unfold xp;rw[Vm]
    rw[bx fun x _=>this x,fE]
   have i2:T.map (qO fun n=>Tm.v n)=T:=by
    rw[bx fun x _=>Vm x,fE]
   have e1:∀ X:List wR,qK (fun n=>Tm.v n) (X.map cl)=X.map cl:=fun X=>by rw[Yl,i1]
   have e2:(T.map za).map (vn fun n=>Tm.v n)=T.map za:=by rw[jb,i2]
   obtain⟨k1,k2⟩:=kz (m:=m) hm hm3 hn hs (σ:=fun n=>Tm.v n) (fun x hx=>hx) (L:=zh i L 0) (T:=T) (C:=C++[(!l.1,l.2)]) (fun l hl=>(hL l (qC L 0 hl)).1) (fun r hr=>(hT r hr).1) (fun k hk=>by
    rcases aI.1 hk with hk | hk
    ·exact (hC k hk).1
    ·rw[bb.1 hk]; exact (hL l hlm).1) (by rw[e1,e2,e1]; exact hm2)
   rw[e1,e2,e1,← ea] at k1 k2;refine ⟨k1,fun H=>k2 fun E hE => ?_⟩;show rK (m:Int) nums (xM E) _ _ _=true;cases hv:Zw (m:Int) nums (xM E) l with
   | true =>
    refine zF.2 (.inl ⟨_,bp _ (bb.2 rfl),?_⟩);rw[Sk,hv]; rfl
   | false =>
    rcases zF.1 (H E hE) with ⟨k,hk,hkv⟩ | ⟨k,hk,hkv⟩ | h
    ·exact zF.2 (.inl ⟨k,bk _ hk,hkv⟩)
    ·obtain⟨q,hq,he⟩:=cg.1 hk;have hg:L[q]? = some k:=by rw[al hq,he]
     refine zF.2 (.inr (.inl ⟨k,(tu L 0).2 ⟨q,hg,fun hqi => ?_⟩,hkv⟩));have:q=i.toNat:=by omega
     rw[this,hl] at hg;injection hg with hg;rw[hg,hkv] at hv;cases hv
    ·exact zF.2 (.inr (.inr h))
end
abbrev upS (b:Nat):Sb:=fun n=>.v (n+b)
theorem G4 (b:Nat) (ls:List wR):rN (b:Int) (ls.map cl)=(ls.map (xp (upS b))).map cl:=by
 unfold rN;rw[cm,cm];refine bx fun l _ => ?_;show (l.1,((l.2.1:Int)::za l.2.2).map (upC (b:Int)))=(l.1,(l.2.1:Int)::za (qO (upS b) l.2.2));rw[IA,Rx]
theorem GC (b:Nat) (rs:List (List Tm)):(rs.map za).map (cV (upC (b:Int)))=(rs.map (qO (upS b))).map za:=by
 rw[cm,cm];refine bx fun r _ => ?_;show (za r).map (upC (b:Int))=za (qO (upS b) r);rw[V8,Rx]
section
variable {m:Nat} (hm:0<m) (hm3:m<=3) {nums:List Int} (hn:tN nums) {a0:List zg} (hs:SignOk a0)
include hm hm3 hn hs
theorem G9 {L:List wR} {T:List (List Tm)} {C:List wR} (hmay:qy a0 (L.map cl) (T.map za) (C.map cl)=true) (hL:∀ l∈L,WfL a0 l) (hT:∀ r∈T,WfR a0 r) (hC:∀ l∈C,WfL a0 l)
  {L':List wR} {T':List (List Tm)} {C':List wR} (hmay':qy a0 (L'.map cl) (T'.map za) (C'.map cl)=true) (hL':∀ l∈L',WfL a0 l) (hT':∀ r∈T',WfR a0 r) (hC':∀ l∈C',WfL a0 l) (i j:Int) :
  ∃ r,sH a0 (L.map cl) (T.map za) (C.map cl) i (L'.map cl) (T'.map za) (C'.map cl) j=some r∧(r.2.2.2.1=0->r.2.2.1=true->qy a0 r.1 r.2.1 r.2.2.2.2=true∧(Holds m nums L T C->Holds m nums L' T' C'->zy (m:Int) nums a0 r.1 r.2.1 r.2.2.2.2=some true)):=by
 have fails:∀{k:Int} {o:Option Xc} {P:Xc->Prop},o=wb k->∃ r,o=some r∧(r.2.2.2.1=0->r.2.2.1=true->P r):=fun h=>⟨_,h,fun _ h=>(nomatch h)⟩;rw[Xm,hmay,hmay',aN,aN];cases hpi:zW (L.map cl) i with
 | false=>exact fails (k:=1300) rfl
 | true =>
  rw[aN];cases hpj:zW (L'.map cl) j with
  | false=>exact fails (k:=1300) rfl
  | true =>
   rw[cond_true];obtain⟨⟨n,A⟩,hi⟩:=wq hpi;obtain⟨⟨n',A'⟩,hj⟩:=wq hpj;rcases YN hs hmay hmay' hi hj with ⟨-,r1⟩ | ⟨hnn,b,c,ts,us,hb,-,rfl,rfl,ho,ho',hll,⟨r1,-⟩ | ⟨hnear,⟨r1,-⟩ | ⟨σ,hmgu,hok,⟨-,r1⟩ | ⟨-,r1⟩⟩⟩⟩
   ·exact fails r1
   ·exact fails r1
   ·exact fails r1
   ·exact fails r1
   have eL:Sf i j b (L.map cl) (L'.map cl)=(zh i L 0++zh j (L'.map (xp (upS b))) 0).map cl:=by
    unfold Sf;rw[G4,uM,uM,cd]
   have eT:Vb b (T.map za) (T'.map za)=(T++T'.map (qO (upS b))).map za:=by
    unfold Vb;rw[GC,cd]
   have eC:Vj b (C.map cl) (C'.map cl)=(C++C'.map (xp (upS b))).map cl:=by
    unfold Vj;rw[G4,cd]
   rw[r1,eL,eT,eC];obtain⟨r,g1,g2⟩:=jL (a0:=a0) (σ:=σ) (L:=(zh i L 0++zh j (L'.map (xp (upS b))) 0).map cl) (T:=(T++T'.map (qO (upS b))).map za) (C:=(C++C'.map (xp (upS b))).map cl) (k:=1302) (by omega)
   refine ⟨r,g1,fun h0 _ => ?_⟩;obtain⟨g3,g4⟩:=g2 h0;have near:∀ x,Kr L' T' C' x->x+b<24:=fun x hx=>by
    have:=hnear (x:Int) (ZD.2 hx);omega
   have okU:∀{ts:List Tm},okR a0 24 ts->(∀ x,jr x ts->x+b<24)->okR a0 24 (qO (upS b) ts):=fun {ts} h h2=>XS ts h h2;have oL:∀ l∈zh i L 0++zh j (L'.map (xp (upS b))) 0,okR a0 24 l.2.2:=fun l hl=>by
    rcases aI.1 hl with hl | hl
    ·exact (hL l (qC L 0 hl)).1
    ·obtain⟨k,hk,rfl⟩:=aR.1 (qC _ 0 hl);exact okU (hL' k hk).1 fun x hx=>near x (.inl ⟨k,hk,hx⟩)
   have oT:∀ r∈T++T'.map (qO (upS b)),okR a0 24 r:=fun l hl=>by
    rcases aI.1 hl with hl | hl
    ·exact (hT l hl).1
    ·obtain⟨k,hk,rfl⟩:=aR.1 hl;exact okU (hT' k hk).1 fun x hx=>near x (.inr (.inl ⟨k,hk,hx⟩))
   have oC:∀ l∈C++C'.map (xp (upS b)),okR a0 24 l.2.2:=fun l hl=>by
    rcases aI.1 hl with hl | hl
    ·exact (hC l hl).1
    ·obtain⟨k,hk,rfl⟩:=aR.1 hl;exact okU (hC' k hk).1 fun x hx=>near x (.inr (.inr ⟨k,hk,hx⟩))
   obtain⟨k1,k2⟩:=kz hm hm3 hn hs hok oL oT oC g3;rw[← g4] at k1 k2;refine ⟨k1,fun H H'=>k2 fun E hE => ?_⟩;have hv:∀ x,Kr L T C x->x<24:=fun x hx=>by
    rcases hx with ⟨l,hl,hx⟩ | ⟨l,hl,hx⟩ | ⟨l,hl,hx⟩
    ·exact wZ _ (hL l hl).1 hx
    ·exact wZ _ (hT l hl).1 hx
    ·exact wZ _ (hC l hl).1 hx
   have H1:=H.inst hm hn hs hok hv hE;have H2:rK (m:Int) nums (fun n=>uy (m:Int) nums (xM E) (σ n)) (L'.map (xp (upS b))) (T'.map (qO (upS b))) (C'.map (xp (upS b)))=true:=by
    rw[Wv];obtain⟨E',hE',he'⟩:=Kf hm hn hs (env:=xM E) (fun x hx=>hE.val hx) (σ:=fun x=>σ (if x+b<24 then x+b else 0)) (fun x _=>hok _ (by split<;>omega))
    rw[← H' E' hE'];refine YY fun x hx => ?_;have:=near x hx;rw[he' x (by omega),if_pos this]
    rfl
   have zcL:∀ li∈L,∀ lj∈L',(n,(c:Int)::za ts)=cl li->(n',(c:Int)::za us)=cl lj->Zw (m:Int) nums (fun n=>uy (m:Int) nums (xM E) (σ n)) li=true->Zw (m:Int) nums (fun n=>uy (m:Int) nums (xM E) (σ n)) (xp (upS b) lj)=true->False:=by
    intro li hli lj hlj ei ej h1 h2;injection ei with a1 a2;injection a2 with a2 a3;injection ej with b1 b2;injection b2 with b2 b3;have a3:=yH _ ts li.2.2 (aC _) ho (hL li hli).1 a3;have b3:=yH _ us lj.2.2 (aC _) ho' (hL' lj hlj).1 b3;have hsol:=(Sol.zip (by rw[aF]; exact hll)).1 hmgu.sol
    rw[Rx] at hsol;have hval:rq (m:Int) nums (fun n=>uy (m:Int) nums (xM E) (σ n)) ts=rq (m:Int) nums (fun n=>uy (m:Int) nums (xM E) (σ n)) (qO (upS b) us):=by
     rw[← km,← km,hsol]
    unfold Zw Wz at h1 h2;unfold xp at h2;have hc:lj.2.1=li.2.1:=by omega
    simp only at h1 h2;rw[← a3,← a1,hval] at h1;rw[← b3,← b1,hc] at h2
    revert h1 h2 hnn
    generalize (cond (li.2.1==0) _ _:Bool)=z;cases z<;>cases n<;>cases n'<;>simp
   rcases zF.1 H1 with ⟨k,hk,hkv⟩ | ⟨li,hk,hkv⟩ | ⟨k,hk,hkv⟩
   ·exact zF.2 (.inl ⟨k,bk _ hk,hkv⟩)
   ·obtain⟨q,hq,he⟩:=cg.1 hk;have hg:L[q]? = some li:=by rw[al hq,he]
    by_cases hqi:(q:Int)=i
    ·rcases zF.1 H2 with ⟨k',hk',hkv'⟩ | ⟨lj',hk',hkv'⟩ | ⟨k',hk',hkv'⟩
     ·exact zF.2 (.inl ⟨k',bp _ hk',hkv'⟩)
     ·obtain⟨q',hq',he'⟩:=cg.1 hk';have hg':(L'.map (xp (upS b)))[q']? = some lj':=by rw[al hq',he']
      by_cases hqj:(q':Int)=j
      ·exfalso;obtain⟨hi0,l1,h1,e1⟩:=I5 hi;obtain⟨hj0,l2,h2,e2⟩:=I5 hj;have x1:q=i.toNat:=by omega
       have x2:q'=j.toNat:=by omega
       rw[x1,h1] at hg;injection hg with hg;rw[x2,bh,h2] at hg';injection hg' with hg';have hg':xp (upS b) l2=lj':=hg';refine zcL l1 (aJ h1) l2 (aJ h2) e1 e2 (by rw[hg]; exact hkv) (by rw[hg']; exact hkv')
      ·exact zF.2 (.inr (.inl ⟨lj',bp _ ((tu _ 0).2 ⟨q',hg',by simpa using hqj⟩),hkv'⟩))
     ·exact zF.2 (.inr (.inr ⟨k',bp _ hk',hkv'⟩))
    ·exact zF.2 (.inr (.inl ⟨li,bk _ ((tu _ 0).2 ⟨q,hg,by simpa using hqi⟩),hkv⟩))
   ·exact zF.2 (.inr (.inr ⟨k,bk _ hk,hkv⟩))
end
theorem IH {α:Type} (xs:List α) {i:Nat} (h:i<=xs.length):uh xs none (some (i:Int))=some (xs.take i):=by
 show slc xs 0 (i:Int)=some _;unfold slc;rw[decide_eq_true (show (0:Int)<=0 by omega),decide_eq_true (show (0:Int)<=(i:Int) by omega),decide_eq_true (show (i:Int)<=((xs.length:Nat):Int) by omega)]
 simp
section
variable {m:Nat} (hm:0<m) (hm3:m<=3) {nums:List Int} (hn:tN nums) {a0:List zg} (hs:SignOk a0)
include hm hm3 hn hs
end
end Go.Abs.Q
