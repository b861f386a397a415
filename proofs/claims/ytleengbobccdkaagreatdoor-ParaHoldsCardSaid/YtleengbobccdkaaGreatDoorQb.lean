import Derived.Test.YtleengbobccdkaaGreatDoorQa
/-
  What the functions make of plain values, and what the law says of that.
-/
namespace Go.Abs.Q
open Go Go.Abs
section
inductive Tm where
 | v (n:Nat)
 | f (c:Nat) (as:List Tm)
mutual
def Tm.codes:Tm→List Int
 | .v n=>[-1 - (n:Int)]
 | .f c as=>(c:Int)::za as
def za:List Tm→List Int
 | []=>[]
 | t::ts=>t.codes++za ts
end
mutual
def Tm.size:Tm→Nat
 | .v _=>1
 | .f _ as=>zaC as+1
def zaC:List Tm→Nat
 | []=>0
 | t::ts=>t.size+zaC ts
end
abbrev Sb:=Nat→Tm
mutual
def Tm.sub (s:Sb):Tm→Tm
 | .v n=>s n
 | .f c as=>.f c (zaU s as)
def zaU (s:Sb):List Tm→List Tm
 | []=>[]
 | t::ts=>t.sub s::zaU s ts
end
mutual
def Tm.has (x:Nat):Tm→Prop
 | .v n=>n=x
 | .f _ as=>zjz x as
def zjz (x:Nat):List Tm→Prop
 | []=>False
 | t::ts=>t.has x∨zjz x ts
end
mutual
def Tm.ok (a0:List zi) (N:Nat):Tm→Prop
 | .v n=>n<N
 | .f c as=>zc2 a0 (c:Int)=some as.length∧okR a0 N as
def okR (a0:List zi) (N:Nat):List Tm→Prop
 | []=>True
 | t::ts=>t.ok a0 N∧okR a0 N ts
end
theorem zho (s:Sb):(ts:List Tm)→(zaU s ts).length=ts.length
 | []=>rfl
 | t::ts=>by simp [zaU,zho s ts]
theorem zcp {a0:List zi} {N:Nat}:{ts:List Tm}→(okR a0 N ts↔∀ t∈ts,t.ok a0 N)
 | []=>by simp [okR]
 | t::ts=>by simp [okR,zcp (ts:=ts)]
theorem zh2 (s:Sb):(ts:List Tm)→zaU s ts=ts.map (Tm.sub s)
 | []=>rfl
 | t::ts=>by simp [zaU,zh2 s ts]
theorem zko:(ts:List Tm)→za ts=ts.flatMap Tm.codes
 | []=>rfl
 | t::ts=>by simp [za,zko ts]
theorem zpt:(ts:List Tm)→zaC ts=(ts.map Tm.size).sum
 | []=>rfl
 | t::ts=>by simp [zaC,zpt ts]
theorem zdU (ts us:List Tm):za (ts++us)=za ts++za us:=by simp [zko]
theorem zm9 (ts us:List Tm):zaC (ts++us)=zaC ts+zaC us:=by simp [zpt]
mutual
theorem Tm.codes_len:(t:Tm)→t.codes.length=t.size
 | .v _=>rfl
 | .f c as=>by simp [Tm.codes,Tm.size,zdk as]
theorem zdk:(ts:List Tm)→(za ts).length=zaC ts
 | []=>rfl
 | t::ts=>by simp [za,zaC,Tm.codes_len t,zdk ts]
end
theorem Tm.size_pos (t:Tm):0<t.size:=by cases t<;>simp [Tm.size]
mutual
theorem Tm.sub_ext {s u:Sb}:(t:Tm)→(∀ x,t.has x→s x=u x)→t.sub s=t.sub u
 | .v n,h=>h n rfl
 | .f c as,h=>by rw[Tm.sub,Tm.sub,zsS as h]
theorem zsS {s u:Sb}:(ts:List Tm)→(∀ x,zjz x ts→s x=u x)→zaU s ts=zaU u ts
 | [],_=>rfl
 | t::ts,h=>by rw[zaU,zaU,Tm.sub_ext t fun x hx=>h x (.inl hx),zsS ts fun x hx=>h x (.inr hx)]
end
mutual
theorem Tm.sub_sub (s u:Sb):(t:Tm)→(t.sub s).sub u=t.sub fun x=>(s x).sub u
 | .v n=>rfl
 | .f c as=>by rw[Tm.sub,Tm.sub,Tm.sub,zq1 s u as]
theorem zq1 (s u:Sb):(ts:List Tm)→zaU u (zaU s ts)=zaU (fun x=>(s x).sub u) ts
 | []=>rfl
 | t::ts=>by rw[zaU,zaU,zaU,Tm.sub_sub s u t,zq1 s u ts]
end
mutual
theorem Tm.sub_v:(t:Tm)→t.sub .v=t
 | .v n=>rfl
 | .f c as=>by rw[Tm.sub,zCm as]
theorem zCm:(ts:List Tm)→zaU .v ts=ts
 | []=>rfl
 | t::ts=>by rw[zaU,Tm.sub_v t,zCm ts]
end
mutual
theorem Tm.has_sub {s:Sb} {y:Nat}:(t:Tm)→((t.sub s).has y↔∃ x,t.has x∧(s x).has y)
 | .v n=>⟨fun h=>⟨n,rfl,h⟩,fun ⟨x,hx,h⟩=>by cases hx; exact h⟩
 | .f c as=>by show zjz y (zaU s as)↔_; rw[zfT as]; rfl
theorem zfT {s:Sb} {y:Nat}:(ts:List Tm)→(zjz y (zaU s ts)↔∃ x,zjz x ts∧(s x).has y)
 | []=>⟨fun h=>h.elim,fun ⟨_,h,_⟩=>h.elim⟩
 | t::ts=>by
  show (t.sub s).has y∨zjz y (zaU s ts)↔∃ x,(t.has x∨zjz x ts)∧_
  rw[Tm.has_sub t,zfT ts]
  constructor
  ·rintro (⟨x,h1,h2⟩ | ⟨x,h1,h2⟩)
   ·exact ⟨x,.inl h1,h2⟩
   ·exact ⟨x,.inr h1,h2⟩
  ·rintro⟨x,h1 | h1,h2⟩
   ·exact .inl ⟨x,h1,h2⟩
   ·exact .inr ⟨x,h1,h2⟩
end
mutual
theorem Tm.size_has {s:Sb} {x:Nat}:(t:Tm)→t.has x→(s x).size≤(t.sub s).size
 | .v n,h=>by cases h; exact Nat.le_refl _
 | .f c as,h=>by have:=zgw (s:=s) as h; show _≤zaC (zaU s as)+1; omega
theorem zgw {s:Sb} {x:Nat}:(ts:List Tm)→zjz x ts→(s x).size≤zaC (zaU s ts)
 | [],h=>h.elim
 | t::ts,h=>by
  show _≤(t.sub s).size+zaC (zaU s ts)
  rcases h with h | h
  ·have:=Tm.size_has (s:=s) t h; omega
  ·have:=zgw (s:=s) ts h; omega
end
mutual
theorem Tm.size_sub {s:Sb} {M:Nat}:(t:Tm)→(1≤M)→(∀ x,t.has x→(s x).size≤M)→(t.sub s).size≤t.size*M
 | .v n,_,h=>by have:=h n rfl; simpa[Tm.sub,Tm.size] using this
 | .f c as,hM,h=>by
  have:=zpQ (s:=s) as hM h
  show zaC (zaU s as)+1≤(zaC as+1)*M
  rw[Nat.add_mul]; omega
theorem zpQ {s:Sb} {M:Nat}:(ts:List Tm)→(1≤M)→(∀ x,zjz x ts→(s x).size≤M)→zaC (zaU s ts)≤zaC ts*M
 | [],_,_=>by simp [zaU,zaC]
 | t::ts,hM,h=>by
  have h1:=Tm.size_sub (s:=s) t hM fun x hx=>h x (.inl hx)
  have h2:=zpQ (s:=s) ts hM fun x hx=>h x (.inr hx)
  show (t.sub s).size+zaC (zaU s ts)≤(t.size+zaC ts)*M
  rw[Nat.add_mul]; omega
end
mutual
theorem Tm.ok_sub {a0:List zi} {N M:Nat} {s:Sb}:(t:Tm)→t.ok a0 N→(∀ x,t.has x→(s x).ok a0 M)→(t.sub s).ok a0 M
 | .v n,_,h=>h n rfl
 | .f c as,ho,h=>⟨by rw[zho]; exact ho.1,zkI as ho.2 h⟩
theorem zkI {a0:List zi} {N M:Nat} {s:Sb}:(ts:List Tm)→okR a0 N ts→(∀ x,zjz x ts→(s x).ok a0 M)→okR a0 M (zaU s ts)
 | [],_,_=>trivial
 | t::ts,ho,h=>⟨Tm.ok_sub t ho.1 fun x hx=>h x (.inl hx),zkI ts ho.2 fun x hx=>h x (.inr hx)⟩
end
mutual
theorem Tm.ok_has {a0:List zi} {N x:Nat}:(t:Tm)→t.ok a0 N→t.has x→x<N
 | .v n,ho,h=>by cases h; exact ho
 | .f c as,ho,h=>zeK as ho.2 h
theorem zeK {a0:List zi} {N x:Nat}:(ts:List Tm)→okR a0 N ts→zjz x ts→x<N
 | [],_,h=>h.elim
 | t::ts,ho,h=>h.elim (Tm.ok_has t ho.1) (zeK ts ho.2)
end
mutual
theorem Tm.ok_mono {a0:List zi} {N M:Nat} (hNM:N≤M):(t:Tm)→t.ok a0 N→t.ok a0 M
 | .v n,ho=>Nat.lt_of_lt_of_le ho hNM
 | .f c as,ho=>⟨ho.1,ztd hNM as ho.2⟩
theorem ztd {a0:List zi} {N M:Nat} (hNM:N≤M):(ts:List Tm)→okR a0 N ts→okR a0 M ts
 | [],_=>trivial
 | t::ts,ho=>⟨Tm.ok_mono hNM t ho.1,ztd hNM ts ho.2⟩
end
mutual
theorem Tm.mem_codes {c:Int} (hc:c<0):(t:Tm)→(c∈t.codes↔t.has (-1 - c).toNat)
 | .v n=>by
  show c∈[-1 - (n:Int)]↔n=_
  rw[List.mem_singleton]
  omega
 | .f d as=>by
  show c∈(d:Int)::za as↔zjz _ as
  rw[List.mem_cons,← zfh hc as]
  have:c≠(d:Int):=by omega
  simp [this]
theorem zfh {c:Int} (hc:c<0):(ts:List Tm)→(c∈za ts↔zjz (-1 - c).toNat ts)
 | []=>by simp [za,zjz]
 | t::ts=>by
  show c∈t.codes++za ts↔_∨_
  rw[List.mem_append,Tm.mem_codes hc t,zfh hc ts]
end
theorem zud {a0:List zi} {x:Int} {q:Nat} (h:zc2 a0 x=some q):(x<0 ∧ -24≤x∧q=0)∨∃ c:Nat,x=(c:Int):=by
 unfold zc2 at h
 by_cases h0:x<0
 ·rw[decide_eq_true h0,cond_true] at h
  by_cases h1 : -24≤x
  ·rw[decide_eq_true h1] at h; injection h with h; exact .inl ⟨h0,h1,h.symm⟩
  ·rw[decide_eq_false h1] at h; cases h
 ·exact .inr ⟨x.toNat,by omega⟩
theorem zAd {a0:List zi}:∀(n:Nat) (ps:List jI),(∀ p∈ps,p.length≤n)→(∀ p∈ps,sk a0 1 p=some p.length)→∃ ts:List Tm,okR a0 24 ts∧ps=ts.map Tm.codes:=by
 intro n
 induction n with
 | zero =>
  intro ps h hs
  cases ps with
  | nil=>exact ⟨[],trivial,rfl⟩
  | cons p ps =>
   have h1:=h p (List.mem_cons_self ..)
   have h2:=zm5 (hs p (List.mem_cons_self ..))
   omega
 | succ n ih =>
  intro ps
  induction ps with
  | nil=>intro _ _; exact ⟨[],trivial,rfl⟩
  | cons p ps ihp =>
   intro h hs
   obtain⟨ts,h1,h2⟩:=ihp (fun q hq=>h q (List.mem_cons_of_mem _ hq)) (fun q hq=>hs q (List.mem_cons_of_mem _ hq))
   obtain⟨x,r,q,rfl,ha,hr⟩:=zsy (hs p (List.mem_cons_self ..))
   have hl:=h _ (List.mem_cons_self ..)
   rw[List.length_cons] at hl
   rcases zud ha with ⟨h3,h4,rfl⟩ | ⟨c,rfl⟩
   ·have hr0:r=[]:=by
     have:sk a0 0 r=some 0:=by cases r<;>rfl
     rw[this] at hr
     exact List.length_eq_zero_iff.1 (by injection hr with hr; omega)
    subst hr0
    refine ⟨.v (-1 - x).toNat::ts,⟨by show (-1 - x).toNat<24; omega,h1⟩,?_⟩
    rw[List.map_cons,← h2]
    show [x]::ps=[-1 - (((-1 - x).toNat:Nat):Int)]::ps
    rw[show -1 - (((-1 - x).toNat:Nat):Int)=x from by omega]
   ·obtain⟨qs,hq,hql⟩:=zDE q r hr
    obtain⟨hf,hqs⟩:=zif r.length r qs (Nat.le_refl _) hq
    have hlen:∀ p∈qs,p.length≤n:=fun p hp=>by
     have h5:p.length≤qs.flatten.length:=by
      obtain⟨l1,l2,rfl⟩:=List.append_of_mem hp
      simp; omega
     rw[hf] at h5
     omega
    obtain⟨us,h5,h6⟩:=ih qs hlen fun p hp=>(hqs p hp).2
    refine ⟨.f c us::ts,⟨⟨by rw[ha,← hql,h6,List.length_map],h5⟩,h1⟩,?_⟩
    rw[List.map_cons,← h2]
    show ((c:Int)::r)::ps=((c:Int)::za us)::ps
    rw[zko,List.flatMap,← h6,hf]
theorem zBA {a0:List zi} {xs:List Int} {ps:List jI} (h:zlI a0 xs=some ps):∃ ts:List Tm,okR a0 24 ts∧ps=ts.map Tm.codes∧xs=za ts:=by
 obtain⟨h1,h2⟩:=zif xs.length xs ps (Nat.le_refl _) h
 obtain⟨ts,h3,h4⟩:=zAd (a0:=a0) xs.length ps (fun p hp=>by
  have:p.length≤ps.flatten.length:=by
   obtain⟨l1,l2,rfl⟩:=List.append_of_mem hp
   simp; omega
  rwa [h1] at this) fun p hp=>(h2 p hp).2
 exact ⟨ts,h3,h4,by rw[zko,List.flatMap,← h4,h1]⟩
theorem zxr {a0:List zi} {n:Nat} (h:n<24):zc2 a0 (-1 - (n:Int))=some 0:=by
 unfold zc2
 rw[decide_eq_true (show -1 - (n:Int)<0 by omega),cond_true,decide_eq_true (show -24 ≤ -1 - (n:Int) by omega)]
 rfl
mutual
theorem Tm.sk_codes {a0:List zi}:(t:Tm)→t.ok a0 24→sk a0 1 t.codes=some t.codes.length
 | .v n,h=>by
  show sk a0 1 [-1 - (n:Int)]=some 1
  unfold sk
  rw[zxr h]
  rfl
 | .f c as,h=>by
  have:=zqT as h.2
  show sk a0 1 ((c:Int)::za as)=some (za as).length.succ
  unfold sk
  rw[h.1]
  simp only[Nat.zero_add,this,Option.map_some]
theorem zqT {a0:List zi}:(ts:List Tm)→okR a0 24 ts→sk a0 ts.length (za ts)=some (za ts).length
 | [],_=>rfl
 | t::ts,h=>by
  show sk a0 (ts.length+1) (t.codes++za ts)=_
  rw[Nat.add_comm]
  exact zCe (Tm.sk_codes t h.1) (zqT ts h.2)
end
theorem zrI {a0:List zi}:{xs:List Int}→{n k:Nat}→(ys:List Int)→sk a0 n xs=some k→sk a0 n (xs++ys)=some k
 | [],0,k,ys,h=>by simp [sk] at h; subst h; cases ys<;>rfl
 | [],n+1,k,ys,h=>by simp [sk] at h
 | x::xs,0,k,ys,h=>by simp [sk] at h; subst h; rfl
 | x::xs,n+1,k,ys,h=>by
  unfold sk at h
  cases ha:zc2 a0 x with
  | none=>rw[ha] at h; cases h
  | some m =>
   rw[ha] at h
   simp only[Option.map_eq_some_iff] at h
   obtain⟨j,hj,rfl⟩:=h
   rw[List.cons_append]
   unfold sk
   rw[ha]
   simp only[zrI ys hj,Option.map_some]
theorem z1 {a0:List zi}:(ts:List Tm)→okR a0 24 ts→zlI a0 (za ts)=some (ts.map Tm.codes)
 | [],_=>rfl
 | t::ts,h=>by
  have hp:=t.size_pos
  have hl:=t.codes_len
  have h1:=Tm.sk_codes t h.1
  show zlI a0 (t.codes++za ts)=_
  have hne:t.codes++za ts≠[]:=fun e=>by
   have:=congrArg List.length e
   rw[List.length_append,List.length_nil] at this
   omega
  rw[zeI hne,zrI _ h1]
  simp only[List.drop_left,List.take_left,z1 ts h.2,Option.map_some,List.map_cons]
def Tm.up (d:Nat) (t:Tm):Tm:=t.sub fun n=>.v (n+d)
theorem Tm.up_zero (t:Tm):t.up 0=t:=t.sub_v
theorem Tm.up_size (d:Nat) (t:Tm):(t.up d).size=t.size:=by
 have h1:(t.up d).size≤t.size*1:=Tm.size_sub t (Nat.le_refl _) fun x _=>Nat.le_refl _
 have h2:((t.up d).sub fun n=>.v (n - d)).size≤(t.up d).size*1:=Tm.size_sub _ (Nat.le_refl _) fun x _=>Nat.le_refl _
 have h3:(t.up d).sub (fun n=>.v (n - d))=t:=by
  unfold Tm.up
  rw[Tm.sub_sub,show (fun x=>(Tm.v (x+d)).sub fun n=>.v (n - d))=Tm.v from by
   funext x
   show Tm.v (x+d - d)=_
   rw[Nat.add_sub_cancel],Tm.sub_v]
 rw[h3] at h2
 omega
theorem Tm.up_ok {a0:List zi} {N d:Nat} {t:Tm} (h:t.ok a0 N):(t.up d).ok a0 (N+d):=Tm.ok_sub t h fun x hx=>by
 have:=Tm.ok_has t h hx
 show x+d<N+d
 omega
theorem Tm.up_has {d y:Nat} {t:Tm}:(t.up d).has y↔∃ x,t.has x∧x+d=y:=Tm.has_sub t
end
end Go.Abs.Q
namespace Go.Abs.Q
open Go Go.Abs
section
abbrev Bd:=Nat→Option Tm
def SolB (θ:Sb) (B:Bd):Prop:=∀ x t,B x=some t→θ x=t.sub θ
def Sol (θ:Sb) (E:List (Tm×Tm)):Prop:=∀ p∈E,p.1.sub θ=p.2.sub θ
theorem Sol.nil {θ:Sb}:Sol θ []:=fun _ h=>nomatch h
theorem Sol.cons {θ:Sb} {p:Tm×Tm} {E:List (Tm×Tm)}:Sol θ (p::E)↔p.1.sub θ=p.2.sub θ∧Sol θ E:=by simp [Sol]
theorem Sol.append {θ:Sb} {E F:List (Tm×Tm)}:Sol θ (E++F)↔Sol θ E∧Sol θ F:=by
 simp only[Sol,List.mem_append]
 exact ⟨fun h=>⟨fun p hp=>h p (.inl hp),fun p hp=>h p (.inr hp)⟩,fun h p hp=>hp.elim (h.1 p) (h.2 p)⟩
theorem Sol.zip {θ:Sb}:{ts us:List Tm}→ts.length=us.length→(Sol θ (ts.zip us)↔zaU θ ts=zaU θ us)
 | [],[],_=>by simp [Sol,zaU]
 | [],_::_,h=>by simp at h
 | _::_,[],h=>by simp at h
 | t::ts,u::us,h=>by
  rw[List.zip_cons_cons,Sol.cons,Sol.zip (by simpa using h)]
  simp [zaU]
structure Good (B:Bd) (σ:Sb):Prop where
 free:∀ x,B x=none→σ x = .v x
 bound:∀ x t,B x=some t→σ x=t.sub σ
 down:∀ x y,B x=some (.v y)→y<x
theorem Good.empty:Good (fun _=>none) .v:=⟨fun _ _=>rfl,fun _ _ h=>(nomatch h),fun _ _ h=>(nomatch h)⟩
theorem Good.ind {B:Bd} {σ:Sb} (h:Good B σ) {P:Nat→Prop} (hf:∀ x,B x=none→P x) (hb:∀ x t,B x=some t→(∀ y,t.has y→P y)→P x):∀ x,P x:=by
 have key:∀ n x,(σ x).size=n→P x:=by
  intro n
  induction n using Nat.strongRecOn with
  | _ n ihn =>
   intro x
   induction x using Nat.strongRecOn with
   | _ x ihx =>
    intro hn
    cases hx:B x with
    | none=>exact hf x hx
    | some t =>
     refine hb x t hx fun y hy => ?_
     have hs:=h.bound x t hx
     cases t with
     | v z =>
      have hz:z=y:=hy
      subst hz
      exact ihx z (h.down x z hx) (by rw[← hn,hs]; rfl)
     | f c as =>
      have:=zgw (s:=σ) as hy
      refine ihn (σ y).size ?_ y rfl
      rw[← hn,hs]
      show _<zaC (zaU σ as)+1
      omega
 exact fun x=>key _ x rfl
theorem Good.fac {B:Bd} {σ θ:Sb} (h:Good B σ) (hθ:SolB θ B):∀ x,(σ x).sub θ=θ x:=by
 refine h.ind (fun x hx=>by rw[h.free x hx]; rfl) fun x t hx ih => ?_
 rw[h.bound x t hx,Tm.sub_sub,hθ x t hx]
 exact Tm.sub_ext t fun y hy=>ih y hy
theorem Good.facT {B:Bd} {σ θ:Sb} (h:Good B σ) (hθ:SolB θ B) (t:Tm):(t.sub σ).sub θ=t.sub θ:=by
 rw[Tm.sub_sub]
 exact Tm.sub_ext t fun y _=>h.fac hθ y
theorem Good.root {B:Bd} {σ:Sb} (h:Good B σ):∀ x y,(σ x).has y→B y=none:=by
 refine h.ind (fun x hx y hy => ?_) fun x t hx ih y hy => ?_
 ·rw[h.free x hx] at hy
  have hy:x=y:=hy
  exact hy▸hx
 ·rw[h.bound x t hx] at hy
  obtain⟨z,h1,h2⟩:=(Tm.has_sub t).1 hy
  exact ih z h1 y h2
theorem Good.idem {B:Bd} {σ:Sb} (h:Good B σ) (t:Tm):(t.sub σ).sub σ=t.sub σ:=h.facT h.bound t
theorem Good.le {B:Bd} {σ:Sb} (h:Good B σ):∀ x y,σ x = .v y→y≤x:=by
 refine h.ind (fun x hx y hy => ?_) fun x t hx ih y hy => ?_
 ·rw[h.free x hx] at hy; injection hy with hy; omega
 ·rw[h.bound x t hx] at hy
  cases t with
  | v z =>
   have h1:=h.down x z hx
   have h2:=ih z rfl y hy
   omega
  | f c as=>cases hy
theorem Good.moved {B:Bd} {σ:Sb} (h:Good B σ) {x:Nat}:B x≠none↔σ x ≠ .v x:=by
 constructor
 ·intro hb he
  cases hx:B x with
  | none=>exact hb hx
  | some t =>
   have h1:=h.bound x t hx
   rw[he] at h1
   cases t with
   | v z =>
    have h2:=h.down x z hx
    have h3:=h.le z x h1.symm
    omega
   | f c as=>cases h1
 ·intro hs hb
  exact hs (h.free x hb)
theorem Good.unique {B B':Bd} {σ σ':Sb} (h:Good B σ) (h':Good B' σ') (hs:∀ θ,SolB θ B↔SolB θ B'):σ=σ':=by
 have f1:∀ x,(σ x).sub σ'=σ' x:=h.fac ((hs σ').2 h'.bound)
 have f2:∀ x,(σ' x).sub σ=σ x:=h'.fac ((hs σ).1 h.bound)
 have root:∀ y,B y=none→σ' y = .v y:=by
  intro y hy
  have h1:(σ' y).sub σ = .v y:=by rw[f2,h.free y hy]
  cases hz:σ' y with
  | f c as=>rw[hz] at h1; cases h1
  | v z =>
   rw[hz] at h1
   have h2:=h'.le y z hz
   have h3:=h.le z y h1
   have:z=y:=by omega
   rw[this]
 funext x
 rw[← f1 x]
 conv=>lhs; rw[← Tm.sub_v (σ x)]
 exact Tm.sub_ext _ fun y hy=>(root y (h.root x y hy)).symm
def one (x:Nat) (u:Tm):Sb:=fun y=>if y=x then u else .v y
def zA0 (B:Bd) (x:Nat) (t:Tm):Bd:=fun y=>if y=x then some t else B y
theorem zeo (B:Bd) (x:Nat) (t:Tm):zA0 B x t x=some t:=by simp [zA0]
theorem zhm (B:Bd) {x y:Nat} (t:Tm) (h:y≠x):zA0 B x t y=B y:=by simp [zA0,h]
theorem SolB.upd {B:Bd} {x:Nat} {t:Tm} {θ:Sb} (hx:B x=none):SolB θ (zA0 B x t)↔SolB θ B∧θ x=t.sub θ:=by
 constructor
 ·intro h
  refine ⟨fun y u hy=>h y u ?_,h x t (zeo ..)⟩
  rw[zhm _ _ fun e=>by rw[e,hx] at hy; cases hy]
  exact hy
 ·rintro⟨h1,h2⟩ y u hy
  by_cases he:y=x
  ·subst he
   rw[zeo] at hy
   injection hy with hy
   subst hy
   exact h2
  ·rw[zhm _ _ he] at hy
   exact h1 y u hy
theorem zEe {x:Nat} {u t:Tm} (h:¬ t.has x):t.sub (one x u)=t:=by
 conv=>rhs; rw[← Tm.sub_v t]
 refine Tm.sub_ext t fun y hy => ?_
 have hne:y≠x:=fun e=>h (e▸hy)
 unfold one
 rw[if_neg hne]
theorem Good.bind {B:Bd} {σ:Sb} (h:Good B σ) {x:Nat} {t:Tm} (hx:B x=none) (hn:¬(t.sub σ).has x) (hd:∀ y,t = .v y→y<x):Good (zA0 B x t) fun y=>(σ y).sub (one x (t.sub σ)) where
 free:=fun y hy=>by
  have hne:y≠x:=fun e=>by rw[e,zeo] at hy; cases hy
  rw[zhm _ _ hne] at hy
  rw[h.free y hy]
  show one x _ y=_
  simp [one,hne]
 bound:=fun y u hy=>by
  by_cases he:y=x
  ·subst he
   rw[zeo] at hy
   injection hy with hy
   subst hy
   rw[h.free y hx,← Tm.sub_sub,zEe hn]
   show one y _ y=_
   simp [one]
  ·rw[zhm _ _ he] at hy
   rw[h.bound y u hy,Tm.sub_sub]
 down:=fun y z hy=>by
  by_cases he:y=x
  ·subst he
   rw[zeo] at hy
   injection hy with hy
   exact hd z hy
  ·rw[zhm _ _ he] at hy
   exact h.down y z hy
theorem Good.occurs {B:Bd} {σ θ:Sb} (h:Good B σ) {x c:Nat} {as:List Tm} (hh:((Tm.f c as).sub σ).has x) (hθ:SolB θ B) (he:θ x=(Tm.f c as).sub θ):False:=by
 have h1:=h.facT hθ (.f c as)
 rw[← he] at h1
 have h2:=zgw (s:=θ) (zaU σ as) hh
 have h3:(((Tm.f c as).sub σ).sub θ).size=(θ x).size:=by rw[h1]
 have h4:zaC (zaU θ (zaU σ as))+1=(θ x).size:=h3
 omega
def zlM (B:Bd):Prop:=∀ x t,B x=some t→x<48∧t.size≤48
def Good.less (σ:Sb) (y x:Nat):Bool:=decide ((σ y).size<(σ x).size)||(decide ((σ y).size=(σ x).size)&&decide (y<x))
def Good.rank (σ:Sb) (x:Nat):Nat:=(List.range 48).countP fun y=>Good.less σ y x
theorem zmi {α:Type} {p q:α→Bool} {a:α}:{l:List α}→a∈l→(∀ x∈l,p x=true→q x=true)→p a=false→q a=true→l.countP p<l.countP q
 | [],h,_,_,_=>nomatch h
 | b::l,hm,hi,hp,hq=>by
  have h2:l.countP p≤l.countP q:=List.countP_mono_left fun x hx h=>hi x (List.mem_cons_of_mem _ hx) h
  rcases List.mem_cons.1 hm with rfl | hm
  ·rw[List.countP_cons_of_neg (by simp [hp]),List.countP_cons_of_pos hq]
   omega
  ·have h1:=zmi hm (fun x hx=>hi x (List.mem_cons_of_mem _ hx)) hp hq
   cases hb:p b with
   | true=>rw[List.countP_cons_of_pos hb,List.countP_cons_of_pos (hi b (List.mem_cons_self ..) hb)]; omega
   | false =>
    rw[List.countP_cons_of_neg (by simp [hb])]
    cases hc:q b with
    | true=>rw[List.countP_cons_of_pos hc]; omega
    | false=>rw[List.countP_cons_of_neg (by simp [hc])]; exact h1
theorem Good.small {B:Bd} {σ:Sb} (h:Good B σ) (hb:zlM B):∀ x,(σ x).size≤48 ^ 49:=by
 have key:∀ x,B x≠none→(σ x).size≤48 ^ (Good.rank σ x+1):=by
  refine h.ind (fun x hx hn=>absurd hx hn) fun x t hx ih _ => ?_
  obtain⟨hx48,ht⟩:=hb x t hx
  rw[h.bound x t hx]
  have h1:1≤48 ^ Good.rank σ x:=Nat.pow_pos (by omega)
  refine Nat.le_trans (Tm.size_sub t h1 fun y hy => ?_) ?_
  ·cases hy0:B y with
   | none=>rw[h.free y hy0]; exact h1
   | some u =>
    refine Nat.le_trans (ih y hy (by rw[hy0]; simp)) (Nat.pow_le_pow_right (by omega) ?_)
    have hlt:Good.less σ y x=true:=by
     unfold Good.less
     have hs:=h.bound x t hx
     cases t with
     | v z =>
      have hz:z=y:=hy
      subst hz
      have h2:=h.down x z hx
      have h3:(σ z).size=(σ x).size:=by rw[hs]; rfl
      simp [h3,h2]
     | f c as =>
      have h2:=zgw (s:=σ) as hy
      have h3:(σ x).size=zaC (zaU σ as)+1:=by rw[hs]; rfl
      rw[decide_eq_true (show (σ y).size<(σ x).size by omega)]
      rfl
    refine zmi (a:=y) (List.mem_range.2 (hb y u hy0).1) (fun z _ hz => ?_) (by simp [Good.less]) hlt
    simp only[Good.less,Bool.or_eq_true,Bool.and_eq_true,decide_eq_true_eq] at hz hlt ⊢
    omega
  ·rw[Nat.pow_succ,Nat.mul_comm]
   exact Nat.mul_le_mul_left _ ht
 intro x
 by_cases hx:B x=none
 ·rw[h.free x hx]
  exact Nat.pow_pos (by omega)
 ·refine Nat.le_trans (key x hx) (Nat.pow_le_pow_right (by omega) ?_)
  have:Good.rank σ x≤(List.range 48).length:=List.countP_le_length
  rw[List.length_range] at this
  omega
theorem Good.small_sub {B:Bd} {σ:Sb} (h:Good B σ) (hb:zlM B) (t:Tm):(t.sub σ).size≤t.size*48 ^ 49 :=
 Tm.size_sub t (Nat.pow_pos (by omega)) fun x _=>h.small hb x
def Out (B:Bd) (E:List (Tm×Tm)):Option Bd→Prop
 | none=>∀ θ,SolB θ B→Sol θ E→False
 | some B'=>(∃ σ,Good B' σ)∧zlM B'∧∀ θ,SolB θ B'↔SolB θ B∧Sol θ E
theorem Out.via {B B1:Bd} {E E1:List (Tm×Tm)} (h:∀ θ,(SolB θ B1∧Sol θ E1)↔(SolB θ B∧Sol θ E)) {o:Option Bd} (ho:Out B1 E1 o):Out B E o:=by
 cases o with
 | none=>exact fun θ h1 h2=>ho θ ((h θ).2 ⟨h1,h2⟩).1 ((h θ).2 ⟨h1,h2⟩).2
 | some B'=>exact ⟨ho.1,ho.2.1,fun θ=>(ho.2.2 θ).trans (h θ)⟩
theorem Out.done {B:Bd} {σ:Sb} (h:Good B σ) (hs:zlM B):Out B [] (some B):=⟨⟨σ,h⟩,hs,fun _=>⟨fun h=>⟨h,Sol.nil⟩,fun h=>h.1⟩⟩
theorem zHU {θ:Sb} {c d:Nat} {as bs:List Tm}:(Tm.f c as).sub θ=(Tm.f d bs).sub θ↔c=d∧zaU θ as=zaU θ bs:=by
 simp [Tm.sub]
end
end Go.Abs.Q
namespace Go.Abs.Q
open Go Go.Abs
section
abbrev PI:=List Int×Int
abbrev PO:=Option jI×Int
def Pc (a0:List zi) (N:Nat) (p:List Int) (d:Int) (t:Tm):Prop:=∃ u n,Tm.ok a0 24 u∧p=u.codes∧d=((n:Nat):Int)∧n≤N∧t=u.up n∧p.length≤48
def Pr (a0:List zi) (N:Nat) (p:List Int) (d:Int) (ts:List Tm):Prop:=∃ us n,okR a0 24 us∧p=za us∧d=((n:Nat):Int)∧n≤N∧ts=us.map (Tm.up n)∧p.length≤48
theorem Pc.size {a0:List zi} {N:Nat} {p:List Int} {d:Int} {t:Tm} (h:Pc a0 N p d t):t.size=p.length∧t.size≤48:=by
 obtain⟨u,n,h1,rfl,h2,h3,rfl,h4⟩:=h
 rw[Tm.up_size,Tm.codes_len]
 rw[Tm.codes_len] at h4
 exact ⟨rfl,h4⟩
theorem Pc.lt {a0:List zi} {N:Nat} (hN:N≤24) {p:List Int} {d:Int} {t:Tm} (h:Pc a0 N p d t) {x:Nat} (hx:t.has x):x<48:=by
 obtain⟨u,n,h1,rfl,h2,h3,rfl,h4⟩:=h
 have:=Tm.ok_has _ (Tm.up_ok (d:=n) h1) hx
 omega
theorem Pc.cases {a0:List zi} {N:Nat} {p:List Int} {d:Int} {t:Tm} (h:Pc a0 N p d t) :
  (∃ k n:Nat,p=[-1 - (k:Int)]∧d=(n:Int)∧k<24∧n≤N∧t = .v (k+n))∨∃ c r ts,p=((c:Nat):Int)::r∧t = .f c ts∧zc2 a0 (c:Int)=some ts.length∧Pr a0 N r d ts:=by
 obtain⟨u,n,h1,rfl,h2,h3,rfl,h4⟩:=h
 cases u with
 | v k=>exact .inl ⟨k,n,rfl,h2,h1,h3,rfl⟩
 | f c as =>
  have h4:(za as).length+1≤48:=h4
  refine .inr ⟨c,za as,as.map (Tm.up n),rfl,?_,by rw[List.length_map]; exact h1.1,as,n,h1.2,rfl,h2,h3,rfl,by omega⟩
  show Tm.f c (zaU _ as)=_
  rw[zh2]
  rfl
def Pq (a0:List zi) (N:Nat) (q:List Int×Int×List Int×Int) (e:Tm×Tm):Prop:=Pc a0 N q.1 q.2.1 e.1∧Pc a0 N q.2.2.1 q.2.2.2 e.2
def PqL (a0:List zi) (N:Nat):List (List Int×Int×List Int×Int)→List (Tm×Tm)→Prop
 | [],es=>es=[]
 | q::qs,es=>∃ e es',es=e::es'∧Pq a0 N q e∧PqL a0 N qs es'
theorem PqL.append {a0:List zi} {N:Nat}:{qs:List (List Int×Int×List Int×Int)}→{es:List (Tm×Tm)}→{qs':List (List Int×Int×List Int×Int)}→{es':List (Tm×Tm)}→PqL a0 N qs es→PqL a0 N qs' es'→PqL a0 N (qs++qs') (es++es')
 | [],_,_,_,h,h'=>by have h:_=[]:=h; subst h; exact h'
 | q::qs,_,_,_,h,h'=>by
  obtain⟨e,es,rfl,h1,h2⟩:=h
  exact ⟨e,_,rfl,h1,PqL.append h2 h'⟩
theorem PqL.length {a0:List zi} {N:Nat}:{qs:List (List Int×Int×List Int×Int)}→{es:List (Tm×Tm)}→PqL a0 N qs es→es.length=qs.length
 | [],_,h=>by have h:_=[]:=h; subst h; rfl
 | q::qs,_,h=>by
  obtain⟨e,es,rfl,h1,h2⟩:=h
  simp [PqL.length h2]
theorem PqL.split {a0:List zi} {N:Nat}:{qs:List (List Int×Int×List Int×Int)}→{qs':List (List Int×Int×List Int×Int)}→{es:List (Tm×Tm)}→PqL a0 N (qs++qs') es→∃ e1 e2,es=e1++e2∧PqL a0 N qs e1∧PqL a0 N qs' e2
 | [],_,es,h=>⟨[],es,rfl,rfl,h⟩
 | q::qs,_,_,h=>by
  obtain⟨e,es,rfl,h1,h2⟩:=h
  obtain⟨e1,e2,rfl,h3,h4⟩:=PqL.split h2
  exact ⟨e::e1,e2,rfl,⟨e,e1,rfl,h1,h3⟩,h4⟩
def PcO (a0:List zi) (N:Nat) (e:PO) (o:Option Tm):Prop:=match e.1 with
 | none=>o=none
 | some p=>∃ t,o=some t∧Pc a0 N p e.2 t
structure RepT (a0:List zi) (N:Nat) (to:List PO) (B:Bd):Prop where
 len:to.length=48
 at_:∀ x e,to[x]? = some e→PcO a0 N e (B x)
 out:∀ x,48≤x→B x=none
theorem RepT.small {a0:List zi} {N:Nat} {to:List PO} {B:Bd} (h:RepT a0 N to B):zlM B:=by
 intro x t hx
 have hlt:x<48:=by
  rcases Nat.lt_or_ge x 48 with h' | h'
  ·exact h'
  ·rw[h.out x h'] at hx; cases hx
 refine ⟨hlt,?_⟩
 have hl:x<to.length:=by rw[h.len]; exact hlt
 have hg:to[x]? = some to[x]:=List.getElem?_eq_getElem hl
 have:=h.at_ x _ hg
 unfold PcO at this
 split at this
 ·rw[hx] at this; cases this
 ·obtain⟨u,h1,h2⟩:=this
  rw[hx] at h1; injection h1 with h1; subst h1
  exact h2.size.2
theorem RepT.get {a0:List zi} {N:Nat} {to:List PO} {B:Bd} (h:RepT a0 N to B) {x:Nat} (hx:x<48):∃ e,to[x]? = some e∧PcO a0 N e (B x):=by
 have hl:x<to.length:=by rw[h.len]; exact hx
 have hg:to[x]? = some to[x]:=List.getElem?_eq_getElem hl
 exact ⟨_,hg,h.at_ x _ hg⟩
theorem RepT.set {a0:List zi} {N:Nat} {to:List PO} {B:Bd} (h:RepT a0 N to B) {x:Nat} (hx:x<48) {p:List Int} {d:Int} {t:Tm} (hp:Pc a0 N p d t):RepT a0 N (to.set x (some p,d)) (zA0 B x t) where
 len:=by rw[List.length_set]; exact h.len
 at_:=fun y e hy=>by
  by_cases he:y=x
  ·subst he
   rw[List.getElem?_set_self (by rw[h.len]; exact hx)] at hy
   injection hy with hy
   subst hy
   rw[zeo]
   exact ⟨t,rfl,hp⟩
  ·rw[List.getElem?_set_ne (Ne.symm he)] at hy
   rw[zhm _ _ he]
   exact h.at_ y e hy
 out:=fun y hy=>by
  rw[zhm _ _ (by omega)]
  exact h.out y hy
theorem zkl {N:Nat} (hN:N≤24) {k n:Nat} (hk:k<24) (hn:n≤N) (p:List Int):yJ p (n:Int) (-1 - (k:Int))=some ((k+n:Nat):Int):=by
 unfold yJ
 rw[zbg (by omega) (by omega),Option.bind_some]
 congr 1
 rw[zp]<;>omega
def zi0:Tm→Nat
 | .v x=>x+2
 | .f _ _=>1
theorem zz8 {a0:List zi} {N:Nat} (hN:N≤24) {to:List PO} {B:Bd} {σ:Sb} (hT:RepT a0 N to B) (hG:Good B σ):∀(m k:Nat) (p:List Int) (d:Int) (t:Tm) (z:Int),zi0 t≤m→m≤k→Pc a0 N p d t →
  ∃ p' d' t',lp zbv k (a0,to,p,d,z)=some (p',d')∧Pc a0 N p' d' t'∧(∀ θ,SolB θ B→t.sub θ=t'.sub θ)∧∀ y,t' = .v y→B y=none:=by
 intro m
 induction m with
 | zero=>intro k p d t z hm; cases t<;>simp [zi0] at hm
 | succ m ih =>
  intro k p d t z hm hk hp
  obtain⟨k,rfl⟩:∃ k',k=k'+1:=⟨k - 1,by omega⟩
  rw[zj]
  have key:=fun p d t (h1:zi0 t≤m) h2=>ih k p d t z h1 (by omega) h2
  generalize lp zbv k=rec at key ⊢
  unfold zbv
  rcases hp.cases with ⟨x,n,rfl,rfl,hx,hn,rfl⟩ | ⟨c,r,ts,rfl,rfl,hc,hr⟩
  ·simp only[qf,List.getElem?_cons_zero,Option.bind_some]
   rw[decide_eq_true (show -1 - (x:Int)<0 by omega),cond_true,zkl hN hx hn,Option.bind_some,yB (by omega),Option.bind_some]
   obtain⟨e,he,hpe⟩:=hT.get (x:=x+n) (by omega)
   rw[he,Option.bind_some]
   unfold PcO at hpe
   split at hpe
   ·rename_i h1
    rw[h1]
    exact ⟨_,_,_,rfl,hp,fun θ _=>rfl,fun y hy=>by injection hy with hy; rw[← hy]; exact hpe⟩
   ·rename_i q h1
    obtain⟨u,hu,hq⟩:=hpe
    rw[h1]
    simp only[Option.isNone_some,cond_false,Option.getD_some]
    obtain⟨p',d',t',h2,h3,h4,h5⟩:=key q e.2 u (by
     cases u with
     | v y=>have:=hG.down _ y hu; simp only[zi0] at hm ⊢; omega
     | f c as=>simp only[zi0] at hm ⊢; omega) hq
    exact ⟨p',d',t',h2,h3,fun θ hθ=>(hθ _ u hu).trans (h4 θ hθ),h5⟩
  ·simp only[qf,List.getElem?_cons_zero,Option.bind_some]
   rw[decide_eq_false (show ¬(c:Int)<0 by omega),cond_false]
   exact ⟨_,_,_,rfl,hp,fun θ _=>rfl,fun y hy=>by cases hy⟩
theorem zqt {a0:List zi} {N:Nat} (hN:N≤24) {to:List PO} {B:Bd} {σ:Sb} (hT:RepT a0 N to B) (hG:Good B σ) {p:List Int} {d:Int} {t:Tm} (hp:Pc a0 N p d t) :
  ∃ p' d' t',zbq p d a0 to=some (p',d')∧Pc a0 N p' d' t'∧(∀ θ,SolB θ B→t.sub θ=t'.sub θ)∧∀ y,t' = .v y→B y=none:=by
 obtain⟨p',d',t',h1,h2⟩:=zz8 hN hT hG (zi0 t) zd p d t 0 (Nat.le_refl _) (by
  cases t with
  | v x=>have:=hp.lt hN (x:=x) rfl; simp only[zi0]; unfold zd; omega
  | f c as=>simp only[zi0]; unfold zd; omega) hp
 refine ⟨p',d',t',?_,h2⟩
 unfold zbq
 rw[h1]
 rfl
section
variable {a0:List zi} {N:Nat} {to:List PO} {B:Bd} {σ:Sb} {v:Nat}
def DoneV (B:Bd) (v:Nat) (seen:List Bool) (y:Nat):Prop:=y≠v∧(B y≠none→seen[y]? = some true)
def PcL (a0:List zi) (N:Nat):List PI→List Tm→Prop
 | [],ts=>ts=[]
 | p::ps,ts=>∃ t ts',ts=t::ts'∧Pc a0 N p.1 p.2 t∧PcL a0 N ps ts'
theorem PcL.append:{ps:List PI}→{ts:List Tm}→{ps':List PI}→{ts':List Tm}→PcL a0 N ps ts→PcL a0 N ps' ts'→PcL a0 N (ps++ps') (ts++ts')
 | [],_,_,_,h,h'=>by have h:_=[]:=h; subst h; exact h'
 | q::qs,_,_,_,h,h'=>by
  obtain⟨e,es,rfl,h1,h2⟩:=h
  exact ⟨e,_,rfl,h1,PcL.append h2 h'⟩
theorem PcL.split:{ps:List PI}→{ps':List PI}→{ts:List Tm}→PcL a0 N (ps++ps') ts→∃ t1 t2,ts=t1++t2∧PcL a0 N ps t1∧PcL a0 N ps' t2
 | [],_,ts,h=>⟨[],ts,rfl,rfl,h⟩
 | q::qs,_,_,h=>by
  obtain⟨e,es,rfl,h1,h2⟩:=h
  obtain⟨e1,e2,rfl,h3,h4⟩:=PcL.split h2
  exact ⟨e::e1,e2,rfl,⟨e,e1,rfl,h1,h3⟩,h4⟩
theorem PcL.length:{ps:List PI}→{ts:List Tm}→PcL a0 N ps ts→ts.length=ps.length
 | [],_,h=>by have h:_=[]:=h; subst h; rfl
 | q::qs,_,h=>by
  obtain⟨e,es,rfl,h1,h2⟩:=h
  simp [PcL.length h2]
def ziq (seen:List Bool):Nat:=seen.countP fun b => !b
theorem zuE {seen:List Bool} {x:Nat} (h:seen[x]? = some false):ziq (seen.set x true)+1=ziq seen:=by
 unfold ziq
 obtain⟨hx,he⟩:=List.getElem?_eq_some_iff.1 h
 have h1:=List.take_append_drop x seen
 have h2:seen.drop x=false::seen.drop (x+1):=by rw[List.drop_eq_getElem_cons hx,he]
 have h3:seen.set x true=seen.take x++true::seen.drop (x+1):=by rw[List.set_eq_take_append_cons_drop,if_pos hx]
 conv=>rhs; rw[← h1,h2]
 rw[h3]
 simp [List.countP_append,List.countP_cons]
 omega
theorem znu (hN:N≤24) (hT:RepT a0 N to B) {n:Nat} (hn:n≤N) (p0:List Int):∀(es:List Int) (seen:List Bool) (todo:List PI) (ts:List Tm),(∀ c∈es,-24≤c)→seen.length=48→todo.length+ziq seen≤1000→PcL a0 N todo ts →
  (zk (v:Int) to p0 (n:Int) es seen todo=some (.inr true)∧∃ c∈es,c<0∧(-1 - c).toNat+n=v) ∨
  ∃ seen' more us,zk (v:Int) to p0 (n:Int) es seen todo=some (.inl (seen',todo++more))∧seen'.length=48∧more.length+ziq seen'=ziq seen∧PcL a0 N more us ∧
   (∀ y:Nat,seen[y]? = some true→seen'[y]? = some true)∧(∀ c∈es,c<0→DoneV B v seen' ((-1 - c).toNat+n))∧(∀ y:Nat,seen'[y]? = some true→seen[y]? = some true∨∃ u,B y=some u∧u∈us) ∧
   (∀ u∈us,∃ c∈es,c<0∧B ((-1 - c).toNat+n)=some u)
 | [],seen,todo,ts,_,hs,_,_=>.inr ⟨seen,[],[],by rw[List.append_nil]; rfl,hs,by simp,rfl,fun _ h=>h,fun c h=>(nomatch h),fun y h=>.inl h,fun u h=>(nomatch h)⟩
 | e::es,seen,todo,ts,hc,hs,hl,hp=>by
  have he:=hc e (List.mem_cons_self ..)
  have hc':∀ c∈es,-24≤c:=fun c h=>hc c (List.mem_cons_of_mem _ h)
  -- the variable is passed over
  have pass:∀ f:List Bool→List PI→Option ((List Bool×List PI)⊕Bool),f seen todo=zk (v:Int) to p0 (n:Int) es seen todo→(e<0→DoneV B v seen ((-1 - e).toNat+n)) →
    ((f seen todo=some (.inr true)∧∃ c∈e::es,c<0∧(-1 - c).toNat+n=v) ∨
    ∃ seen' more us,f seen todo=some (.inl (seen',todo++more))∧seen'.length=48∧more.length+ziq seen'=ziq seen∧PcL a0 N more us ∧
     (∀ y:Nat,seen[y]? = some true→seen'[y]? = some true)∧(∀ c∈e::es,c<0→DoneV B v seen' ((-1 - c).toNat+n))∧(∀ y:Nat,seen'[y]? = some true→seen[y]? = some true∨∃ u,B y=some u∧u∈us) ∧
     (∀ u∈us,∃ c∈e::es,c<0∧B ((-1 - c).toNat+n)=some u)):=by
   intro f hf hd
   rw[hf]
   rcases znu hN hT hn p0 es seen todo ts hc' hs hl hp with ⟨h1,c,h2,h3⟩ | ⟨seen',more,us,h1,h2,h3,h4,h5,h6,h7,h8⟩
   ·exact .inl ⟨h1,c,List.mem_cons_of_mem _ h2,h3⟩
   ·refine .inr ⟨seen',more,us,h1,h2,h3,h4,h5,fun c hcm hc0 => ?_,h7,fun u hu => ?_⟩
    ·rcases List.mem_cons.1 hcm with rfl | hcm
     ·exact ⟨(hd hc0).1,fun hb=>h5 _ ((hd hc0).2 hb)⟩
     ·exact h6 c hcm hc0
    ·obtain⟨c,h9,h10⟩:=h8 u hu
     exact ⟨c,List.mem_cons_of_mem _ h9,h10⟩
  unfold zk
  by_cases h0:e≥0
  ·rw[decide_eq_true h0,cond_true]
   exact pass (fun seen todo=>zk (v:Int) to p0 (n:Int) es seen todo) rfl fun h=>by omega
  ·rw[decide_eq_false h0,cond_false]
   obtain⟨k,hk,rfl⟩:∃ k:Nat,k<24∧e = -1 - (k:Int):=⟨(-1 - e).toNat,by omega,by omega⟩
   have hk2:(-1 - (-1 - (k:Int))).toNat=k:=by omega
   rw[zkl hN hk hn,Option.bind_some]
   by_cases hv:k+n=v
   ·rw[hv,show (((v:Nat):Int)==(v:Int))=true from by simp,cond_true]
    exact .inl ⟨rfl,_,List.mem_cons_self ..,by omega,by rw[hk2]; exact hv⟩
   ·rw[show (((k+n:Nat):Int)==(v:Int))=false from by simp; omega,cond_false,yB (show k+n<48 by omega),Option.bind_some]
    obtain⟨b,hb⟩:∃ b,seen[k+n]? = some b:=⟨seen[k+n]'(by omega),List.getElem?_eq_getElem (by omega)⟩
    rw[hb,Option.bind_some]
    obtain⟨q,hq,hpq⟩:=hT.get (x:=k+n) (by omega)
    cases b with
    | true =>
     simp only[Bool.not_true,cond_false]
     exact pass (fun seen todo=>zk (v:Int) to p0 (n:Int) es seen todo) rfl fun _=>by rw[hk2]; exact ⟨hv,fun _=>hb⟩
    | false =>
     simp only[Bool.not_false,cond_true,Option.bind_some,hq]
     unfold PcO at hpq
     split at hpq
     ·rename_i h1
      rw[h1]
      simp only[Option.isNone_none,Bool.not_true,cond_false]
      exact pass (fun seen todo=>zk (v:Int) to p0 (n:Int) es seen todo) rfl fun _=>by rw[hk2]; exact ⟨hv,fun hn=>absurd hpq hn⟩
     ·rename_i q1 h1
      obtain⟨u,hu,hpu⟩:=hpq
      rw[h1]
      simp only[Option.isNone_some,Bool.not_false,cond_true,Option.getD_some,hb,Option.bind_some]
      have hun:=zuE hb
      rw[zq (show (todo.length+([(q1,q.2)]:List PI).length)*32≤140737488351232 by simp; omega),cond_true]
      have hset:(seen.set (k+n) true)[k+n]? = some true:=List.getElem?_set_self (by omega)
      have hmono:∀ y:Nat,seen[y]? = some true→(seen.set (k+n) true)[y]? = some true:=fun y hy=>by
       by_cases hyk:y=k+n
       ·subst hyk; exact hset
       ·rw[List.getElem?_set_ne (Ne.symm hyk)]; exact hy
      have hbk:∀ y:Nat,(seen.set (k+n) true)[y]? = some true→seen[y]? = some true∨y=k+n:=fun y hy=>by
       by_cases hyk:y=k+n
       ·exact .inr hyk
       ·rw[List.getElem?_set_ne (Ne.symm hyk)] at hy; exact .inl hy
      rcases znu hN hT hn p0 es (seen.set (k+n) true) (todo++[(q1,q.2)]) (ts++[u]) hc' (by rw[List.length_set]; exact hs) (by simp; omega) (hp.append ⟨u,[],rfl,hpu,rfl⟩) with ⟨h2,c,h3,h4⟩ | ⟨seen',more,us,h2,h3,h4,h5,h6,h7,h8,h9⟩
      ·exact .inl ⟨h2,c,List.mem_cons_of_mem _ h3,h4⟩
      ·refine .inr ⟨seen',(q1,q.2)::more,u::us,by rw[h2,List.append_assoc]; rfl,h3,by simp; omega,⟨u,us,rfl,hpu,h5⟩,fun y hy=>h6 y (hmono y hy),fun c hcm hc0 => ?_,fun y hy => ?_,fun w hw => ?_⟩
       ·rcases List.mem_cons.1 hcm with rfl | hcm
        ·rw[hk2]; exact ⟨hv,fun _=>h6 _ hset⟩
        ·exact h7 c hcm hc0
       ·rcases h8 y hy with h10 | ⟨w,h10,h11⟩
        ·rcases hbk y h10 with h12 | rfl
         ·exact .inl h12
         ·exact .inr ⟨u,hu,List.mem_cons_self ..⟩
        ·exact .inr ⟨w,h10,List.mem_cons_of_mem _ h11⟩
       ·rcases List.mem_cons.1 hw with rfl | hw
        ·exact ⟨_,List.mem_cons_self ..,by omega,by rw[hk2]; exact hu⟩
        ·obtain⟨c,h10,h11⟩:=h9 w hw
         exact ⟨c,List.mem_cons_of_mem _ h10,h11⟩
theorem Pc.vars {p:List Int} {d:Int} {t:Tm} (h:Pc a0 N p d t):∃ n:Nat,d=(n:Int)∧n≤N∧(∀ c∈p,-24≤c)∧∀ y,t.has y↔∃ c∈p,c<0∧(-1 - c).toNat+n=y:=by
 obtain⟨u,n,h1,rfl,h2,h3,rfl,h4⟩:=h
 refine ⟨n,h2,h3,fun c hc => ?_,fun y => ?_⟩
 ·by_cases h0:c<0
  ·have:=Tm.ok_has u h1 ((Tm.mem_codes h0 u).1 hc); omega
  ·omega
 ·rw[Tm.up_has]
  constructor
  ·rintro⟨x,hx,rfl⟩
   have hc:(-1 - (x:Int))<0:=by omega
   refine ⟨-1 - (x:Int),(Tm.mem_codes hc u).2 (by rw[show (-1 - (-1 - (x:Int))).toNat=x from by omega]; exact hx),hc,by omega⟩
  ·rintro⟨c,hc,h0,rfl⟩
   exact ⟨_,(Tm.mem_codes h0 u).1 hc,rfl⟩
structure WInv (B:Bd) (σ:Sb) (v:Nat) (t:Tm) (seen:List Bool) (ts:List Tm):Prop where
 snd:∀ u∈ts,(u.sub σ).has v→(t.sub σ).has v
 top:t∈ts∨∀ y,t.has y→DoneV B v seen y
 cls:∀ x u,seen[x]? = some true→B x=some u→u∈ts∨∀ y,u.has y→DoneV B v seen y
theorem DoneV.mono {seen seen':List Bool} (h:∀ y:Nat,seen[y]? = some true→seen'[y]? = some true) {y:Nat} (hd:DoneV B v seen y):DoneV B v seen' y:=⟨hd.1,fun hb=>h y (hd.2 hb)⟩
theorem ztZ (hN:N≤24) (hT:RepT a0 N to B) (hG:Good B σ) (hv:B v=none) (t:Tm):∀(m k:Nat) (seen:List Bool) (todo:List PI) (ts:List Tm) (z:List Int) (z2:Int),todo.length+ziq seen=m→m<k→m≤100→seen.length=48→PcL a0 N todo ts→WInv B σ v t seen ts →
  ∃ r,lp zaI k ((v:Int),a0,to,z,z2,seen,todo)=some r∧((r = .inr true∧(t.sub σ).has v)∨(r = .inl ()∧¬(t.sub σ).has v)):=by
 intro m
 induction m using Nat.strongRecOn with
 | _ m ih =>
  intro k seen todo ts z z2 hm hk hm1 hs hp hI
  obtain⟨k,rfl⟩:∃ k',k=k'+1:=⟨k - 1,by omega⟩
  rw[zj]
  have key:=fun (m':Nat) (h:m'<m) seen todo ts z z2 h1 h2 h3 h4=>ih m' h k seen todo ts z z2 h1 (by omega) (by omega) h2 h3 h4
  generalize lp zaI k=rec at key ⊢
  unfold zaI
  rcases List.eq_nil_or_concat todo with rfl | ⟨todo',p,rfl⟩
  ·have hts:ts=[]:=hp
   subst hts
   refine ⟨_,rfl,.inr ⟨rfl,?_⟩⟩
   have hcl:∀ x u,seen[x]? = some true→B x=some u→∀ y,u.has y→DoneV B v seen y:=fun x u h1 h2=>(hI.cls x u h1 h2).resolve_left (fun h=>nomatch h)
   have hno:∀ x,DoneV B v seen x→¬(σ x).has v:=by
    refine hG.ind (fun x hx hd hh => ?_) fun x u hx ihx hd hh => ?_
    ·rw[hG.free x hx] at hh
     exact hd.1 hh
    ·rw[hG.bound x u hx] at hh
     obtain⟨y,h1,h2⟩:=(Tm.has_sub u).1 hh
     exact ihx y h1 (hcl x u (hd.2 (by rw[hx]; simp)) hx y h1) h2
   intro hh
   obtain⟨y,h1,h2⟩:=(Tm.has_sub t).1 hh
   exact hno y ((hI.top.resolve_left fun h=>nomatch h) y h1) h2
  ·rw[List.concat_eq_append] at *
   obtain⟨ts',us0,rfl,hp1,hp2⟩:=PcL.split hp
   obtain⟨u0,us1,rfl,hu0,hus1⟩:=hp2
   have hus1:us1=[]:=hus1
   subst hus1
   simp only[List.length_append,List.length_singleton] at hm
   obtain⟨q,d⟩:=p
   obtain⟨n,rfl,hn,hcs,hvars⟩:=hu0.vars
   have e1:IntKind.wrap .i64 (((List.length (todo'++[(q,(n:Int))]):Nat):Int) - 1)=((todo'.length:Nat):Int):=by
    rw[List.length_append,List.length_singleton,zp]<;>omega
   have e2:inR ((todo'.length:Nat):Int) (List.length (todo'++[(q,(n:Int))]))=some todo'.length:=yB (by simp)
   have e3:(todo'++[(q,(n:Int))])[todo'.length]? = some (q,(n:Int)):=zo5 _ [] _
   have e4:decide (((List.length (todo'++[(q,(n:Int))]):Nat):Int)>0)=true:=decide_eq_true (by rw[List.length_append,List.length_singleton]; omega)
   simp only[e1,e2,e3,e4,Option.bind_some,cond_true,ztj]
   have hsz:u0.size=q.length∧u0.size≤48:=hu0.size
   rw[zfR _ _ _ _ _ _ _ _ (by unfold maxLen; omega)]
   rcases znu (v:=v) hN hT hn q q seen todo' ts' hcs hs (by omega) hp1 with ⟨h1,c,h2,h3,h4⟩ | ⟨seen',more,us,h1,h2,h3,h4,h5,h6,h7,h8⟩
   ·rw[h1]
    refine ⟨_,rfl,.inl ⟨rfl,hI.snd u0 (by simp) ?_⟩⟩
    refine (Tm.has_sub u0).2 ⟨v,(hvars v).2 ⟨c,h2,h3,h4⟩,?_⟩
    rw[hG.free v hv]
    rfl
   ·rw[h1]
    simp only[Option.bind_some,zb1]
    refine key (todo'.length+more.length+ziq seen') (by omega) seen' (todo'++more) (ts'++us) q (n:Int) (by simp) h2 (hp1.append h4) ⟨fun w hw hh => ?_,?_,fun x w hx hw => ?_⟩
    ·rcases List.mem_append.1 hw with hw | hw
     ·exact hI.snd w (by simp [hw]) hh
     ·obtain⟨c,h9,h10,h11⟩:=h8 w hw
      refine hI.snd u0 (by simp) ((Tm.has_sub u0).2 ⟨_,(hvars _).2 ⟨c,h9,h10,rfl⟩,?_⟩)
      rw[hG.bound _ w h11]
      exact hh
    ·have hdone:∀ y,u0.has y→DoneV B v seen' y:=fun y hy=>by
      obtain⟨c,h9,h10,rfl⟩:=(hvars y).1 hy
      exact h6 c h9 h10
     rcases hI.top with ht | ht
     ·rcases List.mem_append.1 ht with ht | ht
      ·exact .inl (by simp [ht])
      ·rw[List.mem_singleton.1 ht]; exact .inr hdone
     ·exact .inr fun y hy=>(ht y hy).mono h5
    ·have hdone:∀ y,u0.has y→DoneV B v seen' y:=fun y hy=>by
      obtain⟨c,h9,h10,rfl⟩:=(hvars y).1 hy
      exact h6 c h9 h10
     rcases h7 x hx with h9 | ⟨w',h9,h10⟩
     ·rcases hI.cls x w h9 hw with ht | ht
      ·rcases List.mem_append.1 ht with ht | ht
       ·exact .inl (by simp [ht])
       ·rw[List.mem_singleton.1 ht]; exact .inr hdone
      ·exact .inr fun y hy=>(ht y hy).mono h5
     ·rw[hw] at h9; injection h9 with h9; subst h9
      exact .inl (by simp [h10])
theorem zrn (hN:N≤24) (hT:RepT a0 N to B) (hG:Good B σ) (hv:B v=none) {p:List Int} {d:Int} {t:Tm} (hp:Pc a0 N p d t) :
  ∃ r,zcW (v:Int) p d a0 to=some r∧(r=true↔(t.sub σ).has v):=by
 have hun:ziq (List.replicate 48 false)=48:=by decide
 obtain⟨r,h1,h2⟩:=ztZ hN hT hG hv t 49 zd (List.replicate 48 false) [(p,d)] [t] p d (by rw[hun]; rfl) (by unfold zd; omega) (by omega) (by simp) ⟨t,[],rfl,hp,rfl⟩
  ⟨fun u hu h=>by rw[List.mem_singleton.1 hu] at h; exact h,.inl (by simp),fun x u hx _=>by
   rw[List.getElem?_replicate] at hx
   split at hx<;>simp at hx⟩
 unfold zcW
 rw[h1]
 rcases h2 with ⟨rfl,h2⟩ | ⟨rfl,h2⟩
 ·exact ⟨true,rfl,by simp [h2]⟩
 ·exact ⟨false,rfl,by simp [h2]⟩
end
end
end Go.Abs.Q
namespace Go.Abs.Q
open Go Go.Abs
section
mutual
def Tm.ht:Tm→Nat
 | .v _=>1
 | .f _ as=>htR as+1
def htR:List Tm→Nat
 | []=>0
 | t::ts=>max t.ht (htR ts)
end
mutual
theorem Tm.ht_size:(t:Tm)→t.ht≤t.size
 | .v _=>Nat.le_refl _
 | .f _ as=>by have:=zsD as; simp only[Tm.ht,Tm.size]; omega
theorem zsD:(ts:List Tm)→htR ts≤zaC ts
 | []=>Nat.le_refl _
 | t::ts=>by have:=t.ht_size; have:=zsD ts; simp only[htR,zaC]; omega
end
mutual
theorem Tm.ht_sub {s:Sb} {M:Nat}:(t:Tm)→(∀ x,t.has x→(s x).ht≤M)→(t.sub s).ht≤t.ht+M
 | .v n,h=>by have:=h n rfl; simp only[Tm.sub,Tm.ht]; omega
 | .f _ as,h=>by have:=zyy as h; simp only[Tm.sub,Tm.ht]; omega
theorem zyy {s:Sb} {M:Nat}:(ts:List Tm)→(∀ x,zjz x ts→(s x).ht≤M)→htR (zaU s ts)≤htR ts+M
 | [],_=>by simp [zaU,htR]
 | t::ts,h=>by
  have h1:=Tm.ht_sub t fun x hx=>h x (.inl hx)
  have h2:=zyy ts fun x hx=>h x (.inr hx)
  simp only[zaU,htR]; omega
end
theorem zrE:{ts:List Tm}→{t:Tm}→t∈ts→t.ht≤htR ts
 | u::us,t,h=>by
  rcases List.mem_cons.1 h with rfl | h
  ·simp only[htR]; omega
  ·have:=zrE h; simp only[htR]; omega
theorem Good.rank_lt {B:Bd} {σ:Sb} (h:Good B σ) {x y:Nat} {t:Tm} (hx:B x=some t) (hy:t.has y) (h48:y<48):Good.rank σ y<Good.rank σ x:=by
 have hlt:Good.less σ y x=true:=by
  unfold Good.less
  have hs:=h.bound x t hx
  cases t with
  | v z =>
   have hz:z=y:=hy
   subst hz
   have h2:=h.down x z hx
   have h3:(σ z).size=(σ x).size:=by rw[hs]; rfl
   simp [h3,h2]
  | f c as =>
   have h2:=zgw (s:=σ) as hy
   have h3:(σ x).size=zaC (zaU σ as)+1:=by rw[hs]; rfl
   rw[decide_eq_true (show (σ y).size<(σ x).size by omega)]
   rfl
 refine zmi (a:=y) (List.mem_range.2 h48) (fun z _ hz => ?_) (by simp [Good.less]) hlt
 simp only[Good.less,Bool.or_eq_true,Bool.and_eq_true,decide_eq_true_eq] at hz hlt ⊢
 omega
theorem Good.rank_le (σ:Sb) (x:Nat):Good.rank σ x≤48:=by
 have:Good.rank σ x≤(List.range 48).length:=List.countP_le_length
 rwa [List.length_range] at this
theorem Good.low {B:Bd} {σ:Sb} (h:Good B σ) (hb:zlM B):∀ x,(σ x).ht≤49*49:=by
 have key:∀ x,B x≠none→(σ x).ht≤49*(Good.rank σ x+1):=by
  refine h.ind (fun x hx hn=>absurd hx hn) fun x t hx ih _ => ?_
  obtain⟨hx48,ht⟩:=hb x t hx
  rw[h.bound x t hx]
  have h0:=t.ht_size
  have:=Tm.ht_sub (s:=σ) (M:=49*Good.rank σ x+1) t fun y hy=>(by
   cases hy0:B y with
   | none=>rw[h.free y hy0]; simp only[Tm.ht]; omega
   | some u =>
    have h1:=ih y hy (by rw[hy0]; simp)
    have h2:=h.rank_lt hx hy (hb y u hy0).1
    have:49*(Good.rank σ y+1)≤49*Good.rank σ x:=Nat.mul_le_mul_left _ (by omega)
    omega)
  omega
 intro x
 by_cases hx:B x=none
 ·rw[h.free x hx]; simp [Tm.ht]
 ·have h1:=key x hx
  have h2:=Good.rank_le σ x
  have:49*(Good.rank σ x+1)≤49*49:=Nat.mul_le_mul_left _ (by omega)
  omega
def zGB (n m:Nat) (us ws:List Tm):List (List Int×Int×List Int×Int):=List.zipWith (fun a b=>(a.codes,(n:Int),b.codes,(m:Int))) us ws
theorem zfc {ts:List Tm} {t:Tm} (h:t∈ts):t.codes.length≤(za ts).length:=by
 obtain⟨l1,l2,rfl⟩:=List.append_of_mem h
 rw[zdU]
 simp [za]
 omega
theorem zsL {a0:List zi} {N n m:Nat} (hn:n≤N) (hm:m≤N):{us ws:List Tm}→okR a0 24 us→okR a0 24 ws→(∀ t∈us,t.codes.length≤48)→(∀ t∈ws,t.codes.length≤48) →
  PqL a0 N (zGB n m us ws) ((us.map (Tm.up n)).zip (ws.map (Tm.up m)))
 | [],_,_,_,_,_=>rfl
 | _::_,[],_,_,_,_=>rfl
 | u::us,w::ws,hu,hw,hlu,hlw =>
  ⟨(u.up n,w.up m),_,rfl,⟨⟨u,n,hu.1,rfl,rfl,hn,rfl,hlu u (List.mem_cons_self ..)⟩,⟨w,m,hw.1,rfl,rfl,hm,rfl,hlw w (List.mem_cons_self ..)⟩⟩,
   zsL hn hm hu.2 hw.2 (fun t h=>hlu t (List.mem_cons_of_mem _ h)) fun t h=>hlw t (List.mem_cons_of_mem _ h)⟩
theorem zpK (ps2:List jI) (n m:Nat):(us ws:List Tm)→(i:Nat)→(out:List (List Int×Int×List Int×Int))→ps2.drop i=ws.map Tm.codes→us.length=ws.length→out.length+us.length≤1000000 →
  zJ ps2 (n:Int) (m:Int) (us.map Tm.codes) i out=some (out++zGB n m us ws)
 | [],ws,i,out,_,_,_=>by simp [zJ,zGB]
 | u::us,[],i,out,_,h,_=>by simp at h
 | u::us,w::ws,i,out,h,hl,hr=>by
  simp only[List.length_cons] at hl hr
  rw[List.map_cons] at h
  rw[List.map_cons]
  unfold zJ
  rw[yx,zh h,Option.bind_some,zq (by simp only[List.length_singleton]; omega),cond_true,zpK ps2 n m us ws (i+1) _ (ze h) (by omega) (by simp only[List.length_append,List.length_singleton]; omega)]
  simp [zGB]
theorem znZ {a0:List zi} (h:SignOk a0) {N:Nat} {p q:List Int} {d e:Int} {ts us:List Tm} (hp:Pr a0 N p d ts) (hq:Pr a0 N q e us) (hl:ts.length=us.length) (to:List PO) {out:List (List Int×Int×List Int×Int)} (ho:out.length≤100000) :
  ∃ more,qC p d q e a0 to out=some (out++more)∧PqL a0 N more (ts.zip us):=by
 obtain⟨us0,n,h1,rfl,rfl,h2,rfl,h3⟩:=hp
 obtain⟨ws0,m,h4,rfl,rfl,h5,rfl,h6⟩:=hq
 simp only[List.length_map] at hl
 have hls:us0.length≤48:=by
  have:=zeW (z1 us0 h1)
  rw[List.length_map] at this
  omega
 refine ⟨zGB n m us0 ws0,?_,zsL h2 h5 h1 h4 (fun t ht=>Nat.le_trans (zfc ht) h3) fun t ht=>Nat.le_trans (zfc ht) h6⟩
 unfold qC
 rw[zcb h (by omega) (z1 us0 h1),Option.bind_some,zcb h (by omega) (z1 ws0 h4),Option.bind_some,
  zfr _ _ _ _ _ _ _ (by rw[List.length_map]; unfold maxLen; omega),zpK _ n m us0 ws0 0 out rfl hl (by omega)]
 rfl
theorem zpo {a0:List zi} {N:Nat} {p:List Int} {d:Int} {t:Tm} (h:Pc a0 N p d t):nn p=some p:=by
 have h1:=h.size
 have h2:=t.size_pos
 cases p with
 | nil=>simp at h1; omega
 | cons x r=>rfl
theorem zsG {a0:List zi} {N:Nat} (hN:N≤24) {to:List PO} {B:Bd} {σ:Sb} (hT:RepT a0 N to B) (hG:Good B σ) {p q:List Int} {d e:Int} {v:Nat} {u:Tm} (hp:Pc a0 N p d (.v v)) (hq:Pc a0 N q e u) (hv:B v=none) (hu:∀ y,u = .v y→B y=none) :
  ∃ r to',qj p d q e a0 to=some (r,a0,to')∧((r=false∧∀ θ,SolB θ B→θ v=u.sub θ→False)∨(r=true∧∃ B' σ',RepT a0 N to' B'∧Good B' σ'∧∀ θ,SolB θ B'↔SolB θ B∧θ v=u.sub θ)):=by
 have hv48:v<48:=hp.lt hN rfl
 rcases hp.cases with ⟨k,n,rfl,rfl,hk,hn,he⟩ | ⟨_,_,_,_,he,_⟩
 case inr=>cases he
 injection he with he
 subst he
 unfold qj
 simp only[qf,List.getElem?_cons_zero,Option.bind_some,zkl hN hk hn]
 rcases hq.cases with ⟨k2,n2,rfl,rfl,hk2,hn2,rfl⟩ | ⟨c,r,ts,rfl,rfl,hc,hr⟩
 ·simp only[List.getElem?_cons_zero,Option.bind_some,zkl hN hk2 hn2]
  rw[decide_eq_false (show ¬(-1 - (k2:Int)≥0) by omega),cond_false]
  have hw:=hu _ rfl
  by_cases h1:k2+n2>k+n
  ·rw[decide_eq_true (show ((k2+n2:Nat):Int)>((k+n:Nat):Int) by omega),cond_true,yB (by omega),Option.bind_some]
   obtain⟨x,hx,-⟩:=hT.get (x:=k2+n2) (by omega)
   rw[hx,Option.bind_some,zpo hp,Option.bind_some]
   refine ⟨true,_,rfl,.inr ⟨rfl,_,_,hT.set (by omega) hp,hG.bind hw ?_ ?_,fun θ=>(SolB.upd hw).trans ?_⟩⟩
   ·show ¬(σ (k+n)).has (k2+n2)
    rw[hG.free _ hv]
    show ¬(k+n=k2+n2)
    omega
   ·intro y hy
    injection hy with hy
    omega
   ·show _∧θ (k2+n2)=θ (k+n)↔_∧θ (k+n)=θ (k2+n2)
    exact ⟨fun h=>⟨h.1,h.2.symm⟩,fun h=>⟨h.1,h.2.symm⟩⟩
  ·rw[decide_eq_false (show ¬(((k2+n2:Nat):Int)>((k+n:Nat):Int)) by omega),cond_false]
   by_cases h2:k2+n2<k+n
   ·rw[decide_eq_true (show ((k2+n2:Nat):Int)<((k+n:Nat):Int) by omega),cond_true,yB (by omega),Option.bind_some]
    obtain⟨x,hx,-⟩:=hT.get (x:=k+n) (by omega)
    rw[hx,Option.bind_some,zpo hq,Option.bind_some]
    refine ⟨true,_,rfl,.inr ⟨rfl,_,_,hT.set (by omega) hq,hG.bind hv ?_ ?_,fun θ=>SolB.upd hv⟩⟩
    ·show ¬(σ (k2+n2)).has (k+n)
     rw[hG.free _ hw]
     show ¬(k2+n2=k+n)
     omega
    ·intro y hy
     injection hy with hy
     omega
   ·rw[decide_eq_false (show ¬(((k2+n2:Nat):Int)<((k+n:Nat):Int)) by omega),cond_false]
    have:k2+n2=k+n:=by omega
    refine ⟨true,_,rfl,.inr ⟨rfl,B,σ,hT,hG,fun θ=>⟨fun h=>⟨h,?_⟩,fun h=>h.1⟩⟩⟩
    show θ (k+n)=θ (k2+n2)
    rw[this]
 ·simp only[List.getElem?_cons_zero,Option.bind_some]
  rw[decide_eq_true (show (c:Int)≥0 by omega),cond_true]
  obtain⟨w,hw1,hw2⟩:=zrn hN hT hG hv hq
  rw[hw1,Option.bind_some]
  cases w with
  | true =>
   refine ⟨false,_,rfl,.inl ⟨rfl,fun θ h1 h2=>hG.occurs (hw2.1 rfl) h1 h2⟩⟩
  | false =>
   rw[cond_false,yB (by omega),Option.bind_some]
   obtain⟨x,hx,-⟩:=hT.get (x:=k+n) (by omega)
   rw[hx,Option.bind_some,zpo hq,Option.bind_some]
   refine ⟨true,_,rfl,.inr ⟨rfl,_,_,hT.set (by omega) hq,hG.bind hv (fun h=>by have:=hw2.2 h; cases this) (fun y hy=>by cases hy),fun θ=>SolB.upd hv⟩⟩
end
end Go.Abs.Q
namespace Go.Abs.Q
open Go Go.Abs
section
def wt (σ:Sb) (E:List (Tm×Tm)):Nat:=(E.map fun e=>(e.1.sub σ).size).sum
theorem znj (σ:Sb) (E F:List (Tm×Tm)):wt σ (E++F)=wt σ E+wt σ F:=by simp [wt]
theorem zCL (σ:Sb) (e:Tm×Tm):wt σ [e]=(e.1.sub σ).size:=by simp [wt]
theorem zyF (σ:Sb):{ts us:List Tm}→ts.length=us.length→wt σ (ts.zip us)=zaC (zaU σ ts)
 | [],_,_=>rfl
 | _::_,[],h=>by simp at h
 | t::ts,u::us,h=>by
  have:=zyF σ (ts:=ts) (us:=us) (by simpa using h)
  simp only[wt] at this ⊢
  simp only[List.zip_cons_cons,List.map_cons,List.sum_cons,zaU,zaC,this]
def HtOk (R:List Tm) (B:Bd) (i:Nat) (t:Tm):Prop:=∃ δ:Nat,i≤47+3*δ∧∀ θ,SolB θ B→∃ c∈R,δ+(t.sub θ).ht≤(c.sub θ).ht
def StkOk (R:List Tm) (B:Bd) (E:List (Tm×Tm)):Prop:=∀(i:Nat) e,E[i]? = some e→HtOk R B i e.1
theorem HtOk.mono {R:List Tm} {B B':Bd} {i:Nat} {t:Tm} (h:HtOk R B i t) (hB:∀ θ,SolB θ B'→SolB θ B):HtOk R B' i t:=by
 obtain⟨δ,h1,h2⟩:=h
 exact ⟨δ,h1,fun θ hθ=>h2 θ (hB θ hθ)⟩
theorem StkOk.mono {R:List Tm} {B B':Bd} {E:List (Tm×Tm)} (h:StkOk R B E) (hB:∀ θ,SolB θ B'→SolB θ B):StkOk R B' E:=fun i e he=>(h i e he).mono hB
theorem StkOk.left {R:List Tm} {B:Bd} {E F:List (Tm×Tm)} (h:StkOk R B (E++F)):StkOk R B E:=fun i e he=>h i e (by
 rw[List.getElem?_append_left (List.getElem?_eq_some_iff.1 he).1]; exact he)
theorem StkOk.len {R:List Tm} {B:Bd} {σ:Sb} {E:List (Tm×Tm)} (h:StkOk R B E) (hG:Good B σ) (hS:zlM B) (hR:∀ c∈R,c.size≤48):E.length≤8000:=by
 rcases Nat.eq_zero_or_pos E.length with h0 | h0
 ·omega
 ·obtain⟨δ,h1,h2⟩:=h (E.length - 1) E[E.length - 1] (List.getElem?_eq_getElem (by omega))
  obtain⟨c,hc,h3⟩:=h2 σ hG.bound
  have h4:=Tm.ht_sub (s:=σ) c fun x _=>hG.low hS x
  have h5:=c.ht_size
  have h6:=hR c hc
  omega
theorem zG5 (t:Tm):0<t.ht:=by cases t<;>simp [Tm.ht]
def SameR (a0:List zi) (N:Nat) (B:Bd) (E:List (Tm×Tm)) (r:Bool×List zi×List PO):Prop :=
 r.2.1=a0∧((r.1=false∧Out B E none)∨(r.1=true∧∃ B',RepT a0 N r.2.2 B'∧Out B E (some B')))
theorem SameR.via {a0:List zi} {N:Nat} {B B1:Bd} {E E1:List (Tm×Tm)} (h:∀ θ,(SolB θ B1∧Sol θ E1)↔(SolB θ B∧Sol θ E)) {r:Bool×List zi×List PO} (hr:SameR a0 N B1 E1 r):SameR a0 N B E r :=
 ⟨hr.1,hr.2.imp (fun h1=>⟨h1.1,Out.via h h1.2⟩) fun ⟨h1,B',h2,h3⟩=>⟨h1,B',h2,Out.via h h3⟩⟩
theorem zzL {a0:List zi} (hs:SignOk a0) {N:Nat} (hN:N≤24) (R:List Tm) (hR:∀ c∈R,c.size≤48):∀(n:Nat) (to:List PO) (B:Bd) (σ:Sb) (todo:List (List Int×Int×List Int×Int)) (E:List (Tm×Tm)),
  RepT a0 N to B→Good B σ→PqL a0 N todo E→StkOk R B E →
  (∃ r,(∀ k,lp zw (k+n) (a0,to,todo)=some r)∧SameR a0 N B E r)∨∃ B' σ',Good B' σ'∧zlM B'∧(∀ θ,SolB θ B'→SolB θ B)∧n≤wt σ' E:=by
 intro n
 induction n with
 | zero=>intro to B σ todo E hT hG _ _; exact .inr ⟨B,σ,hG,hT.small,fun _ h=>h,Nat.zero_le _⟩
 | succ n ih =>
  intro to B σ todo E hT hG hP hK
  have hlen:=hK.len hG hT.small hR
  have hpl:=hP.length
  -- one round, and what is left
  have go:∀(to1:List PO) (B1:Bd) (σ1:Sb) (todo1:List (List Int×Int×List Int×Int)) (E1:List (Tm×Tm)),RepT a0 N to1 B1→Good B1 σ1→PqL a0 N todo1 E1→StkOk R B1 E1 →
    (∀ θ,(SolB θ B1∧Sol θ E1)↔(SolB θ B∧Sol θ E))→(∀ θ,SolB θ B1→SolB θ B)→(∀ σ',SolB σ' B1→wt σ' E1+1≤wt σ' E)→(∀ rec,zw rec (a0,to,todo)=rec (a0,to1,todo1)) →
    ((∃ r,(∀ k,lp zw (k+(n+1)) (a0,to,todo)=some r)∧SameR a0 N B E r)∨∃ B' σ',Good B' σ'∧zlM B'∧(∀ θ,SolB θ B'→SolB θ B)∧n+1≤wt σ' E):=by
   intro to1 B1 σ1 todo1 E1 h1 h2 h3 h4 h5 h6 h7 h8
   rcases ih to1 B1 σ1 todo1 E1 h1 h2 h3 h4 with ⟨r,h9,h10⟩ | ⟨B',σ',h9,h10,h11,h12⟩
   ·refine .inl ⟨r,fun k => ?_,h10.via h5⟩
    rw[← Nat.add_assoc,zj,h8]
    exact h9 k
   ·have:=h7 σ' (h11 _ h9.bound)
    exact .inr ⟨B',σ',h9,h10,fun θ hθ=>h6 θ (h11 θ hθ),by omega⟩
  have stop:∀ r,SameR a0 N B E r→(∀ rec,zw rec (a0,to,todo)=some r) →
    ((∃ r,(∀ k,lp zw (k+(n+1)) (a0,to,todo)=some r)∧SameR a0 N B E r)∨∃ B' σ',Good B' σ'∧zlM B'∧(∀ θ,SolB θ B'→SolB θ B)∧n+1≤wt σ' E) :=
   fun r h1 h2=>.inl ⟨r,fun k=>by rw[← Nat.add_assoc,zj,h2],h1⟩
  rcases List.eq_nil_or_concat todo with rfl | ⟨todo',t,rfl⟩
  ·have hE:E=[]:=hP
   subst hE
   exact stop (true,a0,to) ⟨rfl,.inr ⟨rfl,B,hT,Out.done hG hT.small⟩⟩ fun rec=>rfl
  ·rw[List.concat_eq_append] at *
   obtain⟨p,d,q,e⟩:=t
   obtain⟨E',F,rfl,hP',hF⟩:=PqL.split hP
   obtain⟨⟨s,u⟩,F',rfl,⟨hps,hqu⟩,hF'⟩:=hF
   have hF':F'=[]:=hF'
   subst hF'
   have hps:Pc a0 N p d s:=hps
   have hqu:Pc a0 N q e u:=hqu
   obtain⟨p1,d1,s1,hw1,hp1,hs1,hb1⟩:=zqt hN hT hG hps
   obtain⟨q1,e1,u1,hw2,hq1,hu1,hb2⟩:=zqt hN hT hG hqu
   simp only[List.length_append,List.length_singleton] at hlen hpl
   have x1:IntKind.wrap .i64 (((List.length (todo'++[(p,d,q,e)]):Nat):Int) - 1)=((todo'.length:Nat):Int):=by
    rw[List.length_append,List.length_singleton,zp]<;>omega
   have x2:inR ((todo'.length:Nat):Int) (List.length (todo'++[(p,d,q,e)]))=some todo'.length:=yB (by simp)
   have x3:(todo'++[(p,d,q,e)])[todo'.length]? = some (p,d,q,e):=zo5 _ [] _
   have x4:(((List.length (todo'++[(p,d,q,e)]):Nat):Int)==0)=false:=by simp; omega
   have hsol:∀ θ,SolB θ B→(Sol θ (E'++[(s,u)])↔Sol θ E'∧s1.sub θ=u1.sub θ):=fun θ hθ=>by
    rw[Sol.append,Sol.cons,hs1 θ hθ,hu1 θ hθ]
    exact ⟨fun h=>⟨h.1,h.2.1⟩,fun h=>⟨h.1,h.2,Sol.nil⟩⟩
   -- one round
   have round:∀ rec,zw rec (a0,to,todo'++[(p,d,q,e)])=(gx p1 0).bind fun e34=>cond (decide (e34<0))
     ((qj p1 d1 q1 e1 a0 to).bind fun r35=>cond r35.1 (rec (r35.2.1,r35.2.2,todo')) (some (false,r35.2.1,r35.2.2)))
     ((gx q1 0).bind fun e36=>cond (decide (e36<0))
      ((qj q1 e1 p1 d1 a0 to).bind fun r37=>cond r37.1 (rec (r37.2.1,r37.2.2,todo')) (some (false,r37.2.1,r37.2.2)))
      ((gx p1 0).bind fun e38=>(gx q1 0).bind fun e39=>cond (e38 != e39) (some (false,a0,to))
       ((zcD p1 (some 1) none).bind fun y40=>(zcD q1 (some 1) none).bind fun y41=>(qC y40 d1 y41 e1 a0 to todo').bind fun r42=>rec (a0,to,r42)))):=by
    intro rec
    unfold zw
    simp only[x1,x2,x3,x4,Option.bind_some,cond_false,ztj,hw1,hw2]
   have hbind:∀{B1:Bd} {v:Nat} {w:Tm},(∀ θ,SolB θ B1↔SolB θ B∧θ v=w.sub θ)→(∀ θ,SolB θ B→(s1.sub θ=u1.sub θ↔θ v=w.sub θ))→∀ θ,(SolB θ B1∧Sol θ E')↔(SolB θ B∧Sol θ (E'++[(s,u)])):=by
    intro B1 v w h1 h2 θ
    rw[h1 θ]
    constructor
    ·rintro⟨⟨h3,h4⟩,h5⟩
     exact ⟨h3,(hsol θ h3).2 ⟨h5,(h2 θ h3).2 h4⟩⟩
    ·rintro⟨h3,h4⟩
     have h6:=(hsol θ h3).1 h4
     exact ⟨⟨h3,(h2 θ h3).1 h6.2⟩,h6.1⟩
   have hwt:∀ σ',wt σ' E'+1≤wt σ' (E'++[(s,u)]):=fun σ'=>by
    rw[znj,zCL]
    have:=(s.sub σ').size_pos
    show wt σ' E'+1≤wt σ' E'+(s.sub σ').size
    omega
   rcases hp1.cases with ⟨k1,n1,rfl,rfl,hk1,hn1,rfl⟩ | ⟨c1,r1,ts1,rfl,rfl,hc1,hr1⟩
   ·-- a variable on the left
    obtain⟨r,to1,hput,hres⟩:=zsG hN hT hG hp1 hq1 (hb1 _ rfl) hb2
    rcases hres with ⟨rfl,hno⟩ | ⟨rfl,B1,σ1,hT1,hG1,hB1⟩
    ·refine stop (false,a0,to1) ⟨rfl,.inl ⟨rfl,fun θ h1 h2=>hno θ h1 ((hsol θ h1).1 h2).2⟩⟩ fun rec => ?_
     rw[round,qf,List.getElem?_cons_zero,Option.bind_some,decide_eq_true (show -1 - (k1:Int)<0 by omega),cond_true,hput]
     rfl
    ·refine go to1 B1 σ1 todo' E' hT1 hG1 hP' (hK.left.mono fun θ h=>((hB1 θ).1 h).1) (hbind hB1 fun θ _=>Iff.rfl) (fun θ h=>((hB1 θ).1 h).1) (fun σ' _=>hwt σ') fun rec => ?_
     rw[round,qf,List.getElem?_cons_zero,Option.bind_some,decide_eq_true (show -1 - (k1:Int)<0 by omega),cond_true,hput]
     rfl
   ·rcases hq1.cases with ⟨k2,n2,rfl,rfl,hk2,hn2,rfl⟩ | ⟨c2,r2,ts2,rfl,rfl,hc2,hr2⟩
    ·obtain⟨r,to1,hput,hres⟩:=zsG hN hT hG hq1 hp1 (hb2 _ rfl) hb1
     rcases hres with ⟨rfl,hno⟩ | ⟨rfl,B1,σ1,hT1,hG1,hB1⟩
     ·refine stop (false,a0,to1) ⟨rfl,.inl ⟨rfl,fun θ h1 h2=>hno θ h1 ((hsol θ h1).1 h2).2.symm⟩⟩ fun rec => ?_
      rw[round]
      simp only[qf,List.getElem?_cons_zero,Option.bind_some]
      rw[decide_eq_false (show ¬(c1:Int)<0 by omega),cond_false,decide_eq_true (show -1 - (k2:Int)<0 by omega),cond_true,hput]
      rfl
     ·refine go to1 B1 σ1 todo' E' hT1 hG1 hP' (hK.left.mono fun θ h=>((hB1 θ).1 h).1) (hbind hB1 fun θ _=>⟨fun h=>h.symm,fun h=>h.symm⟩) (fun θ h=>((hB1 θ).1 h).1) (fun σ' _=>hwt σ') fun rec => ?_
      rw[round]
      simp only[qf,List.getElem?_cons_zero,Option.bind_some]
      rw[decide_eq_false (show ¬(c1:Int)<0 by omega),cond_false,decide_eq_true (show -1 - (k2:Int)<0 by omega),cond_true,hput]
      rfl
    ·by_cases hcc:c1=c2
     ·subst hcc
      have hl:ts1.length=ts2.length:=by rw[hc1] at hc2; injection hc2
      have hl3:ts1.length≤3:=zkA hs hc1
      obtain⟨more,hm1,hm2⟩:=znZ hs hr1 hr2 hl to (out:=todo') (by omega)
      refine go to B σ (todo'++more) (E'++ts1.zip ts2) hT hG (hP'.append hm2) ?_ ?_ (fun _ h=>h) ?_ fun rec => ?_
      ·intro i e hi
       rcases Nat.lt_or_ge i E'.length with hlt | hge
       ·rw[List.getElem?_append_left hlt] at hi
        exact hK.left i e hi
       ·rw[List.getElem?_append_right hge] at hi
        have hi3:i - E'.length<3:=by
         have:=(List.getElem?_eq_some_iff.1 hi).1
         rw[List.length_zip] at this
         omega
        obtain⟨δ,h1,h2⟩:=hK E'.length (s,u) (by rw[List.getElem?_append_right (Nat.le_refl _),Nat.sub_self]; rfl)
        refine ⟨δ+1,by omega,fun θ hθ => ?_⟩
        obtain⟨c,hc,h3⟩:=h2 θ hθ
        refine ⟨c,hc,?_⟩
        have h3:δ+(s.sub θ).ht≤(c.sub θ).ht:=h3
        rw[hs1 θ hθ] at h3
        have h4:e.1∈ts1:=(List.of_mem_zip (a:=e.1) (b:=e.2) (List.mem_of_getElem? hi)).1
        have h5:(e.1.sub θ).ht≤htR (zaU θ ts1):=zrE (by rw[zh2]; exact List.mem_map_of_mem h4)
        have h6:((Tm.f c1 ts1).sub θ).ht=htR (zaU θ ts1)+1:=rfl
        omega
      ·intro θ
       rw[Sol.append,Sol.zip hl]
       constructor
       ·rintro⟨h1,h2,h3⟩
        exact ⟨h1,(hsol θ h1).2 ⟨h2,zHU.2 ⟨rfl,h3⟩⟩⟩
       ·rintro⟨h1,h2⟩
        have h3:=(hsol θ h1).1 h2
        exact ⟨h1,h3.1,(zHU.1 h3.2).2⟩
      ·intro σ' hσ'
       rw[znj,znj,zCL,zyF σ' hl]
       show _≤wt σ' E'+(s.sub σ').size
       rw[hs1 σ' hσ']
       show _≤wt σ' E'+(zaC (zaU σ' ts1)+1)
       omega
      ·rw[round]
       simp only[qf,List.getElem?_cons_zero,Option.bind_some]
       rw[decide_eq_false (show ¬(c1:Int)<0 by omega),cond_false,cond_false,show ((c1:Int) != (c1:Int))=false from by simp,cond_false,zcM,Option.bind_some,zcM,Option.bind_some,hm1]
       rfl
     ·refine stop (false,a0,to) ⟨rfl,.inl ⟨rfl,fun θ h1 h2=>hcc (zHU.1 ((hsol θ h1).1 h2).2).1⟩⟩ fun rec => ?_
      rw[round]
      simp only[qf,List.getElem?_cons_zero,Option.bind_some]
      rw[decide_eq_false (show ¬(c1:Int)<0 by omega),cond_false,decide_eq_false (show ¬(c2:Int)<0 by omega),cond_false,show ((c1:Int) != (c2:Int))=true from by simp; omega,cond_true]
theorem zwv {a0:List zi} (hs:SignOk a0) {N:Nat} (hN:N≤24) {to:List PO} {B:Bd} {σ:Sb} (hT:RepT a0 N to B) (hG:Good B σ) {p q:List Int} {d e:Int} {ts us:List Tm} (hp:Pr a0 N p d ts) (hq:Pr a0 N q e us) (hl:ts.length=us.length) :
  ∃ r,za6 p d q e a0 to=some r∧SameR a0 N B (ts.zip us) r:=by
 have eta:∀ o:Option (Bool×List zi×List PO),(o.bind fun r=>some (r.1,r.2.1,r.2.2))=o:=fun o=>by cases o<;>rfl
 obtain⟨more,hm1,hm2⟩:=znZ hs hp hq hl to (out:=[]) (by simp)
 have e0:za6 p d q e a0 to=lp zw (zd+1) (a0,to,more):=by
  unfold za6
  rw[hm1,Option.bind_some,zj,List.nil_append]
  generalize lp zw zd=rec
  unfold zw
  simp only[eta]
 have hsz:∀ c∈ts,c.size≤48:=fun c hc=>by
  obtain⟨us0,n,h1,rfl,h2,h3,rfl,h4⟩:=hp
  obtain⟨c0,h5,rfl⟩:=List.mem_map.1 hc
  rw[Tm.up_size,← Tm.codes_len]
  exact Nat.le_trans (zfc h5) h4
 have hlen:ts.length≤48:=by
  obtain⟨us0,n,h1,rfl,h2,h3,rfl,h4⟩:=hp
  have:=zeW (z1 us0 h1)
  rw[List.length_map] at this ⊢
  omega
 have hK:StkOk ts B (ts.zip us):=fun i x hi=>by
  have hi0:=(List.getElem?_eq_some_iff.1 hi).1
  rw[List.length_zip] at hi0
  exact ⟨0,by omega,fun θ _=>⟨x.1,(List.of_mem_zip (a:=x.1) (b:=x.2) (List.mem_of_getElem? hi)).1,by omega⟩⟩
 rw[e0]
 rcases zzL hs hN ts hsz (48*(48*48 ^ 49)+1) to B σ more (ts.zip us) hT hG hm2 hK with ⟨r,h1,h2⟩ | ⟨B',σ',h1,h2,h3,h4⟩
 ·have:=h1 (zd+1 - (48*(48*48 ^ 49)+1))
  rw[show zd+1 - (48*(48*48 ^ 49)+1)+(48*(48*48 ^ 49)+1)=zd+1 from by unfold zd; omega] at this
  exact ⟨r,this,h2⟩
 ·exfalso
  rw[zyF σ' hl,zh2,zpt,List.map_map] at h4
  have h5:∀ l:List Tm,(∀ c∈l,c.size≤48)→(l.map (Tm.size ∘ Tm.sub σ')).sum≤l.length*(48*48 ^ 49):=by
   intro l
   induction l with
   | nil=>intro _; simp
   | cons c l ih =>
    intro h
    have h6:=ih fun c hc=>h c (List.mem_cons_of_mem _ hc)
    have h7:=h1.small_sub h2 c
    have h8:=h c (List.mem_cons_self ..)
    have h9:c.size*48 ^ 49≤48*48 ^ 49:=Nat.mul_le_mul_right _ h8
    simp only[List.map_cons,List.sum_cons,List.length_cons,Function.comp_apply]
    rw[Nat.add_mul,Nat.one_mul]
    omega
  have h6:=h5 ts hsz
  have h7:ts.length*(48*48 ^ 49)≤48*(48*48 ^ 49):=Nat.mul_le_mul_right _ hlen
  omega
end
end Go.Abs.Q
namespace Go.Abs.Q
open Go Go.Abs
section
def zhC (s:Sb) (c:Int):List Int:=if c<0 then (s (-1 - c).toNat).codes else [c]
mutual
theorem Tm.codes_sub (s:Sb):(t:Tm)→(t.sub s).codes=t.codes.flatMap (zhC s)
 | .v n=>by
  show (s n).codes=[-1 - (n:Int)].flatMap (zhC s)
  simp only[List.flatMap_cons,List.flatMap_nil,List.append_nil,zhC]
  rw[if_pos (by omega),show (-1 - (-1 - (n:Int))).toNat=n from by omega]
 | .f c as=>by
  show (c:Int)::za (zaU s as)=((c:Int)::za as).flatMap (zhC s)
  rw[List.flatMap_cons,zff s as]
  unfold zhC
  rw[if_neg (by omega)]
  rfl
theorem zff (s:Sb):(ts:List Tm)→za (zaU s ts)=(za ts).flatMap (zhC s)
 | []=>rfl
 | t::ts=>by
  show (t.sub s).codes++za (zaU s ts)=(t.codes++za ts).flatMap (zhC s)
  rw[Tm.codes_sub s t,zff s ts,List.flatMap_append]
end
theorem zoB {k:Nat} (hk:k<24) (p:Option jI):zal p 0 (-1 - (k:Int))=some (k:Int):=by
 unfold zal
 rw[zbg (by omega) (by omega),Option.bind_some]
 congr 1
 rw[zp]<;>omega
section
variable {a0:List zi} {to:List PO} {B:Bd} {σ:Sb}
def zE3 (o:List Int):Option jI:=if o.length≤48 then some o else none
theorem zrB (hT:RepT a0 0 to B) (hG:Good B σ) (p:List Int) (hp48:p.length≤48) (rf:((Option jI)×Int×jS×(List PO))→Option (Option jI))
  (hrf:∀(y:Nat) q d u,(-1 - (y:Int))∈p→to[y]? = some (some q,d)→B y=some u→rf (some q,d,a0,to)=some (zE3 (u.sub σ).codes)):∀(es:List Int) (i k:Nat) (out:List Int),p.drop i=es→es.length<k→(∀ c∈es,-24≤c)→out.length≤48 →
  lp (yI rf) k (some p,((p.length:Nat):Int),(i:Int),a0,to,some p,0,out)=some (if out.length+(es.flatMap (zhC σ)).length≤48 then .inl (out++es.flatMap (zhC σ)) else .inr ()):=by
 intro es
 induction es with
 | nil =>
  intro i k out h hk _ ho
  obtain⟨k,rfl⟩:∃ k',k=k'+1:=⟨k - 1,by simp at hk; omega⟩
  rw[zj]
  generalize lp (yI rf) k=rec
  unfold yI
  have hi:p.length≤i:=by
   have:=congrArg List.length h
   simp at this; omega
  rw[decide_eq_false (show ¬((i:Int)<((p.length:Nat):Int)) by omega),cond_false]
  simp [ho]
 | cons c es ih =>
  intro i k out h hk hc ho
  obtain⟨k,rfl⟩:∃ k',k=k'+1:=⟨k - 1,by simp at hk; omega⟩
  rw[zj]
  have key:=fun out' ho'=>ih (i+1) k out' (ze h) (by simp at hk; omega) (fun c h=>hc c (List.mem_cons_of_mem _ h)) ho'
  generalize lp (yI rf) k=rec at key ⊢
  unfold yI
  have hget:=zh h
  have hi:i<p.length:=(List.getElem?_eq_some_iff.1 hget).1
  have hmem:c∈p:=List.mem_of_getElem? hget
  have hw:IntKind.wrap .i64 ((i:Int)+1)=((i+1:Nat):Int):=by rw[zp]<;>omega
  rw[decide_eq_true (show ((i:Int)<((p.length:Nat):Int)) by omega),cond_true]
  simp only[Option.getD_some,yx,hget,Option.bind_some,hw]
  -- one code that stays
  have stay:zhC σ c=[c]→(((nn ([c]:List Int)).bind fun _=>some false).bind fun z=>cond z (some (Sum.inr ()))
    (cond (decide ((IntKind.wrap .i64 (((List.length out:Nat):Int)+((List.length ([c]:List Int):Nat):Int)))>48)) (some (Sum.inr ()))
     (cond (yQ (List.length out+List.length ([c]:List Int)) 8) (rec (some p,((p.length:Nat):Int),((i+1:Nat):Int),a0,to,some p,0,(out++([c]:List Int)))) none))) =
    some (if out.length+((c::es).flatMap (zhC σ)).length≤48 then .inl (out++(c::es).flatMap (zhC σ)) else .inr ()):=by
   intro he
   have e1:(nn ([c]:List Int))=some [c]:=rfl
   rw[e1,List.flatMap_cons,he]
   have w2:IntKind.wrap .i64 (((List.length out:Nat):Int)+((List.length ([c]:List Int):Nat):Int))=((out.length+1:Nat):Int):=by
    rw[zp]<;>simp only[List.length_singleton]<;>omega
   simp only[Option.bind_some,cond_false,w2]
   simp only[List.length_append,List.length_singleton]
   by_cases h48:out.length+1≤48
   ·rw[decide_eq_false (show ¬(((out.length+1:Nat):Int)>48) by omega),cond_false,zq (by omega),cond_true,key _ (by simp; omega)]
    simp only[List.length_append,List.length_singleton,List.append_assoc]
    have:out.length+1+(es.flatMap (zhC σ)).length=out.length+(1+(es.flatMap (zhC σ)).length):=by omega
    rw[this]
   ·rw[decide_eq_true (show (((out.length+1:Nat):Int)>48) by omega),cond_true,if_neg (by omega)]
  by_cases h0:c<0
  ·obtain⟨y,hy,rfl⟩:∃ y:Nat,y<24∧c = -1 - (y:Int):=⟨(-1 - c).toNat,by have:=hc c (List.mem_cons_self ..); omega,by omega⟩
   rw[decide_eq_true h0,cond_true,zoB hy,Option.bind_some,yB (show y<48 by omega),Option.bind_some]
   obtain⟨e,he,hpe⟩:=hT.get (x:=y) (by omega)
   rw[he,Option.bind_some]
   have hexp:zhC σ (-1 - (y:Int))=(σ y).codes:=by
    unfold zhC
    rw[if_pos h0,show (-1 - (-1 - (y:Int))).toNat=y from by omega]
   unfold PcO at hpe
   split at hpe
   ·rename_i h1
    rw[h1]
    simp only[Option.isNone_none,Bool.not_true,cond_false]
    exact stay (by rw[hexp,hG.free y hpe]; rfl)
   ·rename_i q h1
    obtain⟨u,hu,hq⟩:=hpe
    rw[h1]
    simp only[Option.isNone_some,Bool.not_false,cond_true,zoB hy,Option.bind_some,yB (show y<48 by omega),he]
    rw[h1,hrf y q e.2 u hmem (by rw[he,← h1]) hu,Option.bind_some]
    rw[List.flatMap_cons,hexp,hG.bound y u hu]
    unfold zE3
    by_cases hsz:(u.sub σ).codes.length≤48
    ·rw[if_pos hsz]
     have w2:IntKind.wrap .i64 (((List.length out:Nat):Int)+(((u.sub σ).codes.length:Nat):Int))=((out.length+(u.sub σ).codes.length:Nat):Int):=by
      rw[zp]<;>omega
     simp only[Option.isNone_some,cond_false,Option.getD_some,w2]
     simp only[List.length_append]
     by_cases h48:out.length+(u.sub σ).codes.length≤48
     ·rw[decide_eq_false (show ¬(((out.length+(u.sub σ).codes.length:Nat):Int)>48) by omega),cond_false,zq (by omega),cond_true,key _ (by simp; omega)]
      simp only[List.length_append,List.append_assoc]
      rw[Nat.add_assoc]
     ·rw[decide_eq_true (show (((out.length+(u.sub σ).codes.length:Nat):Int)>48) by omega),cond_true,if_neg (by omega)]
    ·rw[if_neg hsz]
     simp only[Option.isNone_none,cond_true,List.length_append]
     rw[if_neg (by omega)]
  ·rw[decide_eq_false h0,cond_false]
   exact stay (by unfold zhC; rw[if_neg h0])
theorem zvg (hT:RepT a0 0 to B) (hG:Good B σ):∀(k m:Nat) (p:List Int) (d:Int) (t:Tm),Pc a0 0 p d t→(∀ y,t.has y→B y≠none→Good.rank σ y<m)→m<k →
  qF k (some p,d,a0,to)=some (zE3 (t.sub σ).codes):=by
 intro k
 induction k with
 | zero=>intro m p d t _ _ h; omega
 | succ k ih =>
  intro m p d t hp hm hk
  obtain⟨u,n,h1,rfl,rfl,h2,rfl,h3⟩:=hp
  have hn:n=0:=by omega
  subst hn
  rw[Tm.up_zero] at hm ⊢
  have hsmall:∀ c∈u.codes,-24≤c:=fun c hc=>by
   by_cases h0:c<0
   ·have:=Tm.ok_has u h1 ((Tm.mem_codes h0 u).1 hc); omega
   ·omega
  show zeb (qF k) (some u.codes) ((0:Nat):Int) a0 to=_
  unfold zeb
  have hr:=zrB hT hG u.codes h3 (qF k) (fun y q d w hy hto hw=>by
   have hyu:u.has y:=by
    have:=(Tm.mem_codes (by omega) u).1 hy
    rwa [show (-1 - (-1 - (y:Int))).toNat=y from by omega] at this
   have hpc:Pc a0 0 q d w:=by
    have:=hT.at_ y _ hto
    obtain⟨t',h5,h6⟩:=(show ∃ t,B y=some t∧Pc a0 0 q d t from this)
    rw[hw] at h5; injection h5 with h5; subst h5
    exact h6
   have hlt:=hm y hyu (by rw[hw]; simp)
   exact ih (Good.rank σ y) q d w hpc (fun z hz hb=>hG.rank_lt hw hz (by
    cases hbz:B z with
    | none=>exact absurd hbz hb
    | some x=>exact (hT.small z x hbz).1)) (by omega)) u.codes 0 zd [] rfl (by unfold zd; omega) hsmall (by simp)
  simp only[Option.getD_some]
  have hr:lp (yI (qF k)) zd (some u.codes,((u.codes.length:Nat):Int),0,a0,to,some u.codes,((0:Nat):Int),[])=_:=hr
  rw[hr,← Tm.codes_sub]
  unfold zE3
  have hne:nn (u.sub σ).codes=some (u.sub σ).codes:=zkT fun e=>by
   have:=congrArg List.length e
   rw[Tm.codes_len] at this
   have:=(u.sub σ).size_pos
   simp at *; omega
  by_cases h48:(u.sub σ).codes.length≤48
  ·simp only[List.length_nil,Nat.zero_add,List.nil_append]
   rw[if_pos h48,if_pos h48]
   simp only[Option.bind_some,zb1,hne]
  ·simp only[List.length_nil,Nat.zero_add]
   rw[if_neg h48,if_neg h48]
   rfl
theorem zuY (hT:RepT a0 0 to B) (hG:Good B σ) {p:List Int} {d:Int} {t:Tm} (hp:Pc a0 0 p d t):zfF (some p) d a0 to=some (zE3 (t.sub σ).codes):=by
 refine zvg hT hG zd 49 p d t hp (fun y _ _ => ?_) (by unfold zd; omega)
 have:=Good.rank_le σ y
 omega
def zuc (B:Bd) (v:Nat):Bool:=(B v).isSome
def zb4 (B:Bd) (σ:Sb) (vs:List Nat):List (Int×List Int):=(vs.filter (zuc B)).map fun v:Nat=>((v:Int),(σ v).codes)
def zaH (σ:Sb) (vs:List Nat):Bool:=vs.all fun x=>decide ((σ x).size≤48)
theorem zr9 (hT:RepT a0 0 to B) (hG:Good B σ):∀(m v k:Nat) (out:List (Int×List Int)),24 - v=m→v≤24→m<k→out.length≤v →
  lp zbr k ((v:Int),a0,to,out)=some (cond (zaH σ ((List.range 24).drop v)) (.inl (out++zb4 B σ ((List.range 24).drop v))) (.inr (false,401))):=by
 intro m
 induction m with
 | zero =>
  intro v k out hm hv hk ho
  obtain⟨k,rfl⟩:∃ k',k=k'+1:=⟨k - 1,by omega⟩
  rw[zj]
  generalize lp zbr k=rec
  unfold zbr
  have:v=24:=by omega
  subst this
  rw[show (List.range 24).drop 24=[] from rfl]
  simp [zb4,zaH]
 | succ m ih =>
  intro v k out hm hv hk ho
  obtain⟨k,rfl⟩:∃ k',k=k'+1:=⟨k - 1,by omega⟩
  rw[zj]
  have key:=fun out' ho'=>ih (v+1) k out' (by omega) (by omega) (by omega) ho'
  generalize lp zbr k=rec at key ⊢
  unfold zbr
  have w:IntKind.wrap .i64 ((v:Int)+1)=((v+1:Nat):Int):=by rw[zp]<;>omega
  obtain⟨e,he,hpe⟩:=hT.get (x:=v) (by omega)
  have hdr:(List.range 24).drop v=v::(List.range 24).drop (v+1):=by
   rw[List.drop_eq_getElem_cons (by simp; omega)]
   simp
  simp only[decide_eq_true (show (v:Int)<24 by omega),cond_true,yB (show v<48 by omega),Option.bind_some,he,w]
  rw[hdr]
  unfold PcO at hpe
  split at hpe
  ·rename_i h1
   rw[h1]
   simp only[Option.isNone_none,cond_true]
   rw[key out (by omega)]
   have hs:(σ v).size≤48:=by rw[hG.free v hpe]; simp [Tm.size]
   have hb:zuc B v=false:=by simp [zuc,hpe]
   simp [zb4,zaH,hb,hs]
  ·rename_i q h1
   obtain⟨u,hu,hq⟩:=hpe
   rw[h1]
   simp only[Option.isNone_some,cond_false]
   rw[zuY hT hG hq,Option.bind_some,← hG.bound v u hu]
   unfold zE3
   rw[Tm.codes_len]
   by_cases hs:(σ v).size≤48
   ·rw[if_pos hs]
    simp only[Option.isNone_some,cond_false,Option.getD_some]
    rw[zeJ (by rw[Tm.codes_len]; omega),Option.bind_some,zq (by simp only[List.length_singleton]; omega),cond_true,key _ (by simp only[List.length_append,List.length_singleton]; omega)]
    have hb:zuc B v=true:=by simp [zuc,hu]
    simp [zb4,zaH,hb,hs]
   ·rw[if_neg hs]
    simp only[Option.isNone_none,cond_true]
    simp [zaH,hs]
end
structure Mgu (σ:Sb) (E:List (Tm×Tm)):Prop where
 sol:Sol σ E
 gen:∀ θ,Sol θ E→∀ x,(σ x).sub θ=θ x
 le:∀ x y,σ x = .v y→y≤x
 idem:∀ x,(σ x).sub σ=σ x
theorem Mgu.of {B:Bd} {σ:Sb} {E:List (Tm×Tm)} (hG:Good B σ) (h:∀ θ,SolB θ B↔SolB θ (fun _=>none)∧Sol θ E):Mgu σ E where
 sol:=((h σ).1 hG.bound).2
 gen:=fun θ hθ=>hG.fac ((h θ).2 ⟨fun _ _ h=>(nomatch h),hθ⟩)
 le:=hG.le
 idem:=fun x=>by rw[← hG.fac hG.bound x]; exact hG.idem _
theorem Mgu.unique {σ σ':Sb} {E:List (Tm×Tm)} (h:Mgu σ E) (h':Mgu σ' E):σ=σ':=by
 have f1:∀ x,(σ x).sub σ'=σ' x:=h.gen σ' h'.sol
 have f2:∀ x,(σ' x).sub σ=σ x:=h'.gen σ h.sol
 have root:∀ y,σ y = .v y→σ' y = .v y:=by
  intro y hy
  have h1:(σ' y).sub σ = .v y:=by rw[f2,hy]
  cases hz:σ' y with
  | f c as=>rw[hz] at h1; cases h1
  | v z =>
   rw[hz] at h1
   have h2:=h'.le y z hz
   have h3:=h.le z y h1
   have:z=y:=by omega
   rw[this]
 have fix:∀ t:Tm,t.sub σ=t→∀ y,t.has y→σ y = .v y:=by
  intro t
  have key:∀ n,(∀ t:Tm,t.size≤n→t.sub σ=t→∀ y,t.has y→σ y = .v y)∧∀ ts:List Tm,zaC ts≤n→zaU σ ts=ts→∀ y,zjz y ts→σ y = .v y:=by
   intro n
   induction n with
   | zero =>
    refine ⟨fun t ht=>absurd t.size_pos (by omega),fun ts hts he y hy => ?_⟩
    cases ts with
    | nil=>exact hy.elim
    | cons t ts=>have:=t.size_pos; simp only[zaC] at hts; omega
   | succ n ih =>
    have h1:∀ t:Tm,t.size≤n+1→t.sub σ=t→∀ y,t.has y→σ y = .v y:=by
     intro t ht he y hy
     cases t with
     | v z =>
      have hy:z=y:=hy
      subst hy
      exact he
     | f c as =>
      have he:Tm.f c (zaU σ as)=Tm.f c as:=he
      injection he with _ he
      simp only[Tm.size] at ht
      exact ih.2 as (by omega) he y hy
    refine ⟨h1,fun ts => ?_⟩
    induction ts with
    | nil=>intro _ _ y hy; exact hy.elim
    | cons t ts iht =>
     intro hts he y hy
     have he:t.sub σ::zaU σ ts=t::ts:=he
     injection he with he1 he2
     simp only[zaC] at hts
     have:=t.size_pos
     rcases hy with hy | hy
     ·exact h1 t (by omega) he1 y hy
     ·exact ih.2 ts (by omega) he2 y hy
  exact (key t.size).1 t (Nat.le_refl _)
 funext x
 rw[← f1 x]
 conv=>lhs; rw[← Tm.sub_v (σ x)]
 exact Tm.sub_ext _ fun y hy=>(root y (fix _ (h.idem x) y hy)).symm
def moved (σ:Sb) (v:Nat):Bool:=match σ v with
 | .v y => !(y==v)
 | .f _ _=>true
theorem zxx {B:Bd} {σ:Sb} (h:Good B σ) (v:Nat):zuc B v=moved σ v:=by
 have:=h.moved (x:=v)
 unfold zuc moved
 cases hb:B v with
 | none =>
  rw[h.free v hb]
  simp
 | some t =>
  have h1:=this.1 (by rw[hb]; simp)
  cases hs:σ v with
  | f c as=>rfl
  | v y =>
   rw[hs] at h1
   have:y≠v:=fun e=>h1 (by rw[e])
   simp [this]
def zeu (σ:Sb):List (Int×List Int):=((List.range 24).filter (moved σ)).map fun v:Nat=>((v:Int),(σ v).codes)
theorem zJO (a0:List zi) (N:Nat):RepT a0 N to0 (fun _=>none) where
 len:=by simp [to0]
 at_:=fun x e h=>by
  have hx:x<48:=by
   have:=(List.getElem?_eq_some_iff.1 h).1
   simpa[to0] using this
  rw[zD1 hx] at h
  injection h with h
  rw[← h]
  rfl
 out:=fun _ _=>rfl
theorem zoi {a0:List zi} {xs ys:List Int} {ts us:List Tm} (hs:SignOk a0) (hx:xs=za ts) (hy:ys=za us) (ht:okR a0 24 ts) (hu:okR a0 24 us) (hb:zdp a0=true) (hlx:xs.length≤48) (hly:ys.length≤48) :
  (zdZ a0 xs ys=some (false,0,[])∧(ts.length≠us.length∨∀ θ,¬ Sol θ (ts.zip us))) ∨
  (ts.length=us.length∧∃ σ,Mgu σ (ts.zip us)∧(∀ x,x<24→(σ x).ok a0 24)∧zdZ a0 xs ys=some (cond (zaH σ (List.range 24)) (true,0,zeu σ) (false,401,[]))):=by
 have hr:∀{zs:List Int} {ws:List Tm},zs=za ws→okR a0 24 ws→zs.length≤48→zhG a0 zs=some ws.length:=by
  intro zs ws h1 h2 h3
  unfold zhG zbS
  rw[hb,decide_eq_true h3,h1,z1 ws h2]
  simp
 unfold zdZ
 rw[zg0,hr hx ht hlx,Option.bind_some,zg0,hr hy hu hly,Option.bind_some]
 simp only
 rw[show ((0:Int) != 0)=false from rfl,cond_false,cond_false]
 by_cases hl:ts.length=us.length
 ·rw[hl,show (((us.length:Nat):Int) != ((us.length:Nat):Int))=false from by simp,cond_false]
  obtain⟨r,h1,h2,h3⟩:=zwv hs (N:=0) (by omega) (zJO a0 0) Good.empty (p:=xs) (q:=ys) (d:=0) (e:=0) (ts:=ts) (us:=us)
   ⟨ts,0,ht,hx,rfl,Nat.le_refl _,by rw[show Tm.up 0=id from funext Tm.up_zero,List.map_id],hlx⟩ ⟨us,0,hu,hy,rfl,Nat.le_refl _,by rw[show Tm.up 0=id from funext Tm.up_zero,List.map_id],hly⟩ hl
  have h1:za6 xs 0 ys 0 a0 (List.replicate 48 ((none:Option jI),(0:Int)))=some r:=h1
  rw[h1,Option.bind_some]
  rcases h3 with ⟨h3,h4⟩ | ⟨h3,B',h4,⟨σ,h5⟩,-,h6⟩
  ·rw[h3]
   exact .inl ⟨rfl,.inr fun θ h=>h4 θ (fun _ _ h=>(nomatch h)) h⟩
  ·rw[h3]
   have hok:∀ x,x<24→(σ x).ok a0 24:=by
    refine h5.ind (fun x hx hlt=>by rw[h5.free x hx]; exact hlt) fun x t hx ih _ => ?_
    have hto:Pc a0 0 t.codes 0 t:=by
     obtain⟨e,he,hpe⟩:=h4.get (x:=x) (h4.small x t hx).1
     unfold PcO at hpe
     split at hpe
     ·rw[hx] at hpe; cases hpe
     ·obtain⟨u,hu,hq⟩:=hpe
      rw[hx] at hu; injection hu with hu; subst hu
      obtain⟨u0,n,g1,g2,g3,g4,g5,g6⟩:=hq
      have:n=0:=by omega
      subst this
      rw[Tm.up_zero] at g5
      subst g5
      exact ⟨t,0,g1,rfl,rfl,Nat.le_refl _,(Tm.up_zero t).symm,by rw[← g2]; exact g6⟩
    obtain⟨u0,n,g1,g2,g3,g4,g5,g6⟩:=hto
    have:n=0:=by omega
    subst this
    rw[Tm.up_zero] at g5
    subst g5
    rw[h5.bound x t hx]
    exact Tm.ok_sub t g1 fun y hy=>ih y hy (Tm.ok_has t g1 hy)
   refine .inr ⟨rfl,σ,Mgu.of h5 h6,hok,?_⟩
   simp only[Bool.not_true,cond_false]
   have:=zr9 (a0:=r.2.1) (by rw[h2]; exact h4) h5 24 0 zd [] rfl (by omega) (by unfold zd; omega) (by simp)
   rw[show ((0:Nat):Int)=0 from rfl] at this
   rw[this,List.drop_zero]
   have he:zb4 B' σ (List.range 24)=zeu σ:=by
    unfold zb4 zeu
    rw[show zuc B'=moved σ from funext (zxx h5)]
   cases zaH σ (List.range 24) with
   | true=>simp only[cond_true,Option.bind_some,zb1,List.nil_append,he]
   | false=>rfl
 ·rw[show (((ts.length:Nat):Int) != ((us.length:Nat):Int))=true from by simp; omega,cond_true]
  exact .inl ⟨rfl,.inl hl⟩
end
end Go.Abs.Q
namespace Go.Abs.Q
open Go Go.Abs
section
theorem zwG {n:Int} (h1:0≤n) (h2:n≤9223372036854775807):IntKind.wrap .u64 n=n:=by
 simp [IntKind.wrap,IntKind.signed,IntKind.bits]
 omega
theorem zGH {l h:Nat} (hl:l+h≤1000000000):IntKind.wrap .i64 (Int.fdiv (IntKind.wrap .u64 (IntKind.wrap .i64 ((l:Int)+(h:Int)))) (2 ^ min (Int.toNat 1) (IntKind.bits .u64)))=(((l+h) / 2:Nat):Int):=by
 rw[zp (n:=(l:Int)+(h:Int)) (by omega) (by omega),zwG (by omega) (by omega)]
 have:(2:Int) ^ min (Int.toNat 1) (IntKind.bits .u64)=2:=by decide
 rw[this,Int.fdiv_eq_ediv_of_nonneg _ (by omega)]
 rw[zp]<;>omega
theorem zry (a b:Int):zl7 a b=some (decide (a<b)):=by
 unfold zl7 zjY
 simp
abbrev Rise (xs:List Int):Prop:=xs.Pairwise (· < ·)
theorem Rise.lt {xs:List Int} (h:Rise xs) {i j:Nat} {x y:Int} (hi:xs[i]? = some x) (hj:xs[j]? = some y) (hij:i<j):x<y:=by
 obtain⟨h1,rfl⟩:=List.getElem?_eq_some_iff.1 hi
 obtain⟨h2,rfl⟩:=List.getElem?_eq_some_iff.1 hj
 exact List.pairwise_iff_getElem.1 h i j h1 h2 hij
theorem zAF {xs:List Int} (h:Rise xs) (hl:xs.length≤1000000) (t:Int) (z:Int):∀(m l r k:Nat),r - l=m→l≤r→r≤xs.length→m<k→(∀(i:Nat) x,xs[i]? = some x→i<l→x<t)→(∀(i:Nat) x,xs[i]? = some x→r≤i→t≤x) →
  ∃ q:Nat,lp yK k (xs,t,z,(l:Int),(r:Int))=some (q:Int)∧q≤xs.length∧(∀(i:Nat) x,xs[i]? = some x→i<q→x<t)∧∀(i:Nat) x,xs[i]? = some x→q≤i→t≤x:=by
 intro m
 induction m using Nat.strongRecOn with
 | _ m ih =>
  intro l r k hm hlr hr hk h1 h2
  obtain⟨k,rfl⟩:∃ k',k=k'+1:=⟨k - 1,by omega⟩
  rw[zj]
  have key:=fun l r (h3:r - l<m) h4 h5 h6 h7=>ih (r - l) h3 l r k rfl h4 h5 (by omega) h6 h7
  generalize lp yK k=rec at key ⊢
  unfold yK
  by_cases hlt:l<r
  ·have hml:(l+r) / 2<xs.length:=by omega
   simp only[decide_eq_true (show (l:Int)<(r:Int) by omega),cond_true,zGH (show l+r≤1000000000 by omega),yx,List.getElem?_eq_getElem hml,Option.bind_some,zry]
   have hget:=List.getElem?_eq_getElem hml
   have w:IntKind.wrap .i64 ((((l+r) / 2:Nat):Int)+1)=(((l+r) / 2+1:Nat):Int):=by rw[zp]<;>omega
   by_cases hc:xs[(l+r) / 2]<t
   ·rw[decide_eq_true hc,cond_true,w]
    refine key ((l+r) / 2+1) r (by omega) (by omega) hr (fun i x hi hil => ?_) h2
    rcases Nat.lt_or_ge i ((l+r) / 2) with hi2 | hi2
    ·have:=h.lt hi hget hi2; omega
    ·have:i=(l+r) / 2:=by omega
     subst this
     rw[hget] at hi; injection hi with hi; omega
   ·rw[decide_eq_false hc,cond_false]
    refine key l ((l+r) / 2) (by omega) (by omega) (by omega) h1 (fun i x hi hil => ?_)
    rcases Nat.lt_or_ge ((l+r) / 2) i with hi2 | hi2
    ·have:=h.lt hget hi hi2; omega
    ·have:i=(l+r) / 2:=by omega
     subst this
     rw[hget] at hi; injection hi with hi; omega
  ·rw[decide_eq_false (show ¬((l:Int)<(r:Int)) by omega),cond_false]
   have:l=r:=by omega
   subst this
   exact ⟨l,rfl,hr,h1,h2⟩
theorem zEn {xs:List Int} (h:Rise xs) (hl:xs.length≤1000000) (t:Int):∃(q:Nat) (b:Bool),zaG xs t=some ((q:Int),b)∧q≤xs.length∧(∀(i:Nat) x,xs[i]? = some x→i<q→x<t)∧(∀(i:Nat) x,xs[i]? = some x→q≤i→t≤x)∧(b=true↔t∈xs):=by
 obtain⟨q,h1,h2,h3,h4⟩:=zAF h hl t ((xs.length:Nat):Int) xs.length 0 xs.length zd rfl (Nat.zero_le _) (Nat.le_refl _) (by unfold zd; omega) (fun i x _ h=>by omega) (fun i x hi h=>by
  have:=(List.getElem?_eq_some_iff.1 hi).1; omega)
 have h1:lp yK zd (xs,t,((xs.length:Nat):Int),0,((xs.length:Nat):Int))=some (q:Int):=h1
 unfold zaG
 rw[h1,Option.bind_some]
 by_cases hq:q<xs.length
 ·rw[decide_eq_true (show ((q:Int)<((xs.length:Nat):Int)) by omega),cond_true,yx,List.getElem?_eq_getElem hq,Option.bind_some]
  have hget:=List.getElem?_eq_getElem hq
  by_cases he:xs[q]=t
  ·rw[show (xs[q]==t)=true from by simp [he],cond_true]
   exact ⟨q,true,rfl,h2,h3,h4,by simp only[true_iff]; rw[← he]; exact List.getElem_mem hq⟩
  ·rw[show (xs[q]==t)=false from by simp [he],cond_false,Option.bind_some]
   have hn:zeD xs[q]=some false:=by unfold zeD; simp
   rw[hn,Option.bind_some,cond_false]
   refine ⟨q,false,rfl,h2,h3,h4,?_⟩
   constructor
   ·intro h; cases h
   ·intro hm
    exfalso
    obtain⟨i,hi⟩:=List.mem_iff_getElem?.1 hm
    rcases Nat.lt_trichotomy i q with h5 | h5 | h5
    ·have:=h3 i t hi h5; omega
    ·subst h5; rw[hget] at hi; injection hi with hi; exact he hi
    ·have:=h.lt hget hi h5
     have:=h4 q _ hget (Nat.le_refl _)
     omega
 ·rw[decide_eq_false (show ¬((q:Int)<((xs.length:Nat):Int)) by omega),cond_false]
  refine ⟨q,false,rfl,h2,h3,h4,?_⟩
  constructor
  ·intro h; cases h
  ·intro hm
   exfalso
   obtain⟨i,hi⟩:=List.mem_iff_getElem?.1 hm
   have:=h3 i t hi (by have:=(List.getElem?_eq_some_iff.1 hi).1; omega)
   omega
theorem zse {xs:List Int} (h:Rise xs) {q:Nat} {t:Int} (hq:q≤xs.length) (h1:∀(i:Nat) x,xs[i]? = some x→i<q→x<t) (h2:∀(i:Nat) x,xs[i]? = some x→q≤i→t≤x) (h3:t∉xs):Rise (ziv xs q [t]):=by
 unfold ziv Rise
 have ht:∀ x∈xs.take q,x<t:=fun x hx=>by
  obtain⟨i,hi⟩:=List.mem_iff_getElem?.1 hx
  rw[List.getElem?_take] at hi
  split at hi
  ·exact h1 i x hi (by assumption)
  ·cases hi
 have hd:∀ x∈xs.drop q,t<x:=fun x hx=>by
  obtain⟨i,hi⟩:=List.mem_iff_getElem?.1 hx
  rw[List.getElem?_drop] at hi
  have h4:=h2 _ x hi (by omega)
  have:x≠t:=fun e=>h3 (e▸List.mem_of_getElem? hi)
  omega
 rw[List.pairwise_append]
 refine ⟨h.sublist (List.take_sublist ..),?_,fun x hx y hy => ?_⟩
 ·rw[List.singleton_append,List.pairwise_cons]
  exact ⟨hd,h.sublist (List.drop_sublist ..)⟩
 ·have h5:=ht x hx
  rcases List.mem_append.1 hy with hy | hy
  ·rw[List.mem_singleton.1 hy]; exact h5
  ·have:=hd y hy; omega
theorem zva {xs:List Int} {q:Nat} {t x:Int}:x∈ziv xs q [t]↔x∈xs∨x=t:=by
 unfold ziv
 simp only[List.mem_append,List.mem_singleton]
 constructor
 ·rintro (h | h | h)
  ·exact .inl (List.mem_of_mem_take h)
  ·exact .inr h
  ·exact .inl (List.mem_of_mem_drop h)
 ·rintro (h | h)
  ·rw[← List.take_append_drop q xs] at h
   rcases List.mem_append.1 h with h | h
   ·exact .inl h
   ·exact .inr (.inr h)
  ·exact .inr (.inl h)
def zu6 (r:List Int) (x:Int):Prop:=∃ c∈r,c<0∧x = -1 - c
theorem zo4:(es vs:List Int)→Rise vs→vs.length+es.length≤1000000→(∀ c∈es,-1000000≤c∧c≤1000000)→∃ ws,yA es vs=some ws∧Rise ws∧(∀ x,x∈ws↔x∈vs∨zu6 es x)∧ws.length≤vs.length+es.length
 | [],vs,h,_,_=>⟨vs,rfl,h,fun x=>⟨.inl,fun h=>h.elim (fun h=>h) fun ⟨c,hc,_⟩=>(nomatch hc)⟩,Nat.le_refl _⟩
 | e::es,vs,h,hl,hc=>by
  rw[List.length_cons] at hl
  have he:=hc e (List.mem_cons_self ..)
  have hc':∀ c∈es,-1000000≤c∧c≤1000000:=fun c h=>hc c (List.mem_cons_of_mem _ h)
  unfold yA
  by_cases h0:e≥0
  ·rw[decide_eq_true h0,cond_true]
   obtain⟨ws,h1,h2,h3,h4⟩:=zo4 es vs h (by omega) hc'
   refine ⟨ws,h1,h2,fun x=>(h3 x).trans ?_,by rw[List.length_cons]; omega⟩
   constructor
   ·rintro (h5 | ⟨c,h5,h6⟩)
    ·exact .inl h5
    ·exact .inr ⟨c,List.mem_cons_of_mem _ h5,h6⟩
   ·rintro (h5 | ⟨c,h5,h6,h7⟩)
    ·exact .inl h5
    ·rcases List.mem_cons.1 h5 with rfl | h5
     ·omega
     ·exact .inr ⟨c,h5,h6,h7⟩
  ·rw[decide_eq_false h0,cond_false,zbg (by omega) (by omega),Option.bind_some]
   obtain⟨q,b,h1,h2,h3,h4,h5⟩:=zEn h (by omega) (-1 - e)
   rw[h1,Option.bind_some]
   have fin:∀{vs':List Int},(∀ x,x∈vs'↔x∈vs∨x = -1 - e)→∀ x,(x∈vs'∨zu6 es x)↔(x∈vs∨zu6 (e::es) x):=by
    intro vs' hv x
    rw[hv x]
    constructor
    ·rintro ((h6 | h6) | ⟨c,h6,h7⟩)
     ·exact .inl h6
     ·exact .inr ⟨e,List.mem_cons_self ..,by omega,h6⟩
     ·exact .inr ⟨c,List.mem_cons_of_mem _ h6,h7⟩
    ·rintro (h6 | ⟨c,h6,h7,h8⟩)
     ·exact .inl (.inl h6)
     ·rcases List.mem_cons.1 h6 with rfl | h6
      ·exact .inl (.inr h8)
      ·exact .inr ⟨c,h6,h7,h8⟩
   cases b with
   | true =>
    simp only[Bool.not_true,cond_false]
    obtain⟨ws,h6,h7,h8,h9⟩:=zo4 es vs h (by omega) hc'
    refine ⟨ws,h6,h7,fun x=>(h8 x).trans (fin (fun x=>⟨.inl,fun h=>h.elim (fun h=>h) fun h => ?_⟩) x),by rw[List.length_cons]; omega⟩
    rw[h]
    exact h5.1 rfl
   | false =>
    simp only[Bool.not_false,cond_true,Option.bind_some]
    have hn : -1 - e∉vs:=fun h=>by have:=h5.2 h; cases this
    have hi:ze4 (q:Int) vs [-1 - e]=some (ziv vs q [-1 - e]):=by
     unfold ze4 zFA
     rw[zq (by simp; omega)]
     have e1:zzP (q:Int)=true:=by simp [zzP]
     have e2:decide ((q:Int)≤(List.length vs:Int))=true:=by simp; omega
     have e3:zsB ((List.length [-1 - e]:Nat):Int)=true:=by simp [zsB]
     rw[e1,e2,e3,Int.toNat_natCast]
     rfl
    rw[hi,Option.bind_some]
    have hlen:(ziv vs q [-1 - e]).length=vs.length+1:=zlj vs _ h2
    obtain⟨ws,h6,h7,h8,h9⟩:=zo4 es (ziv vs q [-1 - e]) (zse h h2 h3 h4 hn) (by omega) hc'
    exact ⟨ws,h6,h7,fun x=>(h8 x).trans (fin (fun x=>zva) x),by rw[List.length_cons]; omega⟩
theorem zpy {r vs:List Int} (h:Rise vs) (hl:vs.length+r.length≤1000000) (hc:∀ c∈r,-1000000≤c∧c≤1000000):∃ ws,zc7 r vs=some ws∧Rise ws∧(∀ x,x∈ws↔x∈vs∨zu6 r x)∧ws.length≤vs.length+r.length:=by
 obtain⟨ws,h1,h2⟩:=zo4 r vs h hl hc
 refine ⟨ws,?_,h2⟩
 unfold zc7
 rw[ziE _ _ (by unfold maxLen; omega),h1]
 rfl
def zhz (rs:List jI) (x:Int):Prop:=∃ r∈rs,zu6 r x
theorem zj4 {r:List Int} {rs:List jI} {x:Int}:zhz (r::rs) x↔zu6 r x∨zhz rs x:=by simp [zhz]
theorem zcZ {rs ss:List jI} {x:Int}:zhz (rs++ss) x↔zhz rs x∨zhz ss x:=by
 simp only[zhz,List.mem_append]
 constructor
 ·rintro⟨r,h | h,h2⟩
  ·exact .inl ⟨r,h,h2⟩
  ·exact .inr ⟨r,h,h2⟩
 ·rintro (⟨r,h,h2⟩ | ⟨r,h,h2⟩)
  ·exact ⟨r,.inl h,h2⟩
  ·exact ⟨r,.inr h,h2⟩
theorem zfx (r:List Int) (rs:List jI):zn (r::rs)=r.length+zn rs:=by simp [zn]
theorem zbe (rs ss:List jI):zn (rs++ss)=zn rs+zn ss:=by simp [zn]
theorem zxv:(es:List zc)→(vs:List Int)→Rise vs→vs.length+zn (es.map (·.2))≤1000000→(∀ l∈es,zdm l.2) →
  ∃ ws,qI es vs=some ws∧Rise ws∧(∀ x,x∈ws↔x∈vs∨zhz (es.map (·.2)) x)∧ws.length≤vs.length+zn (es.map (·.2))
 | [],vs,h,_,_=>⟨vs,rfl,h,fun x=>⟨.inl,fun h=>h.elim (fun h=>h) fun ⟨c,hc,_⟩=>(nomatch hc)⟩,by simp [zn]⟩
 | e::es,vs,h,hl,hn=>by
  rw[List.map_cons,zfx] at hl
  unfold qI
  obtain⟨ws,h1,h2,h3,h4⟩:=zpy h (r:=e.2) (by omega) (hn e (List.mem_cons_self ..)).2
  rw[h1,Option.bind_some]
  obtain⟨xs,h5,h6,h7,h8⟩:=zxv es ws h2 (by omega) fun l hl=>hn l (List.mem_cons_of_mem _ hl)
  refine ⟨xs,h5,h6,fun x => ?_,by rw[List.map_cons,zfx]; omega⟩
  rw[h7 x,h3 x,List.map_cons,zj4,or_assoc]
theorem zwH:(es:List jI)→(vs:List Int)→Rise vs→vs.length+zn es≤1000000→(∀ l∈es,zdm l) →
  ∃ ws,qH es vs=some ws∧Rise ws∧(∀ x,x∈ws↔x∈vs∨zhz es x)∧ws.length≤vs.length+zn es
 | [],vs,h,_,_=>⟨vs,rfl,h,fun x=>⟨.inl,fun h=>h.elim (fun h=>h) fun ⟨c,hc,_⟩=>(nomatch hc)⟩,by simp [zn]⟩
 | e::es,vs,h,hl,hn=>by
  rw[zfx] at hl
  unfold qH
  obtain⟨ws,h1,h2,h3,h4⟩:=zpy h (r:=e) (by omega) (hn e (List.mem_cons_self ..)).2
  rw[h1,Option.bind_some]
  obtain⟨xs,h5,h6,h7,h8⟩:=zwH es ws h2 (by omega) fun l hl=>hn l (List.mem_cons_of_mem _ hl)
  refine ⟨xs,h5,h6,fun x => ?_,by rw[zfx]; omega⟩
  rw[h7 x,h3 x,zj4,or_assoc]
def yC (L:List zc) (T:List jI) (C:List zc):List jI:=L.map (·.2)++C.map (·.2)++T
theorem zeR {a0:List zi} (hs:SignOk a0) {L:List zc} {T:List jI} {C:List zc} (h:zb5 a0 L T C=true):∃ ws,yn a0 L T C=some (0,ws)∧Rise ws∧∀ x,x∈ws↔zhz (yC L T C) x:=by
 obtain⟨-,h1,h2,h3,h4,h5,h6,h7⟩:=zv h
 have n1:=zfd hs h4
 have n2:=zk7 hs h5
 have n3:=zfd hs h6
 unfold yn
 rw[zK,Option.bind_some,h]
 simp only[Bool.not_true,cond_false]
 rw[zf3 (by omega),Option.bind_some,zik _ _ _ _ _ (by unfold maxLen; simp; omega)]
 obtain⟨ws,h8,h9,h10,h11⟩:=zxv (L++C) [] List.Pairwise.nil (by rw[List.map_append,zbe]; simp; omega) (fun l hl=>(List.mem_append.1 hl).elim (n1 l) (n3 l))
 rw[h8,Option.bind_some,zhV _ _ (by unfold maxLen; omega)]
 rw[List.map_append,zbe] at h11
 obtain⟨xs,h12,h13,h14,-⟩:=zwH T ws h9 (by simp at h11; omega) n2
 rw[h12]
 refine ⟨xs,rfl,h13,fun x => ?_⟩
 rw[h14 x,h10 x,List.map_append]
 unfold yC
 rw[zcZ,zcZ,zcZ]
 simp
def upC (by_:Int) (c:Int):Int:=cond (decide (c<0)) (c - by_) c
def zgO (b:Int) (ls:List zc):List zc:=ls.map fun l=>(l.1,l.2.map (upC b))
theorem zmx (b:Int) (hb:0≤b∧b≤1000):(es done:List Int)→(k:Nat)→es.length<k→done.length+es.length≤1000000→(∀ c∈es,-1000000≤c∧c≤1000000) →
  lp qt k (((done.length+es.length:Nat):Int),(done.length:Int),b,done++es)=some (done++es.map (upC b))
 | [],done,k,hk,hl,hc=>by
  obtain⟨k,rfl⟩:∃ k',k=k'+1:=⟨k - 1,by omega⟩
  rw[zj]
  generalize lp qt k=rec
  unfold qt
  simp
 | e::es,done,k,hk,hl,hc=>by
  obtain⟨k,rfl⟩:∃ k',k=k'+1:=⟨k - 1,by omega⟩
  rw[zj]
  have he:=hc e (List.mem_cons_self ..)
  have hl':done.length+(es.length+1)≤1000000:=hl
  have key:=fun e'=>zmx b hb es (done++[e']) k (Nat.lt_of_succ_lt_succ hk) (by simp; omega) (fun c hx=>hc c (List.mem_cons_of_mem _ hx))
  generalize lp qt k=rec at key ⊢
  unfold qt
  have e1:decide (((done.length:Nat):Int)<((done.length+(e::es).length:Nat):Int))=true:=by rw[decide_eq_true_eq,List.length_cons]; omega
  have e2:inR ((done.length:Nat):Int) (List.length (done++e::es))=some done.length:=yB (by simp)
  have e3:IntKind.wrap .i64 (((done.length:Nat):Int)+1)=((done.length+1:Nat):Int):=by rw[zp]<;>omega
  have key2:=fun e'=>by
   have:=key e'
   rw[List.append_assoc,List.length_append,List.length_singleton,Nat.add_assoc,Nat.add_comm 1 es.length] at this
   exact this
  simp only[e1,cond_true,e2,Option.bind_some,zo5,e3]
  by_cases h0:e<0
  ·have hu:upC b e=e - b:=by unfold upC; rw[decide_eq_true h0]; rfl
   have w:IntKind.wrap .i64 (e - b)=e - b:=by rw[zp]<;>omega
   rw[decide_eq_true h0,cond_true,w]
   have hset:(done++e::es).set done.length (e - b)=done++(e - b)::es:=by
    rw[List.set_append_right _ _ (Nat.le_refl _),Nat.sub_self]; rfl
   rw[hset,List.map_cons,hu]
   have:=key2 (e - b)
   exact this.trans (by simp)
  ·have hu:upC b e=e:=by unfold upC; rw[decide_eq_false h0]; rfl
   rw[decide_eq_false h0,cond_false,List.map_cons,hu]
   have:=key2 e
   exact this.trans (by simp)
theorem zpu {b:Int} (hb:0≤b∧b≤1000) {r:List Int} (hn:zdm r):ql r b=some (r.map (upC b)):=by
 unfold ql
 rw[zeJ (by have:=hn.1; omega),Option.bind_some]
 have:=zmx b hb r [] zd (by have:=hn.1; unfold zd; omega) (by have:=hn.1; simp; omega) hn.2
 simp only[List.length_nil,Nat.zero_add,List.nil_append] at this
 have h0:((0:Nat):Int)=0:=rfl
 rw[h0] at this
 rw[this]
 rfl
theorem zqY {b:Int} (hb:0≤b∧b≤1000):(es out:List zc)→(∀ l∈es,zdm l.2)→out.length+es.length≤1000000→yp b es out=some (out++zgO b es)
 | [],out,_,_=>by simp [yp,zgO]
 | e::es,out,hn,hl=>by
  rw[List.length_cons] at hl
  unfold yp
  rw[zpu hb (hn e (List.mem_cons_self ..)),Option.bind_some,zq (show (out.length+([(e.1,e.2.map (upC b))]:List zc).length)*32≤140737488351232 by simp; omega),cond_true,
   zqY hb es _ (fun l hl=>hn l (List.mem_cons_of_mem _ hl)) (by simp; omega)]
  simp [zgO]
theorem zp7 {b:Int} (hb:0≤b∧b≤1000) (s7:List zc):(es out:List jI)→(∀ l∈es,zdm l)→out.length+es.length≤1000000→yk b s7 es out=some (s7,out++es.map (List.map (upC b)))
 | [],out,_,_=>by simp [yk]
 | e::es,out,hn,hl=>by
  rw[List.length_cons] at hl
  unfold yk
  rw[zpu hb (hn e (List.mem_cons_self ..)),Option.bind_some,zq (show (out.length+([e.map (upC b)]:List jI).length)*24≤140737488351232 by simp; omega),cond_true,
   zp7 hb s7 es _ (fun l hl=>hn l (List.mem_cons_of_mem _ hl)) (by simp; omega)]
  simp
theorem zqx {b:Int} (hb:0≤b∧b≤1000) (s4:List zc) (s5:List jI):(es out:List zc)→(∀ l∈es,zdm l.2)→out.length+es.length≤1000000→yu b s4 s5 es out=some (s4,s5,out++zgO b es)
 | [],out,_,_=>by simp [yu,zgO]
 | e::es,out,hn,hl=>by
  rw[List.length_cons] at hl
  unfold yu
  rw[zpu hb (hn e (List.mem_cons_self ..)),Option.bind_some,zq (show (out.length+([(e.1,e.2.map (upC b))]:List zc).length)*32≤140737488351232 by simp; omega),cond_true,
   zqx hb s4 s5 es _ (fun l hl=>hn l (List.mem_cons_of_mem _ hl)) (by simp; omega)]
  simp [zgO]
theorem zmQ {b:Int} (hb:0≤b∧b≤1000) {L:List zc} {T:List jI} {C:List zc} (hL:∀ l∈L,zdm l.2) (hT:∀ l∈T,zdm l) (hC:∀ l∈C,zdm l.2) (h1:L.length≤1000) (h2:T.length≤1000) (h3:C.length≤1000) :
  zF L T C b=some (zgO b L,T.map (List.map (upC b)),zgO b C):=by
 unfold zF zgZ
 rw[zg2 _ _ _ _ _ _ (by unfold maxLen; omega),zqY hb L [] hL (by simp; omega),Option.bind_some,
  zgW _ _ _ _ _ _ _ (by unfold maxLen; omega),zp7 hb _ T [] hT (by simp; omega),Option.bind_some,
  zhy _ _ _ _ _ (by unfold maxLen; omega),zqx hb _ _ C [] hC (by simp; omega),Option.bind_some]
 simp
def TopV (rs:List jI) (m:Int):Prop:=(∀ x,zhz rs x→x<m)∧(m=0∨zhz rs (m - 1))
theorem zxf {ws:List Int} {rs:List jI} (h:Rise ws) (hm:∀ x,x∈ws↔zhz rs x):(ws=[]∧TopV rs 0)∨∃ x,ws[ws.length - 1]? = some x∧0<ws.length∧TopV rs (x+1):=by
 cases hw:ws with
 | nil=>exact .inl ⟨rfl,⟨fun x hx=>(by have:=(hm x).2 hx; rw[hw] at this; cases this),.inl rfl⟩⟩
 | cons w ws' =>
  rw[← hw]
  have hl:0<ws.length:=by rw[hw]; simp
  refine .inr ⟨ws[ws.length - 1],List.getElem?_eq_getElem (by omega),hl,⟨fun x hx => ?_,.inr ?_⟩⟩
  ·obtain⟨i,hi⟩:=List.mem_iff_getElem?.1 ((hm x).2 hx)
   have hil:=(List.getElem?_eq_some_iff.1 hi).1
   rcases Nat.lt_or_ge i (ws.length - 1) with h1 | h1
   ·have:=h.lt hi (List.getElem?_eq_getElem (show ws.length - 1<ws.length by omega)) h1; omega
   ·have:i=ws.length - 1:=by omega
    subst this
    rw[List.getElem?_eq_getElem (by omega)] at hi
    injection hi with hi; omega
  ·rw[show ws[ws.length - 1]+1 - 1=ws[ws.length - 1] from by omega]
   exact (hm _).1 (List.getElem_mem _)
end
end Go.Abs.Q
namespace Go.Abs.Q
open Go Go.Abs
section
def zb0 (s:Sb) (r:List Int):List Int:=r.flatMap (zhC s)
theorem zol (σ:Sb) (v:Nat):(vs:List Nat)→zeN ((vs.filter (moved σ)).map fun v:Nat=>((v:Int),(σ v).codes)) (v:Int)=if v∈vs∧moved σ v=true then some (σ v).codes else none
 | []=>by simp [zeN]
 | w::vs=>by
  have ih:=zol σ v vs
  cases hm:moved σ w with
  | false =>
   rw[List.filter_cons_of_neg (by simp [hm]),ih]
   by_cases hv:v=w
   ·subst hv
    simp [hm]
   ·simp [hv]
  | true =>
   rw[List.filter_cons_of_pos hm,List.map_cons]
   unfold zeN at ih ⊢
   rw[List.find?_cons]
   by_cases hv:v=w
   ·subst hv
    simp [hm]
   ·rw[show (((w:Nat):Int)==(v:Int))=false from by simp; omega,ih]
    simp [hv]
theorem zsj {σ:Sb} {r:List Int} (h:∀ c∈r,-24≤c):onB (zeu σ) r=zb0 σ r:=by
 unfold onB zb0
 induction r with
 | nil=>rfl
 | cons c r ih =>
  rw[List.flatMap_cons,List.flatMap_cons,ih fun c hc=>h c (List.mem_cons_of_mem _ hc)]
  congr 1
  have hc:=h c (List.mem_cons_self ..)
  unfold onC zhC
  by_cases h0:c≥0
  ·rw[decide_eq_true h0,cond_true,if_neg (by omega)]
  ·rw[decide_eq_false h0,cond_false,if_pos (by omega)]
   obtain⟨k,hk,rfl⟩:∃ k:Nat,k<24∧c = -1 - (k:Int):=⟨(-1 - c).toNat,by omega,by omega⟩
   have e1:(-1:Int) - (-1 - (k:Int))=(k:Int):=by omega
   rw[e1,Int.toNat_natCast]
   unfold zeu
   rw[zol σ k]
   cases hm:moved σ k with
   | true=>simp [hk]
   | false =>
    have:σ k = .v k:=by
     unfold moved at hm
     split at hm
     ·rename_i y hy
      have:y=k:=by simpa using hm
      rw[hy,this]
     ·cases hm
    rw[this]
    simp [Tm.codes]
theorem ziK {σ:Sb} (h:zaH σ (List.range 24)=true):BindsOk (zeu σ) where
 len:=by
  unfold zeu
  rw[List.length_map]
  have:=List.length_filter_le (moved σ) (List.range 24)
  simp at this
  omega
 all:=fun b hb=>by
  unfold zeu at hb
  obtain⟨v,hv,rfl⟩:=List.mem_map.1 hb
  have hv:=(List.mem_filter.1 hv).1
  have h1:=List.all_eq_true.1 h v hv
  have h2:=(σ v).size_pos
  have h3:=(σ v).codes_len
  have h4:(σ v).size≤48:=of_decide_eq_true h1
  refine ⟨fun e => ?_,?_⟩
  ·have:=congrArg List.length e
   simp only[List.length_nil] at this
   omega
  ·show (σ v).codes.length≤1000
   omega
def q6 (s:Sb) (ls:List zc):List zc:=ls.map fun l=>(l.1,zb0 s l.2)
theorem zlZ {σ:Sb} {ls:List zc} (h:∀ l∈ls,∀ c∈l.2,-24≤c):znB (zeu σ) ls=q6 σ ls:=by
 unfold znB q6
 exact List.map_congr_left fun l hl=>by rw[zsj (h l hl)]
theorem zsP {σ:Sb} {rs:List jI} (h:∀ r∈rs,∀ c∈r,-24≤c):zu4 (zeu σ) rs=rs.map (zb0 σ):=by
 unfold zu4
 exact List.map_congr_left fun r hr=>zsj (h r hr)
theorem zeA {a0:List zi} {xs:List Int} (h:qz a0 xs=true):∃(c:Nat) (ts:List Tm) (e:zi),xs=(c:Int)::za ts∧okR a0 24 ts∧a0[c]? = some e∧e.2.1=0∧((ts.length:Nat):Int)=e.2.2.1∧(za ts).length≤48∧zdp a0=true:=by
 obtain⟨x,r,e,ps,rfl,h0,h1,-,h2,h3,h4,h5,h6⟩:=ziT h
 obtain⟨ts,h7,h8,h9⟩:=zBA h5
 refine ⟨x.toNat,ts,e,by rw[← h9,Int.toNat_of_nonneg h0],h7,h1,h2,?_,by rw[← h9]; exact h4,h3⟩
 rw[← h6,h8,List.length_map]
theorem zAP {a0:List zi} {c:Nat} {ts:List Tm} {e:zi} (h1:okR a0 24 ts) (h2:a0[c]? = some e) (h3:e.2.1=0) (h4:((ts.length:Nat):Int)=e.2.2.1) (h5:(za ts).length≤48) (h6:zdp a0=true):qz a0 ((c:Int)::za ts)=true:=by
 unfold qz
 simp only[Int.toNat_natCast,h2]
 unfold zbS
 rw[h6,decide_eq_true h5]
 simp [h3,z1 ts h1,h4]
theorem zo2 (b:Nat):(ts:List Tm)→(za ts).map (upC (b:Int))=za (ts.map (Tm.up b)):=by
 intro ts
 have h:=zff (fun n=>Tm.v (n+b)) ts
 have e:ts.map (Tm.up b)=zaU (fun n=>Tm.v (n+b)) ts:=by rw[zh2]; rfl
 rw[e,h]
 generalize za ts=r
 induction r with
 | nil=>rfl
 | cons c r ih =>
  rw[List.map_cons,List.flatMap_cons,ih]
  congr 1
  unfold upC zhC
  by_cases h0:c<0
  ·rw[decide_eq_true h0,cond_true,if_pos h0]
   show [c - (b:Int)]++_=[-1 - (((-1 - c).toNat+b:Nat):Int)]++_
   rw[show -1 - (((-1 - c).toNat+b:Nat):Int)=c - (b:Int) from by omega]
   rfl
  ·rw[decide_eq_false h0,cond_false,if_neg h0]
   rfl
theorem zgF {ts:List Tm} {x:Int}:zu6 (za ts) x↔∃ k:Nat,x=(k:Int)∧zjz k ts:=by
 constructor
 ·rintro⟨c,h1,h2,rfl⟩
  exact ⟨(-1 - c).toNat,by omega,(zfh h2 ts).1 h1⟩
 ·rintro⟨k,rfl,hk⟩
  refine ⟨-1 - (k:Int),(zfh (by omega) ts).2 (by rwa [show (-1 - (-1 - (k:Int))).toNat=k from by omega]),by omega,by omega⟩
end
end Go.Abs.Q
namespace Go.Abs.Q
open Go Go.Abs
section
theorem zmz {a0:List zi} {L:List zc} {T:List jI} {C:List zc} (h:zb5 a0 L T C=true):∀ r∈yC L T C,zep r:=by
 obtain⟨-,-,-,-,h4,h5,h6,-⟩:=zv h
 intro r hr
 unfold yC at hr
 rcases List.mem_append.1 hr with hr | hr
 ·rcases List.mem_append.1 hr with hr | hr
  ·obtain⟨l,hl,rfl⟩:=List.mem_map.1 hr; exact zec h4 l hl
  ·obtain⟨l,hl,rfl⟩:=List.mem_map.1 hr; exact zec h6 l hl
 ·exact zjo h5 r hr
theorem zgg {a0:List zi} {L:List zc} {T:List jI} {C:List zc} (h:zb5 a0 L T C=true) {x:Int} (hx:zhz (yC L T C) x):0≤x∧x<24:=by
 obtain⟨r,hr,c,hc,h0,rfl⟩:=hx
 have:=(zmz h r hr).2 c hc
 omega
abbrev ApR:=List zc×List jI×Bool×List zc
theorem apart_spec {a0:List zi} (hs:SignOk a0) {L:List zc} {T:List jI} {C:List zc} {L':List zc} {T':List jI} {C':List zc} (h:zb5 a0 L T C=true) (h':zb5 a0 L' T' C'=true) :
  ∃ b:Nat,b≤24∧TopV (yC L T C) (b:Int) ∧
   ((zdI a0 L T C L' T' C'=some ([],[],false,[])∧∃ x,zhz (yC L' T' C') x∧23<x+(b:Int)) ∨
    (zdI a0 L T C L' T' C'=some (zgO (b:Int) L',T'.map (List.map (upC (b:Int))),true,zgO (b:Int) C')∧∀ x,zhz (yC L' T' C') x→x+(b:Int)≤23)):=by
 obtain⟨ws,h1,h2,h3⟩:=zeR hs h
 obtain⟨ws',h1',h2',h3'⟩:=zeR hs h'
 obtain⟨-,l1,l2,l3,l4,l5,l6,-⟩:=zv h'
 have hsh:∀ b:Nat,b≤24→zF L' T' C' (b:Int)=some (zgO (b:Int) L',T'.map (List.map (upC (b:Int))),zgO (b:Int) C'):=fun b hb =>
  zmQ (by omega) (zfd hs l4) (zk7 hs l5) (zfd hs l6) (by omega) (by omega) (by omega)
 -- the second half
 have second:∀ b:Nat,b≤24→∃ o:Option ApR,((yn a0 L' T' C').bind fun r17 =>
   cond (decide (((List.length r17.2:Nat):Int)>0))
   ((inR (IntKind.wrap .i64 (((List.length r17.2:Nat):Int) - 1)) (List.length r17.2)).bind fun k18 =>
    (r17.2[k18]?).bind fun x19 =>
    cond (decide ((IntKind.wrap .i64 (x19+(b:Int)))>23))
    (some (([]:jQ),([]:jR),false,([]:jQ)))
    ((zF L' T' C' (b:Int)).bind fun r20 =>
     some (r20.1,r20.2.1,true,r20.2.2)))
   ((zF L' T' C' (b:Int)).bind fun r21 =>
    some (r21.1,r21.2.1,true,r21.2.2)))=o∧((o=some ([],[],false,[])∧∃ x,zhz (yC L' T' C') x∧23<x+(b:Int)) ∨
    (o=some (zgO (b:Int) L',T'.map (List.map (upC (b:Int))),true,zgO (b:Int) C')∧∀ x,zhz (yC L' T' C') x→x+(b:Int)≤23)):=by
  intro b hb
  refine ⟨_,rfl,?_⟩
  rw[h1',Option.bind_some]
  simp only
  rcases zxf h2' h3' with ⟨rfl,h4⟩ | ⟨x,h4,h5,h6,h7⟩
  ·rw[show decide (((List.length ([]:List Int):Nat):Int)>0)=false from rfl,cond_false,hsh b hb]
   refine .inr ⟨rfl,fun x hx => ?_⟩
   have:=h4.1 x hx
   have:=(zgg h' hx).1
   omega
  ·have hvx:zhz (yC L' T' C') x:=by
    rcases h7 with h7 | h7
    ·have:=(h3' x).1 (List.mem_of_getElem? h4); exact this
    ·rwa [show x+1 - 1=x from by omega] at h7
   have hx:=zgg h' hvx
   have hwl:ws'.length≤1000000∨True:=.inr trivial
   have e1:IntKind.wrap .i64 (((List.length ws':Nat):Int) - 1)=((ws'.length - 1:Nat):Int)∨ws'.length>1000000:=by
    rcases Nat.lt_or_ge 1000000 ws'.length with h8 | h8
    ·exact .inr h8
    ·left; rw[zp]<;>omega
   have hlen:ws'.length≤24:=by
    -- numbers below 24 that rise
    have key:∀(ys:List Int) (m:Int),Rise ys→(∀ y∈ys,m≤y∧y<24)→(ys.length:Int)≤24 - m∨ys=[]:=by
     intro ys
     induction ys with
     | nil=>intro m _ _; exact .inr rfl
     | cons y ys ih =>
      intro m hr hy
      have hr:=List.pairwise_cons.1 hr
      have hy0:=hy y (List.mem_cons_self ..)
      rcases ih (y+1) hr.2 (fun z hz=>⟨by have:=hr.1 z hz; omega,(hy z (List.mem_cons_of_mem _ hz)).2⟩) with h8 | h8
      ·left; rw[List.length_cons]; omega
      ·subst h8; left; simp; omega
    rcases key ws' 0 h2' fun y hy=>zgg h' ((h3' y).1 hy) with h8 | h8
    ·omega
    ·rw[h8]; simp
   have e1:IntKind.wrap .i64 (((List.length ws':Nat):Int) - 1)=((ws'.length - 1:Nat):Int):=by rw[zp]<;>omega
   rw[decide_eq_true (show ((List.length ws':Nat):Int)>0 by omega),cond_true,e1,yB (by omega),Option.bind_some,h4,Option.bind_some]
   have e2:IntKind.wrap .i64 (x+(b:Int))=x+(b:Int):=by rw[zp]<;>omega
   simp only[e2]
   by_cases hf:x+(b:Int)>23
   ·rw[decide_eq_true hf,cond_true]
    exact .inl ⟨rfl,x,hvx,by omega⟩
   ·rw[decide_eq_false hf,cond_false,hsh b hb]
    refine .inr ⟨rfl,fun y hy => ?_⟩
    have:=h6 y hy
    omega
 unfold zdI
 rw[h1,Option.bind_some]
 simp only
 rcases zxf h2 h3 with ⟨rfl,h4⟩ | ⟨x,h4,h5,h6⟩
 ·rw[show decide (((List.length ([]:List Int):Nat):Int)>0)=false from rfl,cond_false]
  obtain⟨o,h8,h9⟩:=second 0 (by omega)
  rw[show ((0:Nat):Int)=0 from rfl] at h8 h9
  refine ⟨0,by omega,h4,?_⟩
  have h8':=h8
  rw[show ((0:Nat):Int)=0 from rfl]
  refine h9.imp (fun h=>⟨?_,h.2⟩) fun h=>⟨?_,h.2⟩
  ·exact h8.trans h.1
  ·exact h8.trans h.1
 ·have hvx:zhz (yC L T C) x:=(h3 x).1 (List.mem_of_getElem? h4)
  have hx:=zgg h hvx
  have hlen:ws.length≤24:=by
   have key:∀(ys:List Int) (m:Int),Rise ys→(∀ y∈ys,m≤y∧y<24)→(ys.length:Int)≤24 - m∨ys=[]:=by
    intro ys
    induction ys with
    | nil=>intro m _ _; exact .inr rfl
    | cons y ys ih =>
     intro m hr hy
     have hr:=List.pairwise_cons.1 hr
     have hy0:=hy y (List.mem_cons_self ..)
     rcases ih (y+1) hr.2 (fun z hz=>⟨by have:=hr.1 z hz; omega,(hy z (List.mem_cons_of_mem _ hz)).2⟩) with h8 | h8
     ·left; rw[List.length_cons]; omega
     ·subst h8; left; simp; omega
   rcases key ws 0 h2 fun y hy=>zgg h ((h3 y).1 hy) with h8 | h8
   ·omega
   ·rw[h8]; simp
  have e1:IntKind.wrap .i64 (((List.length ws:Nat):Int) - 1)=((ws.length - 1:Nat):Int):=by rw[zp]<;>omega
  rw[decide_eq_true (show ((List.length ws:Nat):Int)>0 by omega),cond_true,e1,yB (by omega),Option.bind_some,h4,Option.bind_some]
  have e2:IntKind.wrap .i64 (x+1)=(((x+1).toNat:Nat):Int):=by rw[zp]<;>omega
  rw[e2]
  obtain⟨o,h8,h9⟩:=second (x+1).toNat (by omega)
  refine ⟨(x+1).toNat,by omega,by rw[Int.toNat_of_nonneg (show (0:Int)≤x+1 by omega)]; exact h6,?_⟩
  refine h9.imp (fun h=>⟨?_,h.2⟩) fun h=>⟨?_,h.2⟩
  ·exact h8.trans h.1
  ·exact h8.trans h.1
end
end Go.Abs.Q
namespace Go.Abs.Q
open Go Go.Abs
section
abbrev zmq:=List zc×List jI×Bool×Int×List zc
def zcN (k:Int):Option zmq:=some ([],[],false,k,[])
theorem zGk {α β:Type} (f:α→β) {xs:List α} {i:Int} {x:α} (h:gx xs i=some x):gx (xs.map f) i=some (f x):=by
 unfold gx at h ⊢
 cases hd:decide (0≤i) with
 | false=>rw[hd] at h; cases h
 | true =>
  rw[hd,cond_true] at h
  rw[cond_true,List.getElem?_map,h]
  rfl
theorem zeT {α:Type} {xs:List α} {i:Int} {x:α} (h:gx xs i=some x):x∈xs:=by
 unfold gx at h
 cases hd:decide (0≤i) with
 | false=>rw[hd] at h; cases h
 | true =>
  rw[hd,cond_true] at h
  exact List.mem_of_getElem? h
def Cds (r:List Int):Prop:=r.length≤1000∧∀ c∈r,-24≤c∧c≤1000000
theorem Cds.near {r:List Int} (h:Cds r):zdm r:=⟨h.1,fun c hc=>by have:=h.2 c hc; omega⟩
theorem zmY {a0:List zi} (hs:SignOk a0) {L:List zc} {T:List jI} {C:List zc} (h:zb5 a0 L T C=true):∀ r∈yC L T C,Cds r:=by
 intro r hr
 have h1:=zmz h r hr
 obtain⟨-,-,-,-,h4,h5,h6,-⟩:=zv h
 have h2:zdm r:=by
  unfold yC at hr
  rcases List.mem_append.1 hr with hr | hr
  ·rcases List.mem_append.1 hr with hr | hr
   ·obtain⟨l,hl,rfl⟩:=List.mem_map.1 hr; exact zfd hs h4 l hl
   ·obtain⟨l,hl,rfl⟩:=List.mem_map.1 hr; exact zfd hs h6 l hl
  ·exact zk7 hs h5 r hr
 exact ⟨h2.1,fun c hc=>⟨h1.2 c hc,(h2.2 c hc).2⟩⟩
theorem zFO {b:Nat} {r:List Int} (h:Cds r) (hb:∀ x,zu6 r x→x+(b:Int)≤23):Cds (r.map (upC (b:Int))):=by
 refine ⟨by rw[List.length_map]; exact h.1,fun c hc => ?_⟩
 obtain⟨d,hd,rfl⟩:=List.mem_map.1 hc
 have h1:=h.2 d hd
 unfold upC
 by_cases h0:d<0
 ·have:=hb (-1 - d) ⟨d,hd,h0,rfl⟩
  rw[decide_eq_true h0,cond_true]; omega
 ·rw[decide_eq_false h0,cond_false]; omega
theorem zEu {a0:List zi} {b:Nat} {ts:List Tm} (h:okR a0 24 ts) (hb:∀ k:Nat,zjz k ts→k+b<24):okR a0 24 (ts.map (Tm.up b)):=by
 have e:ts.map (Tm.up b)=zaU (fun n=>Tm.v (n+b)) ts:=by rw[zh2]; rfl
 rw[e]
 exact zkI ts h fun x hx=>hb x hx
theorem zsY (b:Nat) (c:Nat) (ts:List Tm):((c:Int)::za ts).map (upC (b:Int))=(c:Int)::za (ts.map (Tm.up b)):=by
 rw[List.map_cons,zo2]
 unfold upC
 rw[decide_eq_false (show ¬((c:Int)<0) by omega)]
 rfl
theorem zau {L:List zc} {T:List jI} {C:List zc} {l:zc} (h:l∈L):l.2∈yC L T C:=by
 unfold yC
 exact List.mem_append_left _ (List.mem_append_left _ (List.mem_map_of_mem h))
theorem zbZ {L:List zc} {T:List jI} {C:List zc} {l:zc} (h:l∈C):l.2∈yC L T C:=by
 unfold yC
 exact List.mem_append_left _ (List.mem_append_right _ (List.mem_map_of_mem h))
theorem zcu {L:List zc} {T:List jI} {C:List zc} {r:List Int} (h:r∈T):r∈yC L T C:=by
 unfold yC
 exact List.mem_append_right _ h
theorem zA8 {σ:Sb} (hsh:zaH σ (List.range 24)=true) {L:List zc} {T:List jI} {C:List zc} (hL:∀ l∈L,Cds l.2) (hT:∀ r∈T,Cds r) (hC:∀ l∈C,Cds l.2) (h1:L.length≤1000) (h2:T.length≤1000) (h3:C.length≤1000) :
  zgu (zeu σ) L T C=some (q6 σ L,T.map (zb0 σ),q6 σ C):=by
 rw[zqy (ziK hsh) (fun l hl=>(hL l hl).near) (fun r hr=>(hT r hr).near) (fun l hl=>(hC l hl).near) h1 h2 h3,
  zlZ fun l hl c hc=>((hL l hl).2 c hc).1,zlZ fun l hl c hc=>((hC l hl).2 c hc).1,zsP fun r hr c hc=>((hT r hr).2 c hc).1]
def zoK (b:Nat) (T T':List jI):List jI:=T++T'.map (List.map (upC (b:Int)))
def zo6 (b:Nat) (C C':List zc):List zc:=C++zgO (b:Int) C'
def zi6 (a0:List zi) (σ:Sb) (L:List zc) (T:List jI) (C:List zc) (k:Int):Option zmq :=
 cond (zb5 a0 (q6 σ L) (T.map (zb0 σ)) (q6 σ C)) (some ((zc1 (q6 σ L) (T.map (zb0 σ)) (q6 σ C)).1,(zc1 (q6 σ L) (T.map (zb0 σ)) (q6 σ C)).2.1,true,0,(zc1 (q6 σ L) (T.map (zb0 σ)) (q6 σ C)).2.2)) (zcN k)
end
end Go.Abs.Q
namespace Go.Abs.Q
open Go Go.Abs
section
theorem zbw {a0:List zi}:∀(n:Nat) (ts us:List Tm),zaC ts≤n→okR a0 24 ts→okR a0 24 us→za ts=za us→ts=us:=by
 intro n
 induction n with
 | zero =>
  intro ts us hn _ _ he
  cases ts with
  | cons t ts=>have:=t.size_pos; simp only[zaC] at hn; omega
  | nil =>
   cases us with
   | nil=>rfl
   | cons u us =>
    have:=congrArg List.length he
    rw[zdk,zdk] at this
    have:=u.size_pos
    simp only[zaC] at *; omega
 | succ n ih =>
  intro ts us hn ho ho' he
  cases ts with
  | nil =>
   cases us with
   | nil=>rfl
   | cons u us =>
    have:=congrArg List.length he
    rw[zdk,zdk] at this
    have:=u.size_pos
    simp only[zaC] at *; omega
  | cons t ts =>
   cases us with
   | nil =>
    have:=congrArg List.length he
    rw[zdk,zdk] at this
    have:=t.size_pos
    simp only[zaC] at *; omega
   | cons u us =>
    have he:t.codes++za ts=u.codes++za us:=he
    cases t with
    | v k =>
     cases u with
     | v k' =>
      have he:(-1 - (k:Int))::za ts=(-1 - (k':Int))::za us:=he
      injection he with h1 h2
      have:k=k':=by omega
      rw[this,ih ts us (by simp only[zaC,Tm.size] at hn; omega) ho.2 ho'.2 h2]
     | f c as =>
      have he:(-1 - (k:Int))::za ts=(c:Int)::(za as++za us):=he
      injection he with h1 h2
      omega
    | f c as =>
     cases u with
     | v k' =>
      have he:(c:Int)::(za as++za ts)=(-1 - (k':Int))::za us:=he
      injection he with h1 h2
      omega
     | f c' bs =>
      have he:(c:Int)::(za as++za ts)=(c':Int)::(za bs++za us):=he
      injection he with h1 h2
      have hc:c=c':=by omega
      subst hc
      rw[← zdU,← zdU] at h2
      have ha:=ho.1.1
      have hb:=ho'.1.1
      rw[ha] at hb
      injection hb with hb
      have:=ih (as++ts) (bs++us) (by rw[zm9]; simp only[zaC,Tm.size] at hn; omega)
       (zcp.2 fun t ht=>(List.mem_append.1 ht).elim (zcp.1 ho.1.2 t) (zcp.1 ho.2 t))
       (zcp.2 fun t ht=>(List.mem_append.1 ht).elim (zcp.1 ho'.1.2 t) (zcp.1 ho'.2 t)) h2
      obtain⟨h3,h4⟩:=List.append_inj this hb
      rw[h3,h4]
end
end Go.Abs.Q
namespace Go.Abs.Q
open Go Go.Abs
section
theorem zku {α:Type} [DecidableEq α]:(a b:List α)→a.Nodup→(∀ x∈a,x∈b)→a.length≤b.length
 | [],_,_,_=>Nat.zero_le _
 | x::a,b,hn,hs=>by
  have hn:=List.nodup_cons.1 hn
  have hx:=hs x (List.mem_cons_self ..)
  have h1:∀ y∈a,y∈b.erase x:=fun y hy=>by
   have hne:y≠x:=fun e=>hn.1 (e▸hy)
   exact (List.mem_erase_of_ne hne).2 (hs y (List.mem_cons_of_mem _ hy))
  have h2:=zku a (b.erase x) hn.2 h1
  rw[List.length_erase_of_mem hx] at h2
  have:=List.length_pos_of_mem hx
  simp only[List.length_cons]
  omega
theorem zDh (b:Nat) (ts:List Tm):ts.map (Tm.up b)=zaU (fun n=>Tm.v (n+b)) ts:=by rw[zh2]; rfl
theorem zke {L:List zc} {i:Int} (h:q8 L i=true):∃ l,gx L i=some l:=by
 unfold q8 at h
 simp only[Bool.and_eq_true,decide_eq_true_eq] at h
 obtain⟨l,h1,-⟩:=zkn (xs:=L) h.1 h.2
 exact ⟨l,h1⟩
end
end Go.Abs.Q
namespace Go.Abs.Q
open Go Go.Abs
def zsZ (a0:jI):Option Bool :=
 some (decide (((List.length a0:Nat):Int)≤6))
def zl2 (a0:Int) (a1:jI):Option (Int×jI) :=
 some ((IntKind.wrap .i64 (1+(IntKind.wrap .i64 (Int.tmod (IntKind.wrap .u64 a0) 3)))),a1)
def zfg (rec:(jI×Int×Int)→Option (Unit⊕Bool)) (x:(jI×Int×Int)):Option (Unit⊕Bool) :=
 cond (decide (x.2.2<((List.length x.1:Nat):Int)))
 ((gx x.1 x.2.2).bind fun e2 =>
  cond (e2==(IntKind.wrap .i64 ((-1) - x.2.1)))
  (some (Sum.inr true))
  (rec (x.1,x.2.1,(IntKind.wrap .i64 (x.2.2+1)))))
 (some (Sum.inl ()))
def zoV (a0:jI) (a1:Int):Option Bool :=
 ((lp zfg zd) (a0,a1,0)).bind fun r6 =>
 z6 r6
 (fun z7=>some false)
 (fun z8=>some z8)
def zbi (rec:(jI×Int×jI)→Option jI) (x:(jI×Int×jI)):Option jI :=
 cond (decide (x.2.1≤23))
 ((zoV x.1 x.2.1).bind fun r3 =>
  cond r3
  (cond (yQ (List.length x.2.2+List.length ([x.2.1]:List Int)) 8)
   (rec (x.1,(IntKind.wrap .i64 (x.2.1+1)),(x.2.2++([x.2.1]:List Int))))
   (none))
  (rec (x.1,(IntKind.wrap .i64 (x.2.1+1)),x.2.2)))
 (some x.2.2)
def zjt (a0:jI):Option jI :=
 ((lp zbi zd) (a0,0,([]:jI))).bind fun r5 =>
 some r5
def zb6 (rec:(jR×Int×jI)→Option jI) (x:(jR×Int×jI)):Option jI :=
 cond (decide (x.2.1<((List.length x.1:Nat):Int)))
 ((gx x.1 x.2.1).bind fun e4 =>
  cond (yQ (List.length x.2.2+List.length e4) 8)
  (rec (x.1,(IntKind.wrap .i64 (x.2.1+1)),(x.2.2++e4)))
  (none))
 (some x.2.2)
def zc3 (a0:jQ) (a1:jR) (a2:jQ):Option jI :=
 (zgI a0 a1 a2).bind fun r7 =>
 ((lp zb6 zd) (r7,0,([]:jI))).bind fun r8 =>
 (zjt r8).bind fun r9 =>
 some r9
def zph:Option jI :=
 cond (eqI 24 24)
 (cond (zzP 24)
  (cond (yQ (Int.toNat 24) 8)
   (some (List.replicate (Int.toNat 24) (0:Int)))
   (none))
  (none))
 (none)
def zaj (rec:(jI×Int×Int×Int×jI)→Option Int) (x:(jI×Int×Int×Int×jI)):Option Int :=
 cond (decide (x.2.2.1<((List.length x.1:Nat):Int)))
 ((gx x.1 x.2.2.1).bind fun e2 =>
  rec (x.1,(IntKind.wrap .u64 ((IntKind.wrap .u64 ((IntKind.wrap .u64 (x.2.1*5))+(IntKind.wrap .u64 e2)))+3)),(IntKind.wrap .i64 (x.2.2.1+1)),x.2.2.2.1,x.2.2.2.2))
 (some x.2.1)
def qR (a0:Int) (a1:jI) (a2:Int) (a3:jI):Option Int :=
 cond (((List.length a1:Nat):Int)==0)
 (some 0)
 (((lp zaj zd) (a3,(IntKind.wrap .u64 (IntKind.wrap .i64 ((IntKind.wrap .i64 (a2*7))+1))),0,a0,a1)).bind fun r6 =>
  cond (decide ((IntKind.wrap .u64 ((List.length a1:Nat):Int))=0))
  (none)
  ((gx a1 (IntKind.wrap .i64 (Int.tmod r6 (IntKind.wrap .u64 ((List.length a1:Nat):Int))))).bind fun e7 =>
   (zvO .and .i64 e7 255).bind fun b8 =>
   some b8))
def yS (rf:((Int×jI×jS×jI×Int×jI)→Option (Int×Int))) (rec:(jS×jI×Int×jI×Int×Int×Int×jI×jI)→Option (Int×jI)) (x:(jS×jI×Int×jI×Int×Int×Int×jI×jI)):Option (Int×jI) :=
 (gx x.1 x.2.2.2.2.1).bind fun e7 =>
 cond (decide (x.2.2.2.2.2.1<e7.2.2.1))
 ((rf (x.2.2.2.2.2.2.1,x.2.2.2.2.2.2.2.1,x.1,x.2.1,x.2.2.1,x.2.2.2.1)).bind fun r8 =>
  cond (yQ (List.length x.2.2.2.2.2.2.2.2+List.length ([r8.1]:List Int)) 8)
  (rec (x.1,x.2.1,r8.2,x.2.2.2.1,x.2.2.2.2.1,(IntKind.wrap .i64 (x.2.2.2.2.2.1+1)),x.2.2.2.2.2.2.1,x.2.2.2.2.2.2.2.1,(x.2.2.2.2.2.2.2.2++([r8.1]:List Int))))
  (none))
 (some (x.2.2.1,x.2.2.2.2.2.2.2.2))
def zdQ (rf:((Int×jI×jS×jI×Int×jI)→Option (Int×Int))) (a0:Int) (a1:jI) (a2:jS) (a3:jI) (a4:Int) (a5:jI):Option (Int×Int) :=
 (gx a3 a4).bind fun e11 =>
 cond (decide (e11<0))
 ((gx a5 (IntKind.wrap .i64 ((-1) - e11))).bind fun e12 =>
  some (e12,(IntKind.wrap .i64 (a4+1))))
 (((lp (yS rf) zd) (a2,a3,(IntKind.wrap .i64 (a4+1)),a5,e11,0,a0,a1,([]:jI))).bind fun r13 =>
  (qR a0 a1 e11 r13.2).bind fun r14 =>
  cond (decide (a0=0))
  (none)
  (some ((Int.tmod r14 a0),r13.1)))
def zhg (rf:((Int×jI×jS×jI×Int×jI)→Option (Int×Int))):((Int×jI×jS×jI×Int×jI)→Option (Int×Int)) :=
 fun (x:(Int×jI×jS×jI×Int×jI))=>zdQ rf x.1 x.2.1 x.2.2.1 x.2.2.2.1 x.2.2.2.2.1 x.2.2.2.2.2
def zg8:((Int×jI×jS×jI×Int×jI)→Option (Int×Int)):=fun _=>none
def zac (k:Nat):((Int×jI×jS×jI×Int×jI)→Option (Int×Int)):=lpR zg8 zhg k
def zeM (a0:Int) (a1:jI) (a2:jS) (a3:jI) (a4:Int) (a5:jI):Option (Int×Int):=(zac zd) (a0,a1,a2,a3,a4,a5)
def yD (rec:(jS×jI×jI×Int×Int×jI×jI)→Option jI) (x:(jS×jI×jI×Int×Int×jI×jI)):Option jI :=
 cond (decide (x.2.2.2.1<((List.length x.2.1:Nat):Int)))
 ((zeM x.2.2.2.2.1 x.2.2.2.2.2.1 x.1 x.2.1 x.2.2.2.1 x.2.2.1).bind fun r3 =>
  cond (yQ (List.length x.2.2.2.2.2.2+List.length ([r3.1]:List Int)) 8)
  (rec (x.1,x.2.1,x.2.2.1,r3.2,x.2.2.2.2.1,x.2.2.2.2.2.1,(x.2.2.2.2.2.2++([r3.1]:List Int))))
  (none))
 (some x.2.2.2.2.2.2)
def zbE (a0:Int) (a1:jI) (a2:jS) (a3:jI) (a4:jI):Option jI :=
 ((lp yD zd) (a2,a3,a4,0,a0,a1,([]:jI))).bind fun r5 =>
 some r5
def zcC (a0:Int) (a1:jI) (a2:jS) (a3:jI) (a4:jI):Option Bool :=
 (zcD a3 (some 1) none).bind fun y11 =>
 (zbE a0 a1 a2 y11 a4).bind fun r12 =>
 (gx a3 0).bind fun e13 =>
 cond (e13==0)
 ((inR 0 (List.length r12)).bind fun k14 =>
  (r12[k14]?).bind fun x15 =>
  (inR 1 (List.length r12)).bind fun k16 =>
  (r12[k16]?).bind fun x17 =>
  some (x15==x17))
 ((gx a3 0).bind fun e18 =>
  (qR a0 a1 e18 r12).bind fun r19 =>
  (zvO .and .i64 r19 1).bind fun b20 =>
  some (b20==1))
def zbm (a0:Int) (a1:jI) (a2:jS) (a3:Bool) (a4:jI) (a5:jI):Option Bool :=
 (zcC a0 a1 a2 a4 a5).bind fun r2 =>
 some (!(r2==a3))
def zb3 (a0:Int) (a1:jI) (a2:jS) (a3:jI) (a4:jI):Option Bool :=
 (zbE a0 a1 a2 a3 a4).bind fun r4 =>
 (qR a0 a1 101 r4).bind fun r5 =>
 (zvO .and .i64 r5 2).bind fun b6 =>
 some (b6==2)
def zag (rec:(jS×jI×Int×Int×jI×jQ×jR×jQ)→Option (Unit⊕Bool)) (x:(jS×jI×Int×Int×jI×jQ×jR×jQ)):Option (Unit⊕Bool) :=
 cond (decide (x.2.2.1<((List.length x.2.2.2.2.2.2.1:Nat):Int)))
 ((gx x.2.2.2.2.2.2.1 x.2.2.1).bind fun e15 =>
  (zb3 x.2.2.2.1 x.2.2.2.2.1 x.1 e15 x.2.1).bind fun r16 =>
  cond r16
  (some (Sum.inr true))
  (rec (x.1,x.2.1,(IntKind.wrap .i64 (x.2.2.1+1)),x.2.2.2.1,x.2.2.2.2.1,x.2.2.2.2.2.1,x.2.2.2.2.2.2.1,x.2.2.2.2.2.2.2)))
 (some (Sum.inl ()))
def zah (rec:(jS×jI×Int×Int×jI×jQ×jR×jQ)→Option (Unit⊕Bool)) (x:(jS×jI×Int×Int×jI×jQ×jR×jQ)):Option (Unit⊕Bool) :=
 cond (decide (x.2.2.1<((List.length x.2.2.2.2.2.1:Nat):Int)))
 ((gx x.2.2.2.2.2.1 x.2.2.1).bind fun e9 =>
  (zbm x.2.2.2.1 x.2.2.2.2.1 x.1 e9.1 e9.2 x.2.1).bind fun r10 =>
  cond r10
  (some (Sum.inr true))
  (rec (x.1,x.2.1,(IntKind.wrap .i64 (x.2.2.1+1)),x.2.2.2.1,x.2.2.2.2.1,x.2.2.2.2.2.1,x.2.2.2.2.2.2.1,x.2.2.2.2.2.2.2)))
 (some (Sum.inl ()))
def q7 (rec:(jS×jI×Int×Int×jI×jQ×jR×jQ)→Option (Unit⊕Bool)) (x:(jS×jI×Int×Int×jI×jQ×jR×jQ)):Option (Unit⊕Bool) :=
 cond (decide (x.2.2.1<((List.length x.2.2.2.2.2.2.2:Nat):Int)))
 ((gx x.2.2.2.2.2.2.2 x.2.2.1).bind fun e3 =>
  (zbm x.2.2.2.1 x.2.2.2.2.1 x.1 e3.1 e3.2 x.2.1).bind fun r4 =>
  cond (!r4)
  (some (Sum.inr true))
  (rec (x.1,x.2.1,(IntKind.wrap .i64 (x.2.2.1+1)),x.2.2.2.1,x.2.2.2.2.1,x.2.2.2.2.2.1,x.2.2.2.2.2.2.1,x.2.2.2.2.2.2.2)))
 (some (Sum.inl ()))
def zcv (a0:Int) (a1:jI) (a2:jS) (a3:jQ) (a4:jR) (a5:jQ) (a6:jI):Option Bool :=
 ((lp q7 zd) (a2,a6,0,a0,a1,a3,a4,a5)).bind fun r22 =>
 z6 r22
 (fun z23=>((lp zah zd) (a2,a6,0,a0,a1,a3,a4,a5)).bind fun r24 =>
  z6 r24
  (fun z25=>((lp zag zd) (a2,a6,0,a0,a1,a3,a4,a5)).bind fun r26 =>
   z6 r26
   (fun z27=>some false)
   (fun z28=>some z28))
  (fun z29=>some z29))
 (fun z30=>some z30)
def zad (rec:(jI×Int×jI×Int×jI)→Option (jI⊕zc)) (x:(jI×Int×jI×Int×jI)):Option (jI⊕zc) :=
 cond (decide (x.2.1<((List.length x.1:Nat):Int)))
 ((gx x.1 x.2.1).bind fun e23 =>
  (inR e23 (List.length x.2.2.1)).bind fun k24 =>
  (x.2.2.1[k24]?).bind fun x25 =>
  (inR e23 (List.length x.2.2.1)).bind fun k26 =>
  (x.2.2.1[k26]?).bind fun x27 =>
  (gx x.1 x.2.1).bind fun e28 =>
  (inR e28 (List.length (List.set x.2.2.1 k26 (IntKind.wrap .i64 (x25+1))))).bind fun k29 =>
  ((List.set x.2.2.1 k26 (IntKind.wrap .i64 (x25+1)))[k29]?).bind fun x30 =>
  cond (decide (x30<x.2.2.2.1))
  (some (Sum.inr (true,(List.set x.2.2.1 k26 (IntKind.wrap .i64 (x25+1))))))
  ((gx x.1 x.2.1).bind fun e31 =>
   (inR e31 (List.length (List.set x.2.2.1 k26 (IntKind.wrap .i64 (x25+1))))).bind fun k32 =>
   ((List.set x.2.2.1 k26 (IntKind.wrap .i64 (x25+1)))[k32]?).bind fun x33 =>
   rec (x.1,(IntKind.wrap .i64 (x.2.1+1)),(List.set (List.set x.2.2.1 k26 (IntKind.wrap .i64 (x25+1))) k32 0),x.2.2.2.1,x.2.2.2.2)))
 (some (Sum.inl x.2.2.1))
def zcE (a0:Int) (a1:jI) (a2:jI) (a3:jI):Option zc :=
 ((lp zad zd) (a2,0,a3,a0,a1)).bind fun r37 =>
 z6 r37
 (fun z38=>cond (!(List.isEmpty a3)&&true)
  (cond (Nat.beq (List.length a3) (List.length z38)&&true)
   (some (false,z38))
   (none))
  (none))
 (fun z39=>cond (!(List.isEmpty a3)&&true)
  (cond (Nat.beq (List.length a3) (List.length z39.2)&&true)
   (some (z39.1,z39.2))
   (none))
  (none))
def zan (rec:(jS×jI×Int×jI×jQ×jR×jQ×jI)→Option Bool) (x:(jS×jI×Int×jI×jQ×jR×jQ×jI)):Option Bool :=
 (zcv x.2.2.1 x.2.2.2.1 x.1 x.2.2.2.2.1 x.2.2.2.2.2.1 x.2.2.2.2.2.2.1 x.2.2.2.2.2.2.2).bind fun r5 =>
 cond (!r5)
 (some false)
 ((zcE x.2.2.1 x.2.2.2.1 x.2.1 x.2.2.2.2.2.2.2).bind fun r6 =>
  cond (!r6.1)
  (some true)
  (rec (x.1,x.2.1,x.2.2.1,x.2.2.2.1,x.2.2.2.2.1,x.2.2.2.2.2.1,x.2.2.2.2.2.2.1,r6.2)))
def zH (a0:Int) (a1:jI) (a2:jS) (a3:jQ) (a4:jR) (a5:jQ):Option Bool :=
 (zc3 a3 a4 a5).bind fun r8 =>
 (zph).bind fun r9 =>
 ((lp zan zd) (a2,r8,a0,a1,a3,a4,a5,r9)).bind fun r10 =>
 some r10
end Go.Abs.Q
namespace Go.Abs.Q
open Go Go.Abs
def zbP (s1:Int):List Int→Option (Unit⊕Bool)
 | []=>some (Sum.inl ())
 | e::es =>
  cond (e==(IntKind.wrap .i64 ((-1) - s1)))
  (some (Sum.inr true))
  (zbP s1 es)
theorem zla (s0:jI) (s1:Int) (hl:List.length s0≤maxLen):lp zfg zd (s0,s1,0)=zbP s1 s0:=zdO zfg (fun i=>(s0,s1,i)) (fun es i=>zbP s1 es) hl (fun r i h=>by unfold zfg zbP; simp only[h,cond_false]) (fun r i e es h g w k=>by unfold zfg zbP; simp only[h,cond_true,g,Option.bind_some,w,k])
def yX:List jI→jI→Option jI
 | [],s2=>some s2
 | e::es,s2 =>
  cond (yQ (List.length s2+List.length e) 8)
  (yX es (s2++e))
  (none)
theorem zib (s0:jR) (s2:jI) (hl:List.length s0≤maxLen):lp zb6 zd (s0,0,s2)=yX s0 s2:=zaT zb6 (fun i s2=>(s0,i,s2)) (fun es i s2=>yX es s2) hl (fun r i s2 h=>by unfold zb6 yX; simp only[h,cond_false]) (fun r i s2 e es h g w k=>by unfold zb6 yX; simp only[h,cond_true,g,Option.bind_some,w,k]) s2
def y5:List Int→Int→Option Int
 | [],s1=>some s1
 | e::es,s1 =>
  y5 es (IntKind.wrap .u64 ((IntKind.wrap .u64 ((IntKind.wrap .u64 (s1*5))+(IntKind.wrap .u64 e)))+3))
theorem zgl (s0:jI) (s3:Int) (s4:jI) (s1:Int) (hl:List.length s0≤maxLen):lp zaj zd (s0,s1,0,s3,s4)=y5 s0 s1:=zaT zaj (fun i s1=>(s0,s1,i,s3,s4)) (fun es i s1=>y5 es s1) hl (fun r i s1 h=>by unfold zaj y5; simp only[h,cond_false]) (fun r i s1 e es h g w k=>by unfold zaj y5; simp only[h,cond_true,g,Option.bind_some,w,k]) s1
def yl (s0:jS) (s1:jI) (s3:Int) (s4:jI):List jI→Option (Unit⊕Bool)
 | []=>some (Sum.inl ())
 | e::es =>
  (zb3 s3 s4 s0 e s1).bind fun r16 =>
  cond r16
  (some (Sum.inr true))
  (yl s0 s1 s3 s4 es)
theorem zgm (s0:jS) (s1:jI) (s3:Int) (s4:jI) (s5:jQ) (s6:jR) (s7:jQ) (hl:List.length s6≤maxLen):lp zag zd (s0,s1,0,s3,s4,s5,s6,s7)=yl s0 s1 s3 s4 s6:=zdO zag (fun i=>(s0,s1,i,s3,s4,s5,s6,s7)) (fun es i=>yl s0 s1 s3 s4 es) hl (fun r i h=>by unfold zag yl; simp only[h,cond_false]) (fun r i e es h g w k=>by unfold zag yl; simp only[h,cond_true,g,Option.bind_some,w,k])
def yw (s0:jS) (s1:jI) (s3:Int) (s4:jI):List zc→Option (Unit⊕Bool)
 | []=>some (Sum.inl ())
 | e::es =>
  (zbm s3 s4 s0 e.1 e.2 s1).bind fun r10 =>
  cond r10
  (some (Sum.inr true))
  (yw s0 s1 s3 s4 es)
theorem zge (s0:jS) (s1:jI) (s3:Int) (s4:jI) (s5:jQ) (s6:jR) (s7:jQ) (hl:List.length s5≤maxLen):lp zah zd (s0,s1,0,s3,s4,s5,s6,s7)=yw s0 s1 s3 s4 s5:=zdO zah (fun i=>(s0,s1,i,s3,s4,s5,s6,s7)) (fun es i=>yw s0 s1 s3 s4 es) hl (fun r i h=>by unfold zah yw; simp only[h,cond_false]) (fun r i e es h g w k=>by unfold zah yw; simp only[h,cond_true,g,Option.bind_some,w,k])
def yo (s0:jS) (s1:jI) (s3:Int) (s4:jI):List zc→Option (Unit⊕Bool)
 | []=>some (Sum.inl ())
 | e::es =>
  (zbm s3 s4 s0 e.1 e.2 s1).bind fun r4 =>
  cond (!r4)
  (some (Sum.inr true))
  (yo s0 s1 s3 s4 es)
theorem zgi (s0:jS) (s1:jI) (s3:Int) (s4:jI) (s5:jQ) (s6:jR) (s7:jQ) (hl:List.length s7≤maxLen):lp q7 zd (s0,s1,0,s3,s4,s5,s6,s7)=yo s0 s1 s3 s4 s7:=zdO q7 (fun i=>(s0,s1,i,s3,s4,s5,s6,s7)) (fun es i=>yo s0 s1 s3 s4 es) hl (fun r i h=>by unfold q7 yo; simp only[h,cond_false]) (fun r i e es h g w k=>by unfold q7 yo; simp only[h,cond_true,g,Option.bind_some,w,k])
def zW (s3:Int):List Int→jI→Option (jI⊕zc)
 | [],s2=>some (Sum.inl s2)
 | e::es,s2 =>
  (inR e (List.length s2)).bind fun k24 =>
  (s2[k24]?).bind fun x25 =>
  (inR e (List.length s2)).bind fun k26 =>
  (s2[k26]?).bind fun x27 =>
  (inR e (List.length (List.set s2 k26 (IntKind.wrap .i64 (x25+1))))).bind fun k29 =>
  ((List.set s2 k26 (IntKind.wrap .i64 (x25+1)))[k29]?).bind fun x30 =>
  cond (decide (x30<s3))
  (some (Sum.inr (true,(List.set s2 k26 (IntKind.wrap .i64 (x25+1))))))
  ((inR e (List.length (List.set s2 k26 (IntKind.wrap .i64 (x25+1))))).bind fun k32 =>
   ((List.set s2 k26 (IntKind.wrap .i64 (x25+1)))[k32]?).bind fun x33 =>
   zW s3 es (List.set (List.set s2 k26 (IntKind.wrap .i64 (x25+1))) k32 0))
theorem zgc (s0:jI) (s3:Int) (s4:jI) (s2:jI) (hl:List.length s0≤maxLen):lp zad zd (s0,0,s2,s3,s4)=zW s3 s0 s2:=zaT zad (fun i s2=>(s0,i,s2,s3,s4)) (fun es i s2=>zW s3 es s2) hl (fun r i s2 h=>by unfold zad zW; simp only[h,cond_false]) (fun r i s2 e es h g w k=>by unfold zad zW; simp only[h,cond_true,g,Option.bind_some,w,k]) s2
end Go.Abs.Q
namespace Go.Abs.Q
open Go Go.Abs
section
def zdB (nums:List Int):Prop:=nums≠[]∧nums.length≤9223372036854775807
theorem zgk (n:Int):0≤IntKind.wrap .u64 n∧IntKind.wrap .u64 n<18446744073709551616:=by
 simp [IntKind.wrap,IntKind.signed,IntKind.bits]
 omega
theorem zyx:(es:List Int)→(h:Int)→(0≤h∧h<18446744073709551616)→∃ h',y5 es h=some h'∧0≤h'∧h'<18446744073709551616
 | [],h,hh=>⟨h,rfl,hh⟩
 | e::es,h,_=>zyx es _ (zgk _)
theorem zrD (a:Int) (b:Nat) (hb:b≤255):∃ v:Nat,zvO .and .i64 a (b:Int)=some (v:Int)∧v≤b:=by
 refine ⟨(BitVec.ofInt 64 a &&& BitVec.ofInt 64 (b:Int)).toNat,?_,?_⟩
 ·unfold zvO
  simp only[Option.some.injEq]
  have h1:(BitVec.ofInt (IntKind.bits .i64) a &&& BitVec.ofInt (IntKind.bits .i64) (b:Int)).toNat≤255:=by
   rw[BitVec.toNat_and]
   refine Nat.le_trans Nat.and_le_right ?_
   rw[BitVec.toNat_ofInt]
   simp [IntKind.bits]
   omega
  show IntKind.wrap .i64 _=_
  rw[zp (by omega) (by omega)]
  rfl
 ·rw[BitVec.toNat_and]
  refine Nat.le_trans Nat.and_le_right ?_
  rw[BitVec.toNat_ofInt]
  simp
  omega
theorem zxJ (m:Int) {nums:List Int} (hn:zdB nums) (c:Int) {xs:List Int} (hl:xs.length≤1000000):∃ v:Nat,qR m nums c xs=some (v:Int)∧v≤255:=by
 unfold qR
 have h0:0<nums.length:=List.length_pos_iff.2 hn.1
 have hl2:=hn.2
 rw[show (((List.length nums:Nat):Int)==0)=false from by simp; exact hn.1,cond_false,zgl _ _ _ _ (by unfold maxLen; omega)]
 obtain⟨h,h1,h2,h3⟩:=zyx xs _ (zgk (IntKind.wrap .i64 ((IntKind.wrap .i64 (c*7))+1)))
 rw[h1,Option.bind_some]
 have hw:IntKind.wrap .u64 ((List.length nums:Nat):Int)=((nums.length:Nat):Int):=zwG (by omega) (by omega)
 rw[hw,decide_eq_false (show ¬(((nums.length:Nat):Int)=0) by omega),cond_false]
 have r1:0≤Int.tmod h ((nums.length:Nat):Int):=Int.tmod_nonneg _ h2
 have r2:Int.tmod h ((nums.length:Nat):Int)<((nums.length:Nat):Int):=Int.tmod_lt_of_pos _ (by omega)
 generalize Int.tmod h ((nums.length:Nat):Int)=q at r1 r2
 rw[zp (n:=q) (by omega) (by omega)]
 obtain⟨x,hx,-⟩:=zkn (xs:=nums) r1 r2
 rw[hx,Option.bind_some]
 obtain⟨v,hv,hv2⟩:=zrD x 255 (Nat.le_refl _)
 have hv:zvO .and .i64 x 255=some (v:Int):=hv
 rw[hv]
 exact ⟨v,rfl,hv2⟩
def zj8 (m:Int) (nums:List Int) (c:Int) (xs:List Int):Int:=(qR m nums c xs).getD 0
theorem zpf (m:Int) {nums:List Int} (hn:zdB nums) (c:Int) {xs:List Int} (hl:xs.length≤1000000):qR m nums c xs=some (zj8 m nums c xs)∧0≤zj8 m nums c xs∧zj8 m nums c xs≤255:=by
 obtain⟨v,h1,h2⟩:=zxJ m hn c hl
 unfold zj8
 rw[h1]
 exact ⟨rfl,by simp,by simp; omega⟩
section
variable (m:Int) (nums:List Int)
mutual
def zee (env:Nat→Int):Tm→Int
 | .v n=>env n
 | .f c ts=>Int.tmod (zj8 m nums (c:Int) (zfN env ts)) m
def zfN (env:Nat→Int):List Tm→List Int
 | []=>[]
 | t::ts=>zee env t::zfN env ts
end
theorem ziS (env:Nat→Int):(ts:List Tm)→(zfN m nums env ts).length=ts.length
 | []=>rfl
 | t::ts=>by simp [zfN,ziS env ts]
mutual
theorem zkj (env:Nat→Int) (s:Sb):(t:Tm)→zee m nums env (t.sub s)=zee m nums (fun n=>zee m nums env (s n)) t
 | .v n=>rfl
 | .f c ts=>by
  show Int.tmod (zj8 m nums (c:Int) (zfN m nums env (zaU s ts))) m=_
  rw[zl3 env s ts]
  rfl
theorem zl3 (env:Nat→Int) (s:Sb):(ts:List Tm)→zfN m nums env (zaU s ts)=zfN m nums (fun n=>zee m nums env (s n)) ts
 | []=>rfl
 | t::ts=>by
  show zee m nums env (t.sub s)::zfN m nums env (zaU s ts)=_
  rw[zkj env s t,zl3 env s ts]
  rfl
end
mutual
theorem zzv {e e':Nat→Int}:(t:Tm)→(∀ x,t.has x→e x=e' x)→zee m nums e t=zee m nums e' t
 | .v n,h=>h n rfl
 | .f c ts,h=>by
  show Int.tmod (zj8 m nums (c:Int) (zfN m nums e ts)) m=Int.tmod (zj8 m nums (c:Int) (zfN m nums e' ts)) m
  rw[zl5 ts h]
theorem zl5 {e e':Nat→Int}:(ts:List Tm)→(∀ x,zjz x ts→e x=e' x)→zfN m nums e ts=zfN m nums e' ts
 | [],_=>rfl
 | t::ts,h=>by
  show zee m nums e t::zfN m nums e ts=zee m nums e' t::zfN m nums e' ts
  rw[zzv t fun x hx=>h x (.inl hx),zl5 ts fun x hx=>h x (.inr hx)]
end
end
structure EnvOk (m:Int) (E:List Int):Prop where
 len:E.length=24
 rng:∀ x∈E,0≤x∧x<m
def zbf (E:List Int) (n:Nat):Int:=E.getD n 0
theorem EnvOk.get {m:Int} {E:List Int} (h:EnvOk m E) {n:Nat} (hn:n<24):E[n]? = some (zbf E n):=by
 unfold zbf
 rw[List.getD_eq_getElem?_getD,List.getElem?_eq_getElem (by rw[h.len]; exact hn)]
 rfl
theorem EnvOk.val {m:Int} {E:List Int} (h:EnvOk m E) {n:Nat} (hn:n<24):0≤zbf E n∧zbf E n<m:=h.rng _ (List.mem_of_getElem? (h.get hn))
theorem zt9 {m:Int} (hm:0<m) {nums:List Int} (hn:zdB nums) {env:Nat→Int} {a0:List zi} (hs:SignOk a0) (t:Tm) (ho:t.ok a0 24) (h:∀ x,x<24→0≤env x∧env x<m):0≤zee m nums env t∧zee m nums env t<m:=by
 cases t with
 | v n=>exact h n ho
 | f c ts =>
  have h3:ts.length≤3:=zkA hs ho.1
  have h1:=(zpf m hn (c:Int) (xs:=zfN m nums env ts) (by rw[ziS]; omega)).2
  exact ⟨Int.tmod_nonneg _ h1.1,Int.tmod_lt_of_pos _ hm⟩
theorem zoO {a0:List zi} (hs:SignOk a0) {c q:Nat} (h:zc2 a0 (c:Int)=some q):∃ e,gx a0 (c:Int)=some e∧e.2.2.1=(q:Int):=by
 unfold zc2 at h
 rw[decide_eq_false (show ¬(c:Int)<0 by omega),cond_false,Int.toNat_natCast] at h
 cases he:a0[c]? with
 | none=>rw[he] at h; cases h
 | some e =>
  rw[he] at h
  simp only at h
  refine ⟨e,by rw[yx,he],?_⟩
  have:=hs.at he
  cases hk:(e.2.1==0) with
  | true=>rw[hk] at h; cases h
  | false=>rw[hk] at h; injection h with h; omega
theorem zom {m:Int} {nums:List Int} {a0:List zi} (rf:(Int×List Int×List zi×List Int×Int×List Int)→Option (Int×Int)) (r E:List Int) (env:Nat→Int) (c q:Nat) (e:zi) (he:gx a0 (c:Int)=some e) (hq:e.2.2.1=(q:Int)) (hr:r.length≤1000) :
  ∀(us:List Tm) (i k p:Nat) (out rest:List Int),i+us.length=q→q≤3→us.length<k→out.length=i→r.drop p=za us++rest →
   (∀ u∈us,∀ p rest,r.drop p=u.codes++rest→rf (m,nums,a0,r,(p:Int),E)=some (zee m nums env u,((p+u.size:Nat):Int))) →
   lp (yS rf) k (a0,r,(p:Int),E,(c:Int),(i:Int),m,nums,out)=some (((p+zaC us:Nat):Int),out++zfN m nums env us)
 | [],i,k,p,out,rest,hi,hq3,hk,ho,hd,hrf=>by
  obtain⟨k,rfl⟩:∃ k',k=k'+1:=⟨k - 1,by simp at hk; omega⟩
  rw[zj]
  generalize lp (yS rf) k=rec
  unfold yS
  simp only[he,Option.bind_some,hq]
  rw[decide_eq_false (show ¬((i:Int)<(q:Int)) by simp at hi; omega),cond_false]
  simp [zfN,zaC]
 | u::us,i,k,p,out,rest,hi,hq3,hk,ho,hd,hrf=>by
  obtain⟨k,rfl⟩:∃ k',k=k'+1:=⟨k - 1,by simp at hk; omega⟩
  simp only[List.length_cons] at hi hk
  rw[zj]
  have hd1:r.drop p=u.codes++(za us++rest):=by rw[hd]; simp [za]
  have hd2:r.drop (p+u.size)=za us++rest:=by
   rw[← List.drop_drop,hd1,← Tm.codes_len,List.drop_left]
  have key:=fun out ho=>zom rf r E env c q e he hq hr us (i+1) k (p+u.size) out rest (by omega) hq3 (by omega) ho hd2 (fun w hw=>hrf w (List.mem_cons_of_mem _ hw))
  generalize lp (yS rf) k=rec at key ⊢
  unfold yS
  have w:IntKind.wrap .i64 ((i:Int)+1)=((i+1:Nat):Int):=by rw[zp]<;>omega
  simp only[he,Option.bind_some,hq,w]
  rw[decide_eq_true (show ((i:Int)<(q:Int)) by omega),cond_true,hrf u (List.mem_cons_self ..) p _ hd1,Option.bind_some,zq (by simp; omega),cond_true,key _ (by simp; omega)]
  simp [zfN,zaC,Nat.add_assoc]
theorem zyD {m:Int} (hm:0<m) {nums:List Int} (hn:zdB nums) {a0:List zi} (hs:SignOk a0) (r:List Int) (hr:r.length≤1000) {E:List Int} (hE:EnvOk m E):∀(k:Nat) (t:Tm) (p:Nat) (rest:List Int),t.size≤k→t.ok a0 24→r.drop p=t.codes++rest →
  zac k (m,nums,a0,r,(p:Int),E)=some (zee m nums (zbf E) t,((p+t.size:Nat):Int)):=by
 intro k
 induction k with
 | zero=>intro t p rest h; have:=t.size_pos; omega
 | succ k ih =>
  intro t p rest hk ho hd
  show zdQ (zac k) m nums a0 r (p:Int) E=_
  have hp:p<r.length:=by
   have:=congrArg List.length hd
   rw[List.length_append,Tm.codes_len,List.length_drop] at this
   have:=t.size_pos
   omega
  unfold zdQ
  have w:IntKind.wrap .i64 ((p:Int)+1)=((p+1:Nat):Int):=by rw[zp]<;>omega
  cases t with
  | v n =>
   have hn24:n<24:=ho
   have hd:r.drop p=(-1 - (n:Int))::rest:=hd
   rw[yx,zh hd,Option.bind_some,decide_eq_true (show -1 - (n:Int)<0 by omega),cond_true]
   have w2:IntKind.wrap .i64 ((-1) - (-1 - (n:Int)))=(n:Int):=by rw[zp]<;>omega
   rw[w2,yx,hE.get hn24,Option.bind_some,w]
   rfl
  | f c ts =>
   have hd:r.drop p=(c:Int)::(za ts++rest):=hd
   have h3:ts.length≤3:=zkA hs ho.1
   obtain⟨e,he,hq⟩:=zoO hs ho.1
   rw[yx,zh hd,Option.bind_some,decide_eq_false (show ¬(c:Int)<0 by omega),cond_false,w]
   simp only[Tm.size] at hk
   have:=zom (m:=m) (nums:=nums) (a0:=a0) (zac k) r E (zbf E) c ts.length e he hq hr ts 0 zd (p+1) [] rest (by omega) h3 (by unfold zd; omega) rfl (ze hd) (fun u hu p' rest' hd'=>by
    refine ih u p' rest' ?_ (zcp.1 ho.2 u hu) hd'
    have:u.size≤zaC ts:=by
     obtain⟨l1,l2,rfl⟩:=List.append_of_mem hu
     rw[zm9]; simp only[zaC]; omega
    omega)
   rw[show ((0:Nat):Int)=0 from rfl] at this
   rw[this,Option.bind_some,List.nil_append]
   simp only
   rw[(zpf m hn (c:Int) (xs:=zfN m nums (zbf E) ts) (by rw[ziS]; omega)).1,Option.bind_some,decide_eq_false (show ¬(m=0) by omega),cond_false]
   show some (_,_)=some (_,_)
   simp only[Tm.size,zee]
   rw[show p+1+zaC ts=p+(zaC ts+1) from by omega]
theorem zzX {m:Int} (hm:0<m) {nums:List Int} (hn:zdB nums) {a0:List zi} (hs:SignOk a0) {r:List Int} (hr:r.length≤1000) {E:List Int} (hE:EnvOk m E) {t:Tm} {p:Nat} {rest:List Int} (ho:t.ok a0 24) (hd:r.drop p=t.codes++rest) :
  zeM m nums a0 r (p:Int) E=some (zee m nums (zbf E) t,((p+t.size:Nat):Int)):=by
 refine zyD hm hn hs r hr hE zd t p rest ?_ ho hd
 have:=congrArg List.length hd
 rw[List.length_append,Tm.codes_len,List.length_drop] at this
 unfold zd
 omega
theorem zot {m:Int} (hm:0<m) {nums:List Int} (hn:zdB nums) {a0:List zi} (hs:SignOk a0) (r:List Int) (hr:r.length≤1000) {E:List Int} (hE:EnvOk m E):(us:List Tm)→(p k:Nat)→(out:List Int)→r.drop p=za us→okR a0 24 us→us.length<k→out.length+us.length≤10000 →
  lp yD k (a0,r,E,(p:Int),m,nums,out)=some (out++zfN m nums (zbf E) us)
 | [],p,k,out,hd,_,hk,_=>by
  obtain⟨k,rfl⟩:∃ k',k=k'+1:=⟨k - 1,by simp at hk; omega⟩
  rw[zj]
  generalize lp yD k=rec
  unfold yD
  have:r.length≤p:=by
   have:=congrArg List.length hd
   simp [za] at this; omega
  rw[decide_eq_false (show ¬((p:Int)<((List.length r:Nat):Int)) by omega),cond_false]
  simp [zfN]
 | u::us,p,k,out,hd,ho,hk,hl=>by
  obtain⟨k,rfl⟩:∃ k',k=k'+1:=⟨k - 1,by simp at hk; omega⟩
  simp only[List.length_cons] at hk hl
  rw[zj]
  have hd1:r.drop p=u.codes++za us:=hd
  have hd2:r.drop (p+u.size)=za us:=by
   rw[← List.drop_drop,hd1,← Tm.codes_len,List.drop_left]
  have key:=fun out ho'=>zot hm hn hs r hr hE us (p+u.size) k out hd2 ho.2 (by omega) ho'
  generalize lp yD k=rec at key ⊢
  unfold yD
  have hp:p<r.length:=by
   have:=congrArg List.length hd1
   rw[List.length_append,Tm.codes_len,List.length_drop] at this
   have:=u.size_pos
   omega
  rw[decide_eq_true (show ((p:Int)<((List.length r:Nat):Int)) by omega),cond_true,zzX hm hn hs hr hE ho.1 hd1,Option.bind_some,zq (by simp; omega),cond_true,key _ (by simp; omega)]
  simp [zfN]
theorem zp9 {m:Int} (hm:0<m) {nums:List Int} (hn:zdB nums) {a0:List zi} (hs:SignOk a0) {E:List Int} (hE:EnvOk m E) {us:List Tm} (ho:okR a0 24 us) (hl:(za us).length≤1000) :
  zbE m nums a0 (za us) E=some (zfN m nums (zbf E) us):=by
 have h1:=zeW (z1 us ho)
 rw[List.length_map] at h1
 unfold zbE
 have:=zot hm hn hs (za us) hl hE us 0 zd [] rfl ho (by unfold zd; omega) (by simp; omega)
 rw[show ((0:Nat):Int)=0 from rfl] at this
 rw[this]
 rfl
def zqS (m:Int) (nums:List Int) (env:Nat→Int) (c:Nat) (ts:List Tm):Bool :=
 cond (c==0) ((zfN m nums env ts)[0]? == (zfN m nums env ts)[1]?) ((zvO .and .i64 (zj8 m nums (c:Int) (zfN m nums env ts)) 1).getD 0==1)
def zfs (m:Int) (nums:List Int) (env:Nat→Int) (ts:List Tm):Bool:=(zvO .and .i64 (zj8 m nums 101 (zfN m nums env ts)) 2).getD 0==2
theorem zEx {m:Int} (hm:0<m) {nums:List Int} (hn:zdB nums) {a0:List zi} (hs:SignOk a0) {E:List Int} (hE:EnvOk m E) {c:Nat} {ts:List Tm} {e:zi} (ho:okR a0 24 ts) (he:a0[c]? = some e) (hlen:((ts.length:Nat):Int)=e.2.2.1) (hl:(za ts).length≤48) :
  zcC m nums a0 ((c:Int)::za ts) E=some (zqS m nums (zbf E) c ts):=by
 have h1:=zeW (z1 ts ho)
 rw[List.length_map] at h1
 unfold zcC zqS
 rw[zcM,Option.bind_some,zp9 hm hn hs hE ho (by omega),Option.bind_some,qf,List.getElem?_cons_zero,Option.bind_some]
 by_cases hc:c=0
 ·subst hc
  have h2:ts.length=2:=by
   rw[hs.eq] at he
   injection he with he
   subst he
   have:((ts.length:Nat):Int)=2:=hlen
   omega
  have hv:(zfN m nums (zbf E) ts).length=2:=by rw[ziS,h2]
  rw[show (((0:Nat):Int)==0)=true from rfl,cond_true,show ((0:Nat)==0)=true from rfl,cond_true]
  have i0:inR 0 (List.length (zfN m nums (zbf E) ts))=some 0:=yB (i:=0) (by omega)
  have i1:inR 1 (List.length (zfN m nums (zbf E) ts))=some 1:=yB (i:=1) (by omega)
  rw[i0,i1]
  obtain⟨v0,g0⟩:∃ v,(zfN m nums (zbf E) ts)[0]? = some v:=⟨_,List.getElem?_eq_getElem (by omega)⟩
  obtain⟨v1,g1⟩:∃ v,(zfN m nums (zbf E) ts)[1]? = some v:=⟨_,List.getElem?_eq_getElem (by omega)⟩
  simp only[g0,g1,Option.bind_some]
  rfl
 ·rw[show ((c:Int)==0)=false from by simp; omega,cond_false,show (c==0)=false from by simp [hc],cond_false]
  simp only[Option.bind_some]
  rw[(zpf m hn (c:Int) (xs:=zfN m nums (zbf E) ts) (by rw[ziS]; omega)).1,Option.bind_some]
  obtain⟨v,hv,-⟩:=zrD (zj8 m nums (c:Int) (zfN m nums (zbf E) ts)) 1 (by omega)
  have hv:zvO .and .i64 (zj8 m nums (c:Int) (zfN m nums (zbf E) ts)) 1=some (v:Int):=hv
  rw[hv]
  rfl
theorem zz5 {m:Int} (hm:0<m) {nums:List Int} (hn:zdB nums) {a0:List zi} (hs:SignOk a0) {E:List Int} (hE:EnvOk m E) {ts:List Tm} (ho:okR a0 24 ts) (hl:(za ts).length≤48) :
  zb3 m nums a0 (za ts) E=some (zfs m nums (zbf E) ts):=by
 have h1:=zeW (z1 ts ho)
 rw[List.length_map] at h1
 unfold zb3 zfs
 rw[zp9 hm hn hs hE ho (by omega),Option.bind_some,(zpf m hn 101 (xs:=zfN m nums (zbf E) ts) (by rw[ziS]; omega)).1,Option.bind_some]
 obtain⟨v,hv,-⟩:=zrD (zj8 m nums 101 (zfN m nums (zbf E) ts)) 2 (by omega)
 have hv:zvO .and .i64 (zj8 m nums 101 (zfN m nums (zbf E) ts)) 2=some (v:Int):=hv
 rw[hv]
 rfl
end
end Go.Abs.Q
namespace Go.Abs.Q
open Go Go.Abs
section
abbrev zde:=Bool×Nat×List Tm
def cl (l:zde):zc:=(l.1,(l.2.1:Int)::za l.2.2)
def WfL (a0:List zi) (l:zde):Prop:=okR a0 24 l.2.2∧(∃ e,a0[l.2.1]? = some e∧e.2.1=0∧((l.2.2.length:Nat):Int)=e.2.2.1)∧(za l.2.2).length≤48
def WfR (a0:List zi) (ts:List Tm):Prop:=okR a0 24 ts∧(za ts).length≤48
theorem zmc {a0:List zi}:(ls:List zc)→zeC a0 ls=true→∃ lt:List zde,ls=lt.map cl∧∀ l∈lt,WfL a0 l
 | [],_=>⟨[],rfl,fun _ h=>(nomatch h)⟩
 | l::ls,h=>by
  unfold zeC at h
  rw[List.all_cons,Bool.and_eq_true] at h
  obtain⟨lt,h1,h2⟩:=zmc ls h.2
  obtain⟨c,ts,e,h3,h4,h5,h6,h7,h8,-⟩:=zeA h.1
  refine ⟨(l.1,c,ts)::lt,by rw[List.map_cons,← h1]; show l::ls=(l.1,(c:Int)::za ts)::ls; rw[← h3],fun x hx => ?_⟩
  rcases List.mem_cons.1 hx with rfl | hx
  ·exact ⟨h4,⟨e,h5,h6,h7⟩,h8⟩
  ·exact h2 x hx
theorem zvo {a0:List zi} {rs:List jI} (h:zgA a0 rs=true):∃ rt:List (List Tm),rs=rt.map za∧∀ r∈rt,WfR a0 r:=by
 obtain⟨n,hn⟩:=zhT h
 clear h
 induction rs with
 | nil=>exact ⟨[],rfl,fun _ h=>(nomatch h)⟩
 | cons r rs ih =>
  obtain⟨rt,h1,h2⟩:=ih fun q hq=>hn q (List.mem_cons_of_mem _ hq)
  obtain⟨ps,hc,-,hl,-⟩:=zkp (hn r (List.mem_cons_self ..))
  obtain⟨ts,h3,-,h4⟩:=zBA hc
  refine ⟨ts::rt,by rw[List.map_cons,← h1,← h4],fun x hx => ?_⟩
  rcases List.mem_cons.1 hx with rfl | hx
  ·exact ⟨h3,by rw[← h4]; exact hl⟩
  ·exact h2 x hx
theorem zpk {a0:List zi} {L:List zc} {T:List jI} {C:List zc} (h:zb5 a0 L T C=true):∃(Lt:List zde) (Tt:List (List Tm)) (Ct:List zde),L=Lt.map cl∧T=Tt.map za∧C=Ct.map cl∧(∀ l∈Lt,WfL a0 l)∧(∀ r∈Tt,WfR a0 r)∧∀ l∈Ct,WfL a0 l:=by
 obtain⟨-,-,-,-,h4,h5,h6,-⟩:=zv h
 obtain⟨Lt,a1,a2⟩:=zmc L h4
 obtain⟨Tt,b1,b2⟩:=zvo h5
 obtain⟨Ct,c1,c2⟩:=zmc C h6
 exact ⟨Lt,Tt,Ct,a1,b1,c1,a2,b2,c2⟩
def zlx (m:Int) (nums:List Int) (env:Nat→Int) (l:zde):Bool := !(zqS m nums env l.2.1 l.2.2==l.1)
def zfQ (m:Int) (nums:List Int) (env:Nat→Int) (L:List zde) (T:List (List Tm)) (C:List zde):Bool := !(C.all (zlx m nums env))||(L.any (zlx m nums env)||T.any (zfs m nums env))
section
variable {m:Int} (hm:0<m) {nums:List Int} (hn:zdB nums) {a0:List zi} (hs:SignOk a0) {E:List Int} (hE:EnvOk m E)
include hm hn hs hE
theorem zCl {l:zde} (h:WfL a0 l):zbm m nums a0 (cl l).1 (cl l).2 E=some (zlx m nums (zbf E) l):=by
 obtain⟨h1,⟨e,h2,h3,h4⟩,h5⟩:=h
 unfold zbm
 show (zcC m nums a0 ((l.2.1:Int)::za l.2.2) E).bind _=_
 rw[zEx hm hn hs hE h1 h2 h4 h5]
 rfl
theorem zxW:(es:List zde)→(∀ l∈es,WfL a0 l)→yo a0 E m nums (es.map cl)=some (cond (es.all (zlx m nums (zbf E))) (.inl ()) (.inr true))
 | [],_=>rfl
 | e::es,h=>by
  rw[List.map_cons]
  unfold yo
  rw[zCl hm hn hs hE (h e (List.mem_cons_self ..)),Option.bind_some,zxW es fun l hl=>h l (List.mem_cons_of_mem _ hl),List.all_cons]
  cases zlx m nums (zbf E) e<;>rfl
theorem zwV:(es:List zde)→(∀ l∈es,WfL a0 l)→yw a0 E m nums (es.map cl)=some (cond (es.any (zlx m nums (zbf E))) (.inr true) (.inl ()))
 | [],_=>rfl
 | e::es,h=>by
  rw[List.map_cons]
  unfold yw
  rw[zCl hm hn hs hE (h e (List.mem_cons_self ..)),Option.bind_some,zwV es fun l hl=>h l (List.mem_cons_of_mem _ hl),List.any_cons]
  cases zlx m nums (zbf E) e<;>rfl
theorem zzc:(es:List (List Tm))→(∀ l∈es,WfR a0 l)→yl a0 E m nums (es.map za)=some (cond (es.any (zfs m nums (zbf E))) (.inr true) (.inl ()))
 | [],_=>rfl
 | e::es,h=>by
  rw[List.map_cons]
  unfold yl
  have he:=h e (List.mem_cons_self ..)
  rw[zz5 hm hn hs hE he.1 he.2,Option.bind_some,zzc es fun l hl=>h l (List.mem_cons_of_mem _ hl),List.any_cons]
  cases zfs m nums (zbf E) e<;>rfl
theorem zEv {L:List zde} {T:List (List Tm)} {C:List zde} (hL:∀ l∈L,WfL a0 l) (hT:∀ r∈T,WfR a0 r) (hC:∀ l∈C,WfL a0 l) (h1:L.length≤1000) (h2:T.length≤1000) (h3:C.length≤1000) :
  zcv m nums a0 (L.map cl) (T.map za) (C.map cl) E=some (zfQ m nums (zbf E) L T C):=by
 unfold zcv zfQ
 rw[zgi _ _ _ _ _ _ _ (by rw[List.length_map]; unfold maxLen; omega),zxW hm hn hs hE C hC,Option.bind_some]
 cases C.all (zlx m nums (zbf E)) with
 | false=>rfl
 | true =>
  simp only[cond_true,zb1]
  rw[zge _ _ _ _ _ _ _ (by rw[List.length_map]; unfold maxLen; omega),zwV hm hn hs hE L hL,Option.bind_some]
  cases L.any (zlx m nums (zbf E)) with
  | true=>rfl
  | false =>
   simp only[cond_false,zb1]
   rw[zgm _ _ _ _ _ _ _ (by rw[List.length_map]; unfold maxLen; omega),zzc hm hn hs hE T hT,Option.bind_some]
   cases T.any (zfs m nums (zbf E))<;>rfl
end
def ziz (m:Nat) (E:List Int):List Nat→Nat
 | []=>0
 | v::vs=>(zbf E v).toNat+m*ziz m E vs
theorem zo9 {m:Nat} {E E':List Int}:(vs:List Nat)→(∀ v∈vs,zbf E v=zbf E' v)→ziz m E vs=ziz m E' vs
 | [],_=>rfl
 | v::vs,h=>by
  unfold ziz
  rw[h v (List.mem_cons_self ..),zo9 vs fun w hw=>h w (List.mem_cons_of_mem _ hw)]
theorem ziQ {E:List Int} {v w:Nat} {x:Int} (hv:v<E.length):zbf (E.set v x) w=if w=v then x else zbf E w:=by
 unfold zbf
 rw[List.getD_eq_getElem?_getD,List.getD_eq_getElem?_getD]
 by_cases h:w=v
 ·subst h; rw[List.getElem?_set_self hv,if_pos rfl]; rfl
 ·rw[List.getElem?_set_ne (Ne.symm h),if_neg h]
theorem EnvOk.set {m:Int} {E:List Int} (h:EnvOk m E) {v:Nat} {x:Int} (hx:0≤x∧x<m):EnvOk m (E.set v x) where
 len:=by rw[List.length_set]; exact h.len
 rng:=fun y hy=>by
  rcases List.mem_or_eq_of_mem_set hy with hy | hy
  ·exact h.rng y hy
  ·rw[hy]; exact hx
theorem zyk {m:Nat} (hm:0<m) (hm3:m≤1000):(vs:List Nat)→(E:List Int)→vs.Nodup→(∀ v∈vs,v<24)→EnvOk (m:Int) E →
  (∃ E',zW (m:Int) (vs.map fun v:Nat=>(v:Int)) E=some (.inr (true,E'))∧EnvOk (m:Int) E'∧ziz m E' vs=ziz m E vs+1∧∀ w,w∉vs→zbf E' w=zbf E w) ∨
  (∃ E',zW (m:Int) (vs.map fun v:Nat=>(v:Int)) E=some (.inl E')∧E'.length=24∧ziz m E vs+1=m ^ vs.length)
 | [],E,_,_,hE=>.inr ⟨E,rfl,hE.len,rfl⟩
 | v::vs,E,hnd,h24,hE=>by
  have hnd:=List.nodup_cons.1 hnd
  have hv:=h24 v (List.mem_cons_self ..)
  have hx:=hE.val hv
  have hlen:=hE.len
  have hwx:IntKind.wrap .i64 (zbf E v+1)=zbf E v+1:=by rw[zp]<;>omega
  rw[List.map_cons]
  unfold zW
  have i1:inR (v:Int) (List.length E)=some v:=yB (by omega)
  have i2:inR (v:Int) (List.length (E.set v (zbf E v+1)))=some v:=yB (by rw[List.length_set]; omega)
  have g2:(E.set v (zbf E v+1))[v]? = some (zbf E v+1):=List.getElem?_set_self (by omega)
  simp only[i1,hE.get hv,Option.bind_some,hwx,i2,g2,List.set_set]
  by_cases hlt:zbf E v+1<(m:Int)
  ·rw[decide_eq_true hlt,cond_true]
   refine .inl ⟨_,rfl,hE.set ⟨by omega,hlt⟩,?_,fun w hw => ?_⟩
   ·unfold ziz
    rw[ziQ (by omega),if_pos rfl,zo9 (E:=E.set v (zbf E v+1)) (E':=E) vs fun w hw=>by
     rw[ziQ (by omega),if_neg (show w≠v from fun e=>hnd.1 (e▸hw))]]
    omega
   ·rw[ziQ (by omega),if_neg (show w≠v from fun e=>hw (by rw[e]; exact List.mem_cons_self ..))]
  ·rw[decide_eq_false hlt,cond_false]
   have hE0:EnvOk (m:Int) (E.set v 0):=hE.set ⟨by omega,by omega⟩
   have hnum:ziz m (E.set v 0) vs=ziz m E vs:=zo9 vs fun w hw=>by
    rw[ziQ (by omega),if_neg (show w≠v from fun e=>hnd.1 (e▸hw))]
   have hxm:(zbf E v).toNat+1=m:=by omega
   rcases zyk hm hm3 vs (E.set v 0) hnd.2 (fun w hw=>h24 w (List.mem_cons_of_mem _ hw)) hE0 with ⟨E',h1,h2,h3,h4⟩ | ⟨E',h1,h2,h3⟩
   ·rw[h1]
    refine .inl ⟨E',rfl,h2,?_,fun w hw => ?_⟩
    ·unfold ziz
     rw[h3,hnum,h4 v hnd.1,ziQ (by omega),if_pos rfl,Nat.mul_add]
     simp only[Int.toNat_zero]
     omega
    ·rw[h4 w fun h=>hw (List.mem_cons_of_mem _ h),ziQ (by omega),if_neg (show w≠v from fun e=>hw (by rw[e]; exact List.mem_cons_self ..))]
   ·rw[h1]
    refine .inr ⟨E',rfl,h2,?_⟩
    unfold ziz
    rw[hnum] at h3
    rw[List.length_cons,Nat.pow_succ,← h3,Nat.add_mul,Nat.mul_comm m]
    omega
theorem zyR {m:Nat} (hm:0<m) (hm3:m≤1000) (nums:List Int) {vs:List Nat} {E:List Int} (hnd:vs.Nodup) (h24:∀ v∈vs,v<24) (hE:EnvOk (m:Int) E) :
  (∃ E',zcE (m:Int) nums (vs.map fun v:Nat=>(v:Int)) E=some (true,E')∧EnvOk (m:Int) E'∧ziz m E' vs=ziz m E vs+1∧∀ w,w∉vs→zbf E' w=zbf E w) ∨
  (∃ E',zcE (m:Int) nums (vs.map fun v:Nat=>(v:Int)) E=some (false,E')∧ziz m E vs+1=m ^ vs.length):=by
 have hvl:vs.length≤24:=by
  have:=zku vs (List.range 24) hnd fun v hv=>List.mem_range.2 (h24 v hv)
  simpa using this
 have hne:List.isEmpty E=false:=by
  cases E with
  | nil=>have:=hE.len; simp at this
  | cons _ _=>rfl
 unfold zcE
 rw[zgc _ _ _ _ (by rw[List.length_map]; unfold maxLen; omega)]
 rcases zyk hm hm3 vs E hnd h24 hE with ⟨E',h1,h2,h3⟩ | ⟨E',h1,h2,h3⟩
 ·rw[h1]
  refine .inl ⟨E',?_,h2,h3⟩
  simp only[Option.bind_some,zx0,hne,Bool.not_false,Bool.and_self,cond_true,hE.len,h2.len]
  rfl
 ·rw[h1]
  refine .inr ⟨E',?_,h3⟩
  simp only[Option.bind_some,zb1,hne,Bool.not_false,Bool.and_self,cond_true,hE.len,h2]
  rfl
theorem zro {m:Nat} (hm:0<m) {E:List Int} (hE:EnvOk (m:Int) E):(vs:List Nat)→(∀ v∈vs,v<24)→ziz m E vs<m ^ vs.length
 | [],_=>by simp [ziz]
 | v::vs,h=>by
  have h1:=hE.val (h v (List.mem_cons_self ..))
  have h2:=zro hm hE vs fun w hw=>h w (List.mem_cons_of_mem _ hw)
  unfold ziz
  rw[List.length_cons,Nat.pow_succ,Nat.mul_comm (m ^ vs.length)]
  have h3:m*(ziz m E vs+1)≤m*m ^ vs.length:=Nat.mul_le_mul_left _ h2
  rw[Nat.mul_add] at h3
  omega
theorem zty {m:Nat} (hm:0<m) {E E':List Int} (hE:EnvOk (m:Int) E) (hE':EnvOk (m:Int) E'):(vs:List Nat)→(∀ v∈vs,v<24)→ziz m E vs=ziz m E' vs→∀ v∈vs,zbf E v=zbf E' v
 | [],_,_,v,hv=>nomatch hv
 | v::vs,h,he,w,hw=>by
  have h1:=hE.val (h v (List.mem_cons_self ..))
  have h2:=hE'.val (h v (List.mem_cons_self ..))
  unfold ziz at he
  have e1:((zbf E v).toNat+m*ziz m E vs) % m=(zbf E v).toNat:=by rw[Nat.add_mul_mod_self_left]; exact Nat.mod_eq_of_lt (by omega)
  have e2:((zbf E' v).toNat+m*ziz m E' vs) % m=(zbf E' v).toNat:=by rw[Nat.add_mul_mod_self_left]; exact Nat.mod_eq_of_lt (by omega)
  have e3:(zbf E v).toNat=(zbf E' v).toNat:=by rw[← e1,← e2,he]
  have e4:ziz m E vs=ziz m E' vs:=by
   have:m*ziz m E vs=m*ziz m E' vs:=by omega
   exact Nat.eq_of_mul_eq_mul_left hm this
  rcases List.mem_cons.1 hw with rfl | hw
  ·omega
  ·exact zty hm hE hE' vs (fun w hw=>h w (List.mem_cons_of_mem _ hw)) e4 w hw
theorem zoX {m:Nat} (hm:0<m) (hm3:m≤1000) {nums:List Int} {a0:List zi} {L:List zc} {T:List jI} {C:List zc} {vs:List Nat} (hnd:vs.Nodup) (h24:∀ v∈vs,v<24)
  (here:List Int→Bool) (hh:∀ E,EnvOk (m:Int) E→zcv (m:Int) nums a0 L T C E=some (here E)) (hext:∀ E E',EnvOk (m:Int) E→EnvOk (m:Int) E'→(∀ v∈vs,zbf E v=zbf E' v)→here E=here E') :
  ∀(d k:Nat) (E:List Int),EnvOk (m:Int) E→m ^ vs.length - ziz m E vs≤d→d<k →
   ∃ b,lp zan k (a0,vs.map (fun v:Nat=>(v:Int)),(m:Int),nums,L,T,C,E)=some b∧(b=true↔∀ E',EnvOk (m:Int) E'→ziz m E vs≤ziz m E' vs→here E'=true):=by
 intro d
 induction d with
 | zero =>
  intro k E hE hd
  have:=zro hm hE vs h24
  omega
 | succ d ih =>
  intro k E hE hd hk
  obtain⟨k,rfl⟩:∃ k',k=k'+1:=⟨k - 1,by omega⟩
  rw[zj]
  have key:=fun E hE h=>ih k E hE h (by omega)
  generalize lp zan k=rec at key ⊢
  unfold zan
  simp only
  rw[hh E hE,Option.bind_some]
  cases hb:here E with
  | false =>
   refine ⟨false,rfl,?_⟩
   constructor
   ·intro h; cases h
   ·intro h; have:=h E hE (Nat.le_refl _); rw[hb] at this; cases this
  | true =>
   simp only[Bool.not_true,cond_false]
   have self:∀ E',EnvOk (m:Int) E'→ziz m E' vs=ziz m E vs→here E'=true:=fun E' hE' he=>by
    rw[hext E' E hE' hE (zty hm hE' hE vs h24 he),hb]
   rcases zyR hm hm3 nums hnd h24 hE with ⟨E1,h1,h2,h3,h4⟩ | ⟨E1,h1,h2⟩
   ·rw[h1]
    simp only[Option.bind_some,Bool.not_true,cond_false]
    obtain⟨b,g1,g2⟩:=key E1 h2 (by rw[h3]; omega)
    refine ⟨b,g1,g2.trans ⟨fun h E' hE' hle => ?_,fun h E' hE' hle=>h E' hE' (by omega)⟩⟩
    rcases Nat.eq_or_lt_of_le hle with he | hlt
    ·exact self E' hE' he.symm
    ·exact h E' hE' (by omega)
   ·rw[h1]
    refine ⟨true,rfl,⟨fun _ E' hE' hle => ?_,fun _=>rfl⟩⟩
    have:=zro hm hE' vs h24
    exact self E' hE' (by omega)
end
end Go.Abs.Q
namespace Go.Abs.Q
open Go Go.Abs
section
theorem zIe (v:Nat) (hv:v<24):(es:List Int)→zbP (v:Int) es=some (cond (decide (-1 - (v:Int)∈es)) (.inr true) (.inl ()))
 | []=>rfl
 | e::es=>by
  unfold zbP
  have w:IntKind.wrap .i64 ((-1) - (v:Int)) = -1 - (v:Int):=by rw[zp]<;>omega
  rw[w,zIe v hv es]
  by_cases he:e = -1 - (v:Int)
  ·rw[show (e == -1 - (v:Int))=true from by simp [he],decide_eq_true (show -1 - (v:Int)∈e::es by rw[he]; exact List.mem_cons_self ..)]
   rfl
  ·rw[show (e == -1 - (v:Int))=false from by simp [he],cond_false]
   by_cases hm:(-1 - (v:Int))∈es
   ·rw[decide_eq_true hm,decide_eq_true (List.mem_cons_of_mem _ hm)]
   ·rw[decide_eq_false hm,decide_eq_false fun h=>(List.mem_cons.1 h).elim (fun h=>he h.symm) hm]
theorem zt2 {v:Nat} (hv:v<24) {r:List Int} (hl:r.length≤1000000):zoV r (v:Int)=some (decide (-1 - (v:Int)∈r)):=by
 unfold zoV
 rw[zla _ _ (by unfold maxLen; omega),zIe v hv,Option.bind_some]
 cases decide (-1 - (v:Int)∈r)<;>rfl
def zE4 (r:List Int) (v:Nat):Bool:=decide (-1 - (v:Int)∈r)
theorem zpU {r:List Int} (hl:r.length≤1000000):∀(d v k:Nat) (out:List Int),24 - v=d→v≤24→d<k→out.length≤v →
  lp zbi k (r,(v:Int),out)=some (out++(((List.range 24).drop v).filter (zE4 r)).map fun v:Nat=>(v:Int)):=by
 intro d
 induction d with
 | zero =>
  intro v k out hd hv hk ho
  obtain⟨k,rfl⟩:∃ k',k=k'+1:=⟨k - 1,by omega⟩
  rw[zj]
  generalize lp zbi k=rec
  unfold zbi
  have:v=24:=by omega
  subst this
  rw[show (List.range 24).drop 24=[] from rfl]
  simp
 | succ d ih =>
  intro v k out hd hv hk ho
  obtain⟨k,rfl⟩:∃ k',k=k'+1:=⟨k - 1,by omega⟩
  rw[zj]
  have key:=fun out ho=>ih (v+1) k out (by omega) (by omega) (by omega) ho
  generalize lp zbi k=rec at key ⊢
  unfold zbi
  have w:IntKind.wrap .i64 ((v:Int)+1)=((v+1:Nat):Int):=by rw[zp]<;>omega
  have hdr:(List.range 24).drop v=v::(List.range 24).drop (v+1):=by
   rw[List.drop_eq_getElem_cons (by simp; omega)]
   simp
  simp only[decide_eq_true (show (v:Int)≤23 by omega),cond_true,zt2 (show v<24 by omega) hl,Option.bind_some,w]
  rw[hdr]
  by_cases hm:(-1 - (v:Int))∈r
  ·rw[decide_eq_true hm,cond_true,zq (by simp; omega),cond_true,key _ (by simp; omega)]
   have:zE4 r v=true:=decide_eq_true hm
   rw[List.filter_cons_of_pos this]
   simp
  ·rw[decide_eq_false hm,cond_false,key _ (by omega)]
   have:¬(zE4 r v=true):=by unfold zE4; rw[decide_eq_false hm]; simp
   rw[List.filter_cons_of_neg this]
theorem zyu:(es:List jI)→(out:List Int)→out.length+zn es≤1000000→yX es out=some (out++es.flatten)
 | [],out,_=>by simp [yX]
 | e::es,out,h=>by
  rw[zfx] at h
  unfold yX
  rw[zq (by omega),cond_true,zyu es _ (by rw[List.length_append]; omega)]
  simp
def zeX (L:List zc) (T:List jI) (C:List zc):List Nat:=(List.range 24).filter (zE4 (L.map (·.2)++T++C.map (·.2)).flatten)
theorem zhk (L:List zc) (T:List jI) (C:List zc):(zeX L T C).Nodup:=List.nodup_range.sublist List.filter_sublist
theorem zhp {L:List zc} {T:List jI} {C:List zc}:∀ v∈zeX L T C,v<24:=fun v hv=>List.mem_range.1 (List.mem_filter.1 hv).1
theorem zh1 {L:List zc} {T:List jI} {C:List zc} {v:Nat} (hv:v<24):v∈zeX L T C↔zhz (yC L T C) (v:Int):=by
 unfold zeX zE4
 rw[List.mem_filter]
 simp only[List.mem_range,hv,true_and,decide_eq_true_eq,List.mem_flatten]
 constructor
 ·rintro⟨r,hr,hc⟩
  refine ⟨r,?_,_,hc,by omega,by omega⟩
  unfold yC
  simp only[List.mem_append] at hr ⊢
  rcases hr with (hr | hr) | hr
  ·exact .inl (.inl hr)
  ·exact .inr hr
  ·exact .inl (.inr hr)
 ·rintro⟨r,hr,c,hc,h0,he⟩
  refine ⟨r,?_,by rw[show -1 - (v:Int)=c from by omega]; exact hc⟩
  unfold yC at hr
  simp only[List.mem_append] at hr ⊢
  rcases hr with (hr | hr) | hr
  ·exact .inl (.inl hr)
  ·exact .inr hr
  ·exact .inl (.inr hr)
theorem zel {L:List zc} {T:List jI} {C:List zc} (h1:L.length≤1000) (h2:T.length≤1000) (h3:C.length≤1000) (hl:zn (L.map (·.2))+zn T+zn (C.map (·.2))≤1000000) :
  zc3 L T C=some ((zeX L T C).map fun v:Nat=>(v:Int)):=by
 unfold zc3
 rw[zii L T C h1 h2 h3,Option.bind_some,zib _ _ (by simp; unfold maxLen; omega),zyu _ _ (by rw[zbe,zbe]; simp; omega),Option.bind_some]
 unfold zjt
 have hf:((L.map (·.2)++T++C.map (·.2)).flatten).length≤1000000:=by
  rw[← zzW,zbe,zbe]; omega
 have:=zpU hf 24 0 zd [] rfl (by omega) (by unfold zd; omega) (by simp)
 rw[show ((0:Nat):Int)=0 from rfl,List.drop_zero] at this
 simp only[List.nil_append] at this ⊢
 rw[this]
 rfl
def zo7 (L:List zde) (T:List (List Tm)) (C:List zde) (x:Nat):Prop:=(∃ l∈L,zjz x l.2.2)∨(∃ r∈T,zjz x r)∨∃ l∈C,zjz x l.2.2
theorem zoW {l:zde} {x:Nat}:zu6 (cl l).2 (x:Int)↔zjz x l.2.2:=by
 constructor
 ·rintro⟨c,hc,h0,he⟩
  rcases List.mem_cons.1 hc with rfl | hc
  ·omega
  ·obtain⟨k,h1,h2⟩:=zgF.1 ⟨c,hc,h0,he⟩
   have:x=k:=by omega
   rw[this]; exact h2
 ·intro h
  obtain⟨c,hc,h0,he⟩:=zgF.2 ⟨x,rfl,h⟩
  exact ⟨c,List.mem_cons_of_mem _ hc,h0,he⟩
theorem zhP {L:List zde} {T:List (List Tm)} {C:List zde} {x:Nat}:zhz (yC (L.map cl) (T.map za) (C.map cl)) (x:Int)↔zo7 L T C x:=by
 unfold yC zo7
 rw[zcZ,zcZ]
 constructor
 ·rintro ((⟨r,hr,h⟩ | ⟨r,hr,h⟩) | ⟨r,hr,h⟩)
  ·obtain⟨q,hq,rfl⟩:=List.mem_map.1 hr
   obtain⟨l,hl,rfl⟩:=List.mem_map.1 hq
   exact .inl ⟨l,hl,zoW.1 h⟩
  ·obtain⟨q,hq,rfl⟩:=List.mem_map.1 hr
   obtain⟨l,hl,rfl⟩:=List.mem_map.1 hq
   exact .inr (.inr ⟨l,hl,zoW.1 h⟩)
  ·obtain⟨l,hl,rfl⟩:=List.mem_map.1 hr
   obtain⟨k,h1,h2⟩:=zgF.1 h
   have:x=k:=by omega
   exact .inr (.inl ⟨l,hl,by rw[this]; exact h2⟩)
 ·rintro (⟨l,hl,h⟩ | ⟨r,hr,h⟩ | ⟨l,hl,h⟩)
  ·exact .inl (.inl ⟨_,List.mem_map_of_mem (List.mem_map_of_mem hl),zoW.2 h⟩)
  ·exact .inr ⟨_,List.mem_map_of_mem hr,zgF.2 ⟨x,rfl,h⟩⟩
  ·exact .inl (.inr ⟨_,List.mem_map_of_mem (List.mem_map_of_mem hl),zoW.2 h⟩)
theorem zsV {m:Int} {nums:List Int} {e e':Nat→Int} {l:zde} (h:∀ x,zjz x l.2.2→e x=e' x):zlx m nums e l=zlx m nums e' l:=by
 unfold zlx zqS
 rw[zl5 m nums l.2.2 h]
theorem zua {m:Int} {nums:List Int} {e e':Nat→Int} {r:List Tm} (h:∀ x,zjz x r→e x=e' x):zfs m nums e r=zfs m nums e' r:=by
 unfold zfs
 rw[zl5 m nums r h]
theorem zqV {α:Type} {p q:α→Bool} {l:List α} (h:∀ x∈l,p x=q x):l.all p=l.all q:=by
 induction l with
 | nil=>rfl
 | cons a l ih=>rw[List.all_cons,List.all_cons,h a (List.mem_cons_self ..),ih fun x hx=>h x (List.mem_cons_of_mem _ hx)]
theorem zki {α:Type} {p q:α→Bool} {l:List α} (h:∀ x∈l,p x=q x):l.any p=l.any q:=by
 induction l with
 | nil=>rfl
 | cons a l ih=>rw[List.any_cons,List.any_cons,h a (List.mem_cons_self ..),ih fun x hx=>h x (List.mem_cons_of_mem _ hx)]
theorem zj7 {m:Int} {nums:List Int} {e e':Nat→Int} {L:List zde} {T:List (List Tm)} {C:List zde} (h:∀ x,zo7 L T C x→e x=e' x):zfQ m nums e L T C=zfQ m nums e' L T C:=by
 unfold zfQ
 rw[zqV (l:=C) fun l hl=>zsV fun x hx=>h x (.inr (.inr ⟨l,hl,hx⟩)),zki (l:=L) fun l hl=>zsV fun x hx=>h x (.inl ⟨l,hl,hx⟩),
  zki (l:=T) fun r hr=>zua fun x hx=>h x (.inr (.inl ⟨r,hr,hx⟩))]
theorem zjN {m:Nat} (hm:0<m) (hm3:m≤3) {nums:List Int} (hn:zdB nums) {a0:List zi} (hs:SignOk a0) {L:List zde} {T:List (List Tm)} {C:List zde} (hmay:zb5 a0 (L.map cl) (T.map za) (C.map cl)=true) (hL:∀ l∈L,WfL a0 l) (hT:∀ r∈T,WfR a0 r) (hC:∀ l∈C,WfL a0 l) :
  ∃ b,zH (m:Int) nums a0 (L.map cl) (T.map za) (C.map cl)=some b∧(b=true↔∀ E,EnvOk (m:Int) E→zfQ (m:Int) nums (zbf E) L T C=true):=by
 obtain⟨-,h1,h2,h3,-,-,-,h7⟩:=zv hmay
 simp only[List.length_map] at h1 h2 h3
 have hE0:EnvOk (m:Int) (List.replicate 24 (0:Int)):=⟨by simp,fun x hx=>by have:=List.eq_of_mem_replicate hx; omega⟩
 have h0:ziz m (List.replicate 24 (0:Int)) (zeX (L.map cl) (T.map za) (C.map cl))=0:=by
  generalize zeX (L.map cl) (T.map za) (C.map cl)=vs
  induction vs with
  | nil=>rfl
  | cons v vs ih =>
   unfold ziz
   rw[ih]
   have:zbf (List.replicate 24 (0:Int)) v=0:=by
    unfold zbf
    rw[List.getD_eq_getElem?_getD,List.getElem?_replicate]
    split<;>rfl
   rw[this]
   simp
 have hvar:∀ x,zo7 L T C x→x∈zeX (L.map cl) (T.map za) (C.map cl):=fun x hx=>by
  have hx:=zhP.2 hx
  have:=zgg hmay hx
  exact (zh1 (by omega)).2 hx
 have hvl:(zeX (L.map cl) (T.map za) (C.map cl)).length≤24:=by
  have:=zku _ (List.range 24) (zhk (L.map cl) (T.map za) (C.map cl)) fun v hv=>List.mem_range.2 (zhp v hv)
  simpa using this
 obtain⟨b,g1,g2⟩:=zoX hm (by omega) (nums:=nums) (a0:=a0) (L:=L.map cl) (T:=T.map za) (C:=C.map cl) (zhk (L.map cl) (T.map za) (C.map cl)) zhp
  (fun E=>zfQ (m:Int) nums (zbf E) L T C) (fun E hE=>zEv (by omega) hn hs hE hL hT hC (by omega) (by omega) (by omega))
  (fun E E' _ _ h=>zj7 fun x hx=>h x (hvar x hx)) (m ^ (zeX (L.map cl) (T.map za) (C.map cl)).length) zd (List.replicate 24 (0:Int)) hE0 (by omega) (by
   have e1:m ^ (zeX (L.map cl) (T.map za) (C.map cl)).length≤3 ^ (zeX (L.map cl) (T.map za) (C.map cl)).length:=Nat.pow_le_pow_left hm3 _
   have e2:3 ^ (zeX (L.map cl) (T.map za) (C.map cl)).length≤3 ^ 24:=Nat.pow_le_pow_right (by omega) hvl
   have e3:(3:Nat) ^ 24=282429536481:=by decide
   unfold zd
   omega)
 refine ⟨b,?_,g2.trans ⟨fun h E hE=>h E hE (by rw[h0]; omega),fun h E hE _=>h E hE⟩⟩
 unfold zH
 rw[zel (by rw[List.length_map]; omega) (by rw[List.length_map]; omega) (by rw[List.length_map]; omega) (by omega),Option.bind_some]
 have he:zph=some (List.replicate 24 (0:Int)):=rfl
 rw[he,Option.bind_some,g1]
 rfl
end
end Go.Abs.Q
namespace Go.Abs.Q
open Go Go.Abs
section
abbrev zn2:=List Int×Int
def rho (s:zn2) (v:Nat):Nat:=(s.1.getD v 0).toNat - 1
structure RenI (s:zn2):Prop where
 len:s.1.length=24
 rng:∀ v,0≤s.1.getD v 0∧s.1.getD v 0≤s.2
 inj:∀ v w,s.1.getD v 0=s.1.getD w 0→s.1.getD v 0≠0→v=w
 cnt:((s.1.countP (fun x=>x != 0):Nat):Int)=s.2
def ExtS (s s':zn2):Prop:=∀ v,s.1.getD v 0≠0→s'.1.getD v 0=s.1.getD v 0
theorem ExtS.refl (s:zn2):ExtS s s:=fun _ _=>rfl
theorem ExtS.trans {s t u:zn2} (h:ExtS s t) (h':ExtS t u):ExtS s u:=fun v hv=>(h' v (by rw[h v hv]; exact hv)).trans (h v hv)
theorem RenI.next {s:zn2} (h:RenI s):0≤s.2∧s.2≤24:=by
 have h1:=h.cnt
 have h2:s.1.countP (fun x=>x != 0)≤s.1.length:=List.countP_le_length
 rw[h.len] at h2
 omega
theorem RenI.rho_lt {s:zn2} (h:RenI s) {v:Nat} (hv:s.1.getD v 0≠0):rho s v<24:=by
 have h1:=h.rng v
 have h2:=h.next
 unfold rho
 omega
theorem RenI.rho_inj {s:zn2} (h:RenI s) {v w:Nat} (hv:s.1.getD v 0≠0) (hw:s.1.getD w 0≠0) (he:rho s v=rho s w):v=w:=by
 have h1:=h.rng v
 have h2:=h.rng w
 unfold rho at he
 exact h.inj v w (by omega) hv
theorem zIK:RenI (List.replicate 24 (0:Int),0) where
 len:=by simp
 rng:=fun v=>by
  rw[List.getD_eq_getElem?_getD,List.getElem?_replicate]
  split<;>simp
 inj:=fun v w _ h=>by
  exfalso
  apply h
  rw[List.getD_eq_getElem?_getD,List.getElem?_replicate]
  split<;>rfl
 cnt:=by decide
theorem ztX {xs:List Int} {v:Nat} {y:Int} (hv:xs[v]? = some 0) (hy:y≠0):(xs.set v y).countP (fun x=>x != 0)=xs.countP (fun x=>x != 0)+1:=by
 obtain⟨hx,he⟩:=List.getElem?_eq_some_iff.1 hv
 have h1:=List.take_append_drop v xs
 have h2:xs.drop v=0::xs.drop (v+1):=by rw[List.drop_eq_getElem_cons hx,he]
 have h3:xs.set v y=xs.take v++y::xs.drop (v+1):=by rw[List.set_eq_take_append_cons_drop,if_pos hx]
 conv=>rhs; rw[← h1,h2]
 rw[h3]
 simp [List.countP_append,List.countP_cons,hy]
 omega
theorem zem {xs:List Int} {v w:Nat} {y:Int} (hv:v<xs.length):(xs.set v y).getD w 0=if w=v then y else xs.getD w 0:=by
 rw[List.getD_eq_getElem?_getD,List.getD_eq_getElem?_getD]
 by_cases h:w=v
 ·subst h; rw[List.getElem?_set_self hv,if_pos rfl]; rfl
 ·rw[List.getElem?_set_ne (Ne.symm h),if_neg h]
theorem zqX {s:zn2} (h:RenI s) {c:Int} (hc : -24≤c):RenI (zlW s c).2∧ExtS s (zlW s c).2∧(c<0→(zlW s c).2.1.getD (-1 - c).toNat 0≠0)∧∀ f,ExtS (zlW s c).2 f→[(zlW s c).1]=zhC (fun v=>.v (rho f v)) c:=by
 unfold zlW
 by_cases h0:c≥0
 ·rw[decide_eq_true h0,cond_true]
  refine ⟨h,ExtS.refl s,fun h1=>by omega,fun f _ => ?_⟩
  unfold zhC
  rw[if_neg (by omega)]
 ·rw[decide_eq_false h0,cond_false]
  have hv:(-1 - c).toNat<s.1.length:=by rw[h.len]; omega
  have hexp:∀ f:zn2,zhC (fun v=>.v (rho f v)) c=[-1 - ((rho f (-1 - c).toNat:Nat):Int)]:=fun f=>by
   unfold zhC
   rw[if_pos (by omega)]
   rfl
  by_cases hz:s.1.getD (-1 - c).toNat 0=0
  ·rw[show (s.1.getD (-1 - c).toNat 0==0)=true from by rw[hz]; rfl,cond_true]
   have hn:=h.next
   have hget:s.1[(-1 - c).toNat]? = some 0:=by
    rw[List.getD_eq_getElem?_getD,List.getElem?_eq_getElem hv] at hz
    rw[List.getElem?_eq_getElem hv]
    exact congrArg some hz
   refine ⟨⟨by simpa using h.len,fun v => ?_,fun v w he hnz => ?_,?_⟩,fun v hvz => ?_,fun _ => ?_,fun f hf => ?_⟩
   ·show 0≤(s.1.set _ _).getD v 0∧(s.1.set _ _).getD v 0≤s.2+1
    rw[zem hv]
    have:=h.rng v
    split<;>omega
   ·have he:(s.1.set (-1 - c).toNat (s.2+1)).getD v 0=(s.1.set (-1 - c).toNat (s.2+1)).getD w 0:=he
    have hnz:(s.1.set (-1 - c).toNat (s.2+1)).getD v 0≠0:=hnz
    rw[zem hv] at he hnz
    rw[zem hv] at he
    have h1:=h.rng v
    have h2:=h.rng w
    by_cases e1:v=(-1 - c).toNat
    ·rw[if_pos e1] at he hnz
     by_cases e2:w=(-1 - c).toNat
     ·rw[e1,e2]
     ·rw[if_neg e2] at he; omega
    ·rw[if_neg e1] at he hnz
     by_cases e2:w=(-1 - c).toNat
     ·rw[if_pos e2] at he; omega
     ·rw[if_neg e2] at he
      exact h.inj v w he hnz
   ·show (((s.1.set (-1 - c).toNat (s.2+1)).countP (fun x=>x != 0):Nat):Int)=s.2+1
    rw[ztX hget (by omega),← h.cnt]
    omega
   ·show (s.1.set _ _).getD v 0=_
    rw[zem hv]
    split
    ·rename_i e; rw[e,hz] at hvz; exact absurd rfl hvz
    ·rfl
   ·show (s.1.set _ _).getD _ 0≠0
    rw[zem hv,if_pos rfl]
    omega
   ·rw[hexp]
    have hf2:=hf (-1 - c).toNat (by
     show (s.1.set _ _).getD _ 0≠0
     rw[zem hv,if_pos rfl]
     omega)
    have hf2:f.1.getD (-1 - c).toNat 0=(s.1.set (-1 - c).toNat (s.2+1)).getD (-1 - c).toNat 0:=hf2
    rw[zem hv,if_pos rfl] at hf2
    unfold rho
    rw[hf2]
    show [-(s.2+1)]=_
    congr 1
    omega
  ·rw[show (s.1.getD (-1 - c).toNat 0==0)=false from by simpa using hz,cond_false]
   refine ⟨h,ExtS.refl s,fun _=>hz,fun f hf => ?_⟩
   rw[hexp]
   have hf2:f.1.getD (-1 - c).toNat 0=s.1.getD (-1 - c).toNat 0:=hf _ hz
   have:=h.rng (-1 - c).toNat
   unfold rho
   rw[hf2]
   show [-(s.1.getD (-1 - c).toNat 0)]=_
   congr 1
   omega
theorem zin:(r:List Int)→{s:zn2}→RenI s→(∀ c∈r,-24≤c)→RenI (zeO s r).2∧ExtS s (zeO s r).2∧(∀ x,zu6 r x→(zeO s r).2.1.getD x.toNat 0≠0)∧∀ f,ExtS (zeO s r).2 f→(zeO s r).1=zb0 (fun v=>.v (rho f v)) r
 | [],s,h,_=>⟨h,ExtS.refl s,fun x ⟨c,hc,_⟩=>(nomatch hc),fun _ _=>rfl⟩
 | c::r,s,h,hc=>by
  obtain⟨h1,h2,h3,h4⟩:=zqX h (hc c (List.mem_cons_self ..))
  obtain⟨g1,g2,g3,g4⟩:=zin r h1 fun d hd=>hc d (List.mem_cons_of_mem _ hd)
  refine ⟨g1,h2.trans g2,fun x ⟨d,hd,hd0,hx⟩ => ?_,fun f hf => ?_⟩
  ·rcases List.mem_cons.1 hd with rfl | hd
   ·subst hx
    show (zeO (zlW s d).2 r).2.1.getD (-1 - d).toNat 0≠0
    rw[g2 _ (h3 hd0)]
    exact h3 hd0
   ·exact g3 x ⟨d,hd,hd0,hx⟩
  ·have hf:ExtS (zeO (zlW s c).2 r).2 f:=hf
   show (zlW s c).1::(zeO (zlW s c).2 r).1=_
   unfold zb0
   rw[List.flatMap_cons,← h4 f (g2.trans hf),g4 f hf]
   rfl
theorem zgB:(ls:List zc)→{s:zn2}→RenI s→(∀ l∈ls,∀ c∈l.2,-24≤c)→RenI (zbj s ls).2∧ExtS s (zbj s ls).2∧(∀ x,zhz (ls.map (·.2)) x→(zbj s ls).2.1.getD x.toNat 0≠0)∧∀ f,ExtS (zbj s ls).2 f→(zbj s ls).1=q6 (fun v=>.v (rho f v)) ls
 | [],s,h,_=>⟨h,ExtS.refl s,fun x ⟨c,hc,_⟩=>(nomatch hc),fun _ _=>rfl⟩
 | l::ls,s,h,hc=>by
  obtain⟨h1,h2,h3,h4⟩:=zin l.2 h (hc l (List.mem_cons_self ..))
  obtain⟨g1,g2,g3,g4⟩:=zgB ls h1 fun d hd=>hc d (List.mem_cons_of_mem _ hd)
  refine ⟨g1,h2.trans g2,fun x hx => ?_,fun f hf => ?_⟩
  ·rw[List.map_cons,zj4] at hx
   rcases hx with hx | hx
   ·show (zbj (zeO s l.2).2 ls).2.1.getD x.toNat 0≠0
    rw[g2 _ (h3 x hx)]
    exact h3 x hx
   ·exact g3 x hx
  ·have hf:ExtS (zbj (zeO s l.2).2 ls).2 f:=hf
   show (l.1,(zeO s l.2).1)::(zbj (zeO s l.2).2 ls).1=_
   rw[h4 f (g2.trans hf),g4 f hf]
   rfl
theorem zle:(ls:List jI)→{s:zn2}→RenI s→(∀ l∈ls,∀ c∈l,-24≤c)→RenI (zdo s ls).2∧ExtS s (zdo s ls).2∧(∀ x,zhz ls x→(zdo s ls).2.1.getD x.toNat 0≠0)∧∀ f,ExtS (zdo s ls).2 f→(zdo s ls).1=ls.map (zb0 (fun v=>.v (rho f v)))
 | [],s,h,_=>⟨h,ExtS.refl s,fun x ⟨c,hc,_⟩=>(nomatch hc),fun _ _=>rfl⟩
 | l::ls,s,h,hc=>by
  obtain⟨h1,h2,h3,h4⟩:=zin l h (hc l (List.mem_cons_self ..))
  obtain⟨g1,g2,g3,g4⟩:=zle ls h1 fun d hd=>hc d (List.mem_cons_of_mem _ hd)
  refine ⟨g1,h2.trans g2,fun x hx => ?_,fun f hf => ?_⟩
  ·rw[zj4] at hx
   rcases hx with hx | hx
   ·show (zdo (zeO s l).2 ls).2.1.getD x.toNat 0≠0
    rw[g2 _ (h3 x hx)]
    exact h3 x hx
   ·exact g3 x hx
  ·have hf:ExtS (zdo (zeO s l).2 ls).2 f:=hf
   show (zeO s l).1::(zdo (zeO s l).2 ls).1=_
   rw[h4 f (g2.trans hf),g4 f hf]
   rfl
theorem zze {L:List zc} {T:List jI} {C:List zc} (hc:∀ r∈yC L T C,∀ c∈r,-24≤c):∃ ρ:Nat→Nat,
  zc1 L T C=(q6 (fun v=>.v (ρ v)) (zQ L []),(zQ T []).map (zb0 (fun v=>.v (ρ v))),q6 (fun v=>.v (ρ v)) (zQ C [])) ∧
  (∀ x,zhz (yC L T C) x→ρ x.toNat<24)∧∀ x y,zhz (yC L T C) x→zhz (yC L T C) y→ρ x.toNat=ρ y.toNat→x.toNat=y.toNat:=by
 have mL:∀ l,l∈zQ L []↔l∈L:=fun l=>by simpa using qV (x:=l) L []
 have mT:∀ l,l∈zQ T []↔l∈T:=fun l=>by simpa using qV (x:=l) T []
 have mC:∀ l,l∈zQ C []↔l∈C:=fun l=>by simpa using qV (x:=l) C []
 obtain⟨a1,a2,a3,a4⟩:=zgB (zQ L []) zIK fun l hl=>hc _ (zau ((mL l).1 hl))
 obtain⟨b1,b2,b3,b4⟩:=zle (zQ T []) a1 fun l hl=>hc _ (zcu ((mT l).1 hl))
 obtain⟨c1,c2,c3,c4⟩:=zgB (zQ C []) b1 fun l hl=>hc _ (zbZ ((mC l).1 hl))
 have nz:∀ x,zhz (yC L T C) x→(zbj (zdo (zbj (List.replicate 24 0,0) (zQ L [])).2 (zQ T [])).2 (zQ C [])).2.1.getD x.toNat 0≠0:=by
  intro x hx
  unfold yC at hx
  rw[zcZ,zcZ] at hx
  rcases hx with (⟨r,hr,hx⟩ | ⟨r,hr,hx⟩) | ⟨r,hr,hx⟩
  ·obtain⟨l,hl,rfl⟩:=List.mem_map.1 hr
   have:=a3 x ⟨_,List.mem_map_of_mem ((mL l).2 hl),hx⟩
   rw[c2 _ (by rw[b2 _ this]; exact this),b2 _ this]
   exact this
  ·obtain⟨l,hl,rfl⟩:=List.mem_map.1 hr
   exact c3 x ⟨_,List.mem_map_of_mem ((mC l).2 hl),hx⟩
  ·have:=b3 x ⟨_,(mT r).2 hr,hx⟩
   rw[c2 _ this]
   exact this
 refine ⟨rho (zbj (zdo (zbj (List.replicate 24 0,0) (zQ L [])).2 (zQ T [])).2 (zQ C [])).2,?_,fun x hx=>c1.rho_lt (nz x hx),fun x y hx hy he=>c1.rho_inj (nz x hx) (nz y hy) he⟩
 unfold zc1 zGG
 rw[a4 _ (b2.trans c2),b4 _ c2,c4 _ (ExtS.refl _)]
def zcA (s:Sb) (l:zde):zde:=(l.1,l.2.1,zaU s l.2.2)
theorem zj2 (s:Sb) (ls:List zde):q6 s (ls.map cl)=(ls.map (zcA s)).map cl:=by
 unfold q6
 rw[List.map_map,List.map_map]
 refine List.map_congr_left fun l _ => ?_
 show (l.1,zb0 s ((l.2.1:Int)::za l.2.2))=(l.1,(l.2.1:Int)::za (zaU s l.2.2))
 rw[zff]
 unfold zb0
 rw[List.flatMap_cons]
 have:zhC s (l.2.1:Int)=[(l.2.1:Int)]:=by unfold zhC; rw[if_neg (by omega)]
 rw[this]
 rfl
theorem zjj (s:Sb) (rs:List (List Tm)):(rs.map za).map (zb0 s)=(rs.map (zaU s)).map za:=by
 rw[List.map_map,List.map_map]
 refine List.map_congr_left fun r _ => ?_
 show zb0 s (za r)=za (zaU s r)
 rw[zff]
 rfl
theorem ztn {m:Int} {nums:List Int} {env:Nat→Int} (s:Sb) (l:zde):zlx m nums env (zcA s l)=zlx m nums (fun n=>zee m nums env (s n)) l:=by
 unfold zlx zqS zcA
 rw[zl3]
theorem zuy {m:Int} {nums:List Int} {env:Nat→Int} (s:Sb) (r:List Tm):zfs m nums env (zaU s r)=zfs m nums (fun n=>zee m nums env (s n)) r:=by
 unfold zfs
 rw[zl3]
theorem znh {m:Int} {nums:List Int} {env:Nat→Int} (s:Sb) (L:List zde) (T:List (List Tm)) (C:List zde):zfQ m nums env (L.map (zcA s)) (T.map (zaU s)) (C.map (zcA s))=zfQ m nums (fun n=>zee m nums env (s n)) L T C:=by
 unfold zfQ
 rw[List.all_map,List.any_map,List.any_map,zqV (l:=C) (p:=zlx m nums env ∘ zcA s) (q:=zlx m nums fun n=>zee m nums env (s n)) fun l _=>ztn s l,
  zki (l:=L) (p:=zlx m nums env ∘ zcA s) (q:=zlx m nums fun n=>zee m nums env (s n)) fun l _=>ztn s l,zki (l:=T) (p:=zfs m nums env ∘ zaU s) (q:=zfs m nums fun n=>zee m nums env (s n)) fun r _=>zuy s r]
end
end Go.Abs.Q
namespace Go.Abs.Q
open Go Go.Abs
section
theorem znX {a0:List zi} (hb:zdp a0=true) {ts:List Tm} (h:WfR a0 ts):zhG a0 (za ts)=some ts.length:=by
 unfold zhG zbS
 rw[hb,decide_eq_true h.2,z1 ts h.1]
 simp
theorem zAO {a0:List zi} {rs:List jI} {n:Nat} (h:∀ r∈rs,zhG a0 r=some n):zgA a0 rs=true:=by
 cases rs with
 | nil=>rfl
 | cons r rs =>
  unfold zgA
  show (match zhG a0 r with | none=>false | some n=>rs.all fun q=>zhG a0 q==some n)=true
  rw[h r (List.mem_cons_self ..)]
  exact List.all_eq_true.2 fun q hq=>by rw[h q (List.mem_cons_of_mem _ hq)]; simp
theorem zn0 {a0:List zi} (hb:zdp a0=true) {l:zde} (h:WfL a0 l):qz a0 (cl l).2=true:=by
 obtain⟨h1,⟨e,h2,h3,h4⟩,h5⟩:=h
 exact zAP h1 h2 h3 h4 h5 hb
theorem zCv {a0:List zi} {l k:zde} (hl:WfL a0 l) (hk:WfL a0 k) (h:cl l=cl k):l=k:=by
 obtain⟨n,c,ts⟩:=l
 obtain⟨n',c',us⟩:=k
 have h:((n,(c:Int)::za ts):zc)=(n',(c':Int)::za us):=h
 injection h with h1 h2
 injection h2 with h2 h3
 have h3:=zbw _ ts us (Nat.le_refl _) hl.1 hk.1 h3
 have:c=c':=by omega
 rw[h1,this,h3]
theorem zkb {α β:Type} (f:α→β) {as:List α}:(bs:List β)→(∀ b∈bs,b∈as.map f)→∃ as':List α,bs=as'.map f∧∀ a∈as',a∈as
 | [],_=>⟨[],rfl,fun _ h=>(nomatch h)⟩
 | b::bs,h=>by
  obtain⟨as',h1,h2⟩:=zkb f bs fun x hx=>h x (List.mem_cons_of_mem _ hx)
  obtain⟨a,ha,rfl⟩:=List.mem_map.1 (h b (List.mem_cons_self ..))
  refine ⟨a::as',by rw[List.map_cons,← h1],fun x hx => ?_⟩
  rcases List.mem_cons.1 hx with rfl | hx
  ·exact ha
  ·exact h2 x hx
theorem zyL {α:Type} {p:α→Bool} {a b:List α} (h:∀ x,x∈a↔x∈b):a.any p=b.any p:=by
 rw[Bool.eq_iff_iff,List.any_eq_true,List.any_eq_true]
 exact ⟨fun ⟨x,hx,hp⟩=>⟨x,(h x).1 hx,hp⟩,fun ⟨x,hx,hp⟩=>⟨x,(h x).2 hx,hp⟩⟩
theorem zDk {α:Type} {p:α→Bool} {a b:List α} (h:∀ x,x∈a↔x∈b):a.all p=b.all p:=by
 rw[Bool.eq_iff_iff,List.all_eq_true,List.all_eq_true]
 exact ⟨fun H x hx=>H x ((h x).2 hx),fun H x hx=>H x ((h x).1 hx)⟩
theorem zgU {α:Type} [DecidableEq α] (f:α→Nat):(es out:List α)→((zQ es out).map f).sum≤(out.map f).sum+(es.map f).sum
 | [],out=>by simp [zQ]
 | e::es,out=>by
  unfold zQ
  by_cases h:e∈out
  ·rw[decide_eq_true h,cond_true]
   have:=zgU f es out
   simp only[List.map_cons,List.sum_cons]
   omega
  ·rw[decide_eq_false h,cond_false]
   have:=zgU f es (out++[e])
   simp only[List.map_cons,List.sum_cons,List.map_append,List.sum_append,List.map_nil,List.sum_nil] at this ⊢
   omega
abbrev vS (ρ:Nat→Nat):Sb:=fun v=>.v (ρ v)
theorem zxB (ρ:Nat→Nat) (r:List Int):(zb0 (vS ρ) r).length=r.length:=by
 unfold zb0
 induction r with
 | nil=>rfl
 | cons c r ih =>
  rw[List.flatMap_cons,List.length_append,ih,List.length_cons]
  unfold zhC
  split
  ·simp [Tm.codes]; omega
  ·simp; omega
theorem zCJ {a0:List zi} {ρ:Nat→Nat} {ts:List Tm} (h:WfR a0 ts) (hρ:∀ x,zjz x ts→ρ x<24):WfR a0 (zaU (vS ρ) ts):=by
 refine ⟨zkI ts h.1 fun x hx=>hρ x hx,?_⟩
 rw[zff]
 have:=zxB ρ (za ts)
 unfold zb0 at this
 rw[this]
 exact h.2
theorem zCq {a0:List zi} {ρ:Nat→Nat} {l:zde} (h:WfL a0 l) (hρ:∀ x,zjz x l.2.2→ρ x<24):WfL a0 (zcA (vS ρ) l):=by
 obtain⟨h1,⟨e,h2,h3,h4⟩,h5⟩:=h
 have:=zCJ (a0:=a0) ⟨h1,h5⟩ hρ
 exact ⟨this.1,⟨e,h2,h3,by show (((zaU (vS ρ) l.2.2).length:Nat):Int)=_; rw[zho]; exact h4⟩,this.2⟩
theorem zmX {a0:List zi} {L:List zde} {T:List (List Tm)} {C:List zde} (hmay:zb5 a0 (L.map cl) (T.map za) (C.map cl)=true) (hL:∀ l∈L,WfL a0 l) (hT:∀ r∈T,WfR a0 r) (hC:∀ l∈C,WfL a0 l) :
  ∃(L1:List zde) (T1:List (List Tm)) (C1:List zde) (ρ:Nat→Nat),zc1 (L.map cl) (T.map za) (C.map cl)=((L1.map (zcA (vS ρ))).map cl,(T1.map (zaU (vS ρ))).map za,(C1.map (zcA (vS ρ))).map cl)∧(∀ l∈L1.map (zcA (vS ρ)),WfL a0 l)∧(∀ r∈T1.map (zaU (vS ρ)),WfR a0 r)∧(∀ l∈C1.map (zcA (vS ρ)),WfL a0 l) ∧
   zb5 a0 ((L1.map (zcA (vS ρ))).map cl) ((T1.map (zaU (vS ρ))).map za) ((C1.map (zcA (vS ρ))).map cl)=true∧(∀ x,zo7 L T C x→ρ x<24)∧(∀ x y,zo7 L T C x→zo7 L T C y→ρ x=ρ y→x=y)∧(∀ x,zo7 (L1.map (zcA (vS ρ))) (T1.map (zaU (vS ρ))) (C1.map (zcA (vS ρ))) x↔∃ y,zo7 L T C y∧ρ y=x) ∧
   (∀ l,l∈L1↔l∈L)∧(∀ l,l∈T1↔l∈T)∧∀ l,l∈C1↔l∈C:=by
 obtain⟨hsb,g1,g2,g3,g4,g5,g6,g7⟩:=zv hmay
 obtain⟨ρ,hn,hr1,hr2⟩:=zze (L:=L.map cl) (T:=T.map za) (C:=C.map cl) fun r hr c hc=>(zmz hmay r hr).2 c hc
 have hρ:∀ x,zo7 L T C x→ρ x<24:=fun x hx=>by
  have:=hr1 x (zhP.2 hx)
  rwa [Int.toNat_natCast] at this
 have mL:∀ l,l∈zQ (L.map cl) []↔l∈L.map cl:=fun l=>by simpa using qV (x:=l) (L.map cl) []
 have mT:∀ l,l∈zQ (T.map za) []↔l∈T.map za:=fun l=>by simpa using qV (x:=l) (T.map za) []
 have mC:∀ l,l∈zQ (C.map cl) []↔l∈C.map cl:=fun l=>by simpa using qV (x:=l) (C.map cl) []
 obtain⟨L1,eL,sL⟩:=zkb cl (zQ (L.map cl) []) fun b hb=>(mL b).1 hb
 obtain⟨T1,eT,sT⟩:=zkb za (zQ (T.map za) []) fun b hb=>(mT b).1 hb
 obtain⟨C1,eC,sC⟩:=zkb cl (zQ (C.map cl) []) fun b hb=>(mC b).1 hb
 have bL:∀ l,l∈L1↔l∈L:=fun l=>⟨sL l,fun hl=>by
  have h1:=(mL (cl l)).2 (List.mem_map_of_mem hl)
  rw[eL] at h1
  obtain⟨k,hk,he⟩:=List.mem_map.1 h1
  rw[← zCv (hL k (sL k hk)) (hL l hl) he]
  exact hk⟩
 have bC:∀ l,l∈C1↔l∈C:=fun l=>⟨sC l,fun hl=>by
  have h1:=(mC (cl l)).2 (List.mem_map_of_mem hl)
  rw[eC] at h1
  obtain⟨k,hk,he⟩:=List.mem_map.1 h1
  rw[← zCv (hC k (sC k hk)) (hC l hl) he]
  exact hk⟩
 have bT:∀ l,l∈T1↔l∈T:=fun l=>⟨sT l,fun hl=>by
  have h1:=(mT (za l)).2 (List.mem_map_of_mem hl)
  rw[eT] at h1
  obtain⟨k,hk,he⟩:=List.mem_map.1 h1
  rw[← zbw _ k l (Nat.le_refl _) (hT k (sT k hk)).1 (hT l hl).1 he]
  exact hk⟩
 have wL:∀ l∈L1.map (zcA (vS ρ)),WfL a0 l:=fun l hl=>by
  obtain⟨k,hk,rfl⟩:=List.mem_map.1 hl
  exact zCq (hL k (sL k hk)) fun x hx=>hρ x (.inl ⟨k,sL k hk,hx⟩)
 have wC:∀ l∈C1.map (zcA (vS ρ)),WfL a0 l:=fun l hl=>by
  obtain⟨k,hk,rfl⟩:=List.mem_map.1 hl
  exact zCq (hC k (sC k hk)) fun x hx=>hρ x (.inr (.inr ⟨k,sC k hk,hx⟩))
 have wT:∀ l∈T1.map (zaU (vS ρ)),WfR a0 l:=fun l hl=>by
  obtain⟨k,hk,rfl⟩:=List.mem_map.1 hl
  exact zCJ (hT k (sT k hk)) fun x hx=>hρ x (.inr (.inl ⟨k,sT k hk,hx⟩))
 have lL:L1.length≤5:=by
  have h1:=congrArg List.length eL
  have h2:=zbc (L.map cl) []
  rw[List.length_map] at h1 h2 g1
  simp at h2; omega
 have lT:T1.length≤3:=by
  have h1:=congrArg List.length eT
  have h2:=zbc (T.map za) []
  rw[List.length_map] at h1 h2 g2
  simp at h2; omega
 have lC:C1.length≤3:=by
  have h1:=congrArg List.length eC
  have h2:=zbc (C.map cl) []
  rw[List.length_map] at h1 h2 g3
  simp at h2; omega
 refine ⟨L1,T1,C1,ρ,?_,wL,wT,wC,?_,hρ,fun x y hx hy he => ?_,fun x => ?_,bL,bT,bC⟩
 ·rw[hn,eL,eT,eC,zj2,zjj,zj2]
 ·refine zDJ hsb (by simpa using lL) (by simpa using lT) (by simpa using lC) ?_ ?_ ?_ ?_
  ·refine List.all_eq_true.2 fun l hl => ?_
   obtain⟨k,hk,rfl⟩:=List.mem_map.1 hl
   exact zn0 hsb (wL k hk)
  ·obtain⟨n,hw⟩:=zhT g5
   refine zAO (n:=n) fun r hr => ?_
   obtain⟨k,hk,rfl⟩:=List.mem_map.1 hr
   rw[znX hsb (wT k hk)]
   obtain⟨j,hj,rfl⟩:=List.mem_map.1 hk
   rw[zho]
   have:=hw (za j) (List.mem_map_of_mem (sT j hj))
   rwa [znX hsb (hT j (sT j hj))] at this
  ·refine List.all_eq_true.2 fun l hl => ?_
   obtain⟨k,hk,rfl⟩:=List.mem_map.1 hl
   exact zn0 hsb (wC k hk)
  ·have sumL:∀(X X1:List zde),zQ (X.map cl) []=X1.map cl→zn (((X1.map (zcA (vS ρ))).map cl).map (·.2))≤zn ((X.map cl).map (·.2)):=by
    intro X X1 he
    rw[← zj2]
    have h1:(q6 (vS ρ) (X1.map cl)).map (·.2.length)=(X1.map cl).map (·.2.length):=by
     unfold q6
     rw[List.map_map]
     exact List.map_congr_left fun l _=>zxB ρ l.2
    unfold zn
    rw[List.map_map,List.map_map]
    have h2:=zgU (fun l:zc=>l.2.length) (X.map cl) []
    rw[he] at h2
    have h3:List.map (List.length ∘ fun x=>x.2) (q6 (vS ρ) (X1.map cl))=(X1.map cl).map (·.2.length):=h1
    rw[h3]
    have h4:(([]:List zc).map (fun l:zc=>l.2.length)).sum=0:=rfl
    have h5:List.map (List.length ∘ fun x=>x.2) (X.map cl)=(X.map cl).map (fun l:zc=>l.2.length):=rfl
    rw[h4,Nat.zero_add] at h2
    exact h2
   have sumT:zn ((T1.map (zaU (vS ρ))).map za)≤zn (T.map za):=by
    rw[← zjj]
    have h2:=zgU List.length (T.map za) []
    rw[eT] at h2
    unfold zn
    rw[List.map_map]
    have h3:List.map (List.length ∘ zb0 (vS ρ)) (T1.map za)=(T1.map za).map List.length:=List.map_congr_left fun r _=>zxB ρ r
    rw[h3]
    simpa using h2
   have h1:=sumL L L1 eL
   have h2:=sumL C C1 eC
   omega
 ·have:=hr2 x y (zhP.2 hx) (zhP.2 hy) (by rw[Int.toNat_natCast,Int.toNat_natCast]; exact he)
  rwa [Int.toNat_natCast,Int.toNat_natCast] at this
 ·constructor
  ·rintro (⟨l,hl,hx⟩ | ⟨r,hr,hx⟩ | ⟨l,hl,hx⟩)
   ·obtain⟨k,hk,rfl⟩:=List.mem_map.1 hl
    obtain⟨y,hy,he⟩:=(zfT k.2.2).1 hx
    exact ⟨y,.inl ⟨k,sL k hk,hy⟩,he⟩
   ·obtain⟨k,hk,rfl⟩:=List.mem_map.1 hr
    obtain⟨y,hy,he⟩:=(zfT k).1 hx
    exact ⟨y,.inr (.inl ⟨k,sT k hk,hy⟩),he⟩
   ·obtain⟨k,hk,rfl⟩:=List.mem_map.1 hl
    obtain⟨y,hy,he⟩:=(zfT k.2.2).1 hx
    exact ⟨y,.inr (.inr ⟨k,sC k hk,hy⟩),he⟩
  ·rintro⟨y,⟨l,hl,hy⟩ | ⟨r,hr,hy⟩ | ⟨l,hl,hy⟩,he⟩
   ·exact .inl ⟨_,List.mem_map_of_mem ((bL l).2 hl),(zfT l.2.2).2 ⟨y,hy,he⟩⟩
   ·exact .inr (.inl ⟨_,List.mem_map_of_mem ((bT r).2 hr),(zfT r).2 ⟨y,hy,he⟩⟩)
   ·exact .inr (.inr ⟨_,List.mem_map_of_mem ((bC l).2 hl),(zfT l.2.2).2 ⟨y,hy,he⟩⟩)
theorem zso {a0:List zi} {L:List zde} {T:List (List Tm)} {C:List zde} (hmay:zb5 a0 (L.map cl) (T.map za) (C.map cl)=true) (hL:∀ l∈L,WfL a0 l) (hT:∀ r∈T,WfR a0 r) (hC:∀ l∈C,WfL a0 l) :
  ∃(Ln:List zde) (Tn:List (List Tm)) (Cn:List zde) (ρ:Nat→Nat),zc1 (L.map cl) (T.map za) (C.map cl)=(Ln.map cl,Tn.map za,Cn.map cl)∧(∀ l∈Ln,WfL a0 l)∧(∀ r∈Tn,WfR a0 r)∧(∀ l∈Cn,WfL a0 l) ∧
   zb5 a0 (Ln.map cl) (Tn.map za) (Cn.map cl)=true∧(∀ x,zo7 L T C x→ρ x<24)∧(∀ x y,zo7 L T C x→zo7 L T C y→ρ x=ρ y→x=y)∧(∀ x,zo7 Ln Tn Cn x↔∃ y,zo7 L T C y∧ρ y=x) ∧
   ∀ m nums env,zfQ m nums env Ln Tn Cn=zfQ m nums (fun v=>env (ρ v)) L T C:=by
 obtain⟨L1,T1,C1,ρ,h1,h2,h3,h4,h5,h6,h7,h8,bL,bT,bC⟩:=zmX hmay hL hT hC
 refine ⟨_,_,_,ρ,h1,h2,h3,h4,h5,h6,h7,h8,fun m nums env => ?_⟩
 rw[znh]
 unfold zfQ
 rw[zDk bC,zyL bL,zyL bT]
 rfl
theorem zpn {m:Nat} (hm:0<m) {nums:List Int} (hn:zdB nums) {a0:List zi} (hs:SignOk a0) {env:Nat→Int} (he:∀ x,x<24→0≤env x∧env x<(m:Int)) {σ:Sb} (hσ:∀ x,x<24→(σ x).ok a0 24) :
  ∃ E,EnvOk (m:Int) E∧∀ x,x<24→zbf E x=zee (m:Int) nums env (σ x):=by
 refine ⟨(List.range 24).map fun x=>zee (m:Int) nums env (σ x),⟨by simp,fun y hy => ?_⟩,fun x hx => ?_⟩
 ·obtain⟨x,hx,rfl⟩:=List.mem_map.1 hy
  exact zt9 (by omega) hn hs _ (hσ x (List.mem_range.1 hx)) he
 ·unfold zbf
  rw[List.getD_eq_getElem?_getD,List.getElem?_map,List.getElem?_range hx]
  rfl
theorem zAw (a:Int) (nums:List Int):∃ m:Nat,0<m∧m≤3∧zl2 a nums=some ((m:Int),nums):=by
 unfold zl2
 have h0:=(zgk a).1
 have r1:0≤Int.tmod (IntKind.wrap .u64 a) 3:=Int.tmod_nonneg _ h0
 have r2:Int.tmod (IntKind.wrap .u64 a) 3<3:=Int.tmod_lt_of_pos _ (by omega)
 generalize Int.tmod (IntKind.wrap .u64 a) 3=q at r1 r2
 refine ⟨(1+q).toNat,by omega,by omega,?_⟩
 have w:IntKind.wrap .i64 (1+IntKind.wrap .i64 q)=((((1+q).toNat:Nat)):Int):=by
  rw[zp (n:=q) (by omega) (by omega),zp (by omega) (by omega),Int.toNat_of_nonneg (by omega)]
 rw[w]
theorem zje {α:Type} {s:Int} {x:α}:(es:List α)→(i:Nat)→(x∈zu s es i↔∃ k:Nat,es[k]? = some x∧((i+k:Nat):Int)≠s)
 | [],i=>by simp [zu]
 | e::es,i=>by
  have ih:=zje (s:=s) (x:=x) es (i+1)
  have shift:(∃ k:Nat,(e::es)[k]? = some x∧((i+k:Nat):Int)≠s)↔(e=x∧(i:Int)≠s)∨∃ k:Nat,es[k]? = some x∧((i+1+k:Nat):Int)≠s:=by
   constructor
   ·rintro⟨k,h1,h2⟩
    cases k with
    | zero=>exact .inl ⟨by simpa using h1,by simpa using h2⟩
    | succ k=>exact .inr ⟨k,by simpa using h1,by rw[show i+1+k=i+(k+1) from by omega]; exact h2⟩
   ·rintro (⟨h1,h2⟩ | ⟨k,h1,h2⟩)
    ·exact ⟨0,by simp [h1],by simpa using h2⟩
    ·exact ⟨k+1,by simpa using h1,by rw[show i+(k+1)=i+1+k from by omega]; exact h2⟩
  rw[shift,← ih]
  show (x∈cond ((i:Int) != s) (e::zu s es (i+1)) (zu s es (i+1)))↔_
  by_cases hi:(i:Int)=s
  ·rw[show ((i:Int) != s)=false from by simp [hi],cond_false]
   simp [hi]
  ·rw[show ((i:Int) != s)=true from by simp [hi],cond_true,List.mem_cons]
   constructor
   ·rintro (h | h)
    ·exact .inl ⟨h.symm,hi⟩
    ·exact .inr h
   ·rintro (h | h)
    ·exact .inl h.1.symm
    ·exact .inr h
theorem zjL {α β:Type} (f:α→β) (s:Int):(es:List α)→(i:Nat)→zu s (es.map f) i=(zu s es i).map f
 | [],_=>rfl
 | e::es,i=>by
  have ih:=zjL f s es (i+1)
  show cond ((i:Int) != s) (f e::zu s (es.map f) (i+1)) (zu s (es.map f) (i+1))=(cond ((i:Int) != s) (e::zu s es (i+1)) (zu s es (i+1))).map f
  cases ((i:Int) != s) with
  | true=>rw[cond_true,cond_true,ih]; rfl
  | false=>rw[cond_false,cond_false,ih]
end
end Go.Abs.Q
namespace Go.Abs.Q
open Go Go.Abs
section
theorem zy2 {a0:List zi} {L:List zde} (h:zeC a0 (L.map cl)=true) (ho:∀ l∈L,okR a0 24 l.2.2):∀ l∈L,WfL a0 l:=fun l hl=>by
 have h1:qz a0 (cl l).2=true:=List.all_eq_true.1 h (cl l) (List.mem_map_of_mem hl)
 obtain⟨c,ts,e,h2,h3,h4,h5,h6,h7,-⟩:=zeA h1
 have h2:((l.2.1:Int)::za l.2.2)=(c:Int)::za ts:=h2
 injection h2 with h8 h9
 have h9:=zbw _ l.2.2 ts (Nat.le_refl _) (ho l hl) h3 h9
 have h8:l.2.1=c:=by omega
 refine ⟨ho l hl,⟨e,by rw[h8]; exact h4,h5,by rw[h9]; exact h6⟩,by rw[h9]; exact h7⟩
theorem zED {a0:List zi} {T:List (List Tm)} (h:zgA a0 (T.map za)=true) (ho:∀ r∈T,okR a0 24 r):∀ r∈T,WfR a0 r:=fun r hr=>by
 obtain⟨n,hn⟩:=zhT h
 obtain⟨ps,-,-,hl,-⟩:=zkp (hn (za r) (List.mem_map_of_mem hr))
 exact ⟨ho r hr,hl⟩
def Holds (m:Nat) (nums:List Int) (L:List zde) (T:List (List Tm)) (C:List zde):Prop:=∀ E,EnvOk (m:Int) E→zfQ (m:Int) nums (zbf E) L T C=true
theorem znY {m:Nat} (hm:0<m) (hm3:m≤3) {nums:List Int} (hn:zdB nums) {a0:List zi} (hs:SignOk a0) {σ:Sb} (hσ:∀ x,x<24→(σ x).ok a0 24) {L:List zde} {T:List (List Tm)} {C:List zde}
  (hL:∀ l∈L,okR a0 24 l.2.2) (hT:∀ r∈T,okR a0 24 r) (hC:∀ l∈C,okR a0 24 l.2.2)
  (hmay:zb5 a0 (q6 σ (L.map cl)) ((T.map za).map (zb0 σ)) (q6 σ (C.map cl))=true) :
  zb5 a0 (zc1 (q6 σ (L.map cl)) ((T.map za).map (zb0 σ)) (q6 σ (C.map cl))).1 (zc1 (q6 σ (L.map cl)) ((T.map za).map (zb0 σ)) (q6 σ (C.map cl))).2.1 (zc1 (q6 σ (L.map cl)) ((T.map za).map (zb0 σ)) (q6 σ (C.map cl))).2.2=true ∧
  ((∀ E,EnvOk (m:Int) E→zfQ (m:Int) nums (fun n=>zee (m:Int) nums (zbf E) (σ n)) L T C=true) →
   zH (m:Int) nums a0 (zc1 (q6 σ (L.map cl)) ((T.map za).map (zb0 σ)) (q6 σ (C.map cl))).1 (zc1 (q6 σ (L.map cl)) ((T.map za).map (zb0 σ)) (q6 σ (C.map cl))).2.1 (zc1 (q6 σ (L.map cl)) ((T.map za).map (zb0 σ)) (q6 σ (C.map cl))).2.2=some true):=by
 rw[zj2,zjj,zj2] at hmay ⊢
 have okS:∀{ts:List Tm},okR a0 24 ts→okR a0 24 (zaU σ ts):=fun {ts} h=>zkI ts h fun x hx=>hσ x (zeK ts h hx)
 have oL:∀ l∈L.map (zcA σ),okR a0 24 l.2.2:=fun l hl=>by
  obtain⟨k,hk,rfl⟩:=List.mem_map.1 hl
  exact okS (hL k hk)
 have oC:∀ l∈C.map (zcA σ),okR a0 24 l.2.2:=fun l hl=>by
  obtain⟨k,hk,rfl⟩:=List.mem_map.1 hl
  exact okS (hC k hk)
 have oT:∀ l∈T.map (zaU σ),okR a0 24 l:=fun l hl=>by
  obtain⟨k,hk,rfl⟩:=List.mem_map.1 hl
  exact okS (hT k hk)
 obtain⟨-,-,-,-,g4,g5,g6,-⟩:=zv hmay
 obtain⟨Ln,Tn,Cn,ρ,e1,w1,w2,w3,w4,w5,w6,w7,w8⟩:=zso hmay (zy2 g4 oL) (zED g5 oT) (zy2 g6 oC)
 rw[e1]
 refine ⟨w4,fun H => ?_⟩
 obtain⟨b,c1,c2⟩:=zjN hm hm3 hn hs w4 w1 w2 w3
 simp only
 rw[c1,c2.2 fun E hE => ?_]
 rw[w8]
 obtain⟨E',hE',he'⟩:=zpn hm hn hs (env:=zbf E) (fun x hx=>hE.val hx) (σ:=fun x=>.v (if ρ x<24 then ρ x else 0)) (fun x _=>by
  show (if ρ x<24 then ρ x else 0)<24
  split<;>omega)
 rw[← H E' hE',← znh]
 refine zj7 fun x hx => ?_
 have h24:=w5 x hx
 have hx24:x<24:=by
  rcases hx with ⟨l,hl,hx⟩ | ⟨l,hl,hx⟩ | ⟨l,hl,hx⟩
  ·exact zeK _ (oL l hl) hx
  ·exact zeK _ (oT l hl) hx
  ·exact zeK _ (oC l hl) hx
 rw[he' x hx24]
 show zbf E (ρ x)=zbf E (if ρ x<24 then ρ x else 0)
 rw[if_pos h24]
theorem Holds.inst {m:Nat} (hm:0<m) {nums:List Int} (hn:zdB nums) {a0:List zi} (hs:SignOk a0) {σ:Sb} (hσ:∀ x,x<24→(σ x).ok a0 24) {L:List zde} {T:List (List Tm)} {C:List zde}
  (hv:∀ x,zo7 L T C x→x<24) (h:Holds m nums L T C) {E:List Int} (hE:EnvOk (m:Int) E):zfQ (m:Int) nums (fun n=>zee (m:Int) nums (zbf E) (σ n)) L T C=true:=by
 obtain⟨E',hE',he'⟩:=zpn hm hn hs (env:=zbf E) (fun x hx=>hE.val hx) hσ
 rw[← h E' hE']
 exact zj7 fun x hx=>(he' x (hv x hx)).symm
theorem zbz {m:Int} {nums:List Int} {env:Nat→Int} {L:List zde} {T:List (List Tm)} {C:List zde}:zfQ m nums env L T C=true↔(∃ l∈C,zlx m nums env l=false)∨(∃ l∈L,zlx m nums env l=true)∨∃ r∈T,zfs m nums env r=true:=by
 unfold zfQ
 rw[Bool.or_eq_true,Bool.or_eq_true,List.any_eq_true,List.any_eq_true,Bool.not_eq_true',List.all_eq_false]
 simp
mutual
theorem Tm.sub_id:(t:Tm)→t.sub (fun n=>Tm.v n)=t
 | .v n=>rfl
 | .f c as=>by rw[Tm.sub,zxD as]
theorem zxD:(ts:List Tm)→zaU (fun n=>Tm.v n) ts=ts
 | []=>rfl
 | t::ts=>by rw[zaU,Tm.sub_id t,zxD ts]
end
theorem zEA {L:List zde} {i:Int} {x:zc} (h:gx (L.map cl) i=some x):0≤i∧∃ l,L[i.toNat]? = some l∧x=cl l:=by
 unfold gx at h
 cases hd:decide (0≤i) with
 | false=>rw[hd] at h; cases h
 | true =>
  rw[hd,cond_true,List.getElem?_map] at h
  refine ⟨of_decide_eq_true hd,?_⟩
  cases hl:L[i.toNat]? with
  | none=>rw[hl] at h; cases h
  | some l=>rw[hl] at h; injection h with h; exact ⟨l,rfl,h.symm⟩
theorem zt1 {m:Int} {nums:List Int} {env:Nat→Int} {L:List zde} {T:List (List Tm)} {C:List zde} {j:Int} (h:zfQ m nums env L T C=true) (hj:∀ k:Nat,(k:Int)=j→∀ l,L[k]? = some l→zlx m nums env l=true→zfQ m nums env (zu j L 0) T C=true):zfQ m nums env (zu j L 0) T C=true:=by
 rcases zbz.1 h with h | ⟨l,hl,hv⟩ | h
 ·exact zbz.2 (.inl h)
 ·obtain⟨k,hk,he⟩:=List.mem_iff_getElem.1 hl
  have hg:L[k]? = some l:=by rw[List.getElem?_eq_getElem hk,he]
  by_cases hkj:(k:Int)=j
  ·exact hj k hkj l hg hv
  ·exact zbz.2 (.inr (.inl ⟨l,(zje L 0).2 ⟨k,hg,by simpa using hkj⟩,hv⟩))
 ·exact zbz.2 (.inr (.inr h))
theorem zly {a0:List zi} {σ:Sb} {L:List zc} {T:List jI} {C:List zc} {k:Int} (hk:k≠0):∃ r,zi6 a0 σ L T C k=some r∧(r.2.2.2.1=0→zb5 a0 (q6 σ L) (T.map (zb0 σ)) (q6 σ C)=true∧(r.1,r.2.1,r.2.2.2.2)=zc1 (q6 σ L) (T.map (zb0 σ)) (q6 σ C)):=by
 unfold zi6
 cases hm:zb5 a0 (q6 σ L) (T.map (zb0 σ)) (q6 σ C) with
 | true=>exact ⟨_,rfl,fun _=>⟨rfl,rfl⟩⟩
 | false=>exact ⟨_,rfl,fun h=>absurd h hk⟩
section
variable {m:Nat} (hm:0<m) (hm3:m≤3) {nums:List Int} (hn:zdB nums) {a0:List zi} (hs:SignOk a0)
include hm hm3 hn hs
end
end
end Go.Abs.Q
namespace Go.Abs.Q
open Go Go.Abs
section
abbrev upS (b:Nat):Sb:=fun n=>.v (n+b)
theorem zvw (b:Nat) (ls:List zde):zgO (b:Int) (ls.map cl)=(ls.map (zcA (upS b))).map cl:=by
 unfold zgO
 rw[List.map_map,List.map_map]
 refine List.map_congr_left fun l _ => ?_
 show (l.1,((l.2.1:Int)::za l.2.2).map (upC (b:Int)))=(l.1,(l.2.1:Int)::za (zaU (upS b) l.2.2))
 rw[zsY,zDh]
theorem zut (b:Nat) (rs:List (List Tm)):(rs.map za).map (List.map (upC (b:Int)))=(rs.map (zaU (upS b))).map za:=by
 rw[List.map_map,List.map_map]
 refine List.map_congr_left fun r _ => ?_
 show (za r).map (upC (b:Int))=za (zaU (upS b) r)
 rw[zo2,zDh]
section
variable {m:Nat} (hm:0<m) (hm3:m≤3) {nums:List Int} (hn:zdB nums) {a0:List zi} (hs:SignOk a0)
include hm hm3 hn hs
end
theorem zlh (a0:List zi) (L:List zc) (T:List jI) (C:List zc):∃ x,yn a0 L T C=some x:=by
 cases hmay:zb5 a0 L T C with
 | false =>
  refine ⟨(800,[]),?_⟩
  unfold yn
  rw[zK,hmay]
  rfl
 | true =>
  obtain⟨ws,hv,-,-⟩:=zeR (zbW (zv hmay).1) hmay
  exact ⟨_,hv⟩
end
end Go.Abs.Q
namespace Go.Abs.Q
open Go Go.Abs
section
theorem zpe {α:Type} (xs:List α) {i:Nat} (h:i≤xs.length):zcD xs none (some (i:Int))=some (xs.take i):=by
 show slc xs 0 (i:Int)=some _
 unfold slc
 rw[decide_eq_true (show (0:Int)≤0 by omega),decide_eq_true (show (0:Int)≤(i:Int) by omega),decide_eq_true (show (i:Int)≤((xs.length:Nat):Int) by omega)]
 simp
end
end Go.Abs.Q
namespace Go.Abs.Q
open Go Go.Abs
section
section
variable {m:Nat} (hm:0<m) (hm3:m≤3) {nums:List Int} (hn:zdB nums) {a0:List zi} (hs:SignOk a0)
include hm hm3 hn hs
end
end
end Go.Abs.Q
namespace Go.Abs.Q
open Go Go.Abs
section
end
end Go.Abs.Q
namespace Go.Abs.Q
open Go Go.Abs
def zfJ (a0:jQ) (a1:jR) (a2:jQ) (a3:Int):Option Bool :=
 cond (decide (a3≥0))
 (some (decide (a3<((List.length a0:Nat):Int))))
 (some false)
def zgv (rec:((List (Int×jI))×Int×Int)→Option (Unit⊕Int)) (x:((List (Int×jI))×Int×Int)):Option (Unit⊕Int) :=
 cond (decide (x.2.2<((List.length x.1:Nat):Int)))
 ((gx x.1 x.2.2).bind fun e2 =>
  cond (e2.1==x.2.1)
  (some (Sum.inr x.2.2))
  (rec (x.1,x.2.1,(IntKind.wrap .i64 (x.2.2+1)))))
 (some (Sum.inl ()))
def zkG (a0:(List (Int×jI))) (a1:Int):Option Int :=
 ((lp zgv zd) (a0,a1,0)).bind fun r6 =>
 z6 r6
 (fun z7=>some (-1))
 (fun z8=>some z8)
def zfH (rec:((List (Int×jI))×jI×Int×jI)→Option jI) (x:((List (Int×jI))×jI×Int×jI)):Option jI :=
 cond (decide (x.2.2.1<((List.length x.2.1:Nat):Int)))
 ((gx x.2.1 x.2.2.1).bind fun e16 =>
  cond (decide (e16<0))
  ((gx x.2.1 x.2.2.1).bind fun e17 =>
   (zkG x.1 (IntKind.wrap .i64 ((-1) - e17))).bind fun r18 =>
   cond (decide (r18<0))
   ((gx x.2.1 x.2.2.1).bind fun e19 =>
    cond (yQ (List.length x.2.2.2+List.length ([e19]:List Int)) 8)
    (rec (x.1,x.2.1,(IntKind.wrap .i64 (x.2.2.1+1)),(x.2.2.2++([e19]:List Int))))
    (none))
   ((gx x.1 r18).bind fun e20 =>
    cond (yQ (List.length x.2.2.2+List.length e20.2) 8)
    (rec (x.1,x.2.1,(IntKind.wrap .i64 (x.2.2.1+1)),(x.2.2.2++e20.2)))
    (none)))
  ((gx x.2.1 x.2.2.1).bind fun e21 =>
   cond (yQ (List.length x.2.2.2+List.length ([e21]:List Int)) 8)
   (rec (x.1,x.2.1,(IntKind.wrap .i64 (x.2.2.1+1)),(x.2.2.2++([e21]:List Int))))
   (none)))
 (some x.2.2.2)
def zcV (a0:(List (Int×jI))) (a1:jI):Option jI :=
 ((lp zfH zd) (a0,a1,0,([]:jI))).bind fun r23 =>
 some r23
def zeF (rec:((List (Int×jI))×Int×jQ×jR×jQ×jQ×jR×jQ)→Option (jQ×jR×jQ)) (x:((List (Int×jI))×Int×jQ×jR×jQ×jQ×jR×jQ)):Option (jQ×jR×jQ) :=
 cond (decide (x.2.1<((List.length x.2.2.2.2.1:Nat):Int)))
 ((gx x.2.2.2.2.1 x.2.1).bind fun e24 =>
  (gx x.2.2.2.2.1 x.2.1).bind fun e25 =>
  (zcV x.1 e25.2).bind fun r26 =>
  cond (yQ (List.length x.2.2.2.2.2.2.2+List.length ([(e24.1,r26)]:List zc)) 32)
  (rec (x.1,(IntKind.wrap .i64 (x.2.1+1)),x.2.2.1,x.2.2.2.1,x.2.2.2.2.1,x.2.2.2.2.2.1,x.2.2.2.2.2.2.1,(x.2.2.2.2.2.2.2++([(e24.1,r26)]:List zc))))
  (none))
 (some (x.2.2.2.2.2.1,x.2.2.2.2.2.2.1,x.2.2.2.2.2.2.2))
def zeG (rec:((List (Int×jI))×Int×jQ×jR×jQ×jQ×jR)→Option (jQ×jR)) (x:((List (Int×jI))×Int×jQ×jR×jQ×jQ×jR)):Option (jQ×jR) :=
 cond (decide (x.2.1<((List.length x.2.2.2.1:Nat):Int)))
 ((gx x.2.2.2.1 x.2.1).bind fun e15 =>
  (zcV x.1 e15).bind fun r16 =>
  cond (yQ (List.length x.2.2.2.2.2.2+List.length ([r16]:List jI)) 24)
  (rec (x.1,(IntKind.wrap .i64 (x.2.1+1)),x.2.2.1,x.2.2.2.1,x.2.2.2.2.1,x.2.2.2.2.2.1,(x.2.2.2.2.2.2++([r16]:List jI))))
  (none))
 (some (x.2.2.2.2.2.1,x.2.2.2.2.2.2))
def zet (rec:((List (Int×jI))×Int×jQ×jR×jQ×jQ)→Option jQ) (x:((List (Int×jI))×Int×jQ×jR×jQ×jQ)):Option jQ :=
 cond (decide (x.2.1<((List.length x.2.2.1:Nat):Int)))
 ((gx x.2.2.1 x.2.1).bind fun e7 =>
  (gx x.2.2.1 x.2.1).bind fun e8 =>
  (zcV x.1 e8.2).bind fun r9 =>
  cond (yQ (List.length x.2.2.2.2.2+List.length ([(e7.1,r9)]:List zc)) 32)
  (rec (x.1,(IntKind.wrap .i64 (x.2.1+1)),x.2.2.1,x.2.2.2.1,x.2.2.2.2.1,(x.2.2.2.2.2++([(e7.1,r9)]:List zc))))
  (none))
 (some x.2.2.2.2.2)
def zeH (a0:(List (Int×jI))) (a1:jQ) (a2:jR) (a3:jQ):Option (jQ×jR×jQ) :=
 ((lp zet zd) (a0,0,a1,a2,a3,([]:jQ))).bind fun r28 =>
 ((lp zeG zd) (a0,0,a1,a2,a3,r28,([]:jR))).bind fun r29 =>
 ((lp zeF zd) (a0,0,a1,a2,a3,r29.1,r29.2,([]:jQ))).bind fun r30 =>
 some (r30.1,r30.2.1,r30.2.2)
def zbh (rec:(Int×jI×Int×jQ×jR×jQ×(List (Int×jI)))→Option ((List (Int×jI))⊕Bool)) (x:(Int×jI×Int×jQ×jR×jQ×(List (Int×jI)))):Option ((List (Int×jI))⊕Bool) :=
 cond (decide (x.2.2.1<((List.length x.2.1:Nat):Int)))
 ((gx x.2.1 x.2.2.1).bind fun e11 =>
  cond (decide ((IntKind.wrap .i64 (e11+x.1))>23))
  (some (Sum.inr false))
  ((gx x.2.1 x.2.2.1).bind fun e12 =>
   (gx x.2.1 x.2.2.1).bind fun e13 =>
   cond (yQ (List.length x.2.2.2.2.2.2+List.length ([(e12,([(IntKind.wrap .i64 ((IntKind.wrap .i64 ((-1) - e13)) - x.1))]:List Int))]:List (Int×jI))) 32)
   (rec (x.1,x.2.1,(IntKind.wrap .i64 (x.2.2.1+1)),x.2.2.2.1,x.2.2.2.2.1,x.2.2.2.2.2.1,(x.2.2.2.2.2.2++([(e12,([(IntKind.wrap .i64 ((IntKind.wrap .i64 ((-1) - e13)) - x.1))]:List Int))]:List (Int×jI)))))
   (none)))
 (some (Sum.inl x.2.2.2.2.2.2))
def zfz (a0:jQ) (a1:jR) (a2:jQ) (a3:jQ) (a4:jR) (a5:jQ):Option (jQ×jR×Bool×jQ) :=
 (zc3 a0 a1 a2).bind fun r23 =>
 cond (decide (((List.length r23:Nat):Int)>0))
 ((inR (IntKind.wrap .i64 (((List.length r23:Nat):Int) - 1)) (List.length r23)).bind fun k24 =>
  (r23[k24]?).bind fun x25 =>
  (zc3 a3 a4 a5).bind fun r26 =>
  ((lp zbh zd) ((IntKind.wrap .i64 (x25+1)),r26,0,a3,a4,a5,([]:(List (Int×jI))))).bind fun r27 =>
  z6 r27
  (fun z28=>(zeH z28 a3 a4 a5).bind fun r29 =>
   some (r29.1,r29.2.1,true,r29.2.2))
  (fun z30=>some (([]:jQ),([]:jR),z30,([]:jQ))))
 ((zc3 a3 a4 a5).bind fun r31 =>
  ((lp zbh zd) (0,r31,0,a3,a4,a5,([]:(List (Int×jI))))).bind fun r32 =>
  z6 r32
  (fun z33=>(zeH z33 a3 a4 a5).bind fun r34 =>
   some (r34.1,r34.2.1,true,r34.2.2))
  (fun z35=>some (([]:jQ),([]:jR),z35,([]:jQ))))
def zcq (rec:(jI×jR)→Option jI) (x:(jI×jR)):Option jI :=
 cond (((List.length x.1:Nat):Int)==1)
 ((gx x.1 0).bind fun e8 =>
  cond (decide (e8<0))
  ((gx x.1 0).bind fun e9 =>
   (inR (IntKind.wrap .i64 ((-1) - e9)) 48).bind fun k10 =>
   (x.2[k10]?).bind fun x11 =>
   cond (decide (((List.length x11:Nat):Int)>0))
   ((gx x.1 0).bind fun e12 =>
    (inR (IntKind.wrap .i64 ((-1) - e12)) 48).bind fun k13 =>
    (x.2[k13]?).bind fun x14 =>
    rec (x14,x.2))
   (some x.1))
  (some x.1))
 (some x.1)
def zdG (a0:jI) (a1:jR):Option jI :=
 ((lp zcq zd) (a0,a1)).bind fun r16 =>
 some r16
def zex (rec:(jI×jI×Int)→Option (Unit⊕Bool)) (x:(jI×jI×Int)):Option (Unit⊕Bool) :=
 cond (decide (x.2.2<((List.length x.1:Nat):Int)))
 ((gx x.1 x.2.2).bind fun e3 =>
  (gx x.2.1 x.2.2).bind fun e4 =>
  cond (e3 != e4)
  (some (Sum.inr false))
  (rec (x.1,x.2.1,(IntKind.wrap .i64 (x.2.2+1)))))
 (some (Sum.inl ()))
def zbd (a0:jI) (a1:jI):Option Bool :=
 cond (((List.length a0:Nat):Int) != ((List.length a1:Nat):Int))
 (some false)
 (((lp zex zd) (a0,a1,0)).bind fun r8 =>
  z6 r8
  (fun z9=>some true)
  (fun z10=>some z10))
def zao (rf:((Int×jI×jR)→Option Bool)) (rec:(Int×jI×Int×jR)→Option (Unit⊕Bool)) (x:(Int×jI×Int×jR)):Option (Unit⊕Bool) :=
 cond (decide (x.2.2.1<((List.length x.2.1:Nat):Int)))
 ((gx x.2.1 x.2.2.1).bind fun e8 =>
  cond (decide (e8≥0))
  (rec (x.1,x.2.1,(IntKind.wrap .i64 (x.2.2.1+1)),x.2.2.2))
  ((gx x.2.1 x.2.2.1).bind fun e9 =>
   cond ((IntKind.wrap .i64 ((-1) - e9))==x.1)
   (some (Sum.inr true))
   ((inR (IntKind.wrap .i64 ((-1) - e9)) 48).bind fun k10 =>
    (x.2.2.2[k10]?).bind fun x11 =>
    cond (decide (((List.length x11:Nat):Int)>0))
    ((inR (IntKind.wrap .i64 ((-1) - e9)) 48).bind fun k12 =>
     (x.2.2.2[k12]?).bind fun x13 =>
     (rf (x.1,x13,x.2.2.2)).bind fun r14 =>
     cond r14
     (some (Sum.inr true))
     (rec (x.1,x.2.1,(IntKind.wrap .i64 (x.2.2.1+1)),x.2.2.2)))
    (rec (x.1,x.2.1,(IntKind.wrap .i64 (x.2.2.1+1)),x.2.2.2)))))
 (some (Sum.inl ()))
def zc6 (rf:((Int×jI×jR)→Option Bool)) (a0:Int) (a1:jI) (a2:jR):Option Bool :=
 ((lp (zao rf) zd) (a0,a1,0,a2)).bind fun r18 =>
 z6 r18
 (fun z19=>some false)
 (fun z20=>some z20)
def zgq (rf:((Int×jI×jR)→Option Bool)):((Int×jI×jR)→Option Bool) :=
 fun (x:(Int×jI×jR))=>zc6 rf x.1 x.2.1 x.2.2
def zgJ:((Int×jI×jR)→Option Bool):=fun _=>none
def zaF (k:Nat):((Int×jI×jR)→Option Bool):=lpR zgJ zgq k
def zgD (a0:Int) (a1:jI) (a2:jR):Option Bool:=(zaF zd) (a0,a1,a2)
def zz (a0:jI) (a1:jI) (a2:Bool) (a3:jR):Option (Bool×jR) :=
 (gx a0 0).bind fun e8 =>
 cond a2
 ((gx a1 0).bind fun e9 =>
  (inR (IntKind.wrap .i64 ((-1) - e9)) 48).bind fun k10 =>
  (a3[k10]?).bind fun x11 =>
  some (true,(List.set a3 k10 a0)))
 ((zgD (IntKind.wrap .i64 ((-1) - e8)) a1 a3).bind fun r12 =>
  cond r12
  (some (false,a3))
  ((inR (IntKind.wrap .i64 ((-1) - e8)) 48).bind fun k13 =>
   (a3[k13]?).bind fun x14 =>
   some (true,(List.set a3 k13 a1))))
def zbT (rf:(((jS×jI×jI×jR)→Option (Bool×jR))×((jS×jR×jR×jR)→Option (Bool×jR)))) (a0:jS) (a1:jI) (a2:jI) (a3:jR):Option (Bool×jR) :=
 (zdG a1 a3).bind fun r82 =>
 (zdG a2 a3).bind fun r83 =>
 (zbd r82 r83).bind fun r84 =>
 cond r84
 (some (true,a3))
 ((gx r82 0).bind fun e85 =>
  cond (decide (e85<0))
  ((gx r83 0).bind fun e86 =>
   cond (decide (e86<0))
   ((gx r82 0).bind fun e87 =>
    (gx r83 0).bind fun e88 =>
    cond (decide (e87<e88))
    ((gx r82 0).bind fun e89 =>
     (zz r83 r82 (decide (e89<0)) a3).bind fun r90 =>
     some (r90.1,r90.2))
    ((gx r82 0).bind fun e91 =>
     cond (decide (e91≥0))
     ((gx r83 0).bind fun e92 =>
      cond (decide (e92<0))
      ((gx r82 0).bind fun e93 =>
       (zz r83 r82 (decide (e93<0)) a3).bind fun r94 =>
       some (r94.1,r94.2))
      ((gx r82 0).bind fun e95 =>
       cond (decide (e95<0))
       ((gx r83 0).bind fun e96 =>
        (zz r82 r83 (decide (e96<0)) a3).bind fun r97 =>
        some (r97.1,r97.2))
       ((gx r82 0).bind fun e98 =>
        (gx r83 0).bind fun e99 =>
        cond (e98 != e99)
        (some (false,a3))
        ((zcD r82 (some 1) none).bind fun y100 =>
         (zO a0 y100).bind fun r101 =>
         (zcD r83 (some 1) none).bind fun y102 =>
         (zO a0 y102).bind fun r103 =>
         (rf.2 (a0,r101,r103,a3)).bind fun r104 =>
         some (r104.1,r104.2)))))
     ((gx r82 0).bind fun e105 =>
      cond (decide (e105<0))
      ((gx r83 0).bind fun e106 =>
       (zz r82 r83 (decide (e106<0)) a3).bind fun r107 =>
       some (r107.1,r107.2))
      ((gx r82 0).bind fun e108 =>
       (gx r83 0).bind fun e109 =>
       cond (e108 != e109)
       (some (false,a3))
       ((zcD r82 (some 1) none).bind fun y110 =>
        (zO a0 y110).bind fun r111 =>
        (zcD r83 (some 1) none).bind fun y112 =>
        (zO a0 y112).bind fun r113 =>
        (rf.2 (a0,r111,r113,a3)).bind fun r114 =>
        some (r114.1,r114.2))))))
   ((gx r82 0).bind fun e115 =>
    cond (decide (e115≥0))
    ((gx r83 0).bind fun e116 =>
     cond (decide (e116<0))
     ((gx r82 0).bind fun e117 =>
      (zz r83 r82 (decide (e117<0)) a3).bind fun r118 =>
      some (r118.1,r118.2))
     ((gx r82 0).bind fun e119 =>
      cond (decide (e119<0))
      ((gx r83 0).bind fun e120 =>
       (zz r82 r83 (decide (e120<0)) a3).bind fun r121 =>
       some (r121.1,r121.2))
      ((gx r82 0).bind fun e122 =>
       (gx r83 0).bind fun e123 =>
       cond (e122 != e123)
       (some (false,a3))
       ((zcD r82 (some 1) none).bind fun y124 =>
        (zO a0 y124).bind fun r125 =>
        (zcD r83 (some 1) none).bind fun y126 =>
        (zO a0 y126).bind fun r127 =>
        (rf.2 (a0,r125,r127,a3)).bind fun r128 =>
        some (r128.1,r128.2)))))
    ((gx r82 0).bind fun e129 =>
     cond (decide (e129<0))
     ((gx r83 0).bind fun e130 =>
      (zz r82 r83 (decide (e130<0)) a3).bind fun r131 =>
      some (r131.1,r131.2))
     ((gx r82 0).bind fun e132 =>
      (gx r83 0).bind fun e133 =>
      cond (e132 != e133)
      (some (false,a3))
      ((zcD r82 (some 1) none).bind fun y134 =>
       (zO a0 y134).bind fun r135 =>
       (zcD r83 (some 1) none).bind fun y136 =>
       (zO a0 y136).bind fun r137 =>
       (rf.2 (a0,r135,r137,a3)).bind fun r138 =>
       some (r138.1,r138.2))))))
  ((gx r82 0).bind fun e139 =>
   cond (decide (e139≥0))
   ((gx r83 0).bind fun e140 =>
    cond (decide (e140<0))
    ((gx r82 0).bind fun e141 =>
     (zz r83 r82 (decide (e141<0)) a3).bind fun r142 =>
     some (r142.1,r142.2))
    ((gx r82 0).bind fun e143 =>
     cond (decide (e143<0))
     ((gx r83 0).bind fun e144 =>
      (zz r82 r83 (decide (e144<0)) a3).bind fun r145 =>
      some (r145.1,r145.2))
     ((gx r82 0).bind fun e146 =>
      (gx r83 0).bind fun e147 =>
      cond (e146 != e147)
      (some (false,a3))
      ((zcD r82 (some 1) none).bind fun y148 =>
       (zO a0 y148).bind fun r149 =>
       (zcD r83 (some 1) none).bind fun y150 =>
       (zO a0 y150).bind fun r151 =>
       (rf.2 (a0,r149,r151,a3)).bind fun r152 =>
       some (r152.1,r152.2)))))
   ((gx r82 0).bind fun e153 =>
    cond (decide (e153<0))
    ((gx r83 0).bind fun e154 =>
     (zz r82 r83 (decide (e154<0)) a3).bind fun r155 =>
     some (r155.1,r155.2))
    ((gx r82 0).bind fun e156 =>
     (gx r83 0).bind fun e157 =>
     cond (e156 != e157)
     (some (false,a3))
     ((zcD r82 (some 1) none).bind fun y158 =>
      (zO a0 y158).bind fun r159 =>
      (zcD r83 (some 1) none).bind fun y160 =>
      (zO a0 y160).bind fun r161 =>
      (rf.2 (a0,r159,r161,a3)).bind fun r162 =>
      some (r162.1,r162.2))))))
def zaM (rf:(((jS×jI×jI×jR)→Option (Bool×jR))×((jS×jR×jR×jR)→Option (Bool×jR)))) (rec:(jS×jR×jR×Int×jR)→Option (jR⊕(Bool×jR))) (x:(jS×jR×jR×Int×jR)):Option (jR⊕(Bool×jR)) :=
 cond (decide (x.2.2.2.1<((List.length x.2.1:Nat):Int)))
 ((gx x.2.1 x.2.2.2.1).bind fun e7 =>
  (gx x.2.2.1 x.2.2.2.1).bind fun e8 =>
  (rf.1 (x.1,e7,e8,x.2.2.2.2)).bind fun r9 =>
  cond (!r9.1)
  (some (Sum.inr (false,r9.2)))
  (rec (x.1,x.2.1,x.2.2.1,(IntKind.wrap .i64 (x.2.2.2.1+1)),r9.2)))
 (some (Sum.inl x.2.2.2.2))
def zdJ (rf:(((jS×jI×jI×jR)→Option (Bool×jR))×((jS×jR×jR×jR)→Option (Bool×jR)))) (a0:jS) (a1:jR) (a2:jR) (a3:jR):Option (Bool×jR) :=
 ((lp (zaM rf) zd) (a0,a1,a2,0,a3)).bind fun r13 =>
 z6 r13
 (fun z14=>some (true,z14))
 (fun z15=>some (z15.1,z15.2))
def zgS (rf:(((jS×jI×jI×jR)→Option (Bool×jR))×((jS×jR×jR×jR)→Option (Bool×jR)))):(((jS×jI×jI×jR)→Option (Bool×jR))×((jS×jR×jR×jR)→Option (Bool×jR))) :=
 (fun (x:(jS×jI×jI×jR))=>zbT rf x.1 x.2.1 x.2.2.1 x.2.2.2,fun (x:(jS×jR×jR×jR))=>zdJ rf x.1 x.2.1 x.2.2.1 x.2.2.2)
def zhe:(((jS×jI×jI×jR)→Option (Bool×jR))×((jS×jR×jR×jR)→Option (Bool×jR))):=(fun _=>none,fun _=>none)
def yG (k:Nat):(((jS×jI×jI×jR)→Option (Bool×jR))×((jS×jR×jR×jR)→Option (Bool×jR))):=lpR zhe zgS k
def zhF (a0:jS) (a1:jR) (a2:jR) (a3:jR):Option (Bool×jR):=(yG zd).2 (a0,a1,a2,a3)
def zam (rf:((jI×jR×jI)→Option jI)) (rec:(jI×Int×jR×jI)→Option jI) (x:(jI×Int×jR×jI)):Option jI :=
 cond (decide (x.2.1<((List.length x.1:Nat):Int)))
 (cond (decide (((List.length x.2.2.2:Nat):Int)≤48))
  ((gx x.1 x.2.1).bind fun e19 =>
   cond (decide (e19<0))
   ((gx x.1 x.2.1).bind fun e20 =>
    (inR (IntKind.wrap .i64 ((-1) - e20)) 48).bind fun k21 =>
    (x.2.2.1[k21]?).bind fun x22 =>
    cond (decide (((List.length x22:Nat):Int)>0))
    ((gx x.1 x.2.1).bind fun e23 =>
     (inR (IntKind.wrap .i64 ((-1) - e23)) 48).bind fun k24 =>
     (x.2.2.1[k24]?).bind fun x25 =>
     (rf (x25,x.2.2.1,x.2.2.2)).bind fun r26 =>
     rec (x.1,(IntKind.wrap .i64 (x.2.1+1)),x.2.2.1,r26))
    ((gx x.1 x.2.1).bind fun e27 =>
     cond (yQ (List.length x.2.2.2+List.length ([e27]:List Int)) 8)
     (rec (x.1,(IntKind.wrap .i64 (x.2.1+1)),x.2.2.1,(x.2.2.2++([e27]:List Int))))
     (none)))
   ((gx x.1 x.2.1).bind fun e28 =>
    cond (yQ (List.length x.2.2.2+List.length ([e28]:List Int)) 8)
    (rec (x.1,(IntKind.wrap .i64 (x.2.1+1)),x.2.2.1,(x.2.2.2++([e28]:List Int))))
    (none)))
  (some x.2.2.2))
 (some x.2.2.2)
def zdb (rf:((jI×jR×jI)→Option jI)) (a0:jI) (a1:jR) (a2:jI):Option jI :=
 ((lp (zam rf) zd) (a0,0,a1,a2)).bind fun r30 =>
 some r30
def zgr (rf:((jI×jR×jI)→Option jI)):((jI×jR×jI)→Option jI) :=
 fun (x:(jI×jR×jI))=>zdb rf x.1 x.2.1 x.2.2
def zgK:((jI×jR×jI)→Option jI):=fun _=>none
def qD (k:Nat):((jI×jR×jI)→Option jI):=lpR zgK zgr k
def zd5 (a0:jI) (a1:jR) (a2:jI):Option jI:=(qD zd) (a0,a1,a2)
def zaZ (rec:(Int×jR×(List (Int×jI)))→Option ((List (Int×jI))⊕(Bool×Bool))) (x:(Int×jR×(List (Int×jI)))):Option ((List (Int×jI))⊕(Bool×Bool)) :=
 cond (decide (x.1≤23))
 ((inR x.1 48).bind fun k14 =>
  (x.2.1[k14]?).bind fun x15 =>
  cond (((List.length x15:Nat):Int)==0)
  (rec ((IntKind.wrap .i64 (x.1+1)),x.2.1,x.2.2))
  ((inR x.1 48).bind fun k16 =>
   (x.2.1[k16]?).bind fun x17 =>
   (zd5 x17 x.2.1 ([]:jI)).bind fun r18 =>
   cond (decide (((List.length r18:Nat):Int)>48))
   (some (Sum.inr (true,false)))
   (cond (yQ (List.length x.2.2+List.length ([(x.1,r18)]:List (Int×jI))) 32)
    (rec ((IntKind.wrap .i64 (x.1+1)),x.2.1,(x.2.2++([(x.1,r18)]:List (Int×jI)))))
    (none))))
 (some (Sum.inl x.2.2))
def zcJ (a0:jS) (a1:jI) (a2:jI):Option (Bool×Bool×(List (Int×jI))) :=
 (zO a0 a1).bind fun r22 =>
 (zO a0 a2).bind fun r23 =>
 cond (((List.length r22:Nat):Int) != ((List.length r23:Nat):Int))
 (some (false,true,([]:(List (Int×jI)))))
 ((zhF a0 r22 r23 (List.replicate 48 ([]:jI))).bind fun r24 =>
  cond (!r24.1)
  (some (false,true,([]:(List (Int×jI)))))
  (((lp zaZ zd) (0,r24.2,([]:(List (Int×jI))))).bind fun r25 =>
   z6 r25
   (fun z26=>some (true,true,z26))
   (fun z27=>some (z27.1,z27.2,([]:(List (Int×jI)))))))
def zds (a0:jQ) (a1:Int):Option jQ :=
 (zcD a0 none (some a1)).bind fun y3 =>
 cond (yQ (List.length ([]:List zc)+List.length y3) 32)
 ((zcD a0 (some (IntKind.wrap .i64 (a1+1))) none).bind fun y4 =>
  cond (yQ (List.length (([]:List zc)++y3)+List.length y4) 32)
  (some ((([]:List zc)++y3)++y4))
  (none))
 (none)
def zkR (a0:jQ) (a1:jQ) (a2:jR) (a3:jQ) (a4:jQ) (a5:jR) (a6:jQ):Option (jQ×jR×jQ) :=
 cond (yQ (List.length a2) 24)
 (cond (yQ (List.length a2+List.length a5) 24)
  (cond (yQ (List.length a3) 32)
   (cond (yQ (List.length a3+List.length a6) 32)
    (some (a0,(a2++a5),(a3++a6)))
    (none))
   (none))
  (none))
 (none)
def zfV (a0:Bool) (a1:jI) (a2:Bool) (a3:jI):Option Bool :=
 cond (a0==a2)
 ((zbd a1 a3).bind fun r2 =>
  some r2)
 (some false)
def zdi (rec:(jQ×Int×Bool×Int×jQ)→Option (Bool×jQ)) (x:(jQ×Int×Bool×Int×jQ)):Option (Bool×jQ) :=
 cond (decide (x.2.2.2.1<((List.length x.2.2.2.2:Nat):Int)))
 (cond x.2.2.1
  (rec (x.1,x.2.1,true,(IntKind.wrap .i64 (x.2.2.2.1+1)),x.2.2.2.2))
  ((inR x.2.2.2.1 (List.length x.2.2.2.2)).bind fun k7 =>
   (x.2.2.2.2[k7]?).bind fun x8 =>
   (gx x.1 x.2.1).bind fun e9 =>
   (zfV x8.1 x8.2 e9.1 e9.2).bind fun r10 =>
   rec (x.1,x.2.1,r10,(IntKind.wrap .i64 (x.2.2.2.1+1)),x.2.2.2.2)))
 (some (x.2.2.1,x.2.2.2.2))
def zer (rec:(jQ×Int×jQ)→Option jQ) (x:(jQ×Int×jQ)):Option jQ :=
 cond (decide (x.2.1<((List.length x.1:Nat):Int)))
 (((lp zdi zd) (x.1,x.2.1,false,0,x.2.2)).bind fun r13 =>
  cond (!r13.1)
  ((gx x.1 x.2.1).bind fun e14 =>
   cond (yQ (List.length r13.2+List.length ([(e14.1,e14.2)]:List zc)) 32)
   (rec (x.1,(IntKind.wrap .i64 (x.2.1+1)),(r13.2++([(e14.1,e14.2)]:List zc))))
   (none))
  (rec (x.1,(IntKind.wrap .i64 (x.2.1+1)),r13.2)))
 (some x.2.2)
def zkh (a0:jQ):Option jQ :=
 ((lp zer zd) (a0,0,([]:jQ))).bind fun r16 =>
 some r16
def zcz (rec:(jR×Int×Int×jQ×jR×jQ×(List (Int×jI)))→Option (List (Int×jI))) (x:(jR×Int×Int×jQ×jR×jQ×(List (Int×jI)))):Option (List (Int×jI)) :=
 (gx x.1 x.2.1).bind fun e29 =>
 cond (decide (x.2.2.1<((List.length e29:Nat):Int)))
 ((gx x.1 x.2.1).bind fun e30 =>
  (gx e30 x.2.2.1).bind fun e31 =>
  cond (decide (e31<0))
  ((zkG x.2.2.2.2.2.2 (IntKind.wrap .i64 ((-1) - e31))).bind fun r32 =>
   cond (decide (r32<0))
   (cond (yQ (List.length x.2.2.2.2.2.2+List.length ([((IntKind.wrap .i64 ((-1) - e31)),([(IntKind.wrap .i64 ((-1) - ((List.length x.2.2.2.2.2.2:Nat):Int)))]:List Int))]:List (Int×jI))) 32)
    (rec (x.1,x.2.1,(IntKind.wrap .i64 (x.2.2.1+1)),x.2.2.2.1,x.2.2.2.2.1,x.2.2.2.2.2.1,(x.2.2.2.2.2.2++([((IntKind.wrap .i64 ((-1) - e31)),([(IntKind.wrap .i64 ((-1) - ((List.length x.2.2.2.2.2.2:Nat):Int)))]:List Int))]:List (Int×jI)))))
    (none))
   (rec (x.1,x.2.1,(IntKind.wrap .i64 (x.2.2.1+1)),x.2.2.2.1,x.2.2.2.2.1,x.2.2.2.2.2.1,x.2.2.2.2.2.2)))
  (rec (x.1,x.2.1,(IntKind.wrap .i64 (x.2.2.1+1)),x.2.2.2.1,x.2.2.2.2.1,x.2.2.2.2.2.1,x.2.2.2.2.2.2)))
 (some x.2.2.2.2.2.2)
def zdh (rec:(Int×Bool×Int×jQ×jR×jQ×jQ×jQ×jR)→Option (Bool×jQ×jQ×jR)) (x:(Int×Bool×Int×jQ×jR×jQ×jQ×jQ×jR)):Option (Bool×jQ×jQ×jR) :=
 cond (decide (x.2.2.1<((List.length x.2.2.2.2.2.2.2.2:Nat):Int)))
 (cond x.2.1
  (rec (x.1,true,(IntKind.wrap .i64 (x.2.2.1+1)),x.2.2.2.1,x.2.2.2.2.1,x.2.2.2.2.2.1,x.2.2.2.2.2.2.1,x.2.2.2.2.2.2.2.1,x.2.2.2.2.2.2.2.2))
  ((inR x.2.2.1 (List.length x.2.2.2.2.2.2.2.2)).bind fun k9 =>
   (x.2.2.2.2.2.2.2.2[k9]?).bind fun x10 =>
   (gx x.2.2.2.2.1 x.1).bind fun e11 =>
   (zbd x10 e11).bind fun r12 =>
   rec (x.1,r12,(IntKind.wrap .i64 (x.2.2.1+1)),x.2.2.2.1,x.2.2.2.2.1,x.2.2.2.2.2.1,x.2.2.2.2.2.2.1,x.2.2.2.2.2.2.2.1,x.2.2.2.2.2.2.2.2)))
 (some (x.2.1,x.2.2.2.2.2.2.1,x.2.2.2.2.2.2.2.1,x.2.2.2.2.2.2.2.2))
def zeq (rec:(jR×Int×jQ×jR×jQ×(List (Int×jI)))→Option (List (Int×jI))) (x:(jR×Int×jQ×jR×jQ×(List (Int×jI)))):Option (List (Int×jI)) :=
 cond (decide (x.2.1<((List.length x.1:Nat):Int)))
 (((lp zcz zd) (x.1,x.2.1,0,x.2.2.1,x.2.2.2.1,x.2.2.2.2.1,x.2.2.2.2.2)).bind fun r35 =>
  rec (x.1,(IntKind.wrap .i64 (x.2.1+1)),x.2.2.1,x.2.2.2.1,x.2.2.2.2.1,r35))
 (some x.2.2.2.2.2)
def zen (rec:(Int×jQ×jR×jQ×jQ×jQ×jR)→Option (jQ×jQ×jR)) (x:(Int×jQ×jR×jQ×jQ×jQ×jR)):Option (jQ×jQ×jR) :=
 cond (decide (x.1<((List.length x.2.2.1:Nat):Int)))
 (((lp zdh zd) (x.1,false,0,x.2.1,x.2.2.1,x.2.2.2.1,x.2.2.2.2.1,x.2.2.2.2.2.1,x.2.2.2.2.2.2)).bind fun r17 =>
  cond (!r17.1)
  ((gx x.2.2.1 x.1).bind fun e18 =>
   cond (yQ (List.length r17.2.2.2+List.length ([e18]:List jI)) 24)
   (rec ((IntKind.wrap .i64 (x.1+1)),x.2.1,x.2.2.1,x.2.2.2.1,r17.2.1,r17.2.2.1,(r17.2.2.2++([e18]:List jI))))
   (none))
  (rec ((IntKind.wrap .i64 (x.1+1)),x.2.1,x.2.2.1,x.2.2.2.1,r17.2.1,r17.2.2.1,r17.2.2.2)))
 (some (x.2.2.2.2.1,x.2.2.2.2.2.1,x.2.2.2.2.2.2))
def zml (a0:jQ) (a1:jR) (a2:jQ):Option (jQ×jR×jQ) :=
 (zkh a0).bind fun r38 =>
 (zkh a2).bind fun r39 =>
 ((lp zen zd) (0,a0,a1,a2,r38,r39,([]:jR))).bind fun r40 =>
 (zgI r40.1 r40.2.2 r40.2.1).bind fun r41 =>
 ((lp zeq zd) (r41,0,r40.1,r40.2.2,r40.2.1,([]:(List (Int×jI))))).bind fun r42 =>
 (zeH r42 r40.1 r40.2.2 r40.2.1).bind fun r43 =>
 some (r43.1,r43.2.1,r43.2.2)
def zgt (a0:jS) (a1:(List (Int×jI))) (a2:jQ) (a3:jR) (a4:jQ):Option (jQ×jR×Bool×jQ) :=
 (zeH a1 a2 a3 a4).bind fun r4 =>
 (zfb a0 r4.1 r4.2.1 r4.2.2).bind fun r5 =>
 cond (!r5)
 (some (([]:jQ),([]:jR),false,([]:jQ)))
 ((zml r4.1 r4.2.1 r4.2.2).bind fun r6 =>
  some (r6.1,r6.2.1,true,r6.2.2))
end Go.Abs.Q
namespace Go.Abs.Q
open Go Go.Abs
def za9 (s1:Int):List (Int×jI)→Nat→Option (Unit⊕Int)
 | [],i=>some (Sum.inl ())
 | e::es,i =>
  cond (e.1==s1)
  (some (Sum.inr (i:Int)))
  (za9 s1 es (i+1))
theorem zlf (s0:(List (Int×jI))) (s1:Int) (hl:List.length s0≤maxLen):lp zgv zd (s0,s1,0)=za9 s1 s0 0:=zdO zgv (fun i=>(s0,s1,i)) (fun es i=>za9 s1 es i) hl (fun r i h=>by unfold zgv za9; simp only[h,cond_false]) (fun r i e es h g w k=>by unfold zgv za9; simp only[h,cond_true,g,Option.bind_some,w,k])
def yM (s0:(List (Int×jI))):List Int→jI→Option jI
 | [],s3=>some s3
 | e::es,s3 =>
  cond (decide (e<0))
  ((zkG s0 (IntKind.wrap .i64 ((-1) - e))).bind fun r18 =>
   cond (decide (r18<0))
   (cond (yQ (List.length s3+List.length ([e]:List Int)) 8)
    (yM s0 es (s3++([e]:List Int)))
    (none))
   ((gx s0 r18).bind fun e20 =>
    cond (yQ (List.length s3+List.length e20.2) 8)
    (yM s0 es (s3++e20.2))
    (none)))
  (cond (yQ (List.length s3+List.length ([e]:List Int)) 8)
   (yM s0 es (s3++([e]:List Int)))
   (none))
theorem zkC (s0:(List (Int×jI))) (s1:jI) (s3:jI) (hl:List.length s1≤maxLen):lp zfH zd (s0,s1,0,s3)=yM s0 s1 s3:=zaT zfH (fun i s3=>(s0,s1,i,s3)) (fun es i s3=>yM s0 es s3) hl (fun r i s3 h=>by unfold zfH yM; simp only[h,cond_false]) (fun r i s3 e es h g w k=>by unfold zfH yM; simp only[h,cond_true,g,Option.bind_some,w,k]) s3
def qN (s0:(List (Int×jI))) (s5:jQ) (s6:jR):List zc→jQ→Option (jQ×jR×jQ)
 | [],s7=>some (s5,s6,s7)
 | e::es,s7 =>
  (zcV s0 e.2).bind fun r26 =>
  cond (yQ (List.length s7+List.length ([(e.1,r26)]:List zc)) 32)
  (qN s0 s5 s6 es (s7++([(e.1,r26)]:List zc)))
  (none)
theorem zjP (s0:(List (Int×jI))) (s2:jQ) (s3:jR) (s4:jQ) (s5:jQ) (s6:jR) (s7:jQ) (hl:List.length s4≤maxLen):lp zeF zd (s0,0,s2,s3,s4,s5,s6,s7)=qN s0 s5 s6 s4 s7:=zaT zeF (fun i s7=>(s0,i,s2,s3,s4,s5,s6,s7)) (fun es i s7=>qN s0 s5 s6 es s7) hl (fun r i s7 h=>by unfold zeF qN; simp only[h,cond_false]) (fun r i s7 e es h g w k=>by unfold zeF qN; simp only[h,cond_true,g,Option.bind_some,w,k]) s7
def q5 (s0:(List (Int×jI))) (s5:jQ):List jI→jR→Option (jQ×jR)
 | [],s6=>some (s5,s6)
 | e::es,s6 =>
  (zcV s0 e).bind fun r16 =>
  cond (yQ (List.length s6+List.length ([r16]:List jI)) 24)
  (q5 s0 s5 es (s6++([r16]:List jI)))
  (none)
theorem zjG (s0:(List (Int×jI))) (s2:jQ) (s3:jR) (s4:jQ) (s5:jQ) (s6:jR) (hl:List.length s3≤maxLen):lp zeG zd (s0,0,s2,s3,s4,s5,s6)=q5 s0 s5 s3 s6:=zaT zeG (fun i s6=>(s0,i,s2,s3,s4,s5,s6)) (fun es i s6=>q5 s0 s5 es s6) hl (fun r i s6 h=>by unfold zeG q5; simp only[h,cond_false]) (fun r i s6 e es h g w k=>by unfold zeG q5; simp only[h,cond_true,g,Option.bind_some,w,k]) s6
def qS (s0:(List (Int×jI))):List zc→jQ→Option jQ
 | [],s5=>some s5
 | e::es,s5 =>
  (zcV s0 e.2).bind fun r9 =>
  cond (yQ (List.length s5+List.length ([(e.1,r9)]:List zc)) 32)
  (qS s0 es (s5++([(e.1,r9)]:List zc)))
  (none)
theorem zjl (s0:(List (Int×jI))) (s2:jQ) (s3:jR) (s4:jQ) (s5:jQ) (hl:List.length s2≤maxLen):lp zet zd (s0,0,s2,s3,s4,s5)=qS s0 s2 s5:=zaT zet (fun i s5=>(s0,i,s2,s3,s4,s5)) (fun es i s5=>qS s0 es s5) hl (fun r i s5 h=>by unfold zet qS; simp only[h,cond_false]) (fun r i s5 e es h g w k=>by unfold zet qS; simp only[h,cond_true,g,Option.bind_some,w,k]) s5
def qa (s0:Int):List Int→(List (Int×jI))→Option ((List (Int×jI))⊕Bool)
 | [],s6=>some (Sum.inl s6)
 | e::es,s6 =>
  cond (decide ((IntKind.wrap .i64 (e+s0))>23))
  (some (Sum.inr false))
  (cond (yQ (List.length s6+List.length ([(e,([(IntKind.wrap .i64 ((IntKind.wrap .i64 ((-1) - e)) - s0))]:List Int))]:List (Int×jI))) 32)
   (qa s0 es (s6++([(e,([(IntKind.wrap .i64 ((IntKind.wrap .i64 ((-1) - e)) - s0))]:List Int))]:List (Int×jI))))
   (none))
theorem zic (s0:Int) (s1:jI) (s3:jQ) (s4:jR) (s5:jQ) (s6:(List (Int×jI))) (hl:List.length s1≤maxLen):lp zbh zd (s0,s1,0,s3,s4,s5,s6)=qa s0 s1 s6:=zaT zbh (fun i s6=>(s0,s1,i,s3,s4,s5,s6)) (fun es i s6=>qa s0 es s6) hl (fun r i s6 h=>by unfold zbh qa; simp only[h,cond_false]) (fun r i s6 e es h g w k=>by unfold zbh qa; simp only[h,cond_true,g,Option.bind_some,w,k]) s6
def zaE (s1:jI):List Int→Nat→Option (Unit⊕Bool)
 | [],i=>some (Sum.inl ())
 | e::es,i =>
  (gx s1 (i:Int)).bind fun e4 =>
  cond (e != e4)
  (some (Sum.inr false))
  (zaE s1 es (i+1))
theorem zjn (s0:jI) (s1:jI) (hl:List.length s0≤maxLen):lp zex zd (s0,s1,0)=zaE s1 s0 0:=zdO zex (fun i=>(s0,s1,i)) (fun es i=>zaE s1 es i) hl (fun r i h=>by unfold zex zaE; simp only[h,cond_false]) (fun r i e es h g w k=>by unfold zex zaE; simp only[h,cond_true,g,Option.bind_some,w,k])
def zE (rf:((Int×jI×jR)→Option Bool)) (s0:Int) (s3:jR):List Int→Option (Unit⊕Bool)
 | []=>some (Sum.inl ())
 | e::es =>
  cond (decide (e≥0))
  (zE rf s0 s3 es)
  (cond ((IntKind.wrap .i64 ((-1) - e))==s0)
   (some (Sum.inr true))
   ((inR (IntKind.wrap .i64 ((-1) - e)) 48).bind fun k10 =>
    (s3[k10]?).bind fun x11 =>
    cond (decide (((List.length x11:Nat):Int)>0))
    ((inR (IntKind.wrap .i64 ((-1) - e)) 48).bind fun k12 =>
     (s3[k12]?).bind fun x13 =>
     (rf (s0,x13,s3)).bind fun r14 =>
     cond r14
     (some (Sum.inr true))
     (zE rf s0 s3 es))
    (zE rf s0 s3 es)))
theorem zft (rf:((Int×jI×jR)→Option Bool)) (s0:Int) (s1:jI) (s3:jR) (hl:List.length s1≤maxLen):lp (zao rf) zd (s0,s1,0,s3)=zE rf s0 s3 s1:=zdO (zao rf) (fun i=>(s0,s1,i,s3)) (fun es i=>zE rf s0 s3 es) hl (fun r i h=>by unfold zao zE; simp only[h,cond_false]) (fun r i e es h g w k=>by unfold zao zE; simp only[h,cond_true,g,Option.bind_some,w,k])
def zP (rf:(((jS×jI×jI×jR)→Option (Bool×jR))×((jS×jR×jR×jR)→Option (Bool×jR)))) (s0:jS) (s2:jR):List jI→Nat→jR→Option (jR⊕(Bool×jR))
 | [],i,s4=>some (Sum.inl s4)
 | e::es,i,s4 =>
  (gx s2 (i:Int)).bind fun e8 =>
  (rf.1 (s0,e,e8,s4)).bind fun r9 =>
  cond (!r9.1)
  (some (Sum.inr (false,r9.2)))
  (zP rf s0 s2 es (i+1) r9.2)
theorem zfO (rf:(((jS×jI×jI×jR)→Option (Bool×jR))×((jS×jR×jR×jR)→Option (Bool×jR)))) (s0:jS) (s1:jR) (s2:jR) (s4:jR) (hl:List.length s1≤maxLen):lp (zaM rf) zd (s0,s1,s2,0,s4)=zP rf s0 s2 s1 0 s4:=zaT (zaM rf) (fun i s4=>(s0,s1,s2,i,s4)) (fun es i s4=>zP rf s0 s2 es i s4) hl (fun r i s4 h=>by unfold zaM zP; simp only[h,cond_false]) (fun r i s4 e es h g w k=>by unfold zaM zP; simp only[h,cond_true,g,Option.bind_some,w,k]) s4
def zB (rf:((jI×jR×jI)→Option jI)) (s2:jR):List Int→jI→Option jI
 | [],s3=>some s3
 | e::es,s3 =>
  cond (decide (((List.length s3:Nat):Int)≤48))
  (cond (decide (e<0))
   ((inR (IntKind.wrap .i64 ((-1) - e)) 48).bind fun k21 =>
    (s2[k21]?).bind fun x22 =>
    cond (decide (((List.length x22:Nat):Int)>0))
    ((inR (IntKind.wrap .i64 ((-1) - e)) 48).bind fun k24 =>
     (s2[k24]?).bind fun x25 =>
     (rf (x25,s2,s3)).bind fun r26 =>
     zB rf s2 es r26)
    (cond (yQ (List.length s3+List.length ([e]:List Int)) 8)
     (zB rf s2 es (s3++([e]:List Int)))
     (none)))
   (cond (yQ (List.length s3+List.length ([e]:List Int)) 8)
    (zB rf s2 es (s3++([e]:List Int)))
    (none)))
  (some s3)
theorem zfI (rf:((jI×jR×jI)→Option jI)) (s0:jI) (s2:jR) (s3:jI) (hl:List.length s0≤maxLen):lp (zam rf) zd (s0,0,s2,s3)=zB rf s2 s0 s3:=zaT (zam rf) (fun i s3=>(s0,i,s2,s3)) (fun es i s3=>zB rf s2 es s3) hl (fun r i s3 h=>by unfold zam zB; simp only[h,cond_false]) (fun r i s3 e es h g w k=>by unfold zam zB; simp only[h,cond_true,g,Option.bind_some,w,k]) s3
def qr (s0:jQ) (s1:Int) (s4:jQ):List zc→Nat→Bool→Option (Bool×jQ)
 | [],i,s2=>some (s2,s4)
 | e::es,i,s2 =>
  cond s2
  (qr s0 s1 s4 es (i+1) true)
  ((inR (i:Int) (List.length s4)).bind fun k7 =>
   (s4[k7]?).bind fun x8 =>
   (gx s0 s1).bind fun e9 =>
   (zfV x8.1 x8.2 e9.1 e9.2).bind fun r10 =>
   qr s0 s1 s4 es (i+1) r10)
theorem zjk (s0:jQ) (s1:Int) (s4:jQ) (s2:Bool) (hl:List.length s4≤maxLen):lp zdi zd (s0,s1,s2,0,s4)=qr s0 s1 s4 s4 0 s2:=zaT zdi (fun i s2=>(s0,s1,s2,i,s4)) (fun es i s2=>qr s0 s1 s4 es i s2) hl (fun r i s2 h=>by unfold zdi qr; simp only[h,cond_false]) (fun r i s2 e es h g w k=>by unfold zdi qr; simp only[h,cond_true,g,Option.bind_some,w,k]) s2
def qU (s0:jQ):List zc→Nat→jQ→Option jQ
 | [],i,s2=>some s2
 | e::es,i,s2 =>
  ((lp zdi zd) (s0,(i:Int),false,0,s2)).bind fun r13 =>
  cond (!r13.1)
  (cond (yQ (List.length r13.2+List.length ([(e.1,e.2)]:List zc)) 32)
   (qU s0 es (i+1) (r13.2++([(e.1,e.2)]:List zc)))
   (none))
  (qU s0 es (i+1) r13.2)
theorem zji (s0:jQ) (s2:jQ) (hl:List.length s0≤maxLen):lp zer zd (s0,0,s2)=qU s0 s0 0 s2:=zaT zer (fun i s2=>(s0,i,s2)) (fun es i s2=>qU s0 es i s2) hl (fun r i s2 h=>by unfold zer qU; simp only[h,cond_false]) (fun r i s2 e es h g w k=>by unfold zer qU; simp only[h,cond_true,g,Option.bind_some,w,k]) s2
def qo (s0:Int) (s4:jR) (s6:jQ) (s7:jQ) (s8:jR):List jI→Nat→Bool→Option (Bool×jQ×jQ×jR)
 | [],i,s1=>some (s1,s6,s7,s8)
 | e::es,i,s1 =>
  cond s1
  (qo s0 s4 s6 s7 s8 es (i+1) true)
  ((inR (i:Int) (List.length s8)).bind fun k9 =>
   (s8[k9]?).bind fun x10 =>
   (gx s4 s0).bind fun e11 =>
   (zbd x10 e11).bind fun r12 =>
   qo s0 s4 s6 s7 s8 es (i+1) r12)
theorem zjQ (s0:Int) (s3:jQ) (s4:jR) (s5:jQ) (s6:jQ) (s7:jQ) (s8:jR) (s1:Bool) (hl:List.length s8≤maxLen):lp zdh zd (s0,s1,0,s3,s4,s5,s6,s7,s8)=qo s0 s4 s6 s7 s8 s8 0 s1:=zaT zdh (fun i s1=>(s0,s1,i,s3,s4,s5,s6,s7,s8)) (fun es i s1=>qo s0 s4 s6 s7 s8 es i s1) hl (fun r i s1 h=>by unfold zdh qo; simp only[h,cond_false]) (fun r i s1 e es h g w k=>by unfold zdh qo; simp only[h,cond_true,g,Option.bind_some,w,k]) s1
def zaN (s0:jR) (s2:jQ) (s3:jR) (s4:jQ):List jI→Nat→(List (Int×jI))→Option (List (Int×jI))
 | [],i,s5=>some s5
 | e::es,i,s5 =>
  ((lp zcz zd) (s0,(i:Int),0,s2,s3,s4,s5)).bind fun r35 =>
  zaN s0 s2 s3 s4 es (i+1) r35
theorem zjm (s0:jR) (s2:jQ) (s3:jR) (s4:jQ) (s5:(List (Int×jI))) (hl:List.length s0≤maxLen):lp zeq zd (s0,0,s2,s3,s4,s5)=zaN s0 s2 s3 s4 s0 0 s5:=zaT zeq (fun i s5=>(s0,i,s2,s3,s4,s5)) (fun es i s5=>zaN s0 s2 s3 s4 es i s5) hl (fun r i s5 h=>by unfold zeq zaN; simp only[h,cond_false]) (fun r i s5 e es h g w k=>by unfold zeq zaN; simp only[h,cond_true,g,Option.bind_some,w,k]) s5
def qQ (s1:jQ) (s2:jR) (s3:jQ):List jI→Nat→jQ→jQ→jR→Option (jQ×jQ×jR)
 | [],i,s4,s5,s6=>some (s4,s5,s6)
 | e::es,i,s4,s5,s6 =>
  ((lp zdh zd) ((i:Int),false,0,s1,s2,s3,s4,s5,s6)).bind fun r17 =>
  cond (!r17.1)
  (cond (yQ (List.length r17.2.2.2+List.length ([e]:List jI)) 24)
   (qQ s1 s2 s3 es (i+1) r17.2.1 r17.2.2.1 (r17.2.2.2++([e]:List jI)))
   (none))
  (qQ s1 s2 s3 es (i+1) r17.2.1 r17.2.2.1 r17.2.2.2)
theorem zjw (s1:jQ) (s2:jR) (s3:jQ) (s4:jQ) (s5:jQ) (s6:jR) (hl:List.length s2≤maxLen):lp zen zd (0,s1,s2,s3,s4,s5,s6)=qQ s1 s2 s3 s2 0 s4 s5 s6:=zAX zen (fun i s4 s5 s6=>(i,s1,s2,s3,s4,s5,s6)) (fun es i s4 s5 s6=>qQ s1 s2 s3 es i s4 s5 s6) hl (fun r i s4 s5 s6 h=>by unfold zen qQ; simp only[h,cond_false]) (fun r i s4 s5 s6 e es h g w k=>by unfold zen qQ; simp only[h,cond_true,g,Option.bind_some,w,k]) s4 s5 s6
end Go.Abs.Q
