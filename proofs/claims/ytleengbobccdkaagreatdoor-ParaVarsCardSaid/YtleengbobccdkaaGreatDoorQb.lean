import Derived.Test.YtleengbobccdkaaGreatDoorQa
/-
  What the functions make of plain values, and what the law says of that.
-/
namespace Go.Abs.Q
open Go Go.Abs
section
inductive Tm where
 | v (n:Nat)
 | f (c:Nat) (as:List Tm)
mutual
def Tm.codes:Tm→List Int
 | .v n=>[-1 - (n:Int)]
 | .f c as=>(c:Int)::zb as
def zb:List Tm→List Int
 | []=>[]
 | t::ts=>t.codes++zb ts
end
mutual
def Tm.size:Tm→Nat
 | .v _=>1
 | .f _ as=>za9 as+1
def za9:List Tm→Nat
 | []=>0
 | t::ts=>t.size+za9 ts
end
abbrev Sb:=Nat→Tm
mutual
def Tm.sub (s:Sb):Tm→Tm
 | .v n=>s n
 | .f c as=>.f c (zbo s as)
def zbo (s:Sb):List Tm→List Tm
 | []=>[]
 | t::ts=>t.sub s::zbo s ts
end
mutual
def Tm.has (x:Nat):Tm→Prop
 | .v n=>n=x
 | .f _ as=>zjo x as
def zjo (x:Nat):List Tm→Prop
 | []=>False
 | t::ts=>t.has x∨zjo x ts
end
mutual
def Tm.ok (a0:List zi) (N:Nat):Tm→Prop
 | .v n=>n<N
 | .f c as=>zcf a0 (c:Int)=some as.length∧okR a0 N as
def okR (a0:List zi) (N:Nat):List Tm→Prop
 | []=>True
 | t::ts=>t.ok a0 N∧okR a0 N ts
end
theorem zgf (s:Sb):(ts:List Tm)→(zbo s ts).length=ts.length
 | []=>rfl
 | t::ts=>by simp [zbo,zgf s ts]
theorem zbQ {a0:List zi} {N:Nat}:{ts:List Tm}→(okR a0 N ts↔∀ t∈ts,t.ok a0 N)
 | []=>by simp [okR]
 | t::ts=>by simp [okR,zbQ (ts:=ts)]
theorem zic (s:Sb):(ts:List Tm)→zbo s ts=ts.map (Tm.sub s)
 | []=>rfl
 | t::ts=>by simp [zbo,zic s ts]
theorem zjg:(ts:List Tm)→zb ts=ts.flatMap Tm.codes
 | []=>rfl
 | t::ts=>by simp [zb,zjg ts]
theorem znT:(ts:List Tm)→za9 ts=(ts.map Tm.size).sum
 | []=>rfl
 | t::ts=>by simp [za9,znT ts]
theorem zdk (ts us:List Tm):zb (ts++us)=zb ts++zb us:=by simp [zjg]
theorem zob (ts us:List Tm):za9 (ts++us)=za9 ts+za9 us:=by simp [znT]
mutual
theorem Tm.codes_len:(t:Tm)→t.codes.length=t.size
 | .v _=>rfl
 | .f c as=>by simp [Tm.codes,Tm.size,zcs as]
theorem zcs:(ts:List Tm)→(zb ts).length=za9 ts
 | []=>rfl
 | t::ts=>by simp [zb,za9,Tm.codes_len t,zcs ts]
end
theorem Tm.size_pos (t:Tm):0<t.size:=by cases t<;>simp [Tm.size]
mutual
theorem Tm.sub_ext {s u:Sb}:(t:Tm)→(∀ x,t.has x→s x=u x)→t.sub s=t.sub u
 | .v n,h=>h n rfl
 | .f c as,h=>by rw[Tm.sub,Tm.sub,zq6 as h]
theorem zq6 {s u:Sb}:(ts:List Tm)→(∀ x,zjo x ts→s x=u x)→zbo s ts=zbo u ts
 | [],_=>rfl
 | t::ts,h=>by rw[zbo,zbo,Tm.sub_ext t fun x hx=>h x (.inl hx),zq6 ts fun x hx=>h x (.inr hx)]
end
mutual
theorem Tm.sub_sub (s u:Sb):(t:Tm)→(t.sub s).sub u=t.sub fun x=>(s x).sub u
 | .v n=>rfl
 | .f c as=>by rw[Tm.sub,Tm.sub,Tm.sub,zoX s u as]
theorem zoX (s u:Sb):(ts:List Tm)→zbo u (zbo s ts)=zbo (fun x=>(s x).sub u) ts
 | []=>rfl
 | t::ts=>by rw[zbo,zbo,zbo,Tm.sub_sub s u t,zoX s u ts]
end
mutual
theorem Tm.sub_v:(t:Tm)→t.sub .v=t
 | .v n=>rfl
 | .f c as=>by rw[Tm.sub,zyO as]
theorem zyO:(ts:List Tm)→zbo .v ts=ts
 | []=>rfl
 | t::ts=>by rw[zbo,Tm.sub_v t,zyO ts]
end
mutual
theorem Tm.has_sub {s:Sb} {y:Nat}:(t:Tm)→((t.sub s).has y↔∃ x,t.has x∧(s x).has y)
 | .v n=>⟨fun h=>⟨n,rfl,h⟩,fun ⟨x,hx,h⟩=>by cases hx; exact h⟩
 | .f c as=>by show zjo y (zbo s as)↔_; rw[zfd as]; rfl
theorem zfd {s:Sb} {y:Nat}:(ts:List Tm)→(zjo y (zbo s ts)↔∃ x,zjo x ts∧(s x).has y)
 | []=>⟨fun h=>h.elim,fun ⟨_,h,_⟩=>h.elim⟩
 | t::ts=>by
  show (t.sub s).has y∨zjo y (zbo s ts)↔∃ x,(t.has x∨zjo x ts)∧_
  rw[Tm.has_sub t,zfd ts]
  constructor
  ·rintro (⟨x,h1,h2⟩ | ⟨x,h1,h2⟩)
   ·exact ⟨x,.inl h1,h2⟩
   ·exact ⟨x,.inr h1,h2⟩
  ·rintro⟨x,h1 | h1,h2⟩
   ·exact .inl ⟨x,h1,h2⟩
   ·exact .inr ⟨x,h1,h2⟩
end
mutual
theorem Tm.size_has {s:Sb} {x:Nat}:(t:Tm)→t.has x→(s x).size≤(t.sub s).size
 | .v n,h=>by cases h; exact Nat.le_refl _
 | .f c as,h=>by have:=zft (s:=s) as h; show _≤za9 (zbo s as)+1; omega
theorem zft {s:Sb} {x:Nat}:(ts:List Tm)→zjo x ts→(s x).size≤za9 (zbo s ts)
 | [],h=>h.elim
 | t::ts,h=>by
  show _≤(t.sub s).size+za9 (zbo s ts)
  rcases h with h | h
  ·have:=Tm.size_has (s:=s) t h; omega
  ·have:=zft (s:=s) ts h; omega
end
mutual
theorem Tm.size_sub {s:Sb} {M:Nat}:(t:Tm)→(1≤M)→(∀ x,t.has x→(s x).size≤M)→(t.sub s).size≤t.size*M
 | .v n,_,h=>by have:=h n rfl; simpa[Tm.sub,Tm.size] using this
 | .f c as,hM,h=>by
  have:=zoH (s:=s) as hM h
  show za9 (zbo s as)+1≤(za9 as+1)*M
  rw[Nat.add_mul]; omega
theorem zoH {s:Sb} {M:Nat}:(ts:List Tm)→(1≤M)→(∀ x,zjo x ts→(s x).size≤M)→za9 (zbo s ts)≤za9 ts*M
 | [],_,_=>by simp [zbo,za9]
 | t::ts,hM,h=>by
  have h1:=Tm.size_sub (s:=s) t hM fun x hx=>h x (.inl hx)
  have h2:=zoH (s:=s) ts hM fun x hx=>h x (.inr hx)
  show (t.sub s).size+za9 (zbo s ts)≤(t.size+za9 ts)*M
  rw[Nat.add_mul]; omega
end
mutual
theorem Tm.ok_sub {a0:List zi} {N M:Nat} {s:Sb}:(t:Tm)→t.ok a0 N→(∀ x,t.has x→(s x).ok a0 M)→(t.sub s).ok a0 M
 | .v n,_,h=>h n rfl
 | .f c as,ho,h=>⟨by rw[zgf]; exact ho.1,znQ as ho.2 h⟩
theorem znQ {a0:List zi} {N M:Nat} {s:Sb}:(ts:List Tm)→okR a0 N ts→(∀ x,zjo x ts→(s x).ok a0 M)→okR a0 M (zbo s ts)
 | [],_,_=>trivial
 | t::ts,ho,h=>⟨Tm.ok_sub t ho.1 fun x hx=>h x (.inl hx),znQ ts ho.2 fun x hx=>h x (.inr hx)⟩
end
mutual
theorem Tm.ok_has {a0:List zi} {N x:Nat}:(t:Tm)→t.ok a0 N→t.has x→x<N
 | .v n,ho,h=>by cases h; exact ho
 | .f c as,ho,h=>zuf as ho.2 h
theorem zuf {a0:List zi} {N x:Nat}:(ts:List Tm)→okR a0 N ts→zjo x ts→x<N
 | [],_,h=>h.elim
 | t::ts,ho,h=>h.elim (Tm.ok_has t ho.1) (zuf ts ho.2)
end
mutual
theorem Tm.ok_mono {a0:List zi} {N M:Nat} (hNM:N≤M):(t:Tm)→t.ok a0 N→t.ok a0 M
 | .v n,ho=>Nat.lt_of_lt_of_le ho hNM
 | .f c as,ho=>⟨ho.1,zqY hNM as ho.2⟩
theorem zqY {a0:List zi} {N M:Nat} (hNM:N≤M):(ts:List Tm)→okR a0 N ts→okR a0 M ts
 | [],_=>trivial
 | t::ts,ho=>⟨Tm.ok_mono hNM t ho.1,zqY hNM ts ho.2⟩
end
mutual
theorem Tm.mem_codes {c:Int} (hc:c<0):(t:Tm)→(c∈t.codes↔t.has (-1 - c).toNat)
 | .v n=>by
  show c∈[-1 - (n:Int)]↔n=_
  rw[List.mem_singleton]
  omega
 | .f d as=>by
  show c∈(d:Int)::zb as↔zjo _ as
  rw[List.mem_cons,← zes hc as]
  have:c≠(d:Int):=by omega
  simp [this]
theorem zes {c:Int} (hc:c<0):(ts:List Tm)→(c∈zb ts↔zjo (-1 - c).toNat ts)
 | []=>by simp [zb,zjo]
 | t::ts=>by
  show c∈t.codes++zb ts↔_∨_
  rw[List.mem_append,Tm.mem_codes hc t,zes hc ts]
end
theorem zrU {a0:List zi} {x:Int} {q:Nat} (h:zcf a0 x=some q):(x<0 ∧ -24≤x∧q=0)∨∃ c:Nat,x=(c:Int):=by
 unfold zcf at h
 by_cases h0:x<0
 ·rw[decide_eq_true h0,cond_true] at h
  by_cases h1 : -24≤x
  ·rw[decide_eq_true h1] at h; injection h with h; exact .inl ⟨h0,h1,h.symm⟩
  ·rw[decide_eq_false h1] at h; cases h
 ·exact .inr ⟨x.toNat,by omega⟩
theorem zxE {a0:List zi}:∀(n:Nat) (ps:List jI),(∀ p∈ps,p.length≤n)→(∀ p∈ps,sk a0 1 p=some p.length)→∃ ts:List Tm,okR a0 24 ts∧ps=ts.map Tm.codes:=by
 intro n
 induction n with
 | zero =>
  intro ps h hs
  cases ps with
  | nil=>exact ⟨[],trivial,rfl⟩
  | cons p ps =>
   have h1:=h p (List.mem_cons_self ..)
   have h2:=zkP (hs p (List.mem_cons_self ..))
   omega
 | succ n ih =>
  intro ps
  induction ps with
  | nil=>intro _ _; exact ⟨[],trivial,rfl⟩
  | cons p ps ihp =>
   intro h hs
   obtain⟨ts,h1,h2⟩:=ihp (fun q hq=>h q (List.mem_cons_of_mem _ hq)) (fun q hq=>hs q (List.mem_cons_of_mem _ hq))
   obtain⟨x,r,q,rfl,ha,hr⟩:=zqq (hs p (List.mem_cons_self ..))
   have hl:=h _ (List.mem_cons_self ..)
   rw[List.length_cons] at hl
   rcases zrU ha with ⟨h3,h4,rfl⟩ | ⟨c,rfl⟩
   ·have hr0:r=[]:=by
     have:sk a0 0 r=some 0:=by cases r<;>rfl
     rw[this] at hr
     exact List.length_eq_zero_iff.1 (by injection hr with hr; omega)
    subst hr0
    refine ⟨.v (-1 - x).toNat::ts,⟨by show (-1 - x).toNat<24; omega,h1⟩,?_⟩
    rw[List.map_cons,← h2]
    show [x]::ps=[-1 - (((-1 - x).toNat:Nat):Int)]::ps
    rw[show -1 - (((-1 - x).toNat:Nat):Int)=x from by omega]
   ·obtain⟨qs,hq,hql⟩:=zA0 q r hr
    obtain⟨hf,hqs⟩:=zg0 r.length r qs (Nat.le_refl _) hq
    have hlen:∀ p∈qs,p.length≤n:=fun p hp=>by
     have h5:p.length≤qs.flatten.length:=by
      obtain⟨l1,l2,rfl⟩:=List.append_of_mem hp
      simp; omega
     rw[hf] at h5
     omega
    obtain⟨us,h5,h6⟩:=ih qs hlen fun p hp=>(hqs p hp).2
    refine ⟨.f c us::ts,⟨⟨by rw[ha,← hql,h6,List.length_map],h5⟩,h1⟩,?_⟩
    rw[List.map_cons,← h2]
    show ((c:Int)::r)::ps=((c:Int)::zb us)::ps
    rw[zjg,List.flatMap,← h6,hf]
theorem zyx {a0:List zi} {xs:List Int} {ps:List jI} (h:zkm a0 xs=some ps):∃ ts:List Tm,okR a0 24 ts∧ps=ts.map Tm.codes∧xs=zb ts:=by
 obtain⟨h1,h2⟩:=zg0 xs.length xs ps (Nat.le_refl _) h
 obtain⟨ts,h3,h4⟩:=zxE (a0:=a0) xs.length ps (fun p hp=>by
  have:p.length≤ps.flatten.length:=by
   obtain⟨l1,l2,rfl⟩:=List.append_of_mem hp
   simp; omega
  rwa [h1] at this) fun p hp=>(h2 p hp).2
 exact ⟨ts,h3,h4,by rw[zjg,List.flatMap,← h4,h1]⟩
theorem ztJ {a0:List zi} {n:Nat} (h:n<24):zcf a0 (-1 - (n:Int))=some 0:=by
 unfold zcf
 rw[decide_eq_true (show -1 - (n:Int)<0 by omega),cond_true,decide_eq_true (show -24 ≤ -1 - (n:Int) by omega)]
 rfl
mutual
theorem Tm.sk_codes {a0:List zi}:(t:Tm)→t.ok a0 24→sk a0 1 t.codes=some t.codes.length
 | .v n,h=>by
  show sk a0 1 [-1 - (n:Int)]=some 1
  unfold sk
  rw[ztJ h]
  rfl
 | .f c as,h=>by
  have:=zpt as h.2
  show sk a0 1 ((c:Int)::zb as)=some (zb as).length.succ
  unfold sk
  rw[h.1]
  simp only[Nat.zero_add,this,Option.map_some]
theorem zpt {a0:List zi}:(ts:List Tm)→okR a0 24 ts→sk a0 ts.length (zb ts)=some (zb ts).length
 | [],_=>rfl
 | t::ts,h=>by
  show sk a0 (ts.length+1) (t.codes++zb ts)=_
  rw[Nat.add_comm]
  exact zyC (Tm.sk_codes t h.1) (zpt ts h.2)
end
theorem zqn {a0:List zi}:{xs:List Int}→{n k:Nat}→(ys:List Int)→sk a0 n xs=some k→sk a0 n (xs++ys)=some k
 | [],0,k,ys,h=>by simp [sk] at h; subst h; cases ys<;>rfl
 | [],n+1,k,ys,h=>by simp [sk] at h
 | x::xs,0,k,ys,h=>by simp [sk] at h; subst h; rfl
 | x::xs,n+1,k,ys,h=>by
  unfold sk at h
  cases ha:zcf a0 x with
  | none=>rw[ha] at h; cases h
  | some m =>
   rw[ha] at h
   simp only[Option.map_eq_some_iff] at h
   obtain⟨j,hj,rfl⟩:=h
   rw[List.cons_append]
   unfold sk
   rw[ha]
   simp only[zqn ys hj,Option.map_some]
theorem yp {a0:List zi}:(ts:List Tm)→okR a0 24 ts→zkm a0 (zb ts)=some (ts.map Tm.codes)
 | [],_=>rfl
 | t::ts,h=>by
  have hp:=t.size_pos
  have hl:=t.codes_len
  have h1:=Tm.sk_codes t h.1
  show zkm a0 (t.codes++zb ts)=_
  have hne:t.codes++zb ts≠[]:=fun e=>by
   have:=congrArg List.length e
   rw[List.length_append,List.length_nil] at this
   omega
  rw[zdV hne,zqn _ h1]
  simp only[List.drop_left,List.take_left,yp ts h.2,Option.map_some,List.map_cons]
def Tm.up (d:Nat) (t:Tm):Tm:=t.sub fun n=>.v (n+d)
theorem Tm.up_zero (t:Tm):t.up 0=t:=t.sub_v
theorem Tm.up_size (d:Nat) (t:Tm):(t.up d).size=t.size:=by
 have h1:(t.up d).size≤t.size*1:=Tm.size_sub t (Nat.le_refl _) fun x _=>Nat.le_refl _
 have h2:((t.up d).sub fun n=>.v (n - d)).size≤(t.up d).size*1:=Tm.size_sub _ (Nat.le_refl _) fun x _=>Nat.le_refl _
 have h3:(t.up d).sub (fun n=>.v (n - d))=t:=by
  unfold Tm.up
  rw[Tm.sub_sub,show (fun x=>(Tm.v (x+d)).sub fun n=>.v (n - d))=Tm.v from by
   funext x
   show Tm.v (x+d - d)=_
   rw[Nat.add_sub_cancel],Tm.sub_v]
 rw[h3] at h2
 omega
theorem Tm.up_ok {a0:List zi} {N d:Nat} {t:Tm} (h:t.ok a0 N):(t.up d).ok a0 (N+d):=Tm.ok_sub t h fun x hx=>by
 have:=Tm.ok_has t h hx
 show x+d<N+d
 omega
theorem Tm.up_has {d y:Nat} {t:Tm}:(t.up d).has y↔∃ x,t.has x∧x+d=y:=Tm.has_sub t
end
end Go.Abs.Q
namespace Go.Abs.Q
open Go Go.Abs
section
abbrev Bd:=Nat→Option Tm
def SolB (θ:Sb) (B:Bd):Prop:=∀ x t,B x=some t→θ x=t.sub θ
def Sol (θ:Sb) (E:List (Tm×Tm)):Prop:=∀ p∈E,p.1.sub θ=p.2.sub θ
theorem Sol.nil {θ:Sb}:Sol θ []:=fun _ h=>nomatch h
theorem Sol.cons {θ:Sb} {p:Tm×Tm} {E:List (Tm×Tm)}:Sol θ (p::E)↔p.1.sub θ=p.2.sub θ∧Sol θ E:=by simp [Sol]
theorem Sol.append {θ:Sb} {E F:List (Tm×Tm)}:Sol θ (E++F)↔Sol θ E∧Sol θ F:=by
 simp only[Sol,List.mem_append]
 exact ⟨fun h=>⟨fun p hp=>h p (.inl hp),fun p hp=>h p (.inr hp)⟩,fun h p hp=>hp.elim (h.1 p) (h.2 p)⟩
theorem Sol.zip {θ:Sb}:{ts us:List Tm}→ts.length=us.length→(Sol θ (ts.zip us)↔zbo θ ts=zbo θ us)
 | [],[],_=>by simp [Sol,zbo]
 | [],_::_,h=>by simp at h
 | _::_,[],h=>by simp at h
 | t::ts,u::us,h=>by
  rw[List.zip_cons_cons,Sol.cons,Sol.zip (by simpa using h)]
  simp [zbo]
structure Good (B:Bd) (σ:Sb):Prop where
 free:∀ x,B x=none→σ x = .v x
 bound:∀ x t,B x=some t→σ x=t.sub σ
 down:∀ x y,B x=some (.v y)→y<x
theorem Good.empty:Good (fun _=>none) .v:=⟨fun _ _=>rfl,fun _ _ h=>(nomatch h),fun _ _ h=>(nomatch h)⟩
theorem Good.ind {B:Bd} {σ:Sb} (h:Good B σ) {P:Nat→Prop} (hf:∀ x,B x=none→P x) (hb:∀ x t,B x=some t→(∀ y,t.has y→P y)→P x):∀ x,P x:=by
 have key:∀ n x,(σ x).size=n→P x:=by
  intro n
  induction n using Nat.strongRecOn with
  | _ n ihn =>
   intro x
   induction x using Nat.strongRecOn with
   | _ x ihx =>
    intro hn
    cases hx:B x with
    | none=>exact hf x hx
    | some t =>
     refine hb x t hx fun y hy => ?_
     have hs:=h.bound x t hx
     cases t with
     | v z =>
      have hz:z=y:=hy
      subst hz
      exact ihx z (h.down x z hx) (by rw[← hn,hs]; rfl)
     | f c as =>
      have:=zft (s:=σ) as hy
      refine ihn (σ y).size ?_ y rfl
      rw[← hn,hs]
      show _<za9 (zbo σ as)+1
      omega
 exact fun x=>key _ x rfl
theorem Good.fac {B:Bd} {σ θ:Sb} (h:Good B σ) (hθ:SolB θ B):∀ x,(σ x).sub θ=θ x:=by
 refine h.ind (fun x hx=>by rw[h.free x hx]; rfl) fun x t hx ih => ?_
 rw[h.bound x t hx,Tm.sub_sub,hθ x t hx]
 exact Tm.sub_ext t fun y hy=>ih y hy
theorem Good.facT {B:Bd} {σ θ:Sb} (h:Good B σ) (hθ:SolB θ B) (t:Tm):(t.sub σ).sub θ=t.sub θ:=by
 rw[Tm.sub_sub]
 exact Tm.sub_ext t fun y _=>h.fac hθ y
theorem Good.root {B:Bd} {σ:Sb} (h:Good B σ):∀ x y,(σ x).has y→B y=none:=by
 refine h.ind (fun x hx y hy => ?_) fun x t hx ih y hy => ?_
 ·rw[h.free x hx] at hy
  have hy:x=y:=hy
  exact hy▸hx
 ·rw[h.bound x t hx] at hy
  obtain⟨z,h1,h2⟩:=(Tm.has_sub t).1 hy
  exact ih z h1 y h2
theorem Good.idem {B:Bd} {σ:Sb} (h:Good B σ) (t:Tm):(t.sub σ).sub σ=t.sub σ:=h.facT h.bound t
theorem Good.le {B:Bd} {σ:Sb} (h:Good B σ):∀ x y,σ x = .v y→y≤x:=by
 refine h.ind (fun x hx y hy => ?_) fun x t hx ih y hy => ?_
 ·rw[h.free x hx] at hy; injection hy with hy; omega
 ·rw[h.bound x t hx] at hy
  cases t with
  | v z =>
   have h1:=h.down x z hx
   have h2:=ih z rfl y hy
   omega
  | f c as=>cases hy
theorem Good.moved {B:Bd} {σ:Sb} (h:Good B σ) {x:Nat}:B x≠none↔σ x ≠ .v x:=by
 constructor
 ·intro hb he
  cases hx:B x with
  | none=>exact hb hx
  | some t =>
   have h1:=h.bound x t hx
   rw[he] at h1
   cases t with
   | v z =>
    have h2:=h.down x z hx
    have h3:=h.le z x h1.symm
    omega
   | f c as=>cases h1
 ·intro hs hb
  exact hs (h.free x hb)
theorem Good.unique {B B':Bd} {σ σ':Sb} (h:Good B σ) (h':Good B' σ') (hs:∀ θ,SolB θ B↔SolB θ B'):σ=σ':=by
 have f1:∀ x,(σ x).sub σ'=σ' x:=h.fac ((hs σ').2 h'.bound)
 have f2:∀ x,(σ' x).sub σ=σ x:=h'.fac ((hs σ).1 h.bound)
 have root:∀ y,B y=none→σ' y = .v y:=by
  intro y hy
  have h1:(σ' y).sub σ = .v y:=by rw[f2,h.free y hy]
  cases hz:σ' y with
  | f c as=>rw[hz] at h1; cases h1
  | v z =>
   rw[hz] at h1
   have h2:=h'.le y z hz
   have h3:=h.le z y h1
   have:z=y:=by omega
   rw[this]
 funext x
 rw[← f1 x]
 conv=>lhs; rw[← Tm.sub_v (σ x)]
 exact Tm.sub_ext _ fun y hy=>(root y (h.root x y hy)).symm
def one (x:Nat) (u:Tm):Sb:=fun y=>if y=x then u else .v y
def zxu (B:Bd) (x:Nat) (t:Tm):Bd:=fun y=>if y=x then some t else B y
theorem zdU (B:Bd) (x:Nat) (t:Tm):zxu B x t x=some t:=by simp [zxu]
theorem zgx (B:Bd) {x y:Nat} (t:Tm) (h:y≠x):zxu B x t y=B y:=by simp [zxu,h]
theorem SolB.upd {B:Bd} {x:Nat} {t:Tm} {θ:Sb} (hx:B x=none):SolB θ (zxu B x t)↔SolB θ B∧θ x=t.sub θ:=by
 constructor
 ·intro h
  refine ⟨fun y u hy=>h y u ?_,h x t (zdU ..)⟩
  rw[zgx _ _ fun e=>by rw[e,hx] at hy; cases hy]
  exact hy
 ·rintro⟨h1,h2⟩ y u hy
  by_cases he:y=x
  ·subst he
   rw[zdU] at hy
   injection hy with hy
   subst hy
   exact h2
  ·rw[zgx _ _ he] at hy
   exact h1 y u hy
theorem zAY {x:Nat} {u t:Tm} (h:¬ t.has x):t.sub (one x u)=t:=by
 conv=>rhs; rw[← Tm.sub_v t]
 refine Tm.sub_ext t fun y hy => ?_
 have hne:y≠x:=fun e=>h (e▸hy)
 unfold one
 rw[if_neg hne]
theorem Good.bind {B:Bd} {σ:Sb} (h:Good B σ) {x:Nat} {t:Tm} (hx:B x=none) (hn:¬(t.sub σ).has x) (hd:∀ y,t = .v y→y<x):Good (zxu B x t) fun y=>(σ y).sub (one x (t.sub σ)) where
 free:=fun y hy=>by
  have hne:y≠x:=fun e=>by rw[e,zdU] at hy; cases hy
  rw[zgx _ _ hne] at hy
  rw[h.free y hy]
  show one x _ y=_
  simp [one,hne]
 bound:=fun y u hy=>by
  by_cases he:y=x
  ·subst he
   rw[zdU] at hy
   injection hy with hy
   subst hy
   rw[h.free y hx,← Tm.sub_sub,zAY hn]
   show one y _ y=_
   simp [one]
  ·rw[zgx _ _ he] at hy
   rw[h.bound y u hy,Tm.sub_sub]
 down:=fun y z hy=>by
  by_cases he:y=x
  ·subst he
   rw[zdU] at hy
   injection hy with hy
   exact hd z hy
  ·rw[zgx _ _ he] at hy
   exact h.down y z hy
theorem Good.occurs {B:Bd} {σ θ:Sb} (h:Good B σ) {x c:Nat} {as:List Tm} (hh:((Tm.f c as).sub σ).has x) (hθ:SolB θ B) (he:θ x=(Tm.f c as).sub θ):False:=by
 have h1:=h.facT hθ (.f c as)
 rw[← he] at h1
 have h2:=zft (s:=θ) (zbo σ as) hh
 have h3:(((Tm.f c as).sub σ).sub θ).size=(θ x).size:=by rw[h1]
 have h4:za9 (zbo θ (zbo σ as))+1=(θ x).size:=h3
 omega
def zks (B:Bd):Prop:=∀ x t,B x=some t→x<48∧t.size≤48
def Good.less (σ:Sb) (y x:Nat):Bool:=decide ((σ y).size<(σ x).size)||(decide ((σ y).size=(σ x).size)&&decide (y<x))
def Good.rank (σ:Sb) (x:Nat):Nat:=(List.range 48).countP fun y=>Good.less σ y x
theorem zlR {α:Type} {p q:α→Bool} {a:α}:{l:List α}→a∈l→(∀ x∈l,p x=true→q x=true)→p a=false→q a=true→l.countP p<l.countP q
 | [],h,_,_,_=>nomatch h
 | b::l,hm,hi,hp,hq=>by
  have h2:l.countP p≤l.countP q:=List.countP_mono_left fun x hx h=>hi x (List.mem_cons_of_mem _ hx) h
  rcases List.mem_cons.1 hm with rfl | hm
  ·rw[List.countP_cons_of_neg (by simp [hp]),List.countP_cons_of_pos hq]
   omega
  ·have h1:=zlR hm (fun x hx=>hi x (List.mem_cons_of_mem _ hx)) hp hq
   cases hb:p b with
   | true=>rw[List.countP_cons_of_pos hb,List.countP_cons_of_pos (hi b (List.mem_cons_self ..) hb)]; omega
   | false =>
    rw[List.countP_cons_of_neg (by simp [hb])]
    cases hc:q b with
    | true=>rw[List.countP_cons_of_pos hc]; omega
    | false=>rw[List.countP_cons_of_neg (by simp [hc])]; exact h1
theorem Good.small {B:Bd} {σ:Sb} (h:Good B σ) (hb:zks B):∀ x,(σ x).size≤48 ^ 49:=by
 have key:∀ x,B x≠none→(σ x).size≤48 ^ (Good.rank σ x+1):=by
  refine h.ind (fun x hx hn=>absurd hx hn) fun x t hx ih _ => ?_
  obtain⟨hx48,ht⟩:=hb x t hx
  rw[h.bound x t hx]
  have h1:1≤48 ^ Good.rank σ x:=Nat.pow_pos (by omega)
  refine Nat.le_trans (Tm.size_sub t h1 fun y hy => ?_) ?_
  ·cases hy0:B y with
   | none=>rw[h.free y hy0]; exact h1
   | some u =>
    refine Nat.le_trans (ih y hy (by rw[hy0]; simp)) (Nat.pow_le_pow_right (by omega) ?_)
    have hlt:Good.less σ y x=true:=by
     unfold Good.less
     have hs:=h.bound x t hx
     cases t with
     | v z =>
      have hz:z=y:=hy
      subst hz
      have h2:=h.down x z hx
      have h3:(σ z).size=(σ x).size:=by rw[hs]; rfl
      simp [h3,h2]
     | f c as =>
      have h2:=zft (s:=σ) as hy
      have h3:(σ x).size=za9 (zbo σ as)+1:=by rw[hs]; rfl
      rw[decide_eq_true (show (σ y).size<(σ x).size by omega)]
      rfl
    refine zlR (a:=y) (List.mem_range.2 (hb y u hy0).1) (fun z _ hz => ?_) (by simp [Good.less]) hlt
    simp only[Good.less,Bool.or_eq_true,Bool.and_eq_true,decide_eq_true_eq] at hz hlt ⊢
    omega
  ·rw[Nat.pow_succ,Nat.mul_comm]
   exact Nat.mul_le_mul_left _ ht
 intro x
 by_cases hx:B x=none
 ·rw[h.free x hx]
  exact Nat.pow_pos (by omega)
 ·refine Nat.le_trans (key x hx) (Nat.pow_le_pow_right (by omega) ?_)
  have:Good.rank σ x≤(List.range 48).length:=List.countP_le_length
  rw[List.length_range] at this
  omega
theorem Good.small_sub {B:Bd} {σ:Sb} (h:Good B σ) (hb:zks B) (t:Tm):(t.sub σ).size≤t.size*48 ^ 49 :=
 Tm.size_sub t (Nat.pow_pos (by omega)) fun x _=>h.small hb x
def Out (B:Bd) (E:List (Tm×Tm)):Option Bd→Prop
 | none=>∀ θ,SolB θ B→Sol θ E→False
 | some B'=>(∃ σ,Good B' σ)∧zks B'∧∀ θ,SolB θ B'↔SolB θ B∧Sol θ E
theorem Out.via {B B1:Bd} {E E1:List (Tm×Tm)} (h:∀ θ,(SolB θ B1∧Sol θ E1)↔(SolB θ B∧Sol θ E)) {o:Option Bd} (ho:Out B1 E1 o):Out B E o:=by
 cases o with
 | none=>exact fun θ h1 h2=>ho θ ((h θ).2 ⟨h1,h2⟩).1 ((h θ).2 ⟨h1,h2⟩).2
 | some B'=>exact ⟨ho.1,ho.2.1,fun θ=>(ho.2.2 θ).trans (h θ)⟩
theorem Out.done {B:Bd} {σ:Sb} (h:Good B σ) (hs:zks B):Out B [] (some B):=⟨⟨σ,h⟩,hs,fun _=>⟨fun h=>⟨h,Sol.nil⟩,fun h=>h.1⟩⟩
theorem zBI {θ:Sb} {c d:Nat} {as bs:List Tm}:(Tm.f c as).sub θ=(Tm.f d bs).sub θ↔c=d∧zbo θ as=zbo θ bs:=by
 simp [Tm.sub]
end
end Go.Abs.Q
namespace Go.Abs.Q
open Go Go.Abs
section
abbrev PI:=List Int×Int
abbrev PO:=Option jI×Int
def Pc (a0:List zi) (N:Nat) (p:List Int) (d:Int) (t:Tm):Prop:=∃ u n,Tm.ok a0 24 u∧p=u.codes∧d=((n:Nat):Int)∧n≤N∧t=u.up n∧p.length≤48
def Pr (a0:List zi) (N:Nat) (p:List Int) (d:Int) (ts:List Tm):Prop:=∃ us n,okR a0 24 us∧p=zb us∧d=((n:Nat):Int)∧n≤N∧ts=us.map (Tm.up n)∧p.length≤48
theorem Pc.size {a0:List zi} {N:Nat} {p:List Int} {d:Int} {t:Tm} (h:Pc a0 N p d t):t.size=p.length∧t.size≤48:=by
 obtain⟨u,n,h1,rfl,h2,h3,rfl,h4⟩:=h
 rw[Tm.up_size,Tm.codes_len]
 rw[Tm.codes_len] at h4
 exact ⟨rfl,h4⟩
theorem Pc.lt {a0:List zi} {N:Nat} (hN:N≤24) {p:List Int} {d:Int} {t:Tm} (h:Pc a0 N p d t) {x:Nat} (hx:t.has x):x<48:=by
 obtain⟨u,n,h1,rfl,h2,h3,rfl,h4⟩:=h
 have:=Tm.ok_has _ (Tm.up_ok (d:=n) h1) hx
 omega
theorem Pc.cases {a0:List zi} {N:Nat} {p:List Int} {d:Int} {t:Tm} (h:Pc a0 N p d t) :
  (∃ k n:Nat,p=[-1 - (k:Int)]∧d=(n:Int)∧k<24∧n≤N∧t = .v (k+n))∨∃ c r ts,p=((c:Nat):Int)::r∧t = .f c ts∧zcf a0 (c:Int)=some ts.length∧Pr a0 N r d ts:=by
 obtain⟨u,n,h1,rfl,h2,h3,rfl,h4⟩:=h
 cases u with
 | v k=>exact .inl ⟨k,n,rfl,h2,h1,h3,rfl⟩
 | f c as =>
  have h4:(zb as).length+1≤48:=h4
  refine .inr ⟨c,zb as,as.map (Tm.up n),rfl,?_,by rw[List.length_map]; exact h1.1,as,n,h1.2,rfl,h2,h3,rfl,by omega⟩
  show Tm.f c (zbo _ as)=_
  rw[zic]
  rfl
def Pq (a0:List zi) (N:Nat) (q:List Int×Int×List Int×Int) (e:Tm×Tm):Prop:=Pc a0 N q.1 q.2.1 e.1∧Pc a0 N q.2.2.1 q.2.2.2 e.2
def PqL (a0:List zi) (N:Nat):List (List Int×Int×List Int×Int)→List (Tm×Tm)→Prop
 | [],es=>es=[]
 | q::qs,es=>∃ e es',es=e::es'∧Pq a0 N q e∧PqL a0 N qs es'
theorem PqL.append {a0:List zi} {N:Nat}:{qs:List (List Int×Int×List Int×Int)}→{es:List (Tm×Tm)}→{qs':List (List Int×Int×List Int×Int)}→{es':List (Tm×Tm)}→PqL a0 N qs es→PqL a0 N qs' es'→PqL a0 N (qs++qs') (es++es')
 | [],_,_,_,h,h'=>by have h:_=[]:=h; subst h; exact h'
 | q::qs,_,_,_,h,h'=>by
  obtain⟨e,es,rfl,h1,h2⟩:=h
  exact ⟨e,_,rfl,h1,PqL.append h2 h'⟩
theorem PqL.length {a0:List zi} {N:Nat}:{qs:List (List Int×Int×List Int×Int)}→{es:List (Tm×Tm)}→PqL a0 N qs es→es.length=qs.length
 | [],_,h=>by have h:_=[]:=h; subst h; rfl
 | q::qs,_,h=>by
  obtain⟨e,es,rfl,h1,h2⟩:=h
  simp [PqL.length h2]
theorem PqL.split {a0:List zi} {N:Nat}:{qs:List (List Int×Int×List Int×Int)}→{qs':List (List Int×Int×List Int×Int)}→{es:List (Tm×Tm)}→PqL a0 N (qs++qs') es→∃ e1 e2,es=e1++e2∧PqL a0 N qs e1∧PqL a0 N qs' e2
 | [],_,es,h=>⟨[],es,rfl,rfl,h⟩
 | q::qs,_,_,h=>by
  obtain⟨e,es,rfl,h1,h2⟩:=h
  obtain⟨e1,e2,rfl,h3,h4⟩:=PqL.split h2
  exact ⟨e::e1,e2,rfl,⟨e,e1,rfl,h1,h3⟩,h4⟩
def PcO (a0:List zi) (N:Nat) (e:PO) (o:Option Tm):Prop:=match e.1 with
 | none=>o=none
 | some p=>∃ t,o=some t∧Pc a0 N p e.2 t
structure RepT (a0:List zi) (N:Nat) (to:List PO) (B:Bd):Prop where
 len:to.length=48
 at_:∀ x e,to[x]? = some e→PcO a0 N e (B x)
 out:∀ x,48≤x→B x=none
theorem RepT.small {a0:List zi} {N:Nat} {to:List PO} {B:Bd} (h:RepT a0 N to B):zks B:=by
 intro x t hx
 have hlt:x<48:=by
  rcases Nat.lt_or_ge x 48 with h' | h'
  ·exact h'
  ·rw[h.out x h'] at hx; cases hx
 refine ⟨hlt,?_⟩
 have hl:x<to.length:=by rw[h.len]; exact hlt
 have hg:to[x]? = some to[x]:=List.getElem?_eq_getElem hl
 have:=h.at_ x _ hg
 unfold PcO at this
 split at this
 ·rw[hx] at this; cases this
 ·obtain⟨u,h1,h2⟩:=this
  rw[hx] at h1; injection h1 with h1; subst h1
  exact h2.size.2
theorem RepT.get {a0:List zi} {N:Nat} {to:List PO} {B:Bd} (h:RepT a0 N to B) {x:Nat} (hx:x<48):∃ e,to[x]? = some e∧PcO a0 N e (B x):=by
 have hl:x<to.length:=by rw[h.len]; exact hx
 have hg:to[x]? = some to[x]:=List.getElem?_eq_getElem hl
 exact ⟨_,hg,h.at_ x _ hg⟩
theorem RepT.set {a0:List zi} {N:Nat} {to:List PO} {B:Bd} (h:RepT a0 N to B) {x:Nat} (hx:x<48) {p:List Int} {d:Int} {t:Tm} (hp:Pc a0 N p d t):RepT a0 N (to.set x (some p,d)) (zxu B x t) where
 len:=by rw[List.length_set]; exact h.len
 at_:=fun y e hy=>by
  by_cases he:y=x
  ·subst he
   rw[List.getElem?_set_self (by rw[h.len]; exact hx)] at hy
   injection hy with hy
   subst hy
   rw[zdU]
   exact ⟨t,rfl,hp⟩
  ·rw[List.getElem?_set_ne (Ne.symm he)] at hy
   rw[zgx _ _ he]
   exact h.at_ y e hy
 out:=fun y hy=>by
  rw[zgx _ _ (by omega)]
  exact h.out y hy
theorem ziO {N:Nat} (hN:N≤24) {k n:Nat} (hk:k<24) (hn:n≤N) (p:List Int):yy p (n:Int) (-1 - (k:Int))=some ((k+n:Nat):Int):=by
 unfold yy
 rw[zaQ (by omega) (by omega),Option.bind_some]
 congr 1
 rw[zp]<;>omega
def zhT:Tm→Nat
 | .v x=>x+2
 | .f _ _=>1
theorem zwJ {a0:List zi} {N:Nat} (hN:N≤24) {to:List PO} {B:Bd} {σ:Sb} (hT:RepT a0 N to B) (hG:Good B σ):∀(m k:Nat) (p:List Int) (d:Int) (t:Tm) (z:Int),zhT t≤m→m≤k→Pc a0 N p d t →
  ∃ p' d' t',lp za3 k (a0,to,p,d,z)=some (p',d')∧Pc a0 N p' d' t'∧(∀ θ,SolB θ B→t.sub θ=t'.sub θ)∧∀ y,t' = .v y→B y=none:=by
 intro m
 induction m with
 | zero=>intro k p d t z hm; cases t<;>simp [zhT] at hm
 | succ m ih =>
  intro k p d t z hm hk hp
  obtain⟨k,rfl⟩:∃ k',k=k'+1:=⟨k - 1,by omega⟩
  rw[zm]
  have key:=fun p d t (h1:zhT t≤m) h2=>ih k p d t z h1 (by omega) h2
  generalize lp za3 k=rec at key ⊢
  unfold za3
  rcases hp.cases with ⟨x,n,rfl,rfl,hx,hn,rfl⟩ | ⟨c,r,ts,rfl,rfl,hc,hr⟩
  ·simp only[yZ,List.getElem?_cons_zero,Option.bind_some]
   rw[decide_eq_true (show -1 - (x:Int)<0 by omega),cond_true,ziO hN hx hn,Option.bind_some,yY (by omega),Option.bind_some]
   obtain⟨e,he,hpe⟩:=hT.get (x:=x+n) (by omega)
   rw[he,Option.bind_some]
   unfold PcO at hpe
   split at hpe
   ·rename_i h1
    rw[h1]
    exact ⟨_,_,_,rfl,hp,fun θ _=>rfl,fun y hy=>by injection hy with hy; rw[← hy]; exact hpe⟩
   ·rename_i q h1
    obtain⟨u,hu,hq⟩:=hpe
    rw[h1]
    simp only[Option.isNone_some,cond_false,Option.getD_some]
    obtain⟨p',d',t',h2,h3,h4,h5⟩:=key q e.2 u (by
     cases u with
     | v y=>have:=hG.down _ y hu; simp only[zhT] at hm ⊢; omega
     | f c as=>simp only[zhT] at hm ⊢; omega) hq
    exact ⟨p',d',t',h2,h3,fun θ hθ=>(hθ _ u hu).trans (h4 θ hθ),h5⟩
  ·simp only[yZ,List.getElem?_cons_zero,Option.bind_some]
   rw[decide_eq_false (show ¬(c:Int)<0 by omega),cond_false]
   exact ⟨_,_,_,rfl,hp,fun θ _=>rfl,fun y hy=>by cases hy⟩
theorem zpv {a0:List zi} {N:Nat} (hN:N≤24) {to:List PO} {B:Bd} {σ:Sb} (hT:RepT a0 N to B) (hG:Good B σ) {p:List Int} {d:Int} {t:Tm} (hp:Pc a0 N p d t) :
  ∃ p' d' t',zaR p d a0 to=some (p',d')∧Pc a0 N p' d' t'∧(∀ θ,SolB θ B→t.sub θ=t'.sub θ)∧∀ y,t' = .v y→B y=none:=by
 obtain⟨p',d',t',h1,h2⟩:=zwJ hN hT hG (zhT t) zd p d t 0 (Nat.le_refl _) (by
  cases t with
  | v x=>have:=hp.lt hN (x:=x) rfl; simp only[zhT]; unfold zd; omega
  | f c as=>simp only[zhT]; unfold zd; omega) hp
 refine ⟨p',d',t',?_,h2⟩
 unfold zaR
 rw[h1]
 rfl
section
variable {a0:List zi} {N:Nat} {to:List PO} {B:Bd} {σ:Sb} {v:Nat}
def DoneV (B:Bd) (v:Nat) (seen:List Bool) (y:Nat):Prop:=y≠v∧(B y≠none→seen[y]? = some true)
def PcL (a0:List zi) (N:Nat):List PI→List Tm→Prop
 | [],ts=>ts=[]
 | p::ps,ts=>∃ t ts',ts=t::ts'∧Pc a0 N p.1 p.2 t∧PcL a0 N ps ts'
theorem PcL.append:{ps:List PI}→{ts:List Tm}→{ps':List PI}→{ts':List Tm}→PcL a0 N ps ts→PcL a0 N ps' ts'→PcL a0 N (ps++ps') (ts++ts')
 | [],_,_,_,h,h'=>by have h:_=[]:=h; subst h; exact h'
 | q::qs,_,_,_,h,h'=>by
  obtain⟨e,es,rfl,h1,h2⟩:=h
  exact ⟨e,_,rfl,h1,PcL.append h2 h'⟩
theorem PcL.split:{ps:List PI}→{ps':List PI}→{ts:List Tm}→PcL a0 N (ps++ps') ts→∃ t1 t2,ts=t1++t2∧PcL a0 N ps t1∧PcL a0 N ps' t2
 | [],_,ts,h=>⟨[],ts,rfl,rfl,h⟩
 | q::qs,_,_,h=>by
  obtain⟨e,es,rfl,h1,h2⟩:=h
  obtain⟨e1,e2,rfl,h3,h4⟩:=PcL.split h2
  exact ⟨e::e1,e2,rfl,⟨e,e1,rfl,h1,h3⟩,h4⟩
theorem PcL.length:{ps:List PI}→{ts:List Tm}→PcL a0 N ps ts→ts.length=ps.length
 | [],_,h=>by have h:_=[]:=h; subst h; rfl
 | q::qs,_,h=>by
  obtain⟨e,es,rfl,h1,h2⟩:=h
  simp [PcL.length h2]
def zhg (seen:List Bool):Nat:=seen.countP fun b => !b
theorem zsb {seen:List Bool} {x:Nat} (h:seen[x]? = some false):zhg (seen.set x true)+1=zhg seen:=by
 unfold zhg
 obtain⟨hx,he⟩:=List.getElem?_eq_some_iff.1 h
 have h1:=List.take_append_drop x seen
 have h2:seen.drop x=false::seen.drop (x+1):=by rw[List.drop_eq_getElem_cons hx,he]
 have h3:seen.set x true=seen.take x++true::seen.drop (x+1):=by rw[List.set_eq_take_append_cons_drop,if_pos hx]
 conv=>rhs; rw[← h1,h2]
 rw[h3]
 simp [List.countP_append,List.countP_cons]
 omega
theorem zlk (hN:N≤24) (hT:RepT a0 N to B) {n:Nat} (hn:n≤N) (p0:List Int):∀(es:List Int) (seen:List Bool) (todo:List PI) (ts:List Tm),(∀ c∈es,-24≤c)→seen.length=48→todo.length+zhg seen≤1000→PcL a0 N todo ts →
  (zh (v:Int) to p0 (n:Int) es seen todo=some (.inr true)∧∃ c∈es,c<0∧(-1 - c).toNat+n=v) ∨
  ∃ seen' more us,zh (v:Int) to p0 (n:Int) es seen todo=some (.inl (seen',todo++more))∧seen'.length=48∧more.length+zhg seen'=zhg seen∧PcL a0 N more us ∧
   (∀ y:Nat,seen[y]? = some true→seen'[y]? = some true)∧(∀ c∈es,c<0→DoneV B v seen' ((-1 - c).toNat+n))∧(∀ y:Nat,seen'[y]? = some true→seen[y]? = some true∨∃ u,B y=some u∧u∈us) ∧
   (∀ u∈us,∃ c∈es,c<0∧B ((-1 - c).toNat+n)=some u)
 | [],seen,todo,ts,_,hs,_,_=>.inr ⟨seen,[],[],by rw[List.append_nil]; rfl,hs,by simp,rfl,fun _ h=>h,fun c h=>(nomatch h),fun y h=>.inl h,fun u h=>(nomatch h)⟩
 | e::es,seen,todo,ts,hc,hs,hl,hp=>by
  have he:=hc e (List.mem_cons_self ..)
  have hc':∀ c∈es,-24≤c:=fun c h=>hc c (List.mem_cons_of_mem _ h)
  -- the variable is passed over
  have pass:∀ f:List Bool→List PI→Option ((List Bool×List PI)⊕Bool),f seen todo=zh (v:Int) to p0 (n:Int) es seen todo→(e<0→DoneV B v seen ((-1 - e).toNat+n)) →
    ((f seen todo=some (.inr true)∧∃ c∈e::es,c<0∧(-1 - c).toNat+n=v) ∨
    ∃ seen' more us,f seen todo=some (.inl (seen',todo++more))∧seen'.length=48∧more.length+zhg seen'=zhg seen∧PcL a0 N more us ∧
     (∀ y:Nat,seen[y]? = some true→seen'[y]? = some true)∧(∀ c∈e::es,c<0→DoneV B v seen' ((-1 - c).toNat+n))∧(∀ y:Nat,seen'[y]? = some true→seen[y]? = some true∨∃ u,B y=some u∧u∈us) ∧
     (∀ u∈us,∃ c∈e::es,c<0∧B ((-1 - c).toNat+n)=some u)):=by
   intro f hf hd
   rw[hf]
   rcases zlk hN hT hn p0 es seen todo ts hc' hs hl hp with ⟨h1,c,h2,h3⟩ | ⟨seen',more,us,h1,h2,h3,h4,h5,h6,h7,h8⟩
   ·exact .inl ⟨h1,c,List.mem_cons_of_mem _ h2,h3⟩
   ·refine .inr ⟨seen',more,us,h1,h2,h3,h4,h5,fun c hcm hc0 => ?_,h7,fun u hu => ?_⟩
    ·rcases List.mem_cons.1 hcm with rfl | hcm
     ·exact ⟨(hd hc0).1,fun hb=>h5 _ ((hd hc0).2 hb)⟩
     ·exact h6 c hcm hc0
    ·obtain⟨c,h9,h10⟩:=h8 u hu
     exact ⟨c,List.mem_cons_of_mem _ h9,h10⟩
  unfold zh
  by_cases h0:e≥0
  ·rw[decide_eq_true h0,cond_true]
   exact pass (fun seen todo=>zh (v:Int) to p0 (n:Int) es seen todo) rfl fun h=>by omega
  ·rw[decide_eq_false h0,cond_false]
   obtain⟨k,hk,rfl⟩:∃ k:Nat,k<24∧e = -1 - (k:Int):=⟨(-1 - e).toNat,by omega,by omega⟩
   have hk2:(-1 - (-1 - (k:Int))).toNat=k:=by omega
   rw[ziO hN hk hn,Option.bind_some]
   by_cases hv:k+n=v
   ·rw[hv,show (((v:Nat):Int)==(v:Int))=true from by simp,cond_true]
    exact .inl ⟨rfl,_,List.mem_cons_self ..,by omega,by rw[hk2]; exact hv⟩
   ·rw[show (((k+n:Nat):Int)==(v:Int))=false from by simp; omega,cond_false,yY (show k+n<48 by omega),Option.bind_some]
    obtain⟨b,hb⟩:∃ b,seen[k+n]? = some b:=⟨seen[k+n]'(by omega),List.getElem?_eq_getElem (by omega)⟩
    rw[hb,Option.bind_some]
    obtain⟨q,hq,hpq⟩:=hT.get (x:=k+n) (by omega)
    cases b with
    | true =>
     simp only[Bool.not_true,cond_false]
     exact pass (fun seen todo=>zh (v:Int) to p0 (n:Int) es seen todo) rfl fun _=>by rw[hk2]; exact ⟨hv,fun _=>hb⟩
    | false =>
     simp only[Bool.not_false,cond_true,Option.bind_some,hq]
     unfold PcO at hpq
     split at hpq
     ·rename_i h1
      rw[h1]
      simp only[Option.isNone_none,Bool.not_true,cond_false]
      exact pass (fun seen todo=>zh (v:Int) to p0 (n:Int) es seen todo) rfl fun _=>by rw[hk2]; exact ⟨hv,fun hn=>absurd hpq hn⟩
     ·rename_i q1 h1
      obtain⟨u,hu,hpu⟩:=hpq
      rw[h1]
      simp only[Option.isNone_some,Bool.not_false,cond_true,Option.getD_some,hb,Option.bind_some]
      have hun:=zsb hb
      rw[zn (show (todo.length+([(q1,q.2)]:List PI).length)*32≤140737488351232 by simp; omega),cond_true]
      have hset:(seen.set (k+n) true)[k+n]? = some true:=List.getElem?_set_self (by omega)
      have hmono:∀ y:Nat,seen[y]? = some true→(seen.set (k+n) true)[y]? = some true:=fun y hy=>by
       by_cases hyk:y=k+n
       ·subst hyk; exact hset
       ·rw[List.getElem?_set_ne (Ne.symm hyk)]; exact hy
      have hbk:∀ y:Nat,(seen.set (k+n) true)[y]? = some true→seen[y]? = some true∨y=k+n:=fun y hy=>by
       by_cases hyk:y=k+n
       ·exact .inr hyk
       ·rw[List.getElem?_set_ne (Ne.symm hyk)] at hy; exact .inl hy
      rcases zlk hN hT hn p0 es (seen.set (k+n) true) (todo++[(q1,q.2)]) (ts++[u]) hc' (by rw[List.length_set]; exact hs) (by simp; omega) (hp.append ⟨u,[],rfl,hpu,rfl⟩) with ⟨h2,c,h3,h4⟩ | ⟨seen',more,us,h2,h3,h4,h5,h6,h7,h8,h9⟩
      ·exact .inl ⟨h2,c,List.mem_cons_of_mem _ h3,h4⟩
      ·refine .inr ⟨seen',(q1,q.2)::more,u::us,by rw[h2,List.append_assoc]; rfl,h3,by simp; omega,⟨u,us,rfl,hpu,h5⟩,fun y hy=>h6 y (hmono y hy),fun c hcm hc0 => ?_,fun y hy => ?_,fun w hw => ?_⟩
       ·rcases List.mem_cons.1 hcm with rfl | hcm
        ·rw[hk2]; exact ⟨hv,fun _=>h6 _ hset⟩
        ·exact h7 c hcm hc0
       ·rcases h8 y hy with h10 | ⟨w,h10,h11⟩
        ·rcases hbk y h10 with h12 | rfl
         ·exact .inl h12
         ·exact .inr ⟨u,hu,List.mem_cons_self ..⟩
        ·exact .inr ⟨w,h10,List.mem_cons_of_mem _ h11⟩
       ·rcases List.mem_cons.1 hw with rfl | hw
        ·exact ⟨_,List.mem_cons_self ..,by omega,by rw[hk2]; exact hu⟩
        ·obtain⟨c,h10,h11⟩:=h9 w hw
         exact ⟨c,List.mem_cons_of_mem _ h10,h11⟩
theorem Pc.vars {p:List Int} {d:Int} {t:Tm} (h:Pc a0 N p d t):∃ n:Nat,d=(n:Int)∧n≤N∧(∀ c∈p,-24≤c)∧∀ y,t.has y↔∃ c∈p,c<0∧(-1 - c).toNat+n=y:=by
 obtain⟨u,n,h1,rfl,h2,h3,rfl,h4⟩:=h
 refine ⟨n,h2,h3,fun c hc => ?_,fun y => ?_⟩
 ·by_cases h0:c<0
  ·have:=Tm.ok_has u h1 ((Tm.mem_codes h0 u).1 hc); omega
  ·omega
 ·rw[Tm.up_has]
  constructor
  ·rintro⟨x,hx,rfl⟩
   have hc:(-1 - (x:Int))<0:=by omega
   refine ⟨-1 - (x:Int),(Tm.mem_codes hc u).2 (by rw[show (-1 - (-1 - (x:Int))).toNat=x from by omega]; exact hx),hc,by omega⟩
  ·rintro⟨c,hc,h0,rfl⟩
   exact ⟨_,(Tm.mem_codes h0 u).1 hc,rfl⟩
structure WInv (B:Bd) (σ:Sb) (v:Nat) (t:Tm) (seen:List Bool) (ts:List Tm):Prop where
 snd:∀ u∈ts,(u.sub σ).has v→(t.sub σ).has v
 top:t∈ts∨∀ y,t.has y→DoneV B v seen y
 cls:∀ x u,seen[x]? = some true→B x=some u→u∈ts∨∀ y,u.has y→DoneV B v seen y
theorem DoneV.mono {seen seen':List Bool} (h:∀ y:Nat,seen[y]? = some true→seen'[y]? = some true) {y:Nat} (hd:DoneV B v seen y):DoneV B v seen' y:=⟨hd.1,fun hb=>h y (hd.2 hb)⟩
theorem zsq (hN:N≤24) (hT:RepT a0 N to B) (hG:Good B σ) (hv:B v=none) (t:Tm):∀(m k:Nat) (seen:List Bool) (todo:List PI) (ts:List Tm) (z:List Int) (z2:Int),todo.length+zhg seen=m→m<k→m≤100→seen.length=48→PcL a0 N todo ts→WInv B σ v t seen ts →
  ∃ r,lp zac k ((v:Int),a0,to,z,z2,seen,todo)=some r∧((r = .inr true∧(t.sub σ).has v)∨(r = .inl ()∧¬(t.sub σ).has v)):=by
 intro m
 induction m using Nat.strongRecOn with
 | _ m ih =>
  intro k seen todo ts z z2 hm hk hm1 hs hp hI
  obtain⟨k,rfl⟩:∃ k',k=k'+1:=⟨k - 1,by omega⟩
  rw[zm]
  have key:=fun (m':Nat) (h:m'<m) seen todo ts z z2 h1 h2 h3 h4=>ih m' h k seen todo ts z z2 h1 (by omega) (by omega) h2 h3 h4
  generalize lp zac k=rec at key ⊢
  unfold zac
  rcases List.eq_nil_or_concat todo with rfl | ⟨todo',p,rfl⟩
  ·have hts:ts=[]:=hp
   subst hts
   refine ⟨_,rfl,.inr ⟨rfl,?_⟩⟩
   have hcl:∀ x u,seen[x]? = some true→B x=some u→∀ y,u.has y→DoneV B v seen y:=fun x u h1 h2=>(hI.cls x u h1 h2).resolve_left (fun h=>nomatch h)
   have hno:∀ x,DoneV B v seen x→¬(σ x).has v:=by
    refine hG.ind (fun x hx hd hh => ?_) fun x u hx ihx hd hh => ?_
    ·rw[hG.free x hx] at hh
     exact hd.1 hh
    ·rw[hG.bound x u hx] at hh
     obtain⟨y,h1,h2⟩:=(Tm.has_sub u).1 hh
     exact ihx y h1 (hcl x u (hd.2 (by rw[hx]; simp)) hx y h1) h2
   intro hh
   obtain⟨y,h1,h2⟩:=(Tm.has_sub t).1 hh
   exact hno y ((hI.top.resolve_left fun h=>nomatch h) y h1) h2
  ·rw[List.concat_eq_append] at *
   obtain⟨ts',us0,rfl,hp1,hp2⟩:=PcL.split hp
   obtain⟨u0,us1,rfl,hu0,hus1⟩:=hp2
   have hus1:us1=[]:=hus1
   subst hus1
   simp only[List.length_append,List.length_singleton] at hm
   obtain⟨q,d⟩:=p
   obtain⟨n,rfl,hn,hcs,hvars⟩:=hu0.vars
   have e1:IntKind.wrap .i64 (((List.length (todo'++[(q,(n:Int))]):Nat):Int) - 1)=((todo'.length:Nat):Int):=by
    rw[List.length_append,List.length_singleton,zp]<;>omega
   have e2:inR ((todo'.length:Nat):Int) (List.length (todo'++[(q,(n:Int))]))=some todo'.length:=yY (by simp)
   have e3:(todo'++[(q,(n:Int))])[todo'.length]? = some (q,(n:Int)):=znt _ [] _
   have e4:decide (((List.length (todo'++[(q,(n:Int))]):Nat):Int)>0)=true:=decide_eq_true (by rw[List.length_append,List.length_singleton]; omega)
   simp only[e1,e2,e3,e4,Option.bind_some,cond_true,zrl]
   have hsz:u0.size=q.length∧u0.size≤48:=hu0.size
   rw[ze1 _ _ _ _ _ _ _ _ (by unfold maxLen; omega)]
   rcases zlk (v:=v) hN hT hn q q seen todo' ts' hcs hs (by omega) hp1 with ⟨h1,c,h2,h3,h4⟩ | ⟨seen',more,us,h1,h2,h3,h4,h5,h6,h7,h8⟩
   ·rw[h1]
    refine ⟨_,rfl,.inl ⟨rfl,hI.snd u0 (by simp) ?_⟩⟩
    refine (Tm.has_sub u0).2 ⟨v,(hvars v).2 ⟨c,h2,h3,h4⟩,?_⟩
    rw[hG.free v hv]
    rfl
   ·rw[h1]
    simp only[Option.bind_some,zcH]
    refine key (todo'.length+more.length+zhg seen') (by omega) seen' (todo'++more) (ts'++us) q (n:Int) (by simp) h2 (hp1.append h4) ⟨fun w hw hh => ?_,?_,fun x w hx hw => ?_⟩
    ·rcases List.mem_append.1 hw with hw | hw
     ·exact hI.snd w (by simp [hw]) hh
     ·obtain⟨c,h9,h10,h11⟩:=h8 w hw
      refine hI.snd u0 (by simp) ((Tm.has_sub u0).2 ⟨_,(hvars _).2 ⟨c,h9,h10,rfl⟩,?_⟩)
      rw[hG.bound _ w h11]
      exact hh
    ·have hdone:∀ y,u0.has y→DoneV B v seen' y:=fun y hy=>by
      obtain⟨c,h9,h10,rfl⟩:=(hvars y).1 hy
      exact h6 c h9 h10
     rcases hI.top with ht | ht
     ·rcases List.mem_append.1 ht with ht | ht
      ·exact .inl (by simp [ht])
      ·rw[List.mem_singleton.1 ht]; exact .inr hdone
     ·exact .inr fun y hy=>(ht y hy).mono h5
    ·have hdone:∀ y,u0.has y→DoneV B v seen' y:=fun y hy=>by
      obtain⟨c,h9,h10,rfl⟩:=(hvars y).1 hy
      exact h6 c h9 h10
     rcases h7 x hx with h9 | ⟨w',h9,h10⟩
     ·rcases hI.cls x w h9 hw with ht | ht
      ·rcases List.mem_append.1 ht with ht | ht
       ·exact .inl (by simp [ht])
       ·rw[List.mem_singleton.1 ht]; exact .inr hdone
      ·exact .inr fun y hy=>(ht y hy).mono h5
     ·rw[hw] at h9; injection h9 with h9; subst h9
      exact .inl (by simp [h10])
theorem zp3 (hN:N≤24) (hT:RepT a0 N to B) (hG:Good B σ) (hv:B v=none) {p:List Int} {d:Int} {t:Tm} (hp:Pc a0 N p d t) :
  ∃ r,zce (v:Int) p d a0 to=some r∧(r=true↔(t.sub σ).has v):=by
 have hun:zhg (List.replicate 48 false)=48:=by decide
 obtain⟨r,h1,h2⟩:=zsq hN hT hG hv t 49 zd (List.replicate 48 false) [(p,d)] [t] p d (by rw[hun]; rfl) (by unfold zd; omega) (by omega) (by simp) ⟨t,[],rfl,hp,rfl⟩
  ⟨fun u hu h=>by rw[List.mem_singleton.1 hu] at h; exact h,.inl (by simp),fun x u hx _=>by
   rw[List.getElem?_replicate] at hx
   split at hx<;>simp at hx⟩
 unfold zce
 rw[h1]
 rcases h2 with ⟨rfl,h2⟩ | ⟨rfl,h2⟩
 ·exact ⟨true,rfl,by simp [h2]⟩
 ·exact ⟨false,rfl,by simp [h2]⟩
end
end
end Go.Abs.Q
namespace Go.Abs.Q
open Go Go.Abs
section
mutual
def Tm.ht:Tm→Nat
 | .v _=>1
 | .f _ as=>htR as+1
def htR:List Tm→Nat
 | []=>0
 | t::ts=>max t.ht (htR ts)
end
mutual
theorem Tm.ht_size:(t:Tm)→t.ht≤t.size
 | .v _=>Nat.le_refl _
 | .f _ as=>by have:=zra as; simp only[Tm.ht,Tm.size]; omega
theorem zra:(ts:List Tm)→htR ts≤za9 ts
 | []=>Nat.le_refl _
 | t::ts=>by have:=t.ht_size; have:=zra ts; simp only[htR,za9]; omega
end
mutual
theorem Tm.ht_sub {s:Sb} {M:Nat}:(t:Tm)→(∀ x,t.has x→(s x).ht≤M)→(t.sub s).ht≤t.ht+M
 | .v n,h=>by have:=h n rfl; simp only[Tm.sub,Tm.ht]; omega
 | .f _ as,h=>by have:=zuT as h; simp only[Tm.sub,Tm.ht]; omega
theorem zuT {s:Sb} {M:Nat}:(ts:List Tm)→(∀ x,zjo x ts→(s x).ht≤M)→htR (zbo s ts)≤htR ts+M
 | [],_=>by simp [zbo,htR]
 | t::ts,h=>by
  have h1:=Tm.ht_sub t fun x hx=>h x (.inl hx)
  have h2:=zuT ts fun x hx=>h x (.inr hx)
  simp only[zbo,htR]; omega
end
theorem zpM:{ts:List Tm}→{t:Tm}→t∈ts→t.ht≤htR ts
 | u::us,t,h=>by
  rcases List.mem_cons.1 h with rfl | h
  ·simp only[htR]; omega
  ·have:=zpM h; simp only[htR]; omega
theorem Good.rank_lt {B:Bd} {σ:Sb} (h:Good B σ) {x y:Nat} {t:Tm} (hx:B x=some t) (hy:t.has y) (h48:y<48):Good.rank σ y<Good.rank σ x:=by
 have hlt:Good.less σ y x=true:=by
  unfold Good.less
  have hs:=h.bound x t hx
  cases t with
  | v z =>
   have hz:z=y:=hy
   subst hz
   have h2:=h.down x z hx
   have h3:(σ z).size=(σ x).size:=by rw[hs]; rfl
   simp [h3,h2]
  | f c as =>
   have h2:=zft (s:=σ) as hy
   have h3:(σ x).size=za9 (zbo σ as)+1:=by rw[hs]; rfl
   rw[decide_eq_true (show (σ y).size<(σ x).size by omega)]
   rfl
 refine zlR (a:=y) (List.mem_range.2 h48) (fun z _ hz => ?_) (by simp [Good.less]) hlt
 simp only[Good.less,Bool.or_eq_true,Bool.and_eq_true,decide_eq_true_eq] at hz hlt ⊢
 omega
theorem Good.rank_le (σ:Sb) (x:Nat):Good.rank σ x≤48:=by
 have:Good.rank σ x≤(List.range 48).length:=List.countP_le_length
 rwa [List.length_range] at this
theorem Good.low {B:Bd} {σ:Sb} (h:Good B σ) (hb:zks B):∀ x,(σ x).ht≤49*49:=by
 have key:∀ x,B x≠none→(σ x).ht≤49*(Good.rank σ x+1):=by
  refine h.ind (fun x hx hn=>absurd hx hn) fun x t hx ih _ => ?_
  obtain⟨hx48,ht⟩:=hb x t hx
  rw[h.bound x t hx]
  have h0:=t.ht_size
  have:=Tm.ht_sub (s:=σ) (M:=49*Good.rank σ x+1) t fun y hy=>(by
   cases hy0:B y with
   | none=>rw[h.free y hy0]; simp only[Tm.ht]; omega
   | some u =>
    have h1:=ih y hy (by rw[hy0]; simp)
    have h2:=h.rank_lt hx hy (hb y u hy0).1
    have:49*(Good.rank σ y+1)≤49*Good.rank σ x:=Nat.mul_le_mul_left _ (by omega)
    omega)
  omega
 intro x
 by_cases hx:B x=none
 ·rw[h.free x hx]; simp [Tm.ht]
 ·have h1:=key x hx
  have h2:=Good.rank_le σ x
  have:49*(Good.rank σ x+1)≤49*49:=Nat.mul_le_mul_left _ (by omega)
  omega
def zDE (n m:Nat) (us ws:List Tm):List (List Int×Int×List Int×Int):=List.zipWith (fun a b=>(a.codes,(n:Int),b.codes,(m:Int))) us ws
theorem zd9 {ts:List Tm} {t:Tm} (h:t∈ts):t.codes.length≤(zb ts).length:=by
 obtain⟨l1,l2,rfl⟩:=List.append_of_mem h
 rw[zdk]
 simp [zb]
 omega
theorem zre {a0:List zi} {N n m:Nat} (hn:n≤N) (hm:m≤N):{us ws:List Tm}→okR a0 24 us→okR a0 24 ws→(∀ t∈us,t.codes.length≤48)→(∀ t∈ws,t.codes.length≤48) →
  PqL a0 N (zDE n m us ws) ((us.map (Tm.up n)).zip (ws.map (Tm.up m)))
 | [],_,_,_,_,_=>rfl
 | _::_,[],_,_,_,_=>rfl
 | u::us,w::ws,hu,hw,hlu,hlw =>
  ⟨(u.up n,w.up m),_,rfl,⟨⟨u,n,hu.1,rfl,rfl,hn,rfl,hlu u (List.mem_cons_self ..)⟩,⟨w,m,hw.1,rfl,rfl,hm,rfl,hlw w (List.mem_cons_self ..)⟩⟩,
   zre hn hm hu.2 hw.2 (fun t h=>hlu t (List.mem_cons_of_mem _ h)) fun t h=>hlw t (List.mem_cons_of_mem _ h)⟩
theorem zo7 (ps2:List jI) (n m:Nat):(us ws:List Tm)→(i:Nat)→(out:List (List Int×Int×List Int×Int))→ps2.drop i=ws.map Tm.codes→us.length=ws.length→out.length+us.length≤1000000 →
  zG ps2 (n:Int) (m:Int) (us.map Tm.codes) i out=some (out++zDE n m us ws)
 | [],ws,i,out,_,_,_=>by simp [zG,zDE]
 | u::us,[],i,out,_,h,_=>by simp at h
 | u::us,w::ws,i,out,h,hl,hr=>by
  simp only[List.length_cons] at hl hr
  rw[List.map_cons] at h
  rw[List.map_cons]
  unfold zG
  rw[y5,zk h,Option.bind_some,zn (by simp only[List.length_singleton]; omega),cond_true,zo7 ps2 n m us ws (i+1) _ (ze h) (by omega) (by simp only[List.length_append,List.length_singleton]; omega)]
  simp [zDE]
theorem zm0 {a0:List zi} (h:SignOk a0) {N:Nat} {p q:List Int} {d e:Int} {ts us:List Tm} (hp:Pr a0 N p d ts) (hq:Pr a0 N q e us) (hl:ts.length=us.length) (to:List PO) {out:List (List Int×Int×List Int×Int)} (ho:out.length≤100000) :
  ∃ more,qn p d q e a0 to out=some (out++more)∧PqL a0 N more (ts.zip us):=by
 obtain⟨us0,n,h1,rfl,rfl,h2,rfl,h3⟩:=hp
 obtain⟨ws0,m,h4,rfl,rfl,h5,rfl,h6⟩:=hq
 simp only[List.length_map] at hl
 have hls:us0.length≤48:=by
  have:=zhH (yp us0 h1)
  rw[List.length_map] at this
  omega
 refine ⟨zDE n m us0 ws0,?_,zre h2 h5 h1 h4 (fun t ht=>Nat.le_trans (zd9 ht) h3) fun t ht=>Nat.le_trans (zd9 ht) h6⟩
 unfold qn
 rw[zbB h (by omega) (yp us0 h1),Option.bind_some,zbB h (by omega) (yp ws0 h4),Option.bind_some,
  zex _ _ _ _ _ _ _ (by rw[List.length_map]; unfold maxLen; omega),zo7 _ n m us0 ws0 0 out rfl hl (by omega)]
 rfl
theorem znj {a0:List zi} {N:Nat} {p:List Int} {d:Int} {t:Tm} (h:Pc a0 N p d t):nn p=some p:=by
 have h1:=h.size
 have h2:=t.size_pos
 cases p with
 | nil=>simp at h1; omega
 | cons x r=>rfl
theorem zq3 {a0:List zi} {N:Nat} (hN:N≤24) {to:List PO} {B:Bd} {σ:Sb} (hT:RepT a0 N to B) (hG:Good B σ) {p q:List Int} {d e:Int} {v:Nat} {u:Tm} (hp:Pc a0 N p d (.v v)) (hq:Pc a0 N q e u) (hv:B v=none) (hu:∀ y,u = .v y→B y=none) :
  ∃ r to',qc p d q e a0 to=some (r,a0,to')∧((r=false∧∀ θ,SolB θ B→θ v=u.sub θ→False)∨(r=true∧∃ B' σ',RepT a0 N to' B'∧Good B' σ'∧∀ θ,SolB θ B'↔SolB θ B∧θ v=u.sub θ)):=by
 have hv48:v<48:=hp.lt hN rfl
 rcases hp.cases with ⟨k,n,rfl,rfl,hk,hn,he⟩ | ⟨_,_,_,_,he,_⟩
 case inr=>cases he
 injection he with he
 subst he
 unfold qc
 simp only[yZ,List.getElem?_cons_zero,Option.bind_some,ziO hN hk hn]
 rcases hq.cases with ⟨k2,n2,rfl,rfl,hk2,hn2,rfl⟩ | ⟨c,r,ts,rfl,rfl,hc,hr⟩
 ·simp only[List.getElem?_cons_zero,Option.bind_some,ziO hN hk2 hn2]
  rw[decide_eq_false (show ¬(-1 - (k2:Int)≥0) by omega),cond_false]
  have hw:=hu _ rfl
  by_cases h1:k2+n2>k+n
  ·rw[decide_eq_true (show ((k2+n2:Nat):Int)>((k+n:Nat):Int) by omega),cond_true,yY (by omega),Option.bind_some]
   obtain⟨x,hx,-⟩:=hT.get (x:=k2+n2) (by omega)
   rw[hx,Option.bind_some,znj hp,Option.bind_some]
   refine ⟨true,_,rfl,.inr ⟨rfl,_,_,hT.set (by omega) hp,hG.bind hw ?_ ?_,fun θ=>(SolB.upd hw).trans ?_⟩⟩
   ·show ¬(σ (k+n)).has (k2+n2)
    rw[hG.free _ hv]
    show ¬(k+n=k2+n2)
    omega
   ·intro y hy
    injection hy with hy
    omega
   ·show _∧θ (k2+n2)=θ (k+n)↔_∧θ (k+n)=θ (k2+n2)
    exact ⟨fun h=>⟨h.1,h.2.symm⟩,fun h=>⟨h.1,h.2.symm⟩⟩
  ·rw[decide_eq_false (show ¬(((k2+n2:Nat):Int)>((k+n:Nat):Int)) by omega),cond_false]
   by_cases h2:k2+n2<k+n
   ·rw[decide_eq_true (show ((k2+n2:Nat):Int)<((k+n:Nat):Int) by omega),cond_true,yY (by omega),Option.bind_some]
    obtain⟨x,hx,-⟩:=hT.get (x:=k+n) (by omega)
    rw[hx,Option.bind_some,znj hq,Option.bind_some]
    refine ⟨true,_,rfl,.inr ⟨rfl,_,_,hT.set (by omega) hq,hG.bind hv ?_ ?_,fun θ=>SolB.upd hv⟩⟩
    ·show ¬(σ (k2+n2)).has (k+n)
     rw[hG.free _ hw]
     show ¬(k2+n2=k+n)
     omega
    ·intro y hy
     injection hy with hy
     omega
   ·rw[decide_eq_false (show ¬(((k2+n2:Nat):Int)<((k+n:Nat):Int)) by omega),cond_false]
    have:k2+n2=k+n:=by omega
    refine ⟨true,_,rfl,.inr ⟨rfl,B,σ,hT,hG,fun θ=>⟨fun h=>⟨h,?_⟩,fun h=>h.1⟩⟩⟩
    show θ (k+n)=θ (k2+n2)
    rw[this]
 ·simp only[List.getElem?_cons_zero,Option.bind_some]
  rw[decide_eq_true (show (c:Int)≥0 by omega),cond_true]
  obtain⟨w,hw1,hw2⟩:=zp3 hN hT hG hv hq
  rw[hw1,Option.bind_some]
  cases w with
  | true =>
   refine ⟨false,_,rfl,.inl ⟨rfl,fun θ h1 h2=>hG.occurs (hw2.1 rfl) h1 h2⟩⟩
  | false =>
   rw[cond_false,yY (by omega),Option.bind_some]
   obtain⟨x,hx,-⟩:=hT.get (x:=k+n) (by omega)
   rw[hx,Option.bind_some,znj hq,Option.bind_some]
   refine ⟨true,_,rfl,.inr ⟨rfl,_,_,hT.set (by omega) hq,hG.bind hv (fun h=>by have:=hw2.2 h; cases this) (fun y hy=>by cases hy),fun θ=>SolB.upd hv⟩⟩
end
end Go.Abs.Q
namespace Go.Abs.Q
open Go Go.Abs
section
def wt (σ:Sb) (E:List (Tm×Tm)):Nat:=(E.map fun e=>(e.1.sub σ).size).sum
theorem zlW (σ:Sb) (E F:List (Tm×Tm)):wt σ (E++F)=wt σ E+wt σ F:=by simp [wt]
theorem zyo (σ:Sb) (e:Tm×Tm):wt σ [e]=(e.1.sub σ).size:=by simp [wt]
theorem zvm (σ:Sb):{ts us:List Tm}→ts.length=us.length→wt σ (ts.zip us)=za9 (zbo σ ts)
 | [],_,_=>rfl
 | _::_,[],h=>by simp at h
 | t::ts,u::us,h=>by
  have:=zvm σ (ts:=ts) (us:=us) (by simpa using h)
  simp only[wt] at this ⊢
  simp only[List.zip_cons_cons,List.map_cons,List.sum_cons,zbo,za9,this]
def HtOk (R:List Tm) (B:Bd) (i:Nat) (t:Tm):Prop:=∃ δ:Nat,i≤47+3*δ∧∀ θ,SolB θ B→∃ c∈R,δ+(t.sub θ).ht≤(c.sub θ).ht
def StkOk (R:List Tm) (B:Bd) (E:List (Tm×Tm)):Prop:=∀(i:Nat) e,E[i]? = some e→HtOk R B i e.1
theorem HtOk.mono {R:List Tm} {B B':Bd} {i:Nat} {t:Tm} (h:HtOk R B i t) (hB:∀ θ,SolB θ B'→SolB θ B):HtOk R B' i t:=by
 obtain⟨δ,h1,h2⟩:=h
 exact ⟨δ,h1,fun θ hθ=>h2 θ (hB θ hθ)⟩
theorem StkOk.mono {R:List Tm} {B B':Bd} {E:List (Tm×Tm)} (h:StkOk R B E) (hB:∀ θ,SolB θ B'→SolB θ B):StkOk R B' E:=fun i e he=>(h i e he).mono hB
theorem StkOk.left {R:List Tm} {B:Bd} {E F:List (Tm×Tm)} (h:StkOk R B (E++F)):StkOk R B E:=fun i e he=>h i e (by
 rw[List.getElem?_append_left (List.getElem?_eq_some_iff.1 he).1]; exact he)
theorem StkOk.len {R:List Tm} {B:Bd} {σ:Sb} {E:List (Tm×Tm)} (h:StkOk R B E) (hG:Good B σ) (hS:zks B) (hR:∀ c∈R,c.size≤48):E.length≤8000:=by
 rcases Nat.eq_zero_or_pos E.length with h0 | h0
 ·omega
 ·obtain⟨δ,h1,h2⟩:=h (E.length - 1) E[E.length - 1] (List.getElem?_eq_getElem (by omega))
  obtain⟨c,hc,h3⟩:=h2 σ hG.bound
  have h4:=Tm.ht_sub (s:=σ) c fun x _=>hG.low hS x
  have h5:=c.ht_size
  have h6:=hR c hc
  omega
theorem zD8 (t:Tm):0<t.ht:=by cases t<;>simp [Tm.ht]
def SameR (a0:List zi) (N:Nat) (B:Bd) (E:List (Tm×Tm)) (r:Bool×List zi×List PO):Prop :=
 r.2.1=a0∧((r.1=false∧Out B E none)∨(r.1=true∧∃ B',RepT a0 N r.2.2 B'∧Out B E (some B')))
theorem SameR.via {a0:List zi} {N:Nat} {B B1:Bd} {E E1:List (Tm×Tm)} (h:∀ θ,(SolB θ B1∧Sol θ E1)↔(SolB θ B∧Sol θ E)) {r:Bool×List zi×List PO} (hr:SameR a0 N B1 E1 r):SameR a0 N B E r :=
 ⟨hr.1,hr.2.imp (fun h1=>⟨h1.1,Out.via h h1.2⟩) fun ⟨h1,B',h2,h3⟩=>⟨h1,B',h2,Out.via h h3⟩⟩
theorem zx6 {a0:List zi} (hs:SignOk a0) {N:Nat} (hN:N≤24) (R:List Tm) (hR:∀ c∈R,c.size≤48):∀(n:Nat) (to:List PO) (B:Bd) (σ:Sb) (todo:List (List Int×Int×List Int×Int)) (E:List (Tm×Tm)),
  RepT a0 N to B→Good B σ→PqL a0 N todo E→StkOk R B E →
  (∃ r,(∀ k,lp zq (k+n) (a0,to,todo)=some r)∧SameR a0 N B E r)∨∃ B' σ',Good B' σ'∧zks B'∧(∀ θ,SolB θ B'→SolB θ B)∧n≤wt σ' E:=by
 intro n
 induction n with
 | zero=>intro to B σ todo E hT hG _ _; exact .inr ⟨B,σ,hG,hT.small,fun _ h=>h,Nat.zero_le _⟩
 | succ n ih =>
  intro to B σ todo E hT hG hP hK
  have hlen:=hK.len hG hT.small hR
  have hpl:=hP.length
  -- one round, and what is left
  have go:∀(to1:List PO) (B1:Bd) (σ1:Sb) (todo1:List (List Int×Int×List Int×Int)) (E1:List (Tm×Tm)),RepT a0 N to1 B1→Good B1 σ1→PqL a0 N todo1 E1→StkOk R B1 E1 →
    (∀ θ,(SolB θ B1∧Sol θ E1)↔(SolB θ B∧Sol θ E))→(∀ θ,SolB θ B1→SolB θ B)→(∀ σ',SolB σ' B1→wt σ' E1+1≤wt σ' E)→(∀ rec,zq rec (a0,to,todo)=rec (a0,to1,todo1)) →
    ((∃ r,(∀ k,lp zq (k+(n+1)) (a0,to,todo)=some r)∧SameR a0 N B E r)∨∃ B' σ',Good B' σ'∧zks B'∧(∀ θ,SolB θ B'→SolB θ B)∧n+1≤wt σ' E):=by
   intro to1 B1 σ1 todo1 E1 h1 h2 h3 h4 h5 h6 h7 h8
   rcases ih to1 B1 σ1 todo1 E1 h1 h2 h3 h4 with ⟨r,h9,h10⟩ | ⟨B',σ',h9,h10,h11,h12⟩
   ·refine .inl ⟨r,fun k => ?_,h10.via h5⟩
    rw[← Nat.add_assoc,zm,h8]
    exact h9 k
   ·have:=h7 σ' (h11 _ h9.bound)
    exact .inr ⟨B',σ',h9,h10,fun θ hθ=>h6 θ (h11 θ hθ),by omega⟩
  have stop:∀ r,SameR a0 N B E r→(∀ rec,zq rec (a0,to,todo)=some r) →
    ((∃ r,(∀ k,lp zq (k+(n+1)) (a0,to,todo)=some r)∧SameR a0 N B E r)∨∃ B' σ',Good B' σ'∧zks B'∧(∀ θ,SolB θ B'→SolB θ B)∧n+1≤wt σ' E) :=
   fun r h1 h2=>.inl ⟨r,fun k=>by rw[← Nat.add_assoc,zm,h2],h1⟩
  rcases List.eq_nil_or_concat todo with rfl | ⟨todo',t,rfl⟩
  ·have hE:E=[]:=hP
   subst hE
   exact stop (true,a0,to) ⟨rfl,.inr ⟨rfl,B,hT,Out.done hG hT.small⟩⟩ fun rec=>rfl
  ·rw[List.concat_eq_append] at *
   obtain⟨p,d,q,e⟩:=t
   obtain⟨E',F,rfl,hP',hF⟩:=PqL.split hP
   obtain⟨⟨s,u⟩,F',rfl,⟨hps,hqu⟩,hF'⟩:=hF
   have hF':F'=[]:=hF'
   subst hF'
   have hps:Pc a0 N p d s:=hps
   have hqu:Pc a0 N q e u:=hqu
   obtain⟨p1,d1,s1,hw1,hp1,hs1,hb1⟩:=zpv hN hT hG hps
   obtain⟨q1,e1,u1,hw2,hq1,hu1,hb2⟩:=zpv hN hT hG hqu
   simp only[List.length_append,List.length_singleton] at hlen hpl
   have x1:IntKind.wrap .i64 (((List.length (todo'++[(p,d,q,e)]):Nat):Int) - 1)=((todo'.length:Nat):Int):=by
    rw[List.length_append,List.length_singleton,zp]<;>omega
   have x2:inR ((todo'.length:Nat):Int) (List.length (todo'++[(p,d,q,e)]))=some todo'.length:=yY (by simp)
   have x3:(todo'++[(p,d,q,e)])[todo'.length]? = some (p,d,q,e):=znt _ [] _
   have x4:(((List.length (todo'++[(p,d,q,e)]):Nat):Int)==0)=false:=by simp; omega
   have hsol:∀ θ,SolB θ B→(Sol θ (E'++[(s,u)])↔Sol θ E'∧s1.sub θ=u1.sub θ):=fun θ hθ=>by
    rw[Sol.append,Sol.cons,hs1 θ hθ,hu1 θ hθ]
    exact ⟨fun h=>⟨h.1,h.2.1⟩,fun h=>⟨h.1,h.2,Sol.nil⟩⟩
   -- one round
   have round:∀ rec,zq rec (a0,to,todo'++[(p,d,q,e)])=(gx p1 0).bind fun e34=>cond (decide (e34<0))
     ((qc p1 d1 q1 e1 a0 to).bind fun r35=>cond r35.1 (rec (r35.2.1,r35.2.2,todo')) (some (false,r35.2.1,r35.2.2)))
     ((gx q1 0).bind fun e36=>cond (decide (e36<0))
      ((qc q1 e1 p1 d1 a0 to).bind fun r37=>cond r37.1 (rec (r37.2.1,r37.2.2,todo')) (some (false,r37.2.1,r37.2.2)))
      ((gx p1 0).bind fun e38=>(gx q1 0).bind fun e39=>cond (e38 != e39) (some (false,a0,to))
       ((zbV p1 (some 1) none).bind fun y40=>(zbV q1 (some 1) none).bind fun y41=>(qn y40 d1 y41 e1 a0 to todo').bind fun r42=>rec (a0,to,r42)))):=by
    intro rec
    unfold zq
    simp only[x1,x2,x3,x4,Option.bind_some,cond_false,zrl,hw1,hw2]
   have hbind:∀{B1:Bd} {v:Nat} {w:Tm},(∀ θ,SolB θ B1↔SolB θ B∧θ v=w.sub θ)→(∀ θ,SolB θ B→(s1.sub θ=u1.sub θ↔θ v=w.sub θ))→∀ θ,(SolB θ B1∧Sol θ E')↔(SolB θ B∧Sol θ (E'++[(s,u)])):=by
    intro B1 v w h1 h2 θ
    rw[h1 θ]
    constructor
    ·rintro⟨⟨h3,h4⟩,h5⟩
     exact ⟨h3,(hsol θ h3).2 ⟨h5,(h2 θ h3).2 h4⟩⟩
    ·rintro⟨h3,h4⟩
     have h6:=(hsol θ h3).1 h4
     exact ⟨⟨h3,(h2 θ h3).1 h6.2⟩,h6.1⟩
   have hwt:∀ σ',wt σ' E'+1≤wt σ' (E'++[(s,u)]):=fun σ'=>by
    rw[zlW,zyo]
    have:=(s.sub σ').size_pos
    show wt σ' E'+1≤wt σ' E'+(s.sub σ').size
    omega
   rcases hp1.cases with ⟨k1,n1,rfl,rfl,hk1,hn1,rfl⟩ | ⟨c1,r1,ts1,rfl,rfl,hc1,hr1⟩
   ·-- a variable on the left
    obtain⟨r,to1,hput,hres⟩:=zq3 hN hT hG hp1 hq1 (hb1 _ rfl) hb2
    rcases hres with ⟨rfl,hno⟩ | ⟨rfl,B1,σ1,hT1,hG1,hB1⟩
    ·refine stop (false,a0,to1) ⟨rfl,.inl ⟨rfl,fun θ h1 h2=>hno θ h1 ((hsol θ h1).1 h2).2⟩⟩ fun rec => ?_
     rw[round,yZ,List.getElem?_cons_zero,Option.bind_some,decide_eq_true (show -1 - (k1:Int)<0 by omega),cond_true,hput]
     rfl
    ·refine go to1 B1 σ1 todo' E' hT1 hG1 hP' (hK.left.mono fun θ h=>((hB1 θ).1 h).1) (hbind hB1 fun θ _=>Iff.rfl) (fun θ h=>((hB1 θ).1 h).1) (fun σ' _=>hwt σ') fun rec => ?_
     rw[round,yZ,List.getElem?_cons_zero,Option.bind_some,decide_eq_true (show -1 - (k1:Int)<0 by omega),cond_true,hput]
     rfl
   ·rcases hq1.cases with ⟨k2,n2,rfl,rfl,hk2,hn2,rfl⟩ | ⟨c2,r2,ts2,rfl,rfl,hc2,hr2⟩
    ·obtain⟨r,to1,hput,hres⟩:=zq3 hN hT hG hq1 hp1 (hb2 _ rfl) hb1
     rcases hres with ⟨rfl,hno⟩ | ⟨rfl,B1,σ1,hT1,hG1,hB1⟩
     ·refine stop (false,a0,to1) ⟨rfl,.inl ⟨rfl,fun θ h1 h2=>hno θ h1 ((hsol θ h1).1 h2).2.symm⟩⟩ fun rec => ?_
      rw[round]
      simp only[yZ,List.getElem?_cons_zero,Option.bind_some]
      rw[decide_eq_false (show ¬(c1:Int)<0 by omega),cond_false,decide_eq_true (show -1 - (k2:Int)<0 by omega),cond_true,hput]
      rfl
     ·refine go to1 B1 σ1 todo' E' hT1 hG1 hP' (hK.left.mono fun θ h=>((hB1 θ).1 h).1) (hbind hB1 fun θ _=>⟨fun h=>h.symm,fun h=>h.symm⟩) (fun θ h=>((hB1 θ).1 h).1) (fun σ' _=>hwt σ') fun rec => ?_
      rw[round]
      simp only[yZ,List.getElem?_cons_zero,Option.bind_some]
      rw[decide_eq_false (show ¬(c1:Int)<0 by omega),cond_false,decide_eq_true (show -1 - (k2:Int)<0 by omega),cond_true,hput]
      rfl
    ·by_cases hcc:c1=c2
     ·subst hcc
      have hl:ts1.length=ts2.length:=by rw[hc1] at hc2; injection hc2
      have hl3:ts1.length≤3:=znn hs hc1
      obtain⟨more,hm1,hm2⟩:=zm0 hs hr1 hr2 hl to (out:=todo') (by omega)
      refine go to B σ (todo'++more) (E'++ts1.zip ts2) hT hG (hP'.append hm2) ?_ ?_ (fun _ h=>h) ?_ fun rec => ?_
      ·intro i e hi
       rcases Nat.lt_or_ge i E'.length with hlt | hge
       ·rw[List.getElem?_append_left hlt] at hi
        exact hK.left i e hi
       ·rw[List.getElem?_append_right hge] at hi
        have hi3:i - E'.length<3:=by
         have:=(List.getElem?_eq_some_iff.1 hi).1
         rw[List.length_zip] at this
         omega
        obtain⟨δ,h1,h2⟩:=hK E'.length (s,u) (by rw[List.getElem?_append_right (Nat.le_refl _),Nat.sub_self]; rfl)
        refine ⟨δ+1,by omega,fun θ hθ => ?_⟩
        obtain⟨c,hc,h3⟩:=h2 θ hθ
        refine ⟨c,hc,?_⟩
        have h3:δ+(s.sub θ).ht≤(c.sub θ).ht:=h3
        rw[hs1 θ hθ] at h3
        have h4:e.1∈ts1:=(List.of_mem_zip (a:=e.1) (b:=e.2) (List.mem_of_getElem? hi)).1
        have h5:(e.1.sub θ).ht≤htR (zbo θ ts1):=zpM (by rw[zic]; exact List.mem_map_of_mem h4)
        have h6:((Tm.f c1 ts1).sub θ).ht=htR (zbo θ ts1)+1:=rfl
        omega
      ·intro θ
       rw[Sol.append,Sol.zip hl]
       constructor
       ·rintro⟨h1,h2,h3⟩
        exact ⟨h1,(hsol θ h1).2 ⟨h2,zBI.2 ⟨rfl,h3⟩⟩⟩
       ·rintro⟨h1,h2⟩
        have h3:=(hsol θ h1).1 h2
        exact ⟨h1,h3.1,(zBI.1 h3.2).2⟩
      ·intro σ' hσ'
       rw[zlW,zlW,zyo,zvm σ' hl]
       show _≤wt σ' E'+(s.sub σ').size
       rw[hs1 σ' hσ']
       show _≤wt σ' E'+(za9 (zbo σ' ts1)+1)
       omega
      ·rw[round]
       simp only[yZ,List.getElem?_cons_zero,Option.bind_some]
       rw[decide_eq_false (show ¬(c1:Int)<0 by omega),cond_false,cond_false,show ((c1:Int) != (c1:Int))=false from by simp,cond_false,zcL,Option.bind_some,zcL,Option.bind_some,hm1]
       rfl
     ·refine stop (false,a0,to) ⟨rfl,.inl ⟨rfl,fun θ h1 h2=>hcc (zBI.1 ((hsol θ h1).1 h2).2).1⟩⟩ fun rec => ?_
      rw[round]
      simp only[yZ,List.getElem?_cons_zero,Option.bind_some]
      rw[decide_eq_false (show ¬(c1:Int)<0 by omega),cond_false,decide_eq_false (show ¬(c2:Int)<0 by omega),cond_false,show ((c1:Int) != (c2:Int))=true from by simp; omega,cond_true]
theorem zv8 {a0:List zi} (hs:SignOk a0) {N:Nat} (hN:N≤24) {to:List PO} {B:Bd} {σ:Sb} (hT:RepT a0 N to B) (hG:Good B σ) {p q:List Int} {d e:Int} {ts us:List Tm} (hp:Pr a0 N p d ts) (hq:Pr a0 N q e us) (hl:ts.length=us.length) :
  ∃ r,zay p d q e a0 to=some r∧SameR a0 N B (ts.zip us) r:=by
 have eta:∀ o:Option (Bool×List zi×List PO),(o.bind fun r=>some (r.1,r.2.1,r.2.2))=o:=fun o=>by cases o<;>rfl
 obtain⟨more,hm1,hm2⟩:=zm0 hs hp hq hl to (out:=[]) (by simp)
 have e0:zay p d q e a0 to=lp zq (zd+1) (a0,to,more):=by
  unfold zay
  rw[hm1,Option.bind_some,zm,List.nil_append]
  generalize lp zq zd=rec
  unfold zq
  simp only[eta]
 have hsz:∀ c∈ts,c.size≤48:=fun c hc=>by
  obtain⟨us0,n,h1,rfl,h2,h3,rfl,h4⟩:=hp
  obtain⟨c0,h5,rfl⟩:=List.mem_map.1 hc
  rw[Tm.up_size,← Tm.codes_len]
  exact Nat.le_trans (zd9 h5) h4
 have hlen:ts.length≤48:=by
  obtain⟨us0,n,h1,rfl,h2,h3,rfl,h4⟩:=hp
  have:=zhH (yp us0 h1)
  rw[List.length_map] at this ⊢
  omega
 have hK:StkOk ts B (ts.zip us):=fun i x hi=>by
  have hi0:=(List.getElem?_eq_some_iff.1 hi).1
  rw[List.length_zip] at hi0
  exact ⟨0,by omega,fun θ _=>⟨x.1,(List.of_mem_zip (a:=x.1) (b:=x.2) (List.mem_of_getElem? hi)).1,by omega⟩⟩
 rw[e0]
 rcases zx6 hs hN ts hsz (48*(48*48 ^ 49)+1) to B σ more (ts.zip us) hT hG hm2 hK with ⟨r,h1,h2⟩ | ⟨B',σ',h1,h2,h3,h4⟩
 ·have:=h1 (zd+1 - (48*(48*48 ^ 49)+1))
  rw[show zd+1 - (48*(48*48 ^ 49)+1)+(48*(48*48 ^ 49)+1)=zd+1 from by unfold zd; omega] at this
  exact ⟨r,this,h2⟩
 ·exfalso
  rw[zvm σ' hl,zic,znT,List.map_map] at h4
  have h5:∀ l:List Tm,(∀ c∈l,c.size≤48)→(l.map (Tm.size ∘ Tm.sub σ')).sum≤l.length*(48*48 ^ 49):=by
   intro l
   induction l with
   | nil=>intro _; simp
   | cons c l ih =>
    intro h
    have h6:=ih fun c hc=>h c (List.mem_cons_of_mem _ hc)
    have h7:=h1.small_sub h2 c
    have h8:=h c (List.mem_cons_self ..)
    have h9:c.size*48 ^ 49≤48*48 ^ 49:=Nat.mul_le_mul_right _ h8
    simp only[List.map_cons,List.sum_cons,List.length_cons,Function.comp_apply]
    rw[Nat.add_mul,Nat.one_mul]
    omega
  have h6:=h5 ts hsz
  have h7:ts.length*(48*48 ^ 49)≤48*(48*48 ^ 49):=Nat.mul_le_mul_right _ hlen
  omega
end
end Go.Abs.Q
namespace Go.Abs.Q
open Go Go.Abs
section
def zgz (s:Sb) (c:Int):List Int:=if c<0 then (s (-1 - c).toNat).codes else [c]
mutual
theorem Tm.codes_sub (s:Sb):(t:Tm)→(t.sub s).codes=t.codes.flatMap (zgz s)
 | .v n=>by
  show (s n).codes=[-1 - (n:Int)].flatMap (zgz s)
  simp only[List.flatMap_cons,List.flatMap_nil,List.append_nil,zgz]
  rw[if_pos (by omega),show (-1 - (-1 - (n:Int))).toNat=n from by omega]
 | .f c as=>by
  show (c:Int)::zb (zbo s as)=((c:Int)::zb as).flatMap (zgz s)
  rw[List.flatMap_cons,zer s as]
  unfold zgz
  rw[if_neg (by omega)]
  rfl
theorem zer (s:Sb):(ts:List Tm)→zb (zbo s ts)=(zb ts).flatMap (zgz s)
 | []=>rfl
 | t::ts=>by
  show (t.sub s).codes++zb (zbo s ts)=(t.codes++zb ts).flatMap (zgz s)
  rw[Tm.codes_sub s t,zer s ts,List.flatMap_append]
end
theorem zmB {k:Nat} (hk:k<24) (p:Option jI):qW p 0 (-1 - (k:Int))=some (k:Int):=by
 unfold qW
 rw[zaQ (by omega) (by omega),Option.bind_some]
 congr 1
 rw[zp]<;>omega
section
variable {a0:List zi} {to:List PO} {B:Bd} {σ:Sb}
def zBt (o:List Int):Option jI:=if o.length≤48 then some o else none
theorem zqE (hT:RepT a0 0 to B) (hG:Good B σ) (p:List Int) (hp48:p.length≤48) (rf:((Option jI)×Int×jS×(List PO))→Option (Option jI))
  (hrf:∀(y:Nat) q d u,(-1 - (y:Int))∈p→to[y]? = some (some q,d)→B y=some u→rf (some q,d,a0,to)=some (zBt (u.sub σ).codes)):∀(es:List Int) (i k:Nat) (out:List Int),p.drop i=es→es.length<k→(∀ c∈es,-24≤c)→out.length≤48 →
  lp (yw rf) k (some p,((p.length:Nat):Int),(i:Int),a0,to,some p,0,out)=some (if out.length+(es.flatMap (zgz σ)).length≤48 then .inl (out++es.flatMap (zgz σ)) else .inr ()):=by
 intro es
 induction es with
 | nil =>
  intro i k out h hk _ ho
  obtain⟨k,rfl⟩:∃ k',k=k'+1:=⟨k - 1,by simp at hk; omega⟩
  rw[zm]
  generalize lp (yw rf) k=rec
  unfold yw
  have hi:p.length≤i:=by
   have:=congrArg List.length h
   simp at this; omega
  rw[decide_eq_false (show ¬((i:Int)<((p.length:Nat):Int)) by omega),cond_false]
  simp [ho]
 | cons c es ih =>
  intro i k out h hk hc ho
  obtain⟨k,rfl⟩:∃ k',k=k'+1:=⟨k - 1,by simp at hk; omega⟩
  rw[zm]
  have key:=fun out' ho'=>ih (i+1) k out' (ze h) (by simp at hk; omega) (fun c h=>hc c (List.mem_cons_of_mem _ h)) ho'
  generalize lp (yw rf) k=rec at key ⊢
  unfold yw
  have hget:=zk h
  have hi:i<p.length:=(List.getElem?_eq_some_iff.1 hget).1
  have hmem:c∈p:=List.mem_of_getElem? hget
  have hw:IntKind.wrap .i64 ((i:Int)+1)=((i+1:Nat):Int):=by rw[zp]<;>omega
  rw[decide_eq_true (show ((i:Int)<((p.length:Nat):Int)) by omega),cond_true]
  simp only[Option.getD_some,y5,hget,Option.bind_some,hw]
  -- one code that stays
  have stay:zgz σ c=[c]→(((nn ([c]:List Int)).bind fun _=>some false).bind fun z=>cond z (some (Sum.inr ()))
    (cond (decide ((IntKind.wrap .i64 (((List.length out:Nat):Int)+((List.length ([c]:List Int):Nat):Int)))>48)) (some (Sum.inr ()))
     (cond (yQ (List.length out+List.length ([c]:List Int)) 8) (rec (some p,((p.length:Nat):Int),((i+1:Nat):Int),a0,to,some p,0,(out++([c]:List Int)))) none))) =
    some (if out.length+((c::es).flatMap (zgz σ)).length≤48 then .inl (out++(c::es).flatMap (zgz σ)) else .inr ()):=by
   intro he
   have e1:(nn ([c]:List Int))=some [c]:=rfl
   rw[e1,List.flatMap_cons,he]
   have w2:IntKind.wrap .i64 (((List.length out:Nat):Int)+((List.length ([c]:List Int):Nat):Int))=((out.length+1:Nat):Int):=by
    rw[zp]<;>simp only[List.length_singleton]<;>omega
   simp only[Option.bind_some,cond_false,w2]
   simp only[List.length_append,List.length_singleton]
   by_cases h48:out.length+1≤48
   ·rw[decide_eq_false (show ¬(((out.length+1:Nat):Int)>48) by omega),cond_false,zn (by omega),cond_true,key _ (by simp; omega)]
    simp only[List.length_append,List.length_singleton,List.append_assoc]
    have:out.length+1+(es.flatMap (zgz σ)).length=out.length+(1+(es.flatMap (zgz σ)).length):=by omega
    rw[this]
   ·rw[decide_eq_true (show (((out.length+1:Nat):Int)>48) by omega),cond_true,if_neg (by omega)]
  by_cases h0:c<0
  ·obtain⟨y,hy,rfl⟩:∃ y:Nat,y<24∧c = -1 - (y:Int):=⟨(-1 - c).toNat,by have:=hc c (List.mem_cons_self ..); omega,by omega⟩
   rw[decide_eq_true h0,cond_true,zmB hy,Option.bind_some,yY (show y<48 by omega),Option.bind_some]
   obtain⟨e,he,hpe⟩:=hT.get (x:=y) (by omega)
   rw[he,Option.bind_some]
   have hexp:zgz σ (-1 - (y:Int))=(σ y).codes:=by
    unfold zgz
    rw[if_pos h0,show (-1 - (-1 - (y:Int))).toNat=y from by omega]
   unfold PcO at hpe
   split at hpe
   ·rename_i h1
    rw[h1]
    simp only[Option.isNone_none,Bool.not_true,cond_false]
    exact stay (by rw[hexp,hG.free y hpe]; rfl)
   ·rename_i q h1
    obtain⟨u,hu,hq⟩:=hpe
    rw[h1]
    simp only[Option.isNone_some,Bool.not_false,cond_true,zmB hy,Option.bind_some,yY (show y<48 by omega),he]
    rw[h1,hrf y q e.2 u hmem (by rw[he,← h1]) hu,Option.bind_some]
    rw[List.flatMap_cons,hexp,hG.bound y u hu]
    unfold zBt
    by_cases hsz:(u.sub σ).codes.length≤48
    ·rw[if_pos hsz]
     have w2:IntKind.wrap .i64 (((List.length out:Nat):Int)+(((u.sub σ).codes.length:Nat):Int))=((out.length+(u.sub σ).codes.length:Nat):Int):=by
      rw[zp]<;>omega
     simp only[Option.isNone_some,cond_false,Option.getD_some,w2]
     simp only[List.length_append]
     by_cases h48:out.length+(u.sub σ).codes.length≤48
     ·rw[decide_eq_false (show ¬(((out.length+(u.sub σ).codes.length:Nat):Int)>48) by omega),cond_false,zn (by omega),cond_true,key _ (by simp; omega)]
      simp only[List.length_append,List.append_assoc]
      rw[Nat.add_assoc]
     ·rw[decide_eq_true (show (((out.length+(u.sub σ).codes.length:Nat):Int)>48) by omega),cond_true,if_neg (by omega)]
    ·rw[if_neg hsz]
     simp only[Option.isNone_none,cond_true,List.length_append]
     rw[if_neg (by omega)]
  ·rw[decide_eq_false h0,cond_false]
   exact stay (by unfold zgz; rw[if_neg h0])
theorem zuO (hT:RepT a0 0 to B) (hG:Good B σ):∀(k m:Nat) (p:List Int) (d:Int) (t:Tm),Pc a0 0 p d t→(∀ y,t.has y→B y≠none→Good.rank σ y<m)→m<k →
  qr k (some p,d,a0,to)=some (zBt (t.sub σ).codes):=by
 intro k
 induction k with
 | zero=>intro m p d t _ _ h; omega
 | succ k ih =>
  intro m p d t hp hm hk
  obtain⟨u,n,h1,rfl,rfl,h2,rfl,h3⟩:=hp
  have hn:n=0:=by omega
  subst hn
  rw[Tm.up_zero] at hm ⊢
  have hsmall:∀ c∈u.codes,-24≤c:=fun c hc=>by
   by_cases h0:c<0
   ·have:=Tm.ok_has u h1 ((Tm.mem_codes h0 u).1 hc); omega
   ·omega
  show zdd (qr k) (some u.codes) ((0:Nat):Int) a0 to=_
  unfold zdd
  have hr:=zqE hT hG u.codes h3 (qr k) (fun y q d w hy hto hw=>by
   have hyu:u.has y:=by
    have:=(Tm.mem_codes (by omega) u).1 hy
    rwa [show (-1 - (-1 - (y:Int))).toNat=y from by omega] at this
   have hpc:Pc a0 0 q d w:=by
    have:=hT.at_ y _ hto
    obtain⟨t',h5,h6⟩:=(show ∃ t,B y=some t∧Pc a0 0 q d t from this)
    rw[hw] at h5; injection h5 with h5; subst h5
    exact h6
   have hlt:=hm y hyu (by rw[hw]; simp)
   exact ih (Good.rank σ y) q d w hpc (fun z hz hb=>hG.rank_lt hw hz (by
    cases hbz:B z with
    | none=>exact absurd hbz hb
    | some x=>exact (hT.small z x hbz).1)) (by omega)) u.codes 0 zd [] rfl (by unfold zd; omega) hsmall (by simp)
  simp only[Option.getD_some]
  have hr:lp (yw (qr k)) zd (some u.codes,((u.codes.length:Nat):Int),0,a0,to,some u.codes,((0:Nat):Int),[])=_:=hr
  rw[hr,← Tm.codes_sub]
  unfold zBt
  have hne:nn (u.sub σ).codes=some (u.sub σ).codes:=zjO fun e=>by
   have:=congrArg List.length e
   rw[Tm.codes_len] at this
   have:=(u.sub σ).size_pos
   simp at *; omega
  by_cases h48:(u.sub σ).codes.length≤48
  ·simp only[List.length_nil,Nat.zero_add,List.nil_append]
   rw[if_pos h48,if_pos h48]
   simp only[Option.bind_some,zcH,hne]
  ·simp only[List.length_nil,Nat.zero_add]
   rw[if_neg h48,if_neg h48]
   rfl
theorem zr4 (hT:RepT a0 0 to B) (hG:Good B σ) {p:List Int} {d:Int} {t:Tm} (hp:Pc a0 0 p d t):zeA (some p) d a0 to=some (zBt (t.sub σ).codes):=by
 refine zuO hT hG zd 49 p d t hp (fun y _ _ => ?_) (by unfold zd; omega)
 have:=Good.rank_le σ y
 omega
def zrG (B:Bd) (v:Nat):Bool:=(B v).isSome
def zbq (B:Bd) (σ:Sb) (vs:List Nat):List (Int×List Int):=(vs.filter (zrG B)).map fun v:Nat=>((v:Int),(σ v).codes)
def zap (σ:Sb) (vs:List Nat):Bool:=vs.all fun x=>decide ((σ x).size≤48)
theorem zqD (hT:RepT a0 0 to B) (hG:Good B σ):∀(m v k:Nat) (out:List (Int×List Int)),24 - v=m→v≤24→m<k→out.length≤v →
  lp zaP k ((v:Int),a0,to,out)=some (cond (zap σ ((List.range 24).drop v)) (.inl (out++zbq B σ ((List.range 24).drop v))) (.inr (false,401))):=by
 intro m
 induction m with
 | zero =>
  intro v k out hm hv hk ho
  obtain⟨k,rfl⟩:∃ k',k=k'+1:=⟨k - 1,by omega⟩
  rw[zm]
  generalize lp zaP k=rec
  unfold zaP
  have:v=24:=by omega
  subst this
  rw[show (List.range 24).drop 24=[] from rfl]
  simp [zbq,zap]
 | succ m ih =>
  intro v k out hm hv hk ho
  obtain⟨k,rfl⟩:∃ k',k=k'+1:=⟨k - 1,by omega⟩
  rw[zm]
  have key:=fun out' ho'=>ih (v+1) k out' (by omega) (by omega) (by omega) ho'
  generalize lp zaP k=rec at key ⊢
  unfold zaP
  have w:IntKind.wrap .i64 ((v:Int)+1)=((v+1:Nat):Int):=by rw[zp]<;>omega
  obtain⟨e,he,hpe⟩:=hT.get (x:=v) (by omega)
  have hdr:(List.range 24).drop v=v::(List.range 24).drop (v+1):=by
   rw[List.drop_eq_getElem_cons (by simp; omega)]
   simp
  simp only[decide_eq_true (show (v:Int)<24 by omega),cond_true,yY (show v<48 by omega),Option.bind_some,he,w]
  rw[hdr]
  unfold PcO at hpe
  split at hpe
  ·rename_i h1
   rw[h1]
   simp only[Option.isNone_none,cond_true]
   rw[key out (by omega)]
   have hs:(σ v).size≤48:=by rw[hG.free v hpe]; simp [Tm.size]
   have hb:zrG B v=false:=by simp [zrG,hpe]
   simp [zbq,zap,hb,hs]
  ·rename_i q h1
   obtain⟨u,hu,hq⟩:=hpe
   rw[h1]
   simp only[Option.isNone_some,cond_false]
   rw[zr4 hT hG hq,Option.bind_some,← hG.bound v u hu]
   unfold zBt
   rw[Tm.codes_len]
   by_cases hs:(σ v).size≤48
   ·rw[if_pos hs]
    simp only[Option.isNone_some,cond_false,Option.getD_some]
    rw[zdZ (by rw[Tm.codes_len]; omega),Option.bind_some,zn (by simp only[List.length_singleton]; omega),cond_true,key _ (by simp only[List.length_append,List.length_singleton]; omega)]
    have hb:zrG B v=true:=by simp [zrG,hu]
    simp [zbq,zap,hb,hs]
   ·rw[if_neg hs]
    simp only[Option.isNone_none,cond_true]
    simp [zap,hs]
end
structure Mgu (σ:Sb) (E:List (Tm×Tm)):Prop where
 sol:Sol σ E
 gen:∀ θ,Sol θ E→∀ x,(σ x).sub θ=θ x
 le:∀ x y,σ x = .v y→y≤x
 idem:∀ x,(σ x).sub σ=σ x
theorem Mgu.of {B:Bd} {σ:Sb} {E:List (Tm×Tm)} (hG:Good B σ) (h:∀ θ,SolB θ B↔SolB θ (fun _=>none)∧Sol θ E):Mgu σ E where
 sol:=((h σ).1 hG.bound).2
 gen:=fun θ hθ=>hG.fac ((h θ).2 ⟨fun _ _ h=>(nomatch h),hθ⟩)
 le:=hG.le
 idem:=fun x=>by rw[← hG.fac hG.bound x]; exact hG.idem _
theorem Mgu.unique {σ σ':Sb} {E:List (Tm×Tm)} (h:Mgu σ E) (h':Mgu σ' E):σ=σ':=by
 have f1:∀ x,(σ x).sub σ'=σ' x:=h.gen σ' h'.sol
 have f2:∀ x,(σ' x).sub σ=σ x:=h'.gen σ h.sol
 have root:∀ y,σ y = .v y→σ' y = .v y:=by
  intro y hy
  have h1:(σ' y).sub σ = .v y:=by rw[f2,hy]
  cases hz:σ' y with
  | f c as=>rw[hz] at h1; cases h1
  | v z =>
   rw[hz] at h1
   have h2:=h'.le y z hz
   have h3:=h.le z y h1
   have:z=y:=by omega
   rw[this]
 have fix:∀ t:Tm,t.sub σ=t→∀ y,t.has y→σ y = .v y:=by
  intro t
  have key:∀ n,(∀ t:Tm,t.size≤n→t.sub σ=t→∀ y,t.has y→σ y = .v y)∧∀ ts:List Tm,za9 ts≤n→zbo σ ts=ts→∀ y,zjo y ts→σ y = .v y:=by
   intro n
   induction n with
   | zero =>
    refine ⟨fun t ht=>absurd t.size_pos (by omega),fun ts hts he y hy => ?_⟩
    cases ts with
    | nil=>exact hy.elim
    | cons t ts=>have:=t.size_pos; simp only[za9] at hts; omega
   | succ n ih =>
    have h1:∀ t:Tm,t.size≤n+1→t.sub σ=t→∀ y,t.has y→σ y = .v y:=by
     intro t ht he y hy
     cases t with
     | v z =>
      have hy:z=y:=hy
      subst hy
      exact he
     | f c as =>
      have he:Tm.f c (zbo σ as)=Tm.f c as:=he
      injection he with _ he
      simp only[Tm.size] at ht
      exact ih.2 as (by omega) he y hy
    refine ⟨h1,fun ts => ?_⟩
    induction ts with
    | nil=>intro _ _ y hy; exact hy.elim
    | cons t ts iht =>
     intro hts he y hy
     have he:t.sub σ::zbo σ ts=t::ts:=he
     injection he with he1 he2
     simp only[za9] at hts
     have:=t.size_pos
     rcases hy with hy | hy
     ·exact h1 t (by omega) he1 y hy
     ·exact ih.2 ts (by omega) he2 y hy
  exact (key t.size).1 t (Nat.le_refl _)
 funext x
 rw[← f1 x]
 conv=>lhs; rw[← Tm.sub_v (σ x)]
 exact Tm.sub_ext _ fun y hy=>(root y (fix _ (h.idem x) y hy)).symm
def moved (σ:Sb) (v:Nat):Bool:=match σ v with
 | .v y => !(y==v)
 | .f _ _=>true
theorem zsN {B:Bd} {σ:Sb} (h:Good B σ) (v:Nat):zrG B v=moved σ v:=by
 have:=h.moved (x:=v)
 unfold zrG moved
 cases hb:B v with
 | none =>
  rw[h.free v hb]
  simp
 | some t =>
  have h1:=this.1 (by rw[hb]; simp)
  cases hs:σ v with
  | f c as=>rfl
  | v y =>
   rw[hs] at h1
   have:y≠v:=fun e=>h1 (by rw[e])
   simp [this]
def zdW (σ:Sb):List (Int×List Int):=((List.range 24).filter (moved σ)).map fun v:Nat=>((v:Int),(σ v).codes)
theorem zGc (a0:List zi) (N:Nat):RepT a0 N to0 (fun _=>none) where
 len:=by simp [to0]
 at_:=fun x e h=>by
  have hx:x<48:=by
   have:=(List.getElem?_eq_some_iff.1 h).1
   simpa[to0] using this
  rw[zAy hx] at h
  injection h with h
  rw[← h]
  rfl
 out:=fun _ _=>rfl
theorem zsh {a0:List zi} {xs ys:List Int} {ts us:List Tm} (hs:SignOk a0) (hx:xs=zb ts) (hy:ys=zb us) (ht:okR a0 24 ts) (hu:okR a0 24 us) (hb:zcC a0=true) (hlx:xs.length≤48) (hly:ys.length≤48) :
  (zdr a0 xs ys=some (false,0,[])∧(ts.length≠us.length∨∀ θ,¬ Sol θ (ts.zip us))) ∨
  (ts.length=us.length∧∃ σ,Mgu σ (ts.zip us)∧(∀ x,x<24→(σ x).ok a0 24)∧zdr a0 xs ys=some (cond (zap σ (List.range 24)) (true,0,zdW σ) (false,401,[]))):=by
 have hr:∀{zs:List Int} {ws:List Tm},zs=zb ws→okR a0 24 ws→zs.length≤48→zgG a0 zs=some ws.length:=by
  intro zs ws h1 h2 h3
  unfold zgG zbd
  rw[hb,decide_eq_true h3,h1,yp ws h2]
  simp
 unfold zdr
 rw[zfS,hr hx ht hlx,Option.bind_some,zfS,hr hy hu hly,Option.bind_some]
 simp only
 rw[show ((0:Int) != 0)=false from rfl,cond_false,cond_false]
 by_cases hl:ts.length=us.length
 ·rw[hl,show (((us.length:Nat):Int) != ((us.length:Nat):Int))=false from by simp,cond_false]
  obtain⟨r,h1,h2,h3⟩:=zv8 hs (N:=0) (by omega) (zGc a0 0) Good.empty (p:=xs) (q:=ys) (d:=0) (e:=0) (ts:=ts) (us:=us)
   ⟨ts,0,ht,hx,rfl,Nat.le_refl _,by rw[show Tm.up 0=id from funext Tm.up_zero,List.map_id],hlx⟩ ⟨us,0,hu,hy,rfl,Nat.le_refl _,by rw[show Tm.up 0=id from funext Tm.up_zero,List.map_id],hly⟩ hl
  have h1:zay xs 0 ys 0 a0 (List.replicate 48 ((none:Option jI),(0:Int)))=some r:=h1
  rw[h1,Option.bind_some]
  rcases h3 with ⟨h3,h4⟩ | ⟨h3,B',h4,⟨σ,h5⟩,-,h6⟩
  ·rw[h3]
   exact .inl ⟨rfl,.inr fun θ h=>h4 θ (fun _ _ h=>(nomatch h)) h⟩
  ·rw[h3]
   have hok:∀ x,x<24→(σ x).ok a0 24:=by
    refine h5.ind (fun x hx hlt=>by rw[h5.free x hx]; exact hlt) fun x t hx ih _ => ?_
    have hto:Pc a0 0 t.codes 0 t:=by
     obtain⟨e,he,hpe⟩:=h4.get (x:=x) (h4.small x t hx).1
     unfold PcO at hpe
     split at hpe
     ·rw[hx] at hpe; cases hpe
     ·obtain⟨u,hu,hq⟩:=hpe
      rw[hx] at hu; injection hu with hu; subst hu
      obtain⟨u0,n,g1,g2,g3,g4,g5,g6⟩:=hq
      have:n=0:=by omega
      subst this
      rw[Tm.up_zero] at g5
      subst g5
      exact ⟨t,0,g1,rfl,rfl,Nat.le_refl _,(Tm.up_zero t).symm,by rw[← g2]; exact g6⟩
    obtain⟨u0,n,g1,g2,g3,g4,g5,g6⟩:=hto
    have:n=0:=by omega
    subst this
    rw[Tm.up_zero] at g5
    subst g5
    rw[h5.bound x t hx]
    exact Tm.ok_sub t g1 fun y hy=>ih y hy (Tm.ok_has t g1 hy)
   refine .inr ⟨rfl,σ,Mgu.of h5 h6,hok,?_⟩
   simp only[Bool.not_true,cond_false]
   have:=zqD (a0:=r.2.1) (by rw[h2]; exact h4) h5 24 0 zd [] rfl (by omega) (by unfold zd; omega) (by simp)
   rw[show ((0:Nat):Int)=0 from rfl] at this
   rw[this,List.drop_zero]
   have he:zbq B' σ (List.range 24)=zdW σ:=by
    unfold zbq zdW
    rw[show zrG B'=moved σ from funext (zsN h5)]
   cases zap σ (List.range 24) with
   | true=>simp only[cond_true,Option.bind_some,zcH,List.nil_append,he]
   | false=>rfl
 ·rw[show (((ts.length:Nat):Int) != ((us.length:Nat):Int))=true from by simp; omega,cond_true]
  exact .inl ⟨rfl,.inl hl⟩
end
end Go.Abs.Q
namespace Go.Abs.Q
open Go Go.Abs
section
theorem zA9 {n:Int} (h1:0≤n) (h2:n≤9223372036854775807):IntKind.wrap .u64 n=n:=by
 simp [IntKind.wrap,IntKind.signed,IntKind.bits]
 omega
theorem zCG {l h:Nat} (hl:l+h≤1000000000):IntKind.wrap .i64 (Int.fdiv (IntKind.wrap .u64 (IntKind.wrap .i64 ((l:Int)+(h:Int)))) (2 ^ min (Int.toNat 1) (IntKind.bits .u64)))=(((l+h) / 2:Nat):Int):=by
 rw[zp (n:=(l:Int)+(h:Int)) (by omega) (by omega),zA9 (by omega) (by omega)]
 have:(2:Int) ^ min (Int.toNat 1) (IntKind.bits .u64)=2:=by decide
 rw[this,Int.fdiv_eq_ediv_of_nonneg _ (by omega)]
 rw[zp]<;>omega
theorem zpL (a b:Int):zkz a b=some (decide (a<b)):=by
 unfold zkz ziR
 simp
abbrev Rise (xs:List Int):Prop:=xs.Pairwise (· < ·)
theorem Rise.lt {xs:List Int} (h:Rise xs) {i j:Nat} {x y:Int} (hi:xs[i]? = some x) (hj:xs[j]? = some y) (hij:i<j):x<y:=by
 obtain⟨h1,rfl⟩:=List.getElem?_eq_some_iff.1 hi
 obtain⟨h2,rfl⟩:=List.getElem?_eq_some_iff.1 hj
 exact List.pairwise_iff_getElem.1 h i j h1 h2 hij
theorem zwK {xs:List Int} (h:Rise xs) (hl:xs.length≤1000000) (t:Int) (z:Int):∀(m l r k:Nat),r - l=m→l≤r→r≤xs.length→m<k→(∀(i:Nat) x,xs[i]? = some x→i<l→x<t)→(∀(i:Nat) x,xs[i]? = some x→r≤i→t≤x) →
  ∃ q:Nat,lp yz k (xs,t,z,(l:Int),(r:Int))=some (q:Int)∧q≤xs.length∧(∀(i:Nat) x,xs[i]? = some x→i<q→x<t)∧∀(i:Nat) x,xs[i]? = some x→q≤i→t≤x:=by
 intro m
 induction m using Nat.strongRecOn with
 | _ m ih =>
  intro l r k hm hlr hr hk h1 h2
  obtain⟨k,rfl⟩:∃ k',k=k'+1:=⟨k - 1,by omega⟩
  rw[zm]
  have key:=fun l r (h3:r - l<m) h4 h5 h6 h7=>ih (r - l) h3 l r k rfl h4 h5 (by omega) h6 h7
  generalize lp yz k=rec at key ⊢
  unfold yz
  by_cases hlt:l<r
  ·have hml:(l+r) / 2<xs.length:=by omega
   simp only[decide_eq_true (show (l:Int)<(r:Int) by omega),cond_true,zCG (show l+r≤1000000000 by omega),y5,List.getElem?_eq_getElem hml,Option.bind_some,zpL]
   have hget:=List.getElem?_eq_getElem hml
   have w:IntKind.wrap .i64 ((((l+r) / 2:Nat):Int)+1)=(((l+r) / 2+1:Nat):Int):=by rw[zp]<;>omega
   by_cases hc:xs[(l+r) / 2]<t
   ·rw[decide_eq_true hc,cond_true,w]
    refine key ((l+r) / 2+1) r (by omega) (by omega) hr (fun i x hi hil => ?_) h2
    rcases Nat.lt_or_ge i ((l+r) / 2) with hi2 | hi2
    ·have:=h.lt hi hget hi2; omega
    ·have:i=(l+r) / 2:=by omega
     subst this
     rw[hget] at hi; injection hi with hi; omega
   ·rw[decide_eq_false hc,cond_false]
    refine key l ((l+r) / 2) (by omega) (by omega) (by omega) h1 (fun i x hi hil => ?_)
    rcases Nat.lt_or_ge ((l+r) / 2) i with hi2 | hi2
    ·have:=h.lt hget hi hi2; omega
    ·have:i=(l+r) / 2:=by omega
     subst this
     rw[hget] at hi; injection hi with hi; omega
  ·rw[decide_eq_false (show ¬((l:Int)<(r:Int)) by omega),cond_false]
   have:l=r:=by omega
   subst this
   exact ⟨l,rfl,hr,h1,h2⟩
theorem zAx {xs:List Int} (h:Rise xs) (hl:xs.length≤1000000) (t:Int):∃(q:Nat) (b:Bool),zah xs t=some ((q:Int),b)∧q≤xs.length∧(∀(i:Nat) x,xs[i]? = some x→i<q→x<t)∧(∀(i:Nat) x,xs[i]? = some x→q≤i→t≤x)∧(b=true↔t∈xs):=by
 obtain⟨q,h1,h2,h3,h4⟩:=zwK h hl t ((xs.length:Nat):Int) xs.length 0 xs.length zd rfl (Nat.zero_le _) (Nat.le_refl _) (by unfold zd; omega) (fun i x _ h=>by omega) (fun i x hi h=>by
  have:=(List.getElem?_eq_some_iff.1 hi).1; omega)
 have h1:lp yz zd (xs,t,((xs.length:Nat):Int),0,((xs.length:Nat):Int))=some (q:Int):=h1
 unfold zah
 rw[h1,Option.bind_some]
 by_cases hq:q<xs.length
 ·rw[decide_eq_true (show ((q:Int)<((xs.length:Nat):Int)) by omega),cond_true,y5,List.getElem?_eq_getElem hq,Option.bind_some]
  have hget:=List.getElem?_eq_getElem hq
  by_cases he:xs[q]=t
  ·rw[show (xs[q]==t)=true from by simp [he],cond_true]
   exact ⟨q,true,rfl,h2,h3,h4,by simp only[true_iff]; rw[← he]; exact List.getElem_mem hq⟩
  ·rw[show (xs[q]==t)=false from by simp [he],cond_false,Option.bind_some]
   have hn:zdS xs[q]=some false:=by unfold zdS; simp
   rw[hn,Option.bind_some,cond_false]
   refine ⟨q,false,rfl,h2,h3,h4,?_⟩
   constructor
   ·intro h; cases h
   ·intro hm
    exfalso
    obtain⟨i,hi⟩:=List.mem_iff_getElem?.1 hm
    rcases Nat.lt_trichotomy i q with h5 | h5 | h5
    ·have:=h3 i t hi h5; omega
    ·subst h5; rw[hget] at hi; injection hi with hi; exact he hi
    ·have:=h.lt hget hi h5
     have:=h4 q _ hget (Nat.le_refl _)
     omega
 ·rw[decide_eq_false (show ¬((q:Int)<((xs.length:Nat):Int)) by omega),cond_false]
  refine ⟨q,false,rfl,h2,h3,h4,?_⟩
  constructor
  ·intro h; cases h
  ·intro hm
   exfalso
   obtain⟨i,hi⟩:=List.mem_iff_getElem?.1 hm
   have:=h3 i t hi (by have:=(List.getElem?_eq_some_iff.1 hi).1; omega)
   omega
theorem zqk {xs:List Int} (h:Rise xs) {q:Nat} {t:Int} (hq:q≤xs.length) (h1:∀(i:Nat) x,xs[i]? = some x→i<q→x<t) (h2:∀(i:Nat) x,xs[i]? = some x→q≤i→t≤x) (h3:t∉xs):Rise (zhk xs q [t]):=by
 unfold zhk Rise
 have ht:∀ x∈xs.take q,x<t:=fun x hx=>by
  obtain⟨i,hi⟩:=List.mem_iff_getElem?.1 hx
  rw[List.getElem?_take] at hi
  split at hi
  ·exact h1 i x hi (by assumption)
  ·cases hi
 have hd:∀ x∈xs.drop q,t<x:=fun x hx=>by
  obtain⟨i,hi⟩:=List.mem_iff_getElem?.1 hx
  rw[List.getElem?_drop] at hi
  have h4:=h2 _ x hi (by omega)
  have:x≠t:=fun e=>h3 (e▸List.mem_of_getElem? hi)
  omega
 rw[List.pairwise_append]
 refine ⟨h.sublist (List.take_sublist ..),?_,fun x hx y hy => ?_⟩
 ·rw[List.singleton_append,List.pairwise_cons]
  exact ⟨hd,h.sublist (List.drop_sublist ..)⟩
 ·have h5:=ht x hx
  rcases List.mem_append.1 hy with hy | hy
  ·rw[List.mem_singleton.1 hy]; exact h5
  ·have:=hd y hy; omega
theorem zup {xs:List Int} {q:Nat} {t x:Int}:x∈zhk xs q [t]↔x∈xs∨x=t:=by
 unfold zhk
 simp only[List.mem_append,List.mem_singleton]
 constructor
 ·rintro (h | h | h)
  ·exact .inl (List.mem_of_mem_take h)
  ·exact .inr h
  ·exact .inl (List.mem_of_mem_drop h)
 ·rintro (h | h)
  ·rw[← List.take_append_drop q xs] at h
   rcases List.mem_append.1 h with h | h
   ·exact .inl h
   ·exact .inr (.inr h)
  ·exact .inr (.inl h)
def zsC (r:List Int) (x:Int):Prop:=∃ c∈r,c<0∧x = -1 - c
theorem znv:(es vs:List Int)→Rise vs→vs.length+es.length≤1000000→(∀ c∈es,-1000000≤c∧c≤1000000)→∃ ws,yo es vs=some ws∧Rise ws∧(∀ x,x∈ws↔x∈vs∨zsC es x)∧ws.length≤vs.length+es.length
 | [],vs,h,_,_=>⟨vs,rfl,h,fun x=>⟨.inl,fun h=>h.elim (fun h=>h) fun ⟨c,hc,_⟩=>(nomatch hc)⟩,Nat.le_refl _⟩
 | e::es,vs,h,hl,hc=>by
  rw[List.length_cons] at hl
  have he:=hc e (List.mem_cons_self ..)
  have hc':∀ c∈es,-1000000≤c∧c≤1000000:=fun c h=>hc c (List.mem_cons_of_mem _ h)
  unfold yo
  by_cases h0:e≥0
  ·rw[decide_eq_true h0,cond_true]
   obtain⟨ws,h1,h2,h3,h4⟩:=znv es vs h (by omega) hc'
   refine ⟨ws,h1,h2,fun x=>(h3 x).trans ?_,by rw[List.length_cons]; omega⟩
   constructor
   ·rintro (h5 | ⟨c,h5,h6⟩)
    ·exact .inl h5
    ·exact .inr ⟨c,List.mem_cons_of_mem _ h5,h6⟩
   ·rintro (h5 | ⟨c,h5,h6,h7⟩)
    ·exact .inl h5
    ·rcases List.mem_cons.1 h5 with rfl | h5
     ·omega
     ·exact .inr ⟨c,h5,h6,h7⟩
  ·rw[decide_eq_false h0,cond_false,zaQ (by omega) (by omega),Option.bind_some]
   obtain⟨q,b,h1,h2,h3,h4,h5⟩:=zAx h (by omega) (-1 - e)
   rw[h1,Option.bind_some]
   have fin:∀{vs':List Int},(∀ x,x∈vs'↔x∈vs∨x = -1 - e)→∀ x,(x∈vs'∨zsC es x)↔(x∈vs∨zsC (e::es) x):=by
    intro vs' hv x
    rw[hv x]
    constructor
    ·rintro ((h6 | h6) | ⟨c,h6,h7⟩)
     ·exact .inl h6
     ·exact .inr ⟨e,List.mem_cons_self ..,by omega,h6⟩
     ·exact .inr ⟨c,List.mem_cons_of_mem _ h6,h7⟩
    ·rintro (h6 | ⟨c,h6,h7,h8⟩)
     ·exact .inl (.inl h6)
     ·rcases List.mem_cons.1 h6 with rfl | h6
      ·exact .inl (.inr h8)
      ·exact .inr ⟨c,h6,h7,h8⟩
   cases b with
   | true =>
    simp only[Bool.not_true,cond_false]
    obtain⟨ws,h6,h7,h8,h9⟩:=znv es vs h (by omega) hc'
    refine ⟨ws,h6,h7,fun x=>(h8 x).trans (fin (fun x=>⟨.inl,fun h=>h.elim (fun h=>h) fun h => ?_⟩) x),by rw[List.length_cons]; omega⟩
    rw[h]
    exact h5.1 rfl
   | false =>
    simp only[Bool.not_false,cond_true,Option.bind_some]
    have hn : -1 - e∉vs:=fun h=>by have:=h5.2 h; cases this
    have hi:zed (q:Int) vs [-1 - e]=some (zhk vs q [-1 - e]):=by
     unfold zed zBx
     rw[zn (by simp; omega)]
     have e1:zyK (q:Int)=true:=by simp [zyK]
     have e2:decide ((q:Int)≤(List.length vs:Int))=true:=by simp; omega
     have e3:zrq ((List.length [-1 - e]:Nat):Int)=true:=by simp [zrq]
     rw[e1,e2,e3,Int.toNat_natCast]
     rfl
    rw[hi,Option.bind_some]
    have hlen:(zhk vs q [-1 - e]).length=vs.length+1:=zj9 vs _ h2
    obtain⟨ws,h6,h7,h8,h9⟩:=znv es (zhk vs q [-1 - e]) (zqk h h2 h3 h4 hn) (by omega) hc'
    exact ⟨ws,h6,h7,fun x=>(h8 x).trans (fin (fun x=>zup) x),by rw[List.length_cons]; omega⟩
theorem zpA {r vs:List Int} (h:Rise vs) (hl:vs.length+r.length≤1000000) (hc:∀ c∈r,-1000000≤c∧c≤1000000):∃ ws,zcl r vs=some ws∧Rise ws∧(∀ x,x∈ws↔x∈vs∨zsC r x)∧ws.length≤vs.length+r.length:=by
 obtain⟨ws,h1,h2⟩:=znv r vs h hl hc
 refine ⟨ws,?_,h2⟩
 unfold zcl
 rw[zg4 _ _ (by unfold maxLen; omega),h1]
 rfl
def zgA (rs:List jI) (x:Int):Prop:=∃ r∈rs,zsC r x
theorem zjl {r:List Int} {rs:List jI} {x:Int}:zgA (r::rs) x↔zsC r x∨zgA rs x:=by simp [zgA]
theorem zch {rs ss:List jI} {x:Int}:zgA (rs++ss) x↔zgA rs x∨zgA ss x:=by
 simp only[zgA,List.mem_append]
 constructor
 ·rintro⟨r,h | h,h2⟩
  ·exact .inl ⟨r,h,h2⟩
  ·exact .inr ⟨r,h,h2⟩
 ·rintro (⟨r,h,h2⟩ | ⟨r,h,h2⟩)
  ·exact ⟨r,.inl h,h2⟩
  ·exact ⟨r,.inr h,h2⟩
theorem zeF (r:List Int) (rs:List jI):zl (r::rs)=r.length+zl rs:=by simp [zl]
theorem zaF (rs ss:List jI):zl (rs++ss)=zl rs+zl ss:=by simp [zl]
theorem zuy:(es:List zc)→(vs:List Int)→Rise vs→vs.length+zl (es.map (·.2))≤1000000→(∀ l∈es,zcB l.2) →
  ∃ ws,qo es vs=some ws∧Rise ws∧(∀ x,x∈ws↔x∈vs∨zgA (es.map (·.2)) x)∧ws.length≤vs.length+zl (es.map (·.2))
 | [],vs,h,_,_=>⟨vs,rfl,h,fun x=>⟨.inl,fun h=>h.elim (fun h=>h) fun ⟨c,hc,_⟩=>(nomatch hc)⟩,by simp [zl]⟩
 | e::es,vs,h,hl,hn=>by
  rw[List.map_cons,zeF] at hl
  unfold qo
  obtain⟨ws,h1,h2,h3,h4⟩:=zpA h (r:=e.2) (by omega) (hn e (List.mem_cons_self ..)).2
  rw[h1,Option.bind_some]
  obtain⟨xs,h5,h6,h7,h8⟩:=zuy es ws h2 (by omega) fun l hl=>hn l (List.mem_cons_of_mem _ hl)
  refine ⟨xs,h5,h6,fun x => ?_,by rw[List.map_cons,zeF]; omega⟩
  rw[h7 x,h3 x,List.map_cons,zjl,or_assoc]
theorem zuW:(es:List jI)→(vs:List Int)→Rise vs→vs.length+zl es≤1000000→(∀ l∈es,zcB l) →
  ∃ ws,qp es vs=some ws∧Rise ws∧(∀ x,x∈ws↔x∈vs∨zgA es x)∧ws.length≤vs.length+zl es
 | [],vs,h,_,_=>⟨vs,rfl,h,fun x=>⟨.inl,fun h=>h.elim (fun h=>h) fun ⟨c,hc,_⟩=>(nomatch hc)⟩,by simp [zl]⟩
 | e::es,vs,h,hl,hn=>by
  rw[zeF] at hl
  unfold qp
  obtain⟨ws,h1,h2,h3,h4⟩:=zpA h (r:=e) (by omega) (hn e (List.mem_cons_self ..)).2
  rw[h1,Option.bind_some]
  obtain⟨xs,h5,h6,h7,h8⟩:=zuW es ws h2 (by omega) fun l hl=>hn l (List.mem_cons_of_mem _ hl)
  refine ⟨xs,h5,h6,fun x => ?_,by rw[zeF]; omega⟩
  rw[h7 x,h3 x,zjl,or_assoc]
def yr (L:List zc) (T:List jI) (C:List zc):List jI:=L.map (·.2)++C.map (·.2)++T
theorem zgE {a0:List zi} (hs:SignOk a0) {L:List zc} {T:List jI} {C:List zc} (h:zc4 a0 L T C=true):∃ ws,qe a0 L T C=some (0,ws)∧Rise ws∧∀ x,x∈ws↔zgA (yr L T C) x:=by
 obtain⟨-,h1,h2,h3,h4,h5,h6,h7⟩:=zE h
 have n1:=zeq hs h4
 have n2:=zjQ hs h5
 have n3:=zeq hs h6
 unfold qe
 rw[yC,Option.bind_some,h]
 simp only[Bool.not_true,cond_false]
 rw[ze4 (by omega),Option.bind_some,zgZ _ _ _ _ _ (by unfold maxLen; simp; omega)]
 obtain⟨ws,h8,h9,h10,h11⟩:=zuy (L++C) [] List.Pairwise.nil (by rw[List.map_append,zaF]; simp; omega) (fun l hl=>(List.mem_append.1 hl).elim (n1 l) (n3 l))
 rw[h8,Option.bind_some,zhe _ _ (by unfold maxLen; omega)]
 rw[List.map_append,zaF] at h11
 obtain⟨xs,h12,h13,h14,-⟩:=zuW T ws h9 (by simp at h11; omega) n2
 rw[h12]
 refine ⟨xs,rfl,h13,fun x => ?_⟩
 rw[h14 x,h10 x,List.map_append]
 unfold yr
 rw[zch,zch,zch]
 simp
def upC (by_:Int) (c:Int):Int:=cond (decide (c<0)) (c - by_) c
def zgN (b:Int) (ls:List zc):List zc:=ls.map fun l=>(l.1,l.2.map (upC b))
theorem zkW (b:Int) (hb:0≤b∧b≤1000):(es done:List Int)→(k:Nat)→es.length<k→done.length+es.length≤1000000→(∀ c∈es,-1000000≤c∧c≤1000000) →
  lp y9 k (((done.length+es.length:Nat):Int),(done.length:Int),b,done++es)=some (done++es.map (upC b))
 | [],done,k,hk,hl,hc=>by
  obtain⟨k,rfl⟩:∃ k',k=k'+1:=⟨k - 1,by omega⟩
  rw[zm]
  generalize lp y9 k=rec
  unfold y9
  simp
 | e::es,done,k,hk,hl,hc=>by
  obtain⟨k,rfl⟩:∃ k',k=k'+1:=⟨k - 1,by omega⟩
  rw[zm]
  have he:=hc e (List.mem_cons_self ..)
  have hl':done.length+(es.length+1)≤1000000:=hl
  have key:=fun e'=>zkW b hb es (done++[e']) k (Nat.lt_of_succ_lt_succ hk) (by simp; omega) (fun c hx=>hc c (List.mem_cons_of_mem _ hx))
  generalize lp y9 k=rec at key ⊢
  unfold y9
  have e1:decide (((done.length:Nat):Int)<((done.length+(e::es).length:Nat):Int))=true:=by rw[decide_eq_true_eq,List.length_cons]; omega
  have e2:inR ((done.length:Nat):Int) (List.length (done++e::es))=some done.length:=yY (by simp)
  have e3:IntKind.wrap .i64 (((done.length:Nat):Int)+1)=((done.length+1:Nat):Int):=by rw[zp]<;>omega
  have key2:=fun e'=>by
   have:=key e'
   rw[List.append_assoc,List.length_append,List.length_singleton,Nat.add_assoc,Nat.add_comm 1 es.length] at this
   exact this
  simp only[e1,cond_true,e2,Option.bind_some,znt,e3]
  by_cases h0:e<0
  ·have hu:upC b e=e - b:=by unfold upC; rw[decide_eq_true h0]; rfl
   have w:IntKind.wrap .i64 (e - b)=e - b:=by rw[zp]<;>omega
   rw[decide_eq_true h0,cond_true,w]
   have hset:(done++e::es).set done.length (e - b)=done++(e - b)::es:=by
    rw[List.set_append_right _ _ (Nat.le_refl _),Nat.sub_self]; rfl
   rw[hset,List.map_cons,hu]
   have:=key2 (e - b)
   exact this.trans (by simp)
  ·have hu:upC b e=e:=by unfold upC; rw[decide_eq_false h0]; rfl
   rw[decide_eq_false h0,cond_false,List.map_cons,hu]
   have:=key2 e
   exact this.trans (by simp)
theorem znW {b:Int} (hb:0≤b∧b≤1000) {r:List Int} (hn:zcB r):qb r b=some (r.map (upC b)):=by
 unfold qb
 rw[zdZ (by have:=hn.1; omega),Option.bind_some]
 have:=zkW b hb r [] zd (by have:=hn.1; unfold zd; omega) (by have:=hn.1; simp; omega) hn.2
 simp only[List.length_nil,Nat.zero_add,List.nil_append] at this
 have h0:((0:Nat):Int)=0:=rfl
 rw[h0] at this
 rw[this]
 rfl
theorem zoh {b:Int} (hb:0≤b∧b≤1000):(es out:List zc)→(∀ l∈es,zcB l.2)→out.length+es.length≤1000000→yf b es out=some (out++zgN b es)
 | [],out,_,_=>by simp [yf,zgN]
 | e::es,out,hn,hl=>by
  rw[List.length_cons] at hl
  unfold yf
  rw[znW hb (hn e (List.mem_cons_self ..)),Option.bind_some,zn (show (out.length+([(e.1,e.2.map (upC b))]:List zc).length)*32≤140737488351232 by simp; omega),cond_true,
   zoh hb es _ (fun l hl=>hn l (List.mem_cons_of_mem _ hl)) (by simp; omega)]
  simp [zgN]
theorem zox {b:Int} (hb:0≤b∧b≤1000) (s7:List zc):(es out:List jI)→(∀ l∈es,zcB l)→out.length+es.length≤1000000→yj b s7 es out=some (s7,out++es.map (List.map (upC b)))
 | [],out,_,_=>by simp [yj]
 | e::es,out,hn,hl=>by
  rw[List.length_cons] at hl
  unfold yj
  rw[znW hb (hn e (List.mem_cons_self ..)),Option.bind_some,zn (show (out.length+([e.map (upC b)]:List jI).length)*24≤140737488351232 by simp; omega),cond_true,
   zox hb s7 es _ (fun l hl=>hn l (List.mem_cons_of_mem _ hl)) (by simp; omega)]
  simp
theorem zo0 {b:Int} (hb:0≤b∧b≤1000) (s4:List zc) (s5:List jI):(es out:List zc)→(∀ l∈es,zcB l.2)→out.length+es.length≤1000000→yk b s4 s5 es out=some (s4,s5,out++zgN b es)
 | [],out,_,_=>by simp [yk,zgN]
 | e::es,out,hn,hl=>by
  rw[List.length_cons] at hl
  unfold yk
  rw[znW hb (hn e (List.mem_cons_self ..)),Option.bind_some,zn (show (out.length+([(e.1,e.2.map (upC b))]:List zc).length)*32≤140737488351232 by simp; omega),cond_true,
   zo0 hb s4 s5 es _ (fun l hl=>hn l (List.mem_cons_of_mem _ hl)) (by simp; omega)]
  simp [zgN]
theorem zlg {b:Int} (hb:0≤b∧b≤1000) {L:List zc} {T:List jI} {C:List zc} (hL:∀ l∈L,zcB l.2) (hT:∀ l∈T,zcB l) (hC:∀ l∈C,zcB l.2) (h1:L.length≤1000) (h2:T.length≤1000) (h3:C.length≤1000) :
  zC L T C b=some (zgN b L,T.map (List.map (upC b)),zgN b C):=by
 unfold zC zge
 rw[zfY _ _ _ _ _ _ (by unfold maxLen; omega),zoh hb L [] hL (by simp; omega),Option.bind_some,
  zgh _ _ _ _ _ _ _ (by unfold maxLen; omega),zox hb _ T [] hT (by simp; omega),Option.bind_some,
  zgo _ _ _ _ _ (by unfold maxLen; omega),zo0 hb _ _ C [] hC (by simp; omega),Option.bind_some]
 simp
def TopV (rs:List jI) (m:Int):Prop:=(∀ x,zgA rs x→x<m)∧(m=0∨zgA rs (m - 1))
theorem zu7 {ws:List Int} {rs:List jI} (h:Rise ws) (hm:∀ x,x∈ws↔zgA rs x):(ws=[]∧TopV rs 0)∨∃ x,ws[ws.length - 1]? = some x∧0<ws.length∧TopV rs (x+1):=by
 cases hw:ws with
 | nil=>exact .inl ⟨rfl,⟨fun x hx=>(by have:=(hm x).2 hx; rw[hw] at this; cases this),.inl rfl⟩⟩
 | cons w ws' =>
  rw[← hw]
  have hl:0<ws.length:=by rw[hw]; simp
  refine .inr ⟨ws[ws.length - 1],List.getElem?_eq_getElem (by omega),hl,⟨fun x hx => ?_,.inr ?_⟩⟩
  ·obtain⟨i,hi⟩:=List.mem_iff_getElem?.1 ((hm x).2 hx)
   have hil:=(List.getElem?_eq_some_iff.1 hi).1
   rcases Nat.lt_or_ge i (ws.length - 1) with h1 | h1
   ·have:=h.lt hi (List.getElem?_eq_getElem (show ws.length - 1<ws.length by omega)) h1; omega
   ·have:i=ws.length - 1:=by omega
    subst this
    rw[List.getElem?_eq_getElem (by omega)] at hi
    injection hi with hi; omega
  ·rw[show ws[ws.length - 1]+1 - 1=ws[ws.length - 1] from by omega]
   exact (hm _).1 (List.getElem_mem _)
end
end Go.Abs.Q
namespace Go.Abs.Q
open Go Go.Abs
section
def zdo (s:Sb) (r:List Int):List Int:=r.flatMap (zgz s)
theorem zm4 (σ:Sb) (v:Nat):(vs:List Nat)→zd3 ((vs.filter (moved σ)).map fun v:Nat=>((v:Int),(σ v).codes)) (v:Int)=if v∈vs∧moved σ v=true then some (σ v).codes else none
 | []=>by simp [zd3]
 | w::vs=>by
  have ih:=zm4 σ v vs
  cases hm:moved σ w with
  | false =>
   rw[List.filter_cons_of_neg (by simp [hm]),ih]
   by_cases hv:v=w
   ·subst hv
    simp [hm]
   ·simp [hv]
  | true =>
   rw[List.filter_cons_of_pos hm,List.map_cons]
   unfold zd3 at ih ⊢
   rw[List.find?_cons]
   by_cases hv:v=w
   ·subst hv
    simp [hm]
   ·rw[show (((w:Nat):Int)==(v:Int))=false from by simp; omega,ih]
    simp [hv]
theorem zqB {σ:Sb} {r:List Int} (h:∀ c∈r,-24≤c):onB (zdW σ) r=zdo σ r:=by
 unfold onB zdo
 induction r with
 | nil=>rfl
 | cons c r ih =>
  rw[List.flatMap_cons,List.flatMap_cons,ih fun c hc=>h c (List.mem_cons_of_mem _ hc)]
  congr 1
  have hc:=h c (List.mem_cons_self ..)
  unfold onC zgz
  by_cases h0:c≥0
  ·rw[decide_eq_true h0,cond_true,if_neg (by omega)]
  ·rw[decide_eq_false h0,cond_false,if_pos (by omega)]
   obtain⟨k,hk,rfl⟩:∃ k:Nat,k<24∧c = -1 - (k:Int):=⟨(-1 - c).toNat,by omega,by omega⟩
   have e1:(-1:Int) - (-1 - (k:Int))=(k:Int):=by omega
   rw[e1,Int.toNat_natCast]
   unfold zdW
   rw[zm4 σ k]
   cases hm:moved σ k with
   | true=>simp [hk]
   | false =>
    have:σ k = .v k:=by
     unfold moved at hm
     split at hm
     ·rename_i y hy
      have:y=k:=by simpa using hm
      rw[hy,this]
     ·cases hm
    rw[this]
    simp [Tm.codes]
theorem zhN {σ:Sb} (h:zap σ (List.range 24)=true):BindsOk (zdW σ) where
 len:=by
  unfold zdW
  rw[List.length_map]
  have:=List.length_filter_le (moved σ) (List.range 24)
  simp at this
  omega
 all:=fun b hb=>by
  unfold zdW at hb
  obtain⟨v,hv,rfl⟩:=List.mem_map.1 hb
  have hv:=(List.mem_filter.1 hv).1
  have h1:=List.all_eq_true.1 h v hv
  have h2:=(σ v).size_pos
  have h3:=(σ v).codes_len
  have h4:(σ v).size≤48:=of_decide_eq_true h1
  refine ⟨fun e => ?_,?_⟩
  ·have:=congrArg List.length e
   simp only[List.length_nil] at this
   omega
  ·show (σ v).codes.length≤1000
   omega
def zcD (s:Sb) (ls:List zc):List zc:=ls.map fun l=>(l.1,zdo s l.2)
theorem zkD {σ:Sb} {ls:List zc} (h:∀ l∈ls,∀ c∈l.2,-24≤c):zmh (zdW σ) ls=zcD σ ls:=by
 unfold zmh zcD
 exact List.map_congr_left fun l hl=>by rw[zqB (h l hl)]
theorem zq0 {σ:Sb} {rs:List jI} (h:∀ r∈rs,∀ c∈r,-24≤c):zsD (zdW σ) rs=rs.map (zdo σ):=by
 unfold zsD
 exact List.map_congr_left fun r hr=>zqB (h r hr)
theorem zeD {a0:List zi} {xs:List Int} (h:qz a0 xs=true):∃(c:Nat) (ts:List Tm) (e:zi),xs=(c:Int)::zb ts∧okR a0 24 ts∧a0[c]? = some e∧e.2.1=0∧((ts.length:Nat):Int)=e.2.2.1∧(zb ts).length≤48∧zcC a0=true:=by
 obtain⟨x,r,e,ps,rfl,h0,h1,-,h2,h3,h4,h5,h6⟩:=zhE h
 obtain⟨ts,h7,h8,h9⟩:=zyx h5
 refine ⟨x.toNat,ts,e,by rw[← h9,Int.toNat_of_nonneg h0],h7,h1,h2,?_,by rw[← h9]; exact h4,h3⟩
 rw[← h6,h8,List.length_map]
theorem zxc {a0:List zi} {c:Nat} {ts:List Tm} {e:zi} (h1:okR a0 24 ts) (h2:a0[c]? = some e) (h3:e.2.1=0) (h4:((ts.length:Nat):Int)=e.2.2.1) (h5:(zb ts).length≤48) (h6:zcC a0=true):qz a0 ((c:Int)::zb ts)=true:=by
 unfold qz
 simp only[Int.toNat_natCast,h2]
 unfold zbd
 rw[h6,decide_eq_true h5]
 simp [h3,yp ts h1,h4]
theorem zqZ (b:Nat):(ts:List Tm)→(zb ts).map (upC (b:Int))=zb (ts.map (Tm.up b)):=by
 intro ts
 have h:=zer (fun n=>Tm.v (n+b)) ts
 have e:ts.map (Tm.up b)=zbo (fun n=>Tm.v (n+b)) ts:=by rw[zic]; rfl
 rw[e,h]
 generalize zb ts=r
 induction r with
 | nil=>rfl
 | cons c r ih =>
  rw[List.map_cons,List.flatMap_cons,ih]
  congr 1
  unfold upC zgz
  by_cases h0:c<0
  ·rw[decide_eq_true h0,cond_true,if_pos h0]
   show [c - (b:Int)]++_=[-1 - (((-1 - c).toNat+b:Nat):Int)]++_
   rw[show -1 - (((-1 - c).toNat+b:Nat):Int)=c - (b:Int) from by omega]
   rfl
  ·rw[decide_eq_false h0,cond_false,if_neg h0]
   rfl
theorem zfH {ts:List Tm} {x:Int}:zsC (zb ts) x↔∃ k:Nat,x=(k:Int)∧zjo k ts:=by
 constructor
 ·rintro⟨c,h1,h2,rfl⟩
  exact ⟨(-1 - c).toNat,by omega,(zes h2 ts).1 h1⟩
 ·rintro⟨k,rfl,hk⟩
  refine ⟨-1 - (k:Int),(zes (by omega) ts).2 (by rwa [show (-1 - (-1 - (k:Int))).toNat=k from by omega]),by omega,by omega⟩
end
end Go.Abs.Q
namespace Go.Abs.Q
open Go Go.Abs
section
theorem zlY {a0:List zi} {L:List zc} {T:List jI} {C:List zc} (h:zc4 a0 L T C=true):∀ r∈yr L T C,zdH r:=by
 obtain⟨-,-,-,-,h4,h5,h6,-⟩:=zE h
 intro r hr
 unfold yr at hr
 rcases List.mem_append.1 hr with hr | hr
 ·rcases List.mem_append.1 hr with hr | hr
  ·obtain⟨l,hl,rfl⟩:=List.mem_map.1 hr; exact zdl h4 l hl
  ·obtain⟨l,hl,rfl⟩:=List.mem_map.1 hr; exact zdl h6 l hl
 ·exact zh7 h5 r hr
theorem zgc {a0:List zi} {L:List zc} {T:List jI} {C:List zc} (h:zc4 a0 L T C=true) {x:Int} (hx:zgA (yr L T C) x):0≤x∧x<24:=by
 obtain⟨r,hr,c,hc,h0,rfl⟩:=hx
 have:=(zlY h r hr).2 c hc
 omega
abbrev ApR:=List zc×List jI×Bool×List zc
theorem apart_spec {a0:List zi} (hs:SignOk a0) {L:List zc} {T:List jI} {C:List zc} {L':List zc} {T':List jI} {C':List zc} (h:zc4 a0 L T C=true) (h':zc4 a0 L' T' C'=true) :
  ∃ b:Nat,b≤24∧TopV (yr L T C) (b:Int) ∧
   ((zcN a0 L T C L' T' C'=some ([],[],false,[])∧∃ x,zgA (yr L' T' C') x∧23<x+(b:Int)) ∨
    (zcN a0 L T C L' T' C'=some (zgN (b:Int) L',T'.map (List.map (upC (b:Int))),true,zgN (b:Int) C')∧∀ x,zgA (yr L' T' C') x→x+(b:Int)≤23)):=by
 obtain⟨ws,h1,h2,h3⟩:=zgE hs h
 obtain⟨ws',h1',h2',h3'⟩:=zgE hs h'
 obtain⟨-,l1,l2,l3,l4,l5,l6,-⟩:=zE h'
 have hsh:∀ b:Nat,b≤24→zC L' T' C' (b:Int)=some (zgN (b:Int) L',T'.map (List.map (upC (b:Int))),zgN (b:Int) C'):=fun b hb =>
  zlg (by omega) (zeq hs l4) (zjQ hs l5) (zeq hs l6) (by omega) (by omega) (by omega)
 -- the second half
 have second:∀ b:Nat,b≤24→∃ o:Option ApR,((qe a0 L' T' C').bind fun r17 =>
   cond (decide (((List.length r17.2:Nat):Int)>0))
   ((inR (IntKind.wrap .i64 (((List.length r17.2:Nat):Int) - 1)) (List.length r17.2)).bind fun k18 =>
    (r17.2[k18]?).bind fun x19 =>
    cond (decide ((IntKind.wrap .i64 (x19+(b:Int)))>23))
    (some (([]:jQ),([]:jR),false,([]:jQ)))
    ((zC L' T' C' (b:Int)).bind fun r20 =>
     some (r20.1,r20.2.1,true,r20.2.2)))
   ((zC L' T' C' (b:Int)).bind fun r21 =>
    some (r21.1,r21.2.1,true,r21.2.2)))=o∧((o=some ([],[],false,[])∧∃ x,zgA (yr L' T' C') x∧23<x+(b:Int)) ∨
    (o=some (zgN (b:Int) L',T'.map (List.map (upC (b:Int))),true,zgN (b:Int) C')∧∀ x,zgA (yr L' T' C') x→x+(b:Int)≤23)):=by
  intro b hb
  refine ⟨_,rfl,?_⟩
  rw[h1',Option.bind_some]
  simp only
  rcases zu7 h2' h3' with ⟨rfl,h4⟩ | ⟨x,h4,h5,h6,h7⟩
  ·rw[show decide (((List.length ([]:List Int):Nat):Int)>0)=false from rfl,cond_false,hsh b hb]
   refine .inr ⟨rfl,fun x hx => ?_⟩
   have:=h4.1 x hx
   have:=(zgc h' hx).1
   omega
  ·have hvx:zgA (yr L' T' C') x:=by
    rcases h7 with h7 | h7
    ·have:=(h3' x).1 (List.mem_of_getElem? h4); exact this
    ·rwa [show x+1 - 1=x from by omega] at h7
   have hx:=zgc h' hvx
   have hwl:ws'.length≤1000000∨True:=.inr trivial
   have e1:IntKind.wrap .i64 (((List.length ws':Nat):Int) - 1)=((ws'.length - 1:Nat):Int)∨ws'.length>1000000:=by
    rcases Nat.lt_or_ge 1000000 ws'.length with h8 | h8
    ·exact .inr h8
    ·left; rw[zp]<;>omega
   have hlen:ws'.length≤24:=by
    -- numbers below 24 that rise
    have key:∀(ys:List Int) (m:Int),Rise ys→(∀ y∈ys,m≤y∧y<24)→(ys.length:Int)≤24 - m∨ys=[]:=by
     intro ys
     induction ys with
     | nil=>intro m _ _; exact .inr rfl
     | cons y ys ih =>
      intro m hr hy
      have hr:=List.pairwise_cons.1 hr
      have hy0:=hy y (List.mem_cons_self ..)
      rcases ih (y+1) hr.2 (fun z hz=>⟨by have:=hr.1 z hz; omega,(hy z (List.mem_cons_of_mem _ hz)).2⟩) with h8 | h8
      ·left; rw[List.length_cons]; omega
      ·subst h8; left; simp; omega
    rcases key ws' 0 h2' fun y hy=>zgc h' ((h3' y).1 hy) with h8 | h8
    ·omega
    ·rw[h8]; simp
   have e1:IntKind.wrap .i64 (((List.length ws':Nat):Int) - 1)=((ws'.length - 1:Nat):Int):=by rw[zp]<;>omega
   rw[decide_eq_true (show ((List.length ws':Nat):Int)>0 by omega),cond_true,e1,yY (by omega),Option.bind_some,h4,Option.bind_some]
   have e2:IntKind.wrap .i64 (x+(b:Int))=x+(b:Int):=by rw[zp]<;>omega
   simp only[e2]
   by_cases hf:x+(b:Int)>23
   ·rw[decide_eq_true hf,cond_true]
    exact .inl ⟨rfl,x,hvx,by omega⟩
   ·rw[decide_eq_false hf,cond_false,hsh b hb]
    refine .inr ⟨rfl,fun y hy => ?_⟩
    have:=h6 y hy
    omega
 unfold zcN
 rw[h1,Option.bind_some]
 simp only
 rcases zu7 h2 h3 with ⟨rfl,h4⟩ | ⟨x,h4,h5,h6⟩
 ·rw[show decide (((List.length ([]:List Int):Nat):Int)>0)=false from rfl,cond_false]
  obtain⟨o,h8,h9⟩:=second 0 (by omega)
  rw[show ((0:Nat):Int)=0 from rfl] at h8 h9
  refine ⟨0,by omega,h4,?_⟩
  have h8':=h8
  rw[show ((0:Nat):Int)=0 from rfl]
  refine h9.imp (fun h=>⟨?_,h.2⟩) fun h=>⟨?_,h.2⟩
  ·exact h8.trans h.1
  ·exact h8.trans h.1
 ·have hvx:zgA (yr L T C) x:=(h3 x).1 (List.mem_of_getElem? h4)
  have hx:=zgc h hvx
  have hlen:ws.length≤24:=by
   have key:∀(ys:List Int) (m:Int),Rise ys→(∀ y∈ys,m≤y∧y<24)→(ys.length:Int)≤24 - m∨ys=[]:=by
    intro ys
    induction ys with
    | nil=>intro m _ _; exact .inr rfl
    | cons y ys ih =>
     intro m hr hy
     have hr:=List.pairwise_cons.1 hr
     have hy0:=hy y (List.mem_cons_self ..)
     rcases ih (y+1) hr.2 (fun z hz=>⟨by have:=hr.1 z hz; omega,(hy z (List.mem_cons_of_mem _ hz)).2⟩) with h8 | h8
     ·left; rw[List.length_cons]; omega
     ·subst h8; left; simp; omega
   rcases key ws 0 h2 fun y hy=>zgc h ((h3 y).1 hy) with h8 | h8
   ·omega
   ·rw[h8]; simp
  have e1:IntKind.wrap .i64 (((List.length ws:Nat):Int) - 1)=((ws.length - 1:Nat):Int):=by rw[zp]<;>omega
  rw[decide_eq_true (show ((List.length ws:Nat):Int)>0 by omega),cond_true,e1,yY (by omega),Option.bind_some,h4,Option.bind_some]
  have e2:IntKind.wrap .i64 (x+1)=(((x+1).toNat:Nat):Int):=by rw[zp]<;>omega
  rw[e2]
  obtain⟨o,h8,h9⟩:=second (x+1).toNat (by omega)
  refine ⟨(x+1).toNat,by omega,by rw[Int.toNat_of_nonneg (show (0:Int)≤x+1 by omega)]; exact h6,?_⟩
  refine h9.imp (fun h=>⟨?_,h.2⟩) fun h=>⟨?_,h.2⟩
  ·exact h8.trans h.1
  ·exact h8.trans h.1
end
end Go.Abs.Q
namespace Go.Abs.Q
open Go Go.Abs
section
abbrev zpC:=List zc×List jI×Bool×Int×List zc
def zcE (k:Int):Option zpC:=some ([],[],false,k,[])
theorem zDY {α β:Type} (f:α→β) {xs:List α} {i:Int} {x:α} (h:gx xs i=some x):gx (xs.map f) i=some (f x):=by
 unfold gx at h ⊢
 cases hd:decide (0≤i) with
 | false=>rw[hd] at h; cases h
 | true =>
  rw[hd,cond_true] at h
  rw[cond_true,List.getElem?_map,h]
  rfl
theorem ze7 {α:Type} {xs:List α} {i:Int} {x:α} (h:gx xs i=some x):x∈xs:=by
 unfold gx at h
 cases hd:decide (0≤i) with
 | false=>rw[hd] at h; cases h
 | true =>
  rw[hd,cond_true] at h
  exact List.mem_of_getElem? h
def Cds (r:List Int):Prop:=r.length≤1000∧∀ c∈r,-24≤c∧c≤1000000
theorem Cds.near {r:List Int} (h:Cds r):zcB r:=⟨h.1,fun c hc=>by have:=h.2 c hc; omega⟩
theorem znU {a0:List zi} (hs:SignOk a0) {L:List zc} {T:List jI} {C:List zc} (h:zc4 a0 L T C=true):∀ r∈yr L T C,Cds r:=by
 intro r hr
 have h1:=zlY h r hr
 obtain⟨-,-,-,-,h4,h5,h6,-⟩:=zE h
 have h2:zcB r:=by
  unfold yr at hr
  rcases List.mem_append.1 hr with hr | hr
  ·rcases List.mem_append.1 hr with hr | hr
   ·obtain⟨l,hl,rfl⟩:=List.mem_map.1 hr; exact zeq hs h4 l hl
   ·obtain⟨l,hl,rfl⟩:=List.mem_map.1 hr; exact zeq hs h6 l hl
  ·exact zjQ hs h5 r hr
 exact ⟨h2.1,fun c hc=>⟨h1.2 c hc,(h2.2 c hc).2⟩⟩
theorem zBZ {b:Nat} {r:List Int} (h:Cds r) (hb:∀ x,zsC r x→x+(b:Int)≤23):Cds (r.map (upC (b:Int))):=by
 refine ⟨by rw[List.length_map]; exact h.1,fun c hc => ?_⟩
 obtain⟨d,hd,rfl⟩:=List.mem_map.1 hc
 have h1:=h.2 d hd
 unfold upC
 by_cases h0:d<0
 ·have:=hb (-1 - d) ⟨d,hd,h0,rfl⟩
  rw[decide_eq_true h0,cond_true]; omega
 ·rw[decide_eq_false h0,cond_false]; omega
theorem zAo {a0:List zi} {b:Nat} {ts:List Tm} (h:okR a0 24 ts) (hb:∀ k:Nat,zjo k ts→k+b<24):okR a0 24 (ts.map (Tm.up b)):=by
 have e:ts.map (Tm.up b)=zbo (fun n=>Tm.v (n+b)) ts:=by rw[zic]; rfl
 rw[e]
 exact znQ ts h fun x hx=>hb x hx
theorem zwH (b:Nat) (c:Nat) (ts:List Tm):((c:Int)::zb ts).map (upC (b:Int))=(c:Int)::zb (ts.map (Tm.up b)):=by
 rw[List.map_cons,zqZ]
 unfold upC
 rw[decide_eq_false (show ¬((c:Int)<0) by omega)]
 rfl
theorem zaI {L:List zc} {T:List jI} {C:List zc} {l:zc} (h:l∈L):l.2∈yr L T C:=by
 unfold yr
 exact List.mem_append_left _ (List.mem_append_left _ (List.mem_map_of_mem h))
theorem zb2 {L:List zc} {T:List jI} {C:List zc} {l:zc} (h:l∈C):l.2∈yr L T C:=by
 unfold yr
 exact List.mem_append_left _ (List.mem_append_right _ (List.mem_map_of_mem h))
theorem zcz {L:List zc} {T:List jI} {C:List zc} {r:List Int} (h:r∈T):r∈yr L T C:=by
 unfold yr
 exact List.mem_append_right _ h
theorem zCs {σ:Sb} (hsh:zap σ (List.range 24)=true) {L:List zc} {T:List jI} {C:List zc} (hL:∀ l∈L,Cds l.2) (hT:∀ r∈T,Cds r) (hC:∀ l∈C,Cds l.2) (h1:L.length≤1000) (h2:T.length≤1000) (h3:C.length≤1000) :
  zfw (zdW σ) L T C=some (zcD σ L,T.map (zdo σ),zcD σ C):=by
 rw[zpl (zhN hsh) (fun l hl=>(hL l hl).near) (fun r hr=>(hT r hr).near) (fun l hl=>(hC l hl).near) h1 h2 h3,
  zkD fun l hl c hc=>((hL l hl).2 c hc).1,zkD fun l hl c hc=>((hC l hl).2 c hc).1,zq0 fun r hr c hc=>((hT r hr).2 c hc).1]
def zqA (b:Nat) (T T':List jI):List jI:=T++T'.map (List.map (upC (b:Int)))
def zqb (b:Nat) (C C':List zc):List zc:=C++zgN (b:Int) C'
def zmJ (a0:List zi) (σ:Sb) (L:List zc) (T:List jI) (C:List zc) (k:Int):Option zpC :=
 cond (zc4 a0 (zcD σ L) (T.map (zdo σ)) (zcD σ C)) (some ((zeT (zcD σ L) (T.map (zdo σ)) (zcD σ C)).1,(zeT (zcD σ L) (T.map (zdo σ)) (zcD σ C)).2.1,true,0,(zeT (zcD σ L) (T.map (zdo σ)) (zcD σ C)).2.2)) (zcE k)
end
end Go.Abs.Q
namespace Go.Abs.Q
open Go Go.Abs
section
theorem zdm {a0:List zi}:∀(n:Nat) (ts us:List Tm),za9 ts≤n→okR a0 24 ts→okR a0 24 us→zb ts=zb us→ts=us:=by
 intro n
 induction n with
 | zero =>
  intro ts us hn _ _ he
  cases ts with
  | cons t ts=>have:=t.size_pos; simp only[za9] at hn; omega
  | nil =>
   cases us with
   | nil=>rfl
   | cons u us =>
    have:=congrArg List.length he
    rw[zcs,zcs] at this
    have:=u.size_pos
    simp only[za9] at *; omega
 | succ n ih =>
  intro ts us hn ho ho' he
  cases ts with
  | nil =>
   cases us with
   | nil=>rfl
   | cons u us =>
    have:=congrArg List.length he
    rw[zcs,zcs] at this
    have:=u.size_pos
    simp only[za9] at *; omega
  | cons t ts =>
   cases us with
   | nil =>
    have:=congrArg List.length he
    rw[zcs,zcs] at this
    have:=t.size_pos
    simp only[za9] at *; omega
   | cons u us =>
    have he:t.codes++zb ts=u.codes++zb us:=he
    cases t with
    | v k =>
     cases u with
     | v k' =>
      have he:(-1 - (k:Int))::zb ts=(-1 - (k':Int))::zb us:=he
      injection he with h1 h2
      have:k=k':=by omega
      rw[this,ih ts us (by simp only[za9,Tm.size] at hn; omega) ho.2 ho'.2 h2]
     | f c as =>
      have he:(-1 - (k:Int))::zb ts=(c:Int)::(zb as++zb us):=he
      injection he with h1 h2
      omega
    | f c as =>
     cases u with
     | v k' =>
      have he:(c:Int)::(zb as++zb ts)=(-1 - (k':Int))::zb us:=he
      injection he with h1 h2
      omega
     | f c' bs =>
      have he:(c:Int)::(zb as++zb ts)=(c':Int)::(zb bs++zb us):=he
      injection he with h1 h2
      have hc:c=c':=by omega
      subst hc
      rw[← zdk,← zdk] at h2
      have ha:=ho.1.1
      have hb:=ho'.1.1
      rw[ha] at hb
      injection hb with hb
      have:=ih (as++ts) (bs++us) (by rw[zob]; simp only[za9,Tm.size] at hn; omega)
       (zbQ.2 fun t ht=>(List.mem_append.1 ht).elim (zbQ.1 ho.1.2 t) (zbQ.1 ho.2 t))
       (zbQ.2 fun t ht=>(List.mem_append.1 ht).elim (zbQ.1 ho'.1.2 t) (zbQ.1 ho'.2 t)) h2
      obtain⟨h3,h4⟩:=List.append_inj this hb
      rw[h3,h4]
end
end Go.Abs.Q
namespace Go.Abs.Q
open Go Go.Abs
section
theorem zny {α:Type} [DecidableEq α]:(a b:List α)→a.Nodup→(∀ x∈a,x∈b)→a.length≤b.length
 | [],_,_,_=>Nat.zero_le _
 | x::a,b,hn,hs=>by
  have hn:=List.nodup_cons.1 hn
  have hx:=hs x (List.mem_cons_self ..)
  have h1:∀ y∈a,y∈b.erase x:=fun y hy=>by
   have hne:y≠x:=fun e=>hn.1 (e▸hy)
   exact (List.mem_erase_of_ne hne).2 (hs y (List.mem_cons_of_mem _ hy))
  have h2:=zny a (b.erase x) hn.2 h1
  rw[List.length_erase_of_mem hx] at h2
  have:=List.length_pos_of_mem hx
  simp only[List.length_cons]
  omega
theorem ziL {L:List zc} {i:Int} (h:qX L i=true):∃ l,gx L i=some l:=by
 unfold qX at h
 simp only[Bool.and_eq_true,decide_eq_true_eq] at h
 obtain⟨l,h1,-⟩:=zjA (xs:=L) h.1 h.2
 exact ⟨l,h1⟩
end
end Go.Abs.Q
namespace Go.Abs.Q
open Go Go.Abs
def zfu (rec:(jI×Int×Int)→Option (Unit⊕Bool)) (x:(jI×Int×Int)):Option (Unit⊕Bool) :=
 cond (decide (x.2.2<((List.length x.1:Nat):Int)))
 ((gx x.1 x.2.2).bind fun e2 =>
  cond (e2==(IntKind.wrap .i64 ((-1) - x.2.1)))
  (some (Sum.inr true))
  (rec (x.1,x.2.1,(IntKind.wrap .i64 (x.2.2+1)))))
 (some (Sum.inl ()))
def zpN (a0:jI) (a1:Int):Option Bool :=
 ((lp zfu zd) (a0,a1,0)).bind fun r6 =>
 yd r6
 (fun z7=>some false)
 (fun z8=>some z8)
def zby (rec:(jI×Int×jI)→Option jI) (x:(jI×Int×jI)):Option jI :=
 cond (decide (x.2.1≤23))
 ((zpN x.1 x.2.1).bind fun r3 =>
  cond r3
  (cond (yQ (List.length x.2.2+List.length ([x.2.1]:List Int)) 8)
   (rec (x.1,(IntKind.wrap .i64 (x.2.1+1)),(x.2.2++([x.2.1]:List Int))))
   (none))
  (rec (x.1,(IntKind.wrap .i64 (x.2.1+1)),x.2.2)))
 (some x.2.2)
def zlP (a0:jI):Option jI :=
 ((lp zby zd) (a0,0,([]:jI))).bind fun r5 =>
 some r5
def zb8 (rec:(jR×Int×jI)→Option jI) (x:(jR×Int×jI)):Option jI :=
 cond (decide (x.2.1<((List.length x.1:Nat):Int)))
 ((gx x.1 x.2.1).bind fun e4 =>
  cond (yQ (List.length x.2.2+List.length e4) 8)
  (rec (x.1,(IntKind.wrap .i64 (x.2.1+1)),(x.2.2++e4)))
  (none))
 (some x.2.2)
def zeP (a0:jQ) (a1:jR) (a2:jQ):Option jI :=
 (zho a0 a1 a2).bind fun r7 =>
 ((lp zb8 zd) (r7,0,([]:jI))).bind fun r8 =>
 (zlP r8).bind fun r9 =>
 some r9
def zjh (rec:(jI×Int×Int×Int×jI)→Option Int) (x:(jI×Int×Int×Int×jI)):Option Int :=
 cond (decide (x.2.2.1<((List.length x.1:Nat):Int)))
 ((gx x.1 x.2.2.1).bind fun e2 =>
  rec (x.1,(IntKind.wrap .u64 ((IntKind.wrap .u64 ((IntKind.wrap .u64 (x.2.1*5))+(IntKind.wrap .u64 e2)))+3)),(IntKind.wrap .i64 (x.2.2.1+1)),x.2.2.2.1,x.2.2.2.2))
 (some x.2.1)
def zk7 (a0:Int) (a1:jI) (a2:Int) (a3:jI):Option Int :=
 cond (((List.length a1:Nat):Int)==0)
 (some 0)
 (((lp zjh zd) (a3,(IntKind.wrap .u64 (IntKind.wrap .i64 ((IntKind.wrap .i64 (a2*7))+1))),0,a0,a1)).bind fun r6 =>
  cond (decide ((IntKind.wrap .u64 ((List.length a1:Nat):Int))=0))
  (none)
  ((gx a1 (IntKind.wrap .i64 (Int.tmod r6 (IntKind.wrap .u64 ((List.length a1:Nat):Int))))).bind fun e7 =>
   (zF0 .and .i64 e7 255).bind fun b8 =>
   some b8))
end Go.Abs.Q
namespace Go.Abs.Q
open Go Go.Abs
def zbf (s1:Int):List Int→Option (Unit⊕Bool)
 | []=>some (Sum.inl ())
 | e::es =>
  cond (e==(IntKind.wrap .i64 ((-1) - s1)))
  (some (Sum.inr true))
  (zbf s1 es)
theorem zjN (s0:jI) (s1:Int) (hl:List.length s0≤maxLen):lp zfu zd (s0,s1,0)=zbf s1 s0:=zdC zfu (fun i=>(s0,s1,i)) (fun es i=>zbf s1 es) hl (fun r i h=>by unfold zfu zbf; simp only[h,cond_false]) (fun r i e es h g w k=>by unfold zfu zbf; simp only[h,cond_true,g,Option.bind_some,w,k])
def yP:List jI→jI→Option jI
 | [],s2=>some s2
 | e::es,s2 =>
  cond (yQ (List.length s2+List.length e) 8)
  (yP es (s2++e))
  (none)
theorem zha (s0:jR) (s2:jI) (hl:List.length s0≤maxLen):lp zb8 zd (s0,0,s2)=yP s0 s2:=zaJ zb8 (fun i s2=>(s0,i,s2)) (fun es i s2=>yP es s2) hl (fun r i s2 h=>by unfold zb8 yP; simp only[h,cond_false]) (fun r i s2 e es h g w k=>by unfold zb8 yP; simp only[h,cond_true,g,Option.bind_some,w,k]) s2
end Go.Abs.Q
namespace Go.Abs.Q
open Go Go.Abs
section
def zqP (nums:List Int):Prop:=nums≠[]∧nums.length≤9223372036854775807
def zwY (m:Int) (nums:List Int) (c:Int) (xs:List Int):Int:=(zk7 m nums c xs).getD 0
section
variable (m:Int) (nums:List Int)
mutual
def zwl (env:Nat→Int):Tm→Int
 | .v n=>env n
 | .f c ts=>Int.tmod (zwY m nums (c:Int) (zsA env ts)) m
def zsA (env:Nat→Int):List Tm→List Int
 | []=>[]
 | t::ts=>zwl env t::zsA env ts
end
mutual
theorem zw0 (env:Nat→Int) (s:Sb):(t:Tm)→zwl m nums env (t.sub s)=zwl m nums (fun n=>zwl m nums env (s n)) t
 | .v n=>rfl
 | .f c ts=>by
  show Int.tmod (zwY m nums (c:Int) (zsA m nums env (zbo s ts))) m=_
  rw[zqX env s ts]
  rfl
theorem zqX (env:Nat→Int) (s:Sb):(ts:List Tm)→zsA m nums env (zbo s ts)=zsA m nums (fun n=>zwl m nums env (s n)) ts
 | []=>rfl
 | t::ts=>by
  show zwl m nums env (t.sub s)::zsA m nums env (zbo s ts)=_
  rw[zw0 env s t,zqX env s ts]
  rfl
end
mutual
theorem zwq {e e':Nat→Int}:(t:Tm)→(∀ x,t.has x→e x=e' x)→zwl m nums e t=zwl m nums e' t
 | .v n,h=>h n rfl
 | .f c ts,h=>by
  show Int.tmod (zwY m nums (c:Int) (zsA m nums e ts)) m=Int.tmod (zwY m nums (c:Int) (zsA m nums e' ts)) m
  rw[zqW ts h]
theorem zqW {e e':Nat→Int}:(ts:List Tm)→(∀ x,zjo x ts→e x=e' x)→zsA m nums e ts=zsA m nums e' ts
 | [],_=>rfl
 | t::ts,h=>by
  show zwl m nums e t::zsA m nums e ts=zwl m nums e' t::zsA m nums e' ts
  rw[zwq t fun x hx=>h x (.inl hx),zqW ts fun x hx=>h x (.inr hx)]
end
end
structure EnvOk (m:Int) (E:List Int):Prop where
 len:E.length=24
 rng:∀ x∈E,0≤x∧x<m
def zEC (E:List Int) (n:Nat):Int:=E.getD n 0
theorem EnvOk.get {m:Int} {E:List Int} (h:EnvOk m E) {n:Nat} (hn:n<24):E[n]? = some (zEC E n):=by
 unfold zEC
 rw[List.getD_eq_getElem?_getD,List.getElem?_eq_getElem (by rw[h.len]; exact hn)]
 rfl
theorem EnvOk.val {m:Int} {E:List Int} (h:EnvOk m E) {n:Nat} (hn:n<24):0≤zEC E n∧zEC E n<m:=h.rng _ (List.mem_of_getElem? (h.get hn))
theorem zqL {a0:List zi} (hs:SignOk a0) {c q:Nat} (h:zcf a0 (c:Int)=some q):∃ e,gx a0 (c:Int)=some e∧e.2.2.1=(q:Int):=by
 unfold zcf at h
 rw[decide_eq_false (show ¬(c:Int)<0 by omega),cond_false,Int.toNat_natCast] at h
 cases he:a0[c]? with
 | none=>rw[he] at h; cases h
 | some e =>
  rw[he] at h
  simp only at h
  refine ⟨e,by rw[y5,he],?_⟩
  have:=hs.at he
  cases hk:(e.2.1==0) with
  | true=>rw[hk] at h; cases h
  | false=>rw[hk] at h; injection h with h; omega
end
end Go.Abs.Q
namespace Go.Abs.Q
open Go Go.Abs
section
abbrev zmj:=Bool×Nat×List Tm
def cl (l:zmj):zc:=(l.1,(l.2.1:Int)::zb l.2.2)
def WfL (a0:List zi) (l:zmj):Prop:=okR a0 24 l.2.2∧(∃ e,a0[l.2.1]? = some e∧e.2.1=0∧((l.2.2.length:Nat):Int)=e.2.2.1)∧(zb l.2.2).length≤48
def WfR (a0:List zi) (ts:List Tm):Prop:=okR a0 24 ts∧(zb ts).length≤48
theorem zlX {a0:List zi}:(ls:List zc)→zd1 a0 ls=true→∃ lt:List zmj,ls=lt.map cl∧∀ l∈lt,WfL a0 l
 | [],_=>⟨[],rfl,fun _ h=>(nomatch h)⟩
 | l::ls,h=>by
  unfold zd1 at h
  rw[List.all_cons,Bool.and_eq_true] at h
  obtain⟨lt,h1,h2⟩:=zlX ls h.2
  obtain⟨c,ts,e,h3,h4,h5,h6,h7,h8,-⟩:=zeD h.1
  refine ⟨(l.1,c,ts)::lt,by rw[List.map_cons,← h1]; show l::ls=(l.1,(c:Int)::zb ts)::ls; rw[← h3],fun x hx => ?_⟩
  rcases List.mem_cons.1 hx with rfl | hx
  ·exact ⟨h4,⟨e,h5,h6,h7⟩,h8⟩
  ·exact h2 x hx
theorem zt9 {a0:List zi} {rs:List jI} (h:zgy a0 rs=true):∃ rt:List (List Tm),rs=rt.map zb∧∀ r∈rt,WfR a0 r:=by
 obtain⟨n,hn⟩:=zi2 h
 clear h
 induction rs with
 | nil=>exact ⟨[],rfl,fun _ h=>(nomatch h)⟩
 | cons r rs ih =>
  obtain⟨rt,h1,h2⟩:=ih fun q hq=>hn q (List.mem_cons_of_mem _ hq)
  obtain⟨ps,hc,-,hl,-⟩:=zl9 (hn r (List.mem_cons_self ..))
  obtain⟨ts,h3,-,h4⟩:=zyx hc
  refine ⟨ts::rt,by rw[List.map_cons,← h1,← h4],fun x hx => ?_⟩
  rcases List.mem_cons.1 hx with rfl | hx
  ·exact ⟨h3,by rw[← h4]; exact hl⟩
  ·exact h2 x hx
theorem zxD {a0:List zi} {L:List zc} {T:List jI} {C:List zc} (h:zc4 a0 L T C=true):∃(Lt:List zmj) (Tt:List (List Tm)) (Ct:List zmj),L=Lt.map cl∧T=Tt.map zb∧C=Ct.map cl∧(∀ l∈Lt,WfL a0 l)∧(∀ r∈Tt,WfR a0 r)∧∀ l∈Ct,WfL a0 l:=by
 obtain⟨-,-,-,-,h4,h5,h6,-⟩:=zE h
 obtain⟨Lt,a1,a2⟩:=zlX L h4
 obtain⟨Tt,b1,b2⟩:=zt9 h5
 obtain⟨Ct,c1,c2⟩:=zlX C h6
 exact ⟨Lt,Tt,Ct,a1,b1,c1,a2,b2,c2⟩
section
variable {m:Int} (hm:0<m) {nums:List Int} (hn:zqP nums) {a0:List zi} (hs:SignOk a0) {E:List Int} (hE:EnvOk m E)
include hm hn hs hE
end
theorem EnvOk.set {m:Int} {E:List Int} (h:EnvOk m E) {v:Nat} {x:Int} (hx:0≤x∧x<m):EnvOk m (E.set v x) where
 len:=by rw[List.length_set]; exact h.len
 rng:=fun y hy=>by
  rcases List.mem_or_eq_of_mem_set hy with hy | hy
  ·exact h.rng y hy
  ·rw[hy]; exact hx
end
end Go.Abs.Q
namespace Go.Abs.Q
open Go Go.Abs
section
theorem zBW (v:Nat) (hv:v<24):(es:List Int)→zbf (v:Int) es=some (cond (decide (-1 - (v:Int)∈es)) (.inr true) (.inl ()))
 | []=>rfl
 | e::es=>by
  unfold zbf
  have w:IntKind.wrap .i64 ((-1) - (v:Int)) = -1 - (v:Int):=by rw[zp]<;>omega
  rw[w,zBW v hv es]
  by_cases he:e = -1 - (v:Int)
  ·rw[show (e == -1 - (v:Int))=true from by simp [he],decide_eq_true (show -1 - (v:Int)∈e::es by rw[he]; exact List.mem_cons_self ..)]
   rfl
  ·rw[show (e == -1 - (v:Int))=false from by simp [he],cond_false]
   by_cases hm:(-1 - (v:Int))∈es
   ·rw[decide_eq_true hm,decide_eq_true (List.mem_cons_of_mem _ hm)]
   ·rw[decide_eq_false hm,decide_eq_false fun h=>(List.mem_cons.1 h).elim (fun h=>he h.symm) hm]
theorem zsr {v:Nat} (hv:v<24) {r:List Int} (hl:r.length≤1000000):zpN r (v:Int)=some (decide (-1 - (v:Int)∈r)):=by
 unfold zpN
 rw[zjN _ _ (by unfold maxLen; omega),zBW v hv,Option.bind_some]
 cases decide (-1 - (v:Int)∈r)<;>rfl
def zBu (r:List Int) (v:Nat):Bool:=decide (-1 - (v:Int)∈r)
theorem zoL {r:List Int} (hl:r.length≤1000000):∀(d v k:Nat) (out:List Int),24 - v=d→v≤24→d<k→out.length≤v →
  lp zby k (r,(v:Int),out)=some (out++(((List.range 24).drop v).filter (zBu r)).map fun v:Nat=>(v:Int)):=by
 intro d
 induction d with
 | zero =>
  intro v k out hd hv hk ho
  obtain⟨k,rfl⟩:∃ k',k=k'+1:=⟨k - 1,by omega⟩
  rw[zm]
  generalize lp zby k=rec
  unfold zby
  have:v=24:=by omega
  subst this
  rw[show (List.range 24).drop 24=[] from rfl]
  simp
 | succ d ih =>
  intro v k out hd hv hk ho
  obtain⟨k,rfl⟩:∃ k',k=k'+1:=⟨k - 1,by omega⟩
  rw[zm]
  have key:=fun out ho=>ih (v+1) k out (by omega) (by omega) (by omega) ho
  generalize lp zby k=rec at key ⊢
  unfold zby
  have w:IntKind.wrap .i64 ((v:Int)+1)=((v+1:Nat):Int):=by rw[zp]<;>omega
  have hdr:(List.range 24).drop v=v::(List.range 24).drop (v+1):=by
   rw[List.drop_eq_getElem_cons (by simp; omega)]
   simp
  simp only[decide_eq_true (show (v:Int)≤23 by omega),cond_true,zsr (show v<24 by omega) hl,Option.bind_some,w]
  rw[hdr]
  by_cases hm:(-1 - (v:Int))∈r
  ·rw[decide_eq_true hm,cond_true,zn (by simp; omega),cond_true,key _ (by simp; omega)]
   have:zBu r v=true:=decide_eq_true hm
   rw[List.filter_cons_of_pos this]
   simp
  ·rw[decide_eq_false hm,cond_false,key _ (by omega)]
   have:¬(zBu r v=true):=by unfold zBu; rw[decide_eq_false hm]; simp
   rw[List.filter_cons_of_neg this]
theorem zsE:(es:List jI)→(out:List Int)→out.length+zl es≤1000000→yP es out=some (out++es.flatten)
 | [],out,_=>by simp [yP]
 | e::es,out,h=>by
  rw[zeF] at h
  unfold yP
  rw[zn (by omega),cond_true,zsE es _ (by rw[List.length_append]; omega)]
  simp
def zhS (L:List zc) (T:List jI) (C:List zc):List Nat:=(List.range 24).filter (zBu (L.map (·.2)++T++C.map (·.2)).flatten)
theorem zlJ (L:List zc) (T:List jI) (C:List zc):(zhS L T C).Nodup:=List.nodup_range.sublist List.filter_sublist
theorem ziI {L:List zc} {T:List jI} {C:List zc}:∀ v∈zhS L T C,v<24:=fun v hv=>List.mem_range.1 (List.mem_filter.1 hv).1
theorem zja {L:List zc} {T:List jI} {C:List zc} {v:Nat} (hv:v<24):v∈zhS L T C↔zgA (yr L T C) (v:Int):=by
 unfold zhS zBu
 rw[List.mem_filter]
 simp only[List.mem_range,hv,true_and,decide_eq_true_eq,List.mem_flatten]
 constructor
 ·rintro⟨r,hr,hc⟩
  refine ⟨r,?_,_,hc,by omega,by omega⟩
  unfold yr
  simp only[List.mem_append] at hr ⊢
  rcases hr with (hr | hr) | hr
  ·exact .inl (.inl hr)
  ·exact .inr hr
  ·exact .inl (.inr hr)
 ·rintro⟨r,hr,c,hc,h0,he⟩
  refine ⟨r,?_,by rw[show -1 - (v:Int)=c from by omega]; exact hc⟩
  unfold yr at hr
  simp only[List.mem_append] at hr ⊢
  rcases hr with (hr | hr) | hr
  ·exact .inl (.inl hr)
  ·exact .inr hr
  ·exact .inl (.inr hr)
theorem zfm {L:List zc} {T:List jI} {C:List zc} (h1:L.length≤1000) (h2:T.length≤1000) (h3:C.length≤1000) (hl:zl (L.map (·.2))+zl T+zl (C.map (·.2))≤1000000) :
  zeP L T C=some ((zhS L T C).map fun v:Nat=>(v:Int)):=by
 unfold zeP
 rw[zhm L T C h1 h2 h3,Option.bind_some,zha _ _ (by simp; unfold maxLen; omega),zsE _ _ (by rw[zaF,zaF]; simp; omega),Option.bind_some]
 unfold zlP
 have hf:((L.map (·.2)++T++C.map (·.2)).flatten).length≤1000000:=by
  rw[← zxq,zaF,zaF]; omega
 have:=zoL hf 24 0 zd [] rfl (by omega) (by unfold zd; omega) (by simp)
 rw[show ((0:Nat):Int)=0 from rfl,List.drop_zero] at this
 simp only[List.nil_append] at this ⊢
 rw[this]
 rfl
def zzq (L:List zmj) (T:List (List Tm)) (C:List zmj) (x:Nat):Prop:=(∃ l∈L,zjo x l.2.2)∨(∃ r∈T,zjo x r)∨∃ l∈C,zjo x l.2.2
theorem znY {l:zmj} {x:Nat}:zsC (cl l).2 (x:Int)↔zjo x l.2.2:=by
 constructor
 ·rintro⟨c,hc,h0,he⟩
  rcases List.mem_cons.1 hc with rfl | hc
  ·omega
  ·obtain⟨k,h1,h2⟩:=zfH.1 ⟨c,hc,h0,he⟩
   have:x=k:=by omega
   rw[this]; exact h2
 ·intro h
  obtain⟨c,hc,h0,he⟩:=zfH.2 ⟨x,rfl,h⟩
  exact ⟨c,List.mem_cons_of_mem _ hc,h0,he⟩
theorem zk8 {L:List zmj} {T:List (List Tm)} {C:List zmj} {x:Nat}:zgA (yr (L.map cl) (T.map zb) (C.map cl)) (x:Int)↔zzq L T C x:=by
 unfold yr zzq
 rw[zch,zch]
 constructor
 ·rintro ((⟨r,hr,h⟩ | ⟨r,hr,h⟩) | ⟨r,hr,h⟩)
  ·obtain⟨q,hq,rfl⟩:=List.mem_map.1 hr
   obtain⟨l,hl,rfl⟩:=List.mem_map.1 hq
   exact .inl ⟨l,hl,znY.1 h⟩
  ·obtain⟨q,hq,rfl⟩:=List.mem_map.1 hr
   obtain⟨l,hl,rfl⟩:=List.mem_map.1 hq
   exact .inr (.inr ⟨l,hl,znY.1 h⟩)
  ·obtain⟨l,hl,rfl⟩:=List.mem_map.1 hr
   obtain⟨k,h1,h2⟩:=zfH.1 h
   have:x=k:=by omega
   exact .inr (.inl ⟨l,hl,by rw[this]; exact h2⟩)
 ·rintro (⟨l,hl,h⟩ | ⟨r,hr,h⟩ | ⟨l,hl,h⟩)
  ·exact .inl (.inl ⟨_,List.mem_map_of_mem (List.mem_map_of_mem hl),znY.2 h⟩)
  ·exact .inr ⟨_,List.mem_map_of_mem hr,zfH.2 ⟨x,rfl,h⟩⟩
  ·exact .inl (.inr ⟨_,List.mem_map_of_mem (List.mem_map_of_mem hl),znY.2 h⟩)
end
end Go.Abs.Q
namespace Go.Abs.Q
open Go Go.Abs
section
abbrev zmT:=List Int×Int
def rho (s:zmT) (v:Nat):Nat:=(s.1.getD v 0).toNat - 1
structure RenI (s:zmT):Prop where
 len:s.1.length=24
 rng:∀ v,0≤s.1.getD v 0∧s.1.getD v 0≤s.2
 inj:∀ v w,s.1.getD v 0=s.1.getD w 0→s.1.getD v 0≠0→v=w
 cnt:((s.1.countP (fun x=>x != 0):Nat):Int)=s.2
def ExtS (s s':zmT):Prop:=∀ v,s.1.getD v 0≠0→s'.1.getD v 0=s.1.getD v 0
theorem ExtS.refl (s:zmT):ExtS s s:=fun _ _=>rfl
theorem ExtS.trans {s t u:zmT} (h:ExtS s t) (h':ExtS t u):ExtS s u:=fun v hv=>(h' v (by rw[h v hv]; exact hv)).trans (h v hv)
theorem RenI.next {s:zmT} (h:RenI s):0≤s.2∧s.2≤24:=by
 have h1:=h.cnt
 have h2:s.1.countP (fun x=>x != 0)≤s.1.length:=List.countP_le_length
 rw[h.len] at h2
 omega
theorem RenI.rho_lt {s:zmT} (h:RenI s) {v:Nat} (hv:s.1.getD v 0≠0):rho s v<24:=by
 have h1:=h.rng v
 have h2:=h.next
 unfold rho
 omega
theorem RenI.rho_inj {s:zmT} (h:RenI s) {v w:Nat} (hv:s.1.getD v 0≠0) (hw:s.1.getD w 0≠0) (he:rho s v=rho s w):v=w:=by
 have h1:=h.rng v
 have h2:=h.rng w
 unfold rho at he
 exact h.inj v w (by omega) hv
theorem zFn:RenI (List.replicate 24 (0:Int),0) where
 len:=by simp
 rng:=fun v=>by
  rw[List.getD_eq_getElem?_getD,List.getElem?_replicate]
  split<;>simp
 inj:=fun v w _ h=>by
  exfalso
  apply h
  rw[List.getD_eq_getElem?_getD,List.getElem?_replicate]
  split<;>rfl
 cnt:=by decide
theorem zrN {xs:List Int} {v:Nat} {y:Int} (hv:xs[v]? = some 0) (hy:y≠0):(xs.set v y).countP (fun x=>x != 0)=xs.countP (fun x=>x != 0)+1:=by
 obtain⟨hx,he⟩:=List.getElem?_eq_some_iff.1 hv
 have h1:=List.take_append_drop v xs
 have h2:xs.drop v=0::xs.drop (v+1):=by rw[List.drop_eq_getElem_cons hx,he]
 have h3:xs.set v y=xs.take v++y::xs.drop (v+1):=by rw[List.set_eq_take_append_cons_drop,if_pos hx]
 conv=>rhs; rw[← h1,h2]
 rw[h3]
 simp [List.countP_append,List.countP_cons,hy]
 omega
theorem zdu {xs:List Int} {v w:Nat} {y:Int} (hv:v<xs.length):(xs.set v y).getD w 0=if w=v then y else xs.getD w 0:=by
 rw[List.getD_eq_getElem?_getD,List.getD_eq_getElem?_getD]
 by_cases h:w=v
 ·subst h; rw[List.getElem?_set_self hv,if_pos rfl]; rfl
 ·rw[List.getElem?_set_ne (Ne.symm h),if_neg h]
theorem zoC {s:zmT} (h:RenI s) {c:Int} (hc : -24≤c):RenI (zkL s c).2∧ExtS s (zkL s c).2∧(c<0→(zkL s c).2.1.getD (-1 - c).toNat 0≠0)∧∀ f,ExtS (zkL s c).2 f→[(zkL s c).1]=zgz (fun v=>.v (rho f v)) c:=by
 unfold zkL
 by_cases h0:c≥0
 ·rw[decide_eq_true h0,cond_true]
  refine ⟨h,ExtS.refl s,fun h1=>by omega,fun f _ => ?_⟩
  unfold zgz
  rw[if_neg (by omega)]
 ·rw[decide_eq_false h0,cond_false]
  have hv:(-1 - c).toNat<s.1.length:=by rw[h.len]; omega
  have hexp:∀ f:zmT,zgz (fun v=>.v (rho f v)) c=[-1 - ((rho f (-1 - c).toNat:Nat):Int)]:=fun f=>by
   unfold zgz
   rw[if_pos (by omega)]
   rfl
  by_cases hz:s.1.getD (-1 - c).toNat 0=0
  ·rw[show (s.1.getD (-1 - c).toNat 0==0)=true from by rw[hz]; rfl,cond_true]
   have hn:=h.next
   have hget:s.1[(-1 - c).toNat]? = some 0:=by
    rw[List.getD_eq_getElem?_getD,List.getElem?_eq_getElem hv] at hz
    rw[List.getElem?_eq_getElem hv]
    exact congrArg some hz
   refine ⟨⟨by simpa using h.len,fun v => ?_,fun v w he hnz => ?_,?_⟩,fun v hvz => ?_,fun _ => ?_,fun f hf => ?_⟩
   ·show 0≤(s.1.set _ _).getD v 0∧(s.1.set _ _).getD v 0≤s.2+1
    rw[zdu hv]
    have:=h.rng v
    split<;>omega
   ·have he:(s.1.set (-1 - c).toNat (s.2+1)).getD v 0=(s.1.set (-1 - c).toNat (s.2+1)).getD w 0:=he
    have hnz:(s.1.set (-1 - c).toNat (s.2+1)).getD v 0≠0:=hnz
    rw[zdu hv] at he hnz
    rw[zdu hv] at he
    have h1:=h.rng v
    have h2:=h.rng w
    by_cases e1:v=(-1 - c).toNat
    ·rw[if_pos e1] at he hnz
     by_cases e2:w=(-1 - c).toNat
     ·rw[e1,e2]
     ·rw[if_neg e2] at he; omega
    ·rw[if_neg e1] at he hnz
     by_cases e2:w=(-1 - c).toNat
     ·rw[if_pos e2] at he; omega
     ·rw[if_neg e2] at he
      exact h.inj v w he hnz
   ·show (((s.1.set (-1 - c).toNat (s.2+1)).countP (fun x=>x != 0):Nat):Int)=s.2+1
    rw[zrN hget (by omega),← h.cnt]
    omega
   ·show (s.1.set _ _).getD v 0=_
    rw[zdu hv]
    split
    ·rename_i e; rw[e,hz] at hvz; exact absurd rfl hvz
    ·rfl
   ·show (s.1.set _ _).getD _ 0≠0
    rw[zdu hv,if_pos rfl]
    omega
   ·rw[hexp]
    have hf2:=hf (-1 - c).toNat (by
     show (s.1.set _ _).getD _ 0≠0
     rw[zdu hv,if_pos rfl]
     omega)
    have hf2:f.1.getD (-1 - c).toNat 0=(s.1.set (-1 - c).toNat (s.2+1)).getD (-1 - c).toNat 0:=hf2
    rw[zdu hv,if_pos rfl] at hf2
    unfold rho
    rw[hf2]
    show [-(s.2+1)]=_
    congr 1
    omega
  ·rw[show (s.1.getD (-1 - c).toNat 0==0)=false from by simpa using hz,cond_false]
   refine ⟨h,ExtS.refl s,fun _=>hz,fun f hf => ?_⟩
   rw[hexp]
   have hf2:f.1.getD (-1 - c).toNat 0=s.1.getD (-1 - c).toNat 0:=hf _ hz
   have:=h.rng (-1 - c).toNat
   unfold rho
   rw[hf2]
   show [-(s.1.getD (-1 - c).toNat 0)]=_
   congr 1
   omega
theorem zgW:(r:List Int)→{s:zmT}→RenI s→(∀ c∈r,-24≤c)→RenI (zd4 s r).2∧ExtS s (zd4 s r).2∧(∀ x,zsC r x→(zd4 s r).2.1.getD x.toNat 0≠0)∧∀ f,ExtS (zd4 s r).2 f→(zd4 s r).1=zdo (fun v=>.v (rho f v)) r
 | [],s,h,_=>⟨h,ExtS.refl s,fun x ⟨c,hc,_⟩=>(nomatch hc),fun _ _=>rfl⟩
 | c::r,s,h,hc=>by
  obtain⟨h1,h2,h3,h4⟩:=zoC h (hc c (List.mem_cons_self ..))
  obtain⟨g1,g2,g3,g4⟩:=zgW r h1 fun d hd=>hc d (List.mem_cons_of_mem _ hd)
  refine ⟨g1,h2.trans g2,fun x ⟨d,hd,hd0,hx⟩ => ?_,fun f hf => ?_⟩
  ·rcases List.mem_cons.1 hd with rfl | hd
   ·subst hx
    show (zd4 (zkL s d).2 r).2.1.getD (-1 - d).toNat 0≠0
    rw[g2 _ (h3 hd0)]
    exact h3 hd0
   ·exact g3 x ⟨d,hd,hd0,hx⟩
  ·have hf:ExtS (zd4 (zkL s c).2 r).2 f:=hf
   show (zkL s c).1::(zd4 (zkL s c).2 r).1=_
   unfold zdo
   rw[List.flatMap_cons,← h4 f (g2.trans hf),g4 f hf]
   rfl
theorem zfz:(ls:List zc)→{s:zmT}→RenI s→(∀ l∈ls,∀ c∈l.2,-24≤c)→RenI (zaN s ls).2∧ExtS s (zaN s ls).2∧(∀ x,zgA (ls.map (·.2)) x→(zaN s ls).2.1.getD x.toNat 0≠0)∧∀ f,ExtS (zaN s ls).2 f→(zaN s ls).1=zcD (fun v=>.v (rho f v)) ls
 | [],s,h,_=>⟨h,ExtS.refl s,fun x ⟨c,hc,_⟩=>(nomatch hc),fun _ _=>rfl⟩
 | l::ls,s,h,hc=>by
  obtain⟨h1,h2,h3,h4⟩:=zgW l.2 h (hc l (List.mem_cons_self ..))
  obtain⟨g1,g2,g3,g4⟩:=zfz ls h1 fun d hd=>hc d (List.mem_cons_of_mem _ hd)
  refine ⟨g1,h2.trans g2,fun x hx => ?_,fun f hf => ?_⟩
  ·rw[List.map_cons,zjl] at hx
   rcases hx with hx | hx
   ·show (zaN (zd4 s l.2).2 ls).2.1.getD x.toNat 0≠0
    rw[g2 _ (h3 x hx)]
    exact h3 x hx
   ·exact g3 x hx
  ·have hf:ExtS (zaN (zd4 s l.2).2 ls).2 f:=hf
   show (l.1,(zd4 s l.2).1)::(zaN (zd4 s l.2).2 ls).1=_
   rw[h4 f (g2.trans hf),g4 f hf]
   rfl
theorem zjI:(ls:List jI)→{s:zmT}→RenI s→(∀ l∈ls,∀ c∈l,-24≤c)→RenI (zcA s ls).2∧ExtS s (zcA s ls).2∧(∀ x,zgA ls x→(zcA s ls).2.1.getD x.toNat 0≠0)∧∀ f,ExtS (zcA s ls).2 f→(zcA s ls).1=ls.map (zdo (fun v=>.v (rho f v)))
 | [],s,h,_=>⟨h,ExtS.refl s,fun x ⟨c,hc,_⟩=>(nomatch hc),fun _ _=>rfl⟩
 | l::ls,s,h,hc=>by
  obtain⟨h1,h2,h3,h4⟩:=zgW l h (hc l (List.mem_cons_self ..))
  obtain⟨g1,g2,g3,g4⟩:=zjI ls h1 fun d hd=>hc d (List.mem_cons_of_mem _ hd)
  refine ⟨g1,h2.trans g2,fun x hx => ?_,fun f hf => ?_⟩
  ·rw[zjl] at hx
   rcases hx with hx | hx
   ·show (zcA (zd4 s l).2 ls).2.1.getD x.toNat 0≠0
    rw[g2 _ (h3 x hx)]
    exact h3 x hx
   ·exact g3 x hx
  ·have hf:ExtS (zcA (zd4 s l).2 ls).2 f:=hf
   show (zd4 s l).1::(zcA (zd4 s l).2 ls).1=_
   rw[h4 f (g2.trans hf),g4 f hf]
   rfl
theorem zwa {L:List zc} {T:List jI} {C:List zc} (hc:∀ r∈yr L T C,∀ c∈r,-24≤c):∃ ρ:Nat→Nat,
  zeT L T C=(zcD (fun v=>.v (ρ v)) (zK L []),(zK T []).map (zdo (fun v=>.v (ρ v))),zcD (fun v=>.v (ρ v)) (zK C [])) ∧
  (∀ x,zgA (yr L T C) x→ρ x.toNat<24)∧∀ x y,zgA (yr L T C) x→zgA (yr L T C) y→ρ x.toNat=ρ y.toNat→x.toNat=y.toNat:=by
 have mL:∀ l,l∈zK L []↔l∈L:=fun l=>by simpa using qJ (x:=l) L []
 have mT:∀ l,l∈zK T []↔l∈T:=fun l=>by simpa using qJ (x:=l) T []
 have mC:∀ l,l∈zK C []↔l∈C:=fun l=>by simpa using qJ (x:=l) C []
 obtain⟨a1,a2,a3,a4⟩:=zfz (zK L []) zFn fun l hl=>hc _ (zaI ((mL l).1 hl))
 obtain⟨b1,b2,b3,b4⟩:=zjI (zK T []) a1 fun l hl=>hc _ (zcz ((mT l).1 hl))
 obtain⟨c1,c2,c3,c4⟩:=zfz (zK C []) b1 fun l hl=>hc _ (zb2 ((mC l).1 hl))
 have nz:∀ x,zgA (yr L T C) x→(zaN (zcA (zaN (List.replicate 24 0,0) (zK L [])).2 (zK T [])).2 (zK C [])).2.1.getD x.toNat 0≠0:=by
  intro x hx
  unfold yr at hx
  rw[zch,zch] at hx
  rcases hx with (⟨r,hr,hx⟩ | ⟨r,hr,hx⟩) | ⟨r,hr,hx⟩
  ·obtain⟨l,hl,rfl⟩:=List.mem_map.1 hr
   have:=a3 x ⟨_,List.mem_map_of_mem ((mL l).2 hl),hx⟩
   rw[c2 _ (by rw[b2 _ this]; exact this),b2 _ this]
   exact this
  ·obtain⟨l,hl,rfl⟩:=List.mem_map.1 hr
   exact c3 x ⟨_,List.mem_map_of_mem ((mC l).2 hl),hx⟩
  ·have:=b3 x ⟨_,(mT r).2 hr,hx⟩
   rw[c2 _ this]
   exact this
 refine ⟨rho (zaN (zcA (zaN (List.replicate 24 0,0) (zK L [])).2 (zK T [])).2 (zK C [])).2,?_,fun x hx=>c1.rho_lt (nz x hx),fun x y hx hy he=>c1.rho_inj (nz x hx) (nz y hy) he⟩
 unfold zeT zCQ
 rw[a4 _ (b2.trans c2),b4 _ c2,c4 _ (ExtS.refl _)]
def zjV (s:Sb) (l:zmj):zmj:=(l.1,l.2.1,zbo s l.2.2)
theorem znP (s:Sb) (ls:List zmj):zcD s (ls.map cl)=(ls.map (zjV s)).map cl:=by
 unfold zcD
 rw[List.map_map,List.map_map]
 refine List.map_congr_left fun l _ => ?_
 show (l.1,zdo s ((l.2.1:Int)::zb l.2.2))=(l.1,(l.2.1:Int)::zb (zbo s l.2.2))
 rw[zer]
 unfold zdo
 rw[List.flatMap_cons]
 have:zgz s (l.2.1:Int)=[(l.2.1:Int)]:=by unfold zgz; rw[if_neg (by omega)]
 rw[this]
 rfl
theorem zk3 (s:Sb) (rs:List (List Tm)):(rs.map zb).map (zdo s)=(rs.map (zbo s)).map zb:=by
 rw[List.map_map,List.map_map]
 refine List.map_congr_left fun r _ => ?_
 show zdo s (zb r)=zb (zbo s r)
 rw[zer]
 rfl
end
end Go.Abs.Q
namespace Go.Abs.Q
open Go Go.Abs
section
theorem znb {a0:List zi} (hb:zcC a0=true) {ts:List Tm} (h:WfR a0 ts):zgG a0 (zb ts)=some ts.length:=by
 unfold zgG zbd
 rw[hb,decide_eq_true h.2,yp ts h.1]
 simp
theorem zw8 {a0:List zi} {rs:List jI} {n:Nat} (h:∀ r∈rs,zgG a0 r=some n):zgy a0 rs=true:=by
 cases rs with
 | nil=>rfl
 | cons r rs =>
  unfold zgy
  show (match zgG a0 r with | none=>false | some n=>rs.all fun q=>zgG a0 q==some n)=true
  rw[h r (List.mem_cons_self ..)]
  exact List.all_eq_true.2 fun q hq=>by rw[h q (List.mem_cons_of_mem _ hq)]; simp
theorem zmC {a0:List zi} (hb:zcC a0=true) {l:zmj} (h:WfL a0 l):qz a0 (cl l).2=true:=by
 obtain⟨h1,⟨e,h2,h3,h4⟩,h5⟩:=h
 exact zxc h1 h2 h3 h4 h5 hb
theorem zy8 {a0:List zi} {l k:zmj} (hl:WfL a0 l) (hk:WfL a0 k) (h:cl l=cl k):l=k:=by
 obtain⟨n,c,ts⟩:=l
 obtain⟨n',c',us⟩:=k
 have h:((n,(c:Int)::zb ts):zc)=(n',(c':Int)::zb us):=h
 injection h with h1 h2
 injection h2 with h2 h3
 have h3:=zdm _ ts us (Nat.le_refl _) hl.1 hk.1 h3
 have:c=c':=by omega
 rw[h1,this,h3]
theorem zjc {α β:Type} (f:α→β) {as:List α}:(bs:List β)→(∀ b∈bs,b∈as.map f)→∃ as':List α,bs=as'.map f∧∀ a∈as',a∈as
 | [],_=>⟨[],rfl,fun _ h=>(nomatch h)⟩
 | b::bs,h=>by
  obtain⟨as',h1,h2⟩:=zjc f bs fun x hx=>h x (List.mem_cons_of_mem _ hx)
  obtain⟨a,ha,rfl⟩:=List.mem_map.1 (h b (List.mem_cons_self ..))
  refine ⟨a::as',by rw[List.map_cons,← h1],fun x hx => ?_⟩
  rcases List.mem_cons.1 hx with rfl | hx
  ·exact ha
  ·exact h2 x hx
theorem zfR {α:Type} [DecidableEq α] (f:α→Nat):(es out:List α)→((zK es out).map f).sum≤(out.map f).sum+(es.map f).sum
 | [],out=>by simp [zK]
 | e::es,out=>by
  unfold zK
  by_cases h:e∈out
  ·rw[decide_eq_true h,cond_true]
   have:=zfR f es out
   simp only[List.map_cons,List.sum_cons]
   omega
  ·rw[decide_eq_false h,cond_false]
   have:=zfR f es (out++[e])
   simp only[List.map_cons,List.sum_cons,List.map_append,List.sum_append,List.map_nil,List.sum_nil] at this ⊢
   omega
abbrev vS (ρ:Nat→Nat):Sb:=fun v=>.v (ρ v)
theorem zul (ρ:Nat→Nat) (r:List Int):(zdo (vS ρ) r).length=r.length:=by
 unfold zdo
 induction r with
 | nil=>rfl
 | cons c r ih =>
  rw[List.flatMap_cons,List.length_append,ih,List.length_cons]
  unfold zgz
  split
  ·simp [Tm.codes]; omega
  ·simp; omega
theorem zyc {a0:List zi} {ρ:Nat→Nat} {ts:List Tm} (h:WfR a0 ts) (hρ:∀ x,zjo x ts→ρ x<24):WfR a0 (zbo (vS ρ) ts):=by
 refine ⟨znQ ts h.1 fun x hx=>hρ x hx,?_⟩
 rw[zer]
 have:=zul ρ (zb ts)
 unfold zdo at this
 rw[this]
 exact h.2
theorem zyb {a0:List zi} {ρ:Nat→Nat} {l:zmj} (h:WfL a0 l) (hρ:∀ x,zjo x l.2.2→ρ x<24):WfL a0 (zjV (vS ρ) l):=by
 obtain⟨h1,⟨e,h2,h3,h4⟩,h5⟩:=h
 have:=zyc (a0:=a0) ⟨h1,h5⟩ hρ
 exact ⟨this.1,⟨e,h2,h3,by show (((zbo (vS ρ) l.2.2).length:Nat):Int)=_; rw[zgf]; exact h4⟩,this.2⟩
theorem zqF {a0:List zi} {L:List zmj} {T:List (List Tm)} {C:List zmj} (hmay:zc4 a0 (L.map cl) (T.map zb) (C.map cl)=true) (hL:∀ l∈L,WfL a0 l) (hT:∀ r∈T,WfR a0 r) (hC:∀ l∈C,WfL a0 l) :
  ∃(L1:List zmj) (T1:List (List Tm)) (C1:List zmj) (ρ:Nat→Nat),zeT (L.map cl) (T.map zb) (C.map cl)=((L1.map (zjV (vS ρ))).map cl,(T1.map (zbo (vS ρ))).map zb,(C1.map (zjV (vS ρ))).map cl)∧(∀ l∈L1.map (zjV (vS ρ)),WfL a0 l)∧(∀ r∈T1.map (zbo (vS ρ)),WfR a0 r)∧(∀ l∈C1.map (zjV (vS ρ)),WfL a0 l) ∧
   zc4 a0 ((L1.map (zjV (vS ρ))).map cl) ((T1.map (zbo (vS ρ))).map zb) ((C1.map (zjV (vS ρ))).map cl)=true∧(∀ x,zzq L T C x→ρ x<24)∧(∀ x y,zzq L T C x→zzq L T C y→ρ x=ρ y→x=y)∧(∀ x,zzq (L1.map (zjV (vS ρ))) (T1.map (zbo (vS ρ))) (C1.map (zjV (vS ρ))) x↔∃ y,zzq L T C y∧ρ y=x) ∧
   (∀ l,l∈L1↔l∈L)∧(∀ l,l∈T1↔l∈T)∧∀ l,l∈C1↔l∈C:=by
 obtain⟨hsb,g1,g2,g3,g4,g5,g6,g7⟩:=zE hmay
 obtain⟨ρ,hn,hr1,hr2⟩:=zwa (L:=L.map cl) (T:=T.map zb) (C:=C.map cl) fun r hr c hc=>(zlY hmay r hr).2 c hc
 have hρ:∀ x,zzq L T C x→ρ x<24:=fun x hx=>by
  have:=hr1 x (zk8.2 hx)
  rwa [Int.toNat_natCast] at this
 have mL:∀ l,l∈zK (L.map cl) []↔l∈L.map cl:=fun l=>by simpa using qJ (x:=l) (L.map cl) []
 have mT:∀ l,l∈zK (T.map zb) []↔l∈T.map zb:=fun l=>by simpa using qJ (x:=l) (T.map zb) []
 have mC:∀ l,l∈zK (C.map cl) []↔l∈C.map cl:=fun l=>by simpa using qJ (x:=l) (C.map cl) []
 obtain⟨L1,eL,sL⟩:=zjc cl (zK (L.map cl) []) fun b hb=>(mL b).1 hb
 obtain⟨T1,eT,sT⟩:=zjc zb (zK (T.map zb) []) fun b hb=>(mT b).1 hb
 obtain⟨C1,eC,sC⟩:=zjc cl (zK (C.map cl) []) fun b hb=>(mC b).1 hb
 have bL:∀ l,l∈L1↔l∈L:=fun l=>⟨sL l,fun hl=>by
  have h1:=(mL (cl l)).2 (List.mem_map_of_mem hl)
  rw[eL] at h1
  obtain⟨k,hk,he⟩:=List.mem_map.1 h1
  rw[← zy8 (hL k (sL k hk)) (hL l hl) he]
  exact hk⟩
 have bC:∀ l,l∈C1↔l∈C:=fun l=>⟨sC l,fun hl=>by
  have h1:=(mC (cl l)).2 (List.mem_map_of_mem hl)
  rw[eC] at h1
  obtain⟨k,hk,he⟩:=List.mem_map.1 h1
  rw[← zy8 (hC k (sC k hk)) (hC l hl) he]
  exact hk⟩
 have bT:∀ l,l∈T1↔l∈T:=fun l=>⟨sT l,fun hl=>by
  have h1:=(mT (zb l)).2 (List.mem_map_of_mem hl)
  rw[eT] at h1
  obtain⟨k,hk,he⟩:=List.mem_map.1 h1
  rw[← zdm _ k l (Nat.le_refl _) (hT k (sT k hk)).1 (hT l hl).1 he]
  exact hk⟩
 have wL:∀ l∈L1.map (zjV (vS ρ)),WfL a0 l:=fun l hl=>by
  obtain⟨k,hk,rfl⟩:=List.mem_map.1 hl
  exact zyb (hL k (sL k hk)) fun x hx=>hρ x (.inl ⟨k,sL k hk,hx⟩)
 have wC:∀ l∈C1.map (zjV (vS ρ)),WfL a0 l:=fun l hl=>by
  obtain⟨k,hk,rfl⟩:=List.mem_map.1 hl
  exact zyb (hC k (sC k hk)) fun x hx=>hρ x (.inr (.inr ⟨k,sC k hk,hx⟩))
 have wT:∀ l∈T1.map (zbo (vS ρ)),WfR a0 l:=fun l hl=>by
  obtain⟨k,hk,rfl⟩:=List.mem_map.1 hl
  exact zyc (hT k (sT k hk)) fun x hx=>hρ x (.inr (.inl ⟨k,sT k hk,hx⟩))
 have lL:L1.length≤5:=by
  have h1:=congrArg List.length eL
  have h2:=zaH (L.map cl) []
  rw[List.length_map] at h1 h2 g1
  simp at h2; omega
 have lT:T1.length≤3:=by
  have h1:=congrArg List.length eT
  have h2:=zaH (T.map zb) []
  rw[List.length_map] at h1 h2 g2
  simp at h2; omega
 have lC:C1.length≤3:=by
  have h1:=congrArg List.length eC
  have h2:=zaH (C.map cl) []
  rw[List.length_map] at h1 h2 g3
  simp at h2; omega
 refine ⟨L1,T1,C1,ρ,?_,wL,wT,wC,?_,hρ,fun x y hx hy he => ?_,fun x => ?_,bL,bT,bC⟩
 ·rw[hn,eL,eT,eC,znP,zk3,znP]
 ·refine zAn hsb (by simpa using lL) (by simpa using lT) (by simpa using lC) ?_ ?_ ?_ ?_
  ·refine List.all_eq_true.2 fun l hl => ?_
   obtain⟨k,hk,rfl⟩:=List.mem_map.1 hl
   exact zmC hsb (wL k hk)
  ·obtain⟨n,hw⟩:=zi2 g5
   refine zw8 (n:=n) fun r hr => ?_
   obtain⟨k,hk,rfl⟩:=List.mem_map.1 hr
   rw[znb hsb (wT k hk)]
   obtain⟨j,hj,rfl⟩:=List.mem_map.1 hk
   rw[zgf]
   have:=hw (zb j) (List.mem_map_of_mem (sT j hj))
   rwa [znb hsb (hT j (sT j hj))] at this
  ·refine List.all_eq_true.2 fun l hl => ?_
   obtain⟨k,hk,rfl⟩:=List.mem_map.1 hl
   exact zmC hsb (wC k hk)
  ·have sumL:∀(X X1:List zmj),zK (X.map cl) []=X1.map cl→zl (((X1.map (zjV (vS ρ))).map cl).map (·.2))≤zl ((X.map cl).map (·.2)):=by
    intro X X1 he
    rw[← znP]
    have h1:(zcD (vS ρ) (X1.map cl)).map (·.2.length)=(X1.map cl).map (·.2.length):=by
     unfold zcD
     rw[List.map_map]
     exact List.map_congr_left fun l _=>zul ρ l.2
    unfold zl
    rw[List.map_map,List.map_map]
    have h2:=zfR (fun l:zc=>l.2.length) (X.map cl) []
    rw[he] at h2
    have h3:List.map (List.length ∘ fun x=>x.2) (zcD (vS ρ) (X1.map cl))=(X1.map cl).map (·.2.length):=h1
    rw[h3]
    have h4:(([]:List zc).map (fun l:zc=>l.2.length)).sum=0:=rfl
    have h5:List.map (List.length ∘ fun x=>x.2) (X.map cl)=(X.map cl).map (fun l:zc=>l.2.length):=rfl
    rw[h4,Nat.zero_add] at h2
    exact h2
   have sumT:zl ((T1.map (zbo (vS ρ))).map zb)≤zl (T.map zb):=by
    rw[← zk3]
    have h2:=zfR List.length (T.map zb) []
    rw[eT] at h2
    unfold zl
    rw[List.map_map]
    have h3:List.map (List.length ∘ zdo (vS ρ)) (T1.map zb)=(T1.map zb).map List.length:=List.map_congr_left fun r _=>zul ρ r
    rw[h3]
    simpa using h2
   have h1:=sumL L L1 eL
   have h2:=sumL C C1 eC
   omega
 ·have:=hr2 x y (zk8.2 hx) (zk8.2 hy) (by rw[Int.toNat_natCast,Int.toNat_natCast]; exact he)
  rwa [Int.toNat_natCast,Int.toNat_natCast] at this
 ·constructor
  ·rintro (⟨l,hl,hx⟩ | ⟨r,hr,hx⟩ | ⟨l,hl,hx⟩)
   ·obtain⟨k,hk,rfl⟩:=List.mem_map.1 hl
    obtain⟨y,hy,he⟩:=(zfd k.2.2).1 hx
    exact ⟨y,.inl ⟨k,sL k hk,hy⟩,he⟩
   ·obtain⟨k,hk,rfl⟩:=List.mem_map.1 hr
    obtain⟨y,hy,he⟩:=(zfd k).1 hx
    exact ⟨y,.inr (.inl ⟨k,sT k hk,hy⟩),he⟩
   ·obtain⟨k,hk,rfl⟩:=List.mem_map.1 hl
    obtain⟨y,hy,he⟩:=(zfd k.2.2).1 hx
    exact ⟨y,.inr (.inr ⟨k,sC k hk,hy⟩),he⟩
  ·rintro⟨y,⟨l,hl,hy⟩ | ⟨r,hr,hy⟩ | ⟨l,hl,hy⟩,he⟩
   ·exact .inl ⟨_,List.mem_map_of_mem ((bL l).2 hl),(zfd l.2.2).2 ⟨y,hy,he⟩⟩
   ·exact .inr (.inl ⟨_,List.mem_map_of_mem ((bT r).2 hr),(zfd r).2 ⟨y,hy,he⟩⟩)
   ·exact .inr (.inr ⟨_,List.mem_map_of_mem ((bC l).2 hl),(zfd l.2.2).2 ⟨y,hy,he⟩⟩)
end
end Go.Abs.Q
namespace Go.Abs.Q
open Go Go.Abs
section
mutual
theorem Tm.sub_id:(t:Tm)→t.sub (fun n=>Tm.v n)=t
 | .v n=>rfl
 | .f c as=>by rw[Tm.sub,zvT as]
theorem zvT:(ts:List Tm)→zbo (fun n=>Tm.v n) ts=ts
 | []=>rfl
 | t::ts=>by rw[zbo,Tm.sub_id t,zvT ts]
end
section
variable {m:Nat} (hm:0<m) (hm3:m≤3) {nums:List Int} (hn:zqP nums) {a0:List zi} (hs:SignOk a0)
include hm hm3 hn hs
end
end
end Go.Abs.Q
namespace Go.Abs.Q
open Go Go.Abs
section
section
variable {m:Nat} (hm:0<m) (hm3:m≤3) {nums:List Int} (hn:zqP nums) {a0:List zi} (hs:SignOk a0)
include hm hm3 hn hs
end
end
end Go.Abs.Q
namespace Go.Abs.Q
open Go Go.Abs
section
theorem znL {α:Type} (xs:List α) {i:Nat} (h:i≤xs.length):zbV xs none (some (i:Int))=some (xs.take i):=by
 show slc xs 0 (i:Int)=some _
 unfold slc
 rw[decide_eq_true (show (0:Int)≤0 by omega),decide_eq_true (show (0:Int)≤(i:Int) by omega),decide_eq_true (show (i:Int)≤((xs.length:Nat):Int) by omega)]
 simp
end
end Go.Abs.Q
namespace Go.Abs.Q
open Go Go.Abs
section
section
variable {m:Nat} (hm:0<m) (hm3:m≤3) {nums:List Int} (hn:zqP nums) {a0:List zi} (hs:SignOk a0)
include hm hm3 hn hs
end
end
end Go.Abs.Q
namespace Go.Abs.Q
open Go Go.Abs
section
end
end Go.Abs.Q
namespace Go.Abs.Q
open Go Go.Abs
def zf7 (a0:jQ) (a1:jR) (a2:jQ) (a3:Int):Option Bool :=
 cond (decide (a3≥0))
 (some (decide (a3<((List.length a0:Nat):Int))))
 (some false)
def zfx (rec:((List (Int×jI))×Int×Int)→Option (Unit⊕Int)) (x:((List (Int×jI))×Int×Int)):Option (Unit⊕Int) :=
 cond (decide (x.2.2<((List.length x.1:Nat):Int)))
 ((gx x.1 x.2.2).bind fun e2 =>
  cond (e2.1==x.2.1)
  (some (Sum.inr x.2.2))
  (rec (x.1,x.2.1,(IntKind.wrap .i64 (x.2.2+1)))))
 (some (Sum.inl ()))
def zjL (a0:(List (Int×jI))) (a1:Int):Option Int :=
 ((lp zfx zd) (a0,a1,0)).bind fun r6 =>
 yd r6
 (fun z7=>some (-1))
 (fun z8=>some z8)
def zeC (rec:((List (Int×jI))×jI×Int×jI)→Option jI) (x:((List (Int×jI))×jI×Int×jI)):Option jI :=
 cond (decide (x.2.2.1<((List.length x.2.1:Nat):Int)))
 ((gx x.2.1 x.2.2.1).bind fun e16 =>
  cond (decide (e16<0))
  ((gx x.2.1 x.2.2.1).bind fun e17 =>
   (zjL x.1 (IntKind.wrap .i64 ((-1) - e17))).bind fun r18 =>
   cond (decide (r18<0))
   ((gx x.2.1 x.2.2.1).bind fun e19 =>
    cond (yQ (List.length x.2.2.2+List.length ([e19]:List Int)) 8)
    (rec (x.1,x.2.1,(IntKind.wrap .i64 (x.2.2.1+1)),(x.2.2.2++([e19]:List Int))))
    (none))
   ((gx x.1 r18).bind fun e20 =>
    cond (yQ (List.length x.2.2.2+List.length e20.2) 8)
    (rec (x.1,x.2.1,(IntKind.wrap .i64 (x.2.2.1+1)),(x.2.2.2++e20.2)))
    (none)))
  ((gx x.2.1 x.2.2.1).bind fun e21 =>
   cond (yQ (List.length x.2.2.2+List.length ([e21]:List Int)) 8)
   (rec (x.1,x.2.1,(IntKind.wrap .i64 (x.2.2.1+1)),(x.2.2.2++([e21]:List Int))))
   (none)))
 (some x.2.2.2)
def zcd (a0:(List (Int×jI))) (a1:jI):Option jI :=
 ((lp zeC zd) (a0,a1,0,([]:jI))).bind fun r23 =>
 some r23
def zdM (rec:((List (Int×jI))×Int×jQ×jR×jQ×jQ×jR×jQ)→Option (jQ×jR×jQ)) (x:((List (Int×jI))×Int×jQ×jR×jQ×jQ×jR×jQ)):Option (jQ×jR×jQ) :=
 cond (decide (x.2.1<((List.length x.2.2.2.2.1:Nat):Int)))
 ((gx x.2.2.2.2.1 x.2.1).bind fun e24 =>
  (gx x.2.2.2.2.1 x.2.1).bind fun e25 =>
  (zcd x.1 e25.2).bind fun r26 =>
  cond (yQ (List.length x.2.2.2.2.2.2.2+List.length ([(e24.1,r26)]:List zc)) 32)
  (rec (x.1,(IntKind.wrap .i64 (x.2.1+1)),x.2.2.1,x.2.2.2.1,x.2.2.2.2.1,x.2.2.2.2.2.1,x.2.2.2.2.2.2.1,(x.2.2.2.2.2.2.2++([(e24.1,r26)]:List zc))))
  (none))
 (some (x.2.2.2.2.2.1,x.2.2.2.2.2.2.1,x.2.2.2.2.2.2.2))
def zdF (rec:((List (Int×jI))×Int×jQ×jR×jQ×jQ×jR)→Option (jQ×jR)) (x:((List (Int×jI))×Int×jQ×jR×jQ×jQ×jR)):Option (jQ×jR) :=
 cond (decide (x.2.1<((List.length x.2.2.2.1:Nat):Int)))
 ((gx x.2.2.2.1 x.2.1).bind fun e15 =>
  (zcd x.1 e15).bind fun r16 =>
  cond (yQ (List.length x.2.2.2.2.2.2+List.length ([r16]:List jI)) 24)
  (rec (x.1,(IntKind.wrap .i64 (x.2.1+1)),x.2.2.1,x.2.2.2.1,x.2.2.2.2.1,x.2.2.2.2.2.1,(x.2.2.2.2.2.2++([r16]:List jI))))
  (none))
 (some (x.2.2.2.2.2.1,x.2.2.2.2.2.2))
def zdX (rec:((List (Int×jI))×Int×jQ×jR×jQ×jQ)→Option jQ) (x:((List (Int×jI))×Int×jQ×jR×jQ×jQ)):Option jQ :=
 cond (decide (x.2.1<((List.length x.2.2.1:Nat):Int)))
 ((gx x.2.2.1 x.2.1).bind fun e7 =>
  (gx x.2.2.1 x.2.1).bind fun e8 =>
  (zcd x.1 e8.2).bind fun r9 =>
  cond (yQ (List.length x.2.2.2.2.2+List.length ([(e7.1,r9)]:List zc)) 32)
  (rec (x.1,(IntKind.wrap .i64 (x.2.1+1)),x.2.2.1,x.2.2.2.1,x.2.2.2.2.1,(x.2.2.2.2.2++([(e7.1,r9)]:List zc))))
  (none))
 (some x.2.2.2.2.2)
def zdA (a0:(List (Int×jI))) (a1:jQ) (a2:jR) (a3:jQ):Option (jQ×jR×jQ) :=
 ((lp zdX zd) (a0,0,a1,a2,a3,([]:jQ))).bind fun r28 =>
 ((lp zdF zd) (a0,0,a1,a2,a3,r28,([]:jR))).bind fun r29 =>
 ((lp zdM zd) (a0,0,a1,a2,a3,r29.1,r29.2,([]:jQ))).bind fun r30 =>
 some (r30.1,r30.2.1,r30.2.2)
def zaT (rec:(Int×jI×Int×jQ×jR×jQ×(List (Int×jI)))→Option ((List (Int×jI))⊕Bool)) (x:(Int×jI×Int×jQ×jR×jQ×(List (Int×jI)))):Option ((List (Int×jI))⊕Bool) :=
 cond (decide (x.2.2.1<((List.length x.2.1:Nat):Int)))
 ((gx x.2.1 x.2.2.1).bind fun e11 =>
  cond (decide ((IntKind.wrap .i64 (e11+x.1))>23))
  (some (Sum.inr false))
  ((gx x.2.1 x.2.2.1).bind fun e12 =>
   (gx x.2.1 x.2.2.1).bind fun e13 =>
   cond (yQ (List.length x.2.2.2.2.2.2+List.length ([(e12,([(IntKind.wrap .i64 ((IntKind.wrap .i64 ((-1) - e13)) - x.1))]:List Int))]:List (Int×jI))) 32)
   (rec (x.1,x.2.1,(IntKind.wrap .i64 (x.2.2.1+1)),x.2.2.2.1,x.2.2.2.2.1,x.2.2.2.2.2.1,(x.2.2.2.2.2.2++([(e12,([(IntKind.wrap .i64 ((IntKind.wrap .i64 ((-1) - e13)) - x.1))]:List Int))]:List (Int×jI)))))
   (none)))
 (some (Sum.inl x.2.2.2.2.2.2))
def zeJ (a0:jQ) (a1:jR) (a2:jQ) (a3:jQ) (a4:jR) (a5:jQ):Option (jQ×jR×Bool×jQ) :=
 (zeP a0 a1 a2).bind fun r23 =>
 cond (decide (((List.length r23:Nat):Int)>0))
 ((inR (IntKind.wrap .i64 (((List.length r23:Nat):Int) - 1)) (List.length r23)).bind fun k24 =>
  (r23[k24]?).bind fun x25 =>
  (zeP a3 a4 a5).bind fun r26 =>
  ((lp zaT zd) ((IntKind.wrap .i64 (x25+1)),r26,0,a3,a4,a5,([]:(List (Int×jI))))).bind fun r27 =>
  yd r27
  (fun z28=>(zdA z28 a3 a4 a5).bind fun r29 =>
   some (r29.1,r29.2.1,true,r29.2.2))
  (fun z30=>some (([]:jQ),([]:jR),z30,([]:jQ))))
 ((zeP a3 a4 a5).bind fun r31 =>
  ((lp zaT zd) (0,r31,0,a3,a4,a5,([]:(List (Int×jI))))).bind fun r32 =>
  yd r32
  (fun z33=>(zdA z33 a3 a4 a5).bind fun r34 =>
   some (r34.1,r34.2.1,true,r34.2.2))
  (fun z35=>some (([]:jQ),([]:jR),z35,([]:jQ))))
def zbL (rec:(jI×jR)→Option jI) (x:(jI×jR)):Option jI :=
 cond (((List.length x.1:Nat):Int)==1)
 ((gx x.1 0).bind fun e8 =>
  cond (decide (e8<0))
  ((gx x.1 0).bind fun e9 =>
   (inR (IntKind.wrap .i64 ((-1) - e9)) 48).bind fun k10 =>
   (x.2[k10]?).bind fun x11 =>
   cond (decide (((List.length x11:Nat):Int)>0))
   ((gx x.1 0).bind fun e12 =>
    (inR (IntKind.wrap .i64 ((-1) - e12)) 48).bind fun k13 =>
    (x.2[k13]?).bind fun x14 =>
    rec (x14,x.2))
   (some x.1))
  (some x.1))
 (some x.1)
def zcO (a0:jI) (a1:jR):Option jI :=
 ((lp zbL zd) (a0,a1)).bind fun r16 =>
 some r16
def zdB (rec:(jI×jI×Int)→Option (Unit⊕Bool)) (x:(jI×jI×Int)):Option (Unit⊕Bool) :=
 cond (decide (x.2.2<((List.length x.1:Nat):Int)))
 ((gx x.1 x.2.2).bind fun e3 =>
  (gx x.2.1 x.2.2).bind fun e4 =>
  cond (e3 != e4)
  (some (Sum.inr false))
  (rec (x.1,x.2.1,(IntKind.wrap .i64 (x.2.2+1)))))
 (some (Sum.inl ()))
def zaD (a0:jI) (a1:jI):Option Bool :=
 cond (((List.length a0:Nat):Int) != ((List.length a1:Nat):Int))
 (some false)
 (((lp zdB zd) (a0,a1,0)).bind fun r8 =>
  yd r8
  (fun z9=>some true)
  (fun z10=>some z10))
def qU (rf:((Int×jI×jR)→Option Bool)) (rec:(Int×jI×Int×jR)→Option (Unit⊕Bool)) (x:(Int×jI×Int×jR)):Option (Unit⊕Bool) :=
 cond (decide (x.2.2.1<((List.length x.2.1:Nat):Int)))
 ((gx x.2.1 x.2.2.1).bind fun e8 =>
  cond (decide (e8≥0))
  (rec (x.1,x.2.1,(IntKind.wrap .i64 (x.2.2.1+1)),x.2.2.2))
  ((gx x.2.1 x.2.2.1).bind fun e9 =>
   cond ((IntKind.wrap .i64 ((-1) - e9))==x.1)
   (some (Sum.inr true))
   ((inR (IntKind.wrap .i64 ((-1) - e9)) 48).bind fun k10 =>
    (x.2.2.2[k10]?).bind fun x11 =>
    cond (decide (((List.length x11:Nat):Int)>0))
    ((inR (IntKind.wrap .i64 ((-1) - e9)) 48).bind fun k12 =>
     (x.2.2.2[k12]?).bind fun x13 =>
     (rf (x.1,x13,x.2.2.2)).bind fun r14 =>
     cond r14
     (some (Sum.inr true))
     (rec (x.1,x.2.1,(IntKind.wrap .i64 (x.2.2.1+1)),x.2.2.2)))
    (rec (x.1,x.2.1,(IntKind.wrap .i64 (x.2.2.1+1)),x.2.2.2)))))
 (some (Sum.inl ()))
def zck (rf:((Int×jI×jR)→Option Bool)) (a0:Int) (a1:jI) (a2:jR):Option Bool :=
 ((lp (qU rf) zd) (a0,a1,0,a2)).bind fun r18 =>
 yd r18
 (fun z19=>some false)
 (fun z20=>some z20)
def zfr (rf:((Int×jI×jR)→Option Bool)):((Int×jI×jR)→Option Bool) :=
 fun (x:(Int×jI×jR))=>zck rf x.1 x.2.1 x.2.2
def zfK:((Int×jI×jR)→Option Bool):=fun _=>none
def zaj (k:Nat):((Int×jI×jR)→Option Bool):=lpR zfK zfr k
def zfI (a0:Int) (a1:jI) (a2:jR):Option Bool:=(zaj zd) (a0,a1,a2)
def zv (a0:jI) (a1:jI) (a2:Bool) (a3:jR):Option (Bool×jR) :=
 (gx a0 0).bind fun e8 =>
 cond a2
 ((gx a1 0).bind fun e9 =>
  (inR (IntKind.wrap .i64 ((-1) - e9)) 48).bind fun k10 =>
  (a3[k10]?).bind fun x11 =>
  some (true,(List.set a3 k10 a0)))
 ((zfI (IntKind.wrap .i64 ((-1) - e8)) a1 a3).bind fun r12 =>
  cond r12
  (some (false,a3))
  ((inR (IntKind.wrap .i64 ((-1) - e8)) 48).bind fun k13 =>
   (a3[k13]?).bind fun x14 =>
   some (true,(List.set a3 k13 a1))))
def zbg (rf:(((jS×jI×jI×jR)→Option (Bool×jR))×((jS×jR×jR×jR)→Option (Bool×jR)))) (a0:jS) (a1:jI) (a2:jI) (a3:jR):Option (Bool×jR) :=
 (zcO a1 a3).bind fun r82 =>
 (zcO a2 a3).bind fun r83 =>
 (zaD r82 r83).bind fun r84 =>
 cond r84
 (some (true,a3))
 ((gx r82 0).bind fun e85 =>
  cond (decide (e85<0))
  ((gx r83 0).bind fun e86 =>
   cond (decide (e86<0))
   ((gx r82 0).bind fun e87 =>
    (gx r83 0).bind fun e88 =>
    cond (decide (e87<e88))
    ((gx r82 0).bind fun e89 =>
     (zv r83 r82 (decide (e89<0)) a3).bind fun r90 =>
     some (r90.1,r90.2))
    ((gx r82 0).bind fun e91 =>
     cond (decide (e91≥0))
     ((gx r83 0).bind fun e92 =>
      cond (decide (e92<0))
      ((gx r82 0).bind fun e93 =>
       (zv r83 r82 (decide (e93<0)) a3).bind fun r94 =>
       some (r94.1,r94.2))
      ((gx r82 0).bind fun e95 =>
       cond (decide (e95<0))
       ((gx r83 0).bind fun e96 =>
        (zv r82 r83 (decide (e96<0)) a3).bind fun r97 =>
        some (r97.1,r97.2))
       ((gx r82 0).bind fun e98 =>
        (gx r83 0).bind fun e99 =>
        cond (e98 != e99)
        (some (false,a3))
        ((zbV r82 (some 1) none).bind fun y100 =>
         (zN a0 y100).bind fun r101 =>
         (zbV r83 (some 1) none).bind fun y102 =>
         (zN a0 y102).bind fun r103 =>
         (rf.2 (a0,r101,r103,a3)).bind fun r104 =>
         some (r104.1,r104.2)))))
     ((gx r82 0).bind fun e105 =>
      cond (decide (e105<0))
      ((gx r83 0).bind fun e106 =>
       (zv r82 r83 (decide (e106<0)) a3).bind fun r107 =>
       some (r107.1,r107.2))
      ((gx r82 0).bind fun e108 =>
       (gx r83 0).bind fun e109 =>
       cond (e108 != e109)
       (some (false,a3))
       ((zbV r82 (some 1) none).bind fun y110 =>
        (zN a0 y110).bind fun r111 =>
        (zbV r83 (some 1) none).bind fun y112 =>
        (zN a0 y112).bind fun r113 =>
        (rf.2 (a0,r111,r113,a3)).bind fun r114 =>
        some (r114.1,r114.2))))))
   ((gx r82 0).bind fun e115 =>
    cond (decide (e115≥0))
    ((gx r83 0).bind fun e116 =>
     cond (decide (e116<0))
     ((gx r82 0).bind fun e117 =>
      (zv r83 r82 (decide (e117<0)) a3).bind fun r118 =>
      some (r118.1,r118.2))
     ((gx r82 0).bind fun e119 =>
      cond (decide (e119<0))
      ((gx r83 0).bind fun e120 =>
       (zv r82 r83 (decide (e120<0)) a3).bind fun r121 =>
       some (r121.1,r121.2))
      ((gx r82 0).bind fun e122 =>
       (gx r83 0).bind fun e123 =>
       cond (e122 != e123)
       (some (false,a3))
       ((zbV r82 (some 1) none).bind fun y124 =>
        (zN a0 y124).bind fun r125 =>
        (zbV r83 (some 1) none).bind fun y126 =>
        (zN a0 y126).bind fun r127 =>
        (rf.2 (a0,r125,r127,a3)).bind fun r128 =>
        some (r128.1,r128.2)))))
    ((gx r82 0).bind fun e129 =>
     cond (decide (e129<0))
     ((gx r83 0).bind fun e130 =>
      (zv r82 r83 (decide (e130<0)) a3).bind fun r131 =>
      some (r131.1,r131.2))
     ((gx r82 0).bind fun e132 =>
      (gx r83 0).bind fun e133 =>
      cond (e132 != e133)
      (some (false,a3))
      ((zbV r82 (some 1) none).bind fun y134 =>
       (zN a0 y134).bind fun r135 =>
       (zbV r83 (some 1) none).bind fun y136 =>
       (zN a0 y136).bind fun r137 =>
       (rf.2 (a0,r135,r137,a3)).bind fun r138 =>
       some (r138.1,r138.2))))))
  ((gx r82 0).bind fun e139 =>
   cond (decide (e139≥0))
   ((gx r83 0).bind fun e140 =>
    cond (decide (e140<0))
    ((gx r82 0).bind fun e141 =>
     (zv r83 r82 (decide (e141<0)) a3).bind fun r142 =>
     some (r142.1,r142.2))
    ((gx r82 0).bind fun e143 =>
     cond (decide (e143<0))
     ((gx r83 0).bind fun e144 =>
      (zv r82 r83 (decide (e144<0)) a3).bind fun r145 =>
      some (r145.1,r145.2))
     ((gx r82 0).bind fun e146 =>
      (gx r83 0).bind fun e147 =>
      cond (e146 != e147)
      (some (false,a3))
      ((zbV r82 (some 1) none).bind fun y148 =>
       (zN a0 y148).bind fun r149 =>
       (zbV r83 (some 1) none).bind fun y150 =>
       (zN a0 y150).bind fun r151 =>
       (rf.2 (a0,r149,r151,a3)).bind fun r152 =>
       some (r152.1,r152.2)))))
   ((gx r82 0).bind fun e153 =>
    cond (decide (e153<0))
    ((gx r83 0).bind fun e154 =>
     (zv r82 r83 (decide (e154<0)) a3).bind fun r155 =>
     some (r155.1,r155.2))
    ((gx r82 0).bind fun e156 =>
     (gx r83 0).bind fun e157 =>
     cond (e156 != e157)
     (some (false,a3))
     ((zbV r82 (some 1) none).bind fun y158 =>
      (zN a0 y158).bind fun r159 =>
      (zbV r83 (some 1) none).bind fun y160 =>
      (zN a0 y160).bind fun r161 =>
      (rf.2 (a0,r159,r161,a3)).bind fun r162 =>
      some (r162.1,r162.2))))))
def zam (rf:(((jS×jI×jI×jR)→Option (Bool×jR))×((jS×jR×jR×jR)→Option (Bool×jR)))) (rec:(jS×jR×jR×Int×jR)→Option (jR⊕(Bool×jR))) (x:(jS×jR×jR×Int×jR)):Option (jR⊕(Bool×jR)) :=
 cond (decide (x.2.2.2.1<((List.length x.2.1:Nat):Int)))
 ((gx x.2.1 x.2.2.2.1).bind fun e7 =>
  (gx x.2.2.1 x.2.2.2.1).bind fun e8 =>
  (rf.1 (x.1,e7,e8,x.2.2.2.2)).bind fun r9 =>
  cond (!r9.1)
  (some (Sum.inr (false,r9.2)))
  (rec (x.1,x.2.1,x.2.2.1,(IntKind.wrap .i64 (x.2.2.2.1+1)),r9.2)))
 (some (Sum.inl x.2.2.2.2))
def zcK (rf:(((jS×jI×jI×jR)→Option (Bool×jR))×((jS×jR×jR×jR)→Option (Bool×jR)))) (a0:jS) (a1:jR) (a2:jR) (a3:jR):Option (Bool×jR) :=
 ((lp (zam rf) zd) (a0,a1,a2,0,a3)).bind fun r13 =>
 yd r13
 (fun z14=>some (true,z14))
 (fun z15=>some (z15.1,z15.2))
def zf8 (rf:(((jS×jI×jI×jR)→Option (Bool×jR))×((jS×jR×jR×jR)→Option (Bool×jR)))):(((jS×jI×jI×jR)→Option (Bool×jR))×((jS×jR×jR×jR)→Option (Bool×jR))) :=
 (fun (x:(jS×jI×jI×jR))=>zbg rf x.1 x.2.1 x.2.2.1 x.2.2.2,fun (x:(jS×jR×jR×jR))=>zcK rf x.1 x.2.1 x.2.2.1 x.2.2.2)
def zgp:(((jS×jI×jI×jR)→Option (Bool×jR))×((jS×jR×jR×jR)→Option (Bool×jR))):=(fun _=>none,fun _=>none)
def yv (k:Nat):(((jS×jI×jI×jR)→Option (Bool×jR))×((jS×jR×jR×jR)→Option (Bool×jR))):=lpR zgp zf8 k
def zgC (a0:jS) (a1:jR) (a2:jR) (a3:jR):Option (Bool×jR):=(yv zd).2 (a0,a1,a2,a3)
def qV (rf:((jI×jR×jI)→Option jI)) (rec:(jI×Int×jR×jI)→Option jI) (x:(jI×Int×jR×jI)):Option jI :=
 cond (decide (x.2.1<((List.length x.1:Nat):Int)))
 (cond (decide (((List.length x.2.2.2:Nat):Int)≤48))
  ((gx x.1 x.2.1).bind fun e19 =>
   cond (decide (e19<0))
   ((gx x.1 x.2.1).bind fun e20 =>
    (inR (IntKind.wrap .i64 ((-1) - e20)) 48).bind fun k21 =>
    (x.2.2.1[k21]?).bind fun x22 =>
    cond (decide (((List.length x22:Nat):Int)>0))
    ((gx x.1 x.2.1).bind fun e23 =>
     (inR (IntKind.wrap .i64 ((-1) - e23)) 48).bind fun k24 =>
     (x.2.2.1[k24]?).bind fun x25 =>
     (rf (x25,x.2.2.1,x.2.2.2)).bind fun r26 =>
     rec (x.1,(IntKind.wrap .i64 (x.2.1+1)),x.2.2.1,r26))
    ((gx x.1 x.2.1).bind fun e27 =>
     cond (yQ (List.length x.2.2.2+List.length ([e27]:List Int)) 8)
     (rec (x.1,(IntKind.wrap .i64 (x.2.1+1)),x.2.2.1,(x.2.2.2++([e27]:List Int))))
     (none)))
   ((gx x.1 x.2.1).bind fun e28 =>
    cond (yQ (List.length x.2.2.2+List.length ([e28]:List Int)) 8)
    (rec (x.1,(IntKind.wrap .i64 (x.2.1+1)),x.2.2.1,(x.2.2.2++([e28]:List Int))))
    (none)))
  (some x.2.2.2))
 (some x.2.2.2)
def zcg (rf:((jI×jR×jI)→Option jI)) (a0:jI) (a1:jR) (a2:jI):Option jI :=
 ((lp (qV rf) zd) (a0,0,a1,a2)).bind fun r30 =>
 some r30
def zfP (rf:((jI×jR×jI)→Option jI)):((jI×jR×jI)→Option jI) :=
 fun (x:(jI×jR×jI))=>zcg rf x.1 x.2.1 x.2.2
def zfN:((jI×jR×jI)→Option jI):=fun _=>none
def qt (k:Nat):((jI×jR×jI)→Option jI):=lpR zfN zfP k
def zde (a0:jI) (a1:jR) (a2:jI):Option jI:=(qt zd) (a0,a1,a2)
def zaA (rec:(Int×jR×(List (Int×jI)))→Option ((List (Int×jI))⊕(Bool×Bool))) (x:(Int×jR×(List (Int×jI)))):Option ((List (Int×jI))⊕(Bool×Bool)) :=
 cond (decide (x.1≤23))
 ((inR x.1 48).bind fun k14 =>
  (x.2.1[k14]?).bind fun x15 =>
  cond (((List.length x15:Nat):Int)==0)
  (rec ((IntKind.wrap .i64 (x.1+1)),x.2.1,x.2.2))
  ((inR x.1 48).bind fun k16 =>
   (x.2.1[k16]?).bind fun x17 =>
   (zde x17 x.2.1 ([]:jI)).bind fun r18 =>
   cond (decide (((List.length r18:Nat):Int)>48))
   (some (Sum.inr (true,false)))
   (cond (yQ (List.length x.2.2+List.length ([(x.1,r18)]:List (Int×jI))) 32)
    (rec ((IntKind.wrap .i64 (x.1+1)),x.2.1,(x.2.2++([(x.1,r18)]:List (Int×jI)))))
    (none))))
 (some (Sum.inl x.2.2))
def zcP (a0:jS) (a1:jI) (a2:jI):Option (Bool×Bool×(List (Int×jI))) :=
 (zN a0 a1).bind fun r22 =>
 (zN a0 a2).bind fun r23 =>
 cond (((List.length r22:Nat):Int) != ((List.length r23:Nat):Int))
 (some (false,true,([]:(List (Int×jI)))))
 ((zgC a0 r22 r23 (List.replicate 48 ([]:jI))).bind fun r24 =>
  cond (!r24.1)
  (some (false,true,([]:(List (Int×jI)))))
  (((lp zaA zd) (0,r24.2,([]:(List (Int×jI))))).bind fun r25 =>
   yd r25
   (fun z26=>some (true,true,z26))
   (fun z27=>some (z27.1,z27.2,([]:(List (Int×jI)))))))
def zea (a0:jQ) (a1:Int):Option jQ :=
 (zbV a0 none (some a1)).bind fun y3 =>
 cond (yQ (List.length ([]:List zc)+List.length y3) 32)
 ((zbV a0 (some (IntKind.wrap .i64 (a1+1))) none).bind fun y4 =>
  cond (yQ (List.length (([]:List zc)++y3)+List.length y4) 32)
  (some ((([]:List zc)++y3)++y4))
  (none))
 (none)
def zjq (a0:jQ) (a1:jQ) (a2:jR) (a3:jQ) (a4:jQ) (a5:jR) (a6:jQ):Option (jQ×jR×jQ) :=
 cond (yQ (List.length a2) 24)
 (cond (yQ (List.length a2+List.length a5) 24)
  (cond (yQ (List.length a3) 32)
   (cond (yQ (List.length a3+List.length a6) 32)
    (some (a0,(a2++a5),(a3++a6)))
    (none))
   (none))
  (none))
 (none)
def zfe (a0:Bool) (a1:jI) (a2:Bool) (a3:jI):Option Bool :=
 cond (a0==a2)
 ((zaD a1 a3).bind fun r2 =>
  some r2)
 (some false)
def zcr (rec:(jQ×Int×Bool×Int×jQ)→Option (Bool×jQ)) (x:(jQ×Int×Bool×Int×jQ)):Option (Bool×jQ) :=
 cond (decide (x.2.2.2.1<((List.length x.2.2.2.2:Nat):Int)))
 (cond x.2.2.1
  (rec (x.1,x.2.1,true,(IntKind.wrap .i64 (x.2.2.2.1+1)),x.2.2.2.2))
  ((inR x.2.2.2.1 (List.length x.2.2.2.2)).bind fun k7 =>
   (x.2.2.2.2[k7]?).bind fun x8 =>
   (gx x.1 x.2.1).bind fun e9 =>
   (zfe x8.1 x8.2 e9.1 e9.2).bind fun r10 =>
   rec (x.1,x.2.1,r10,(IntKind.wrap .i64 (x.2.2.2.1+1)),x.2.2.2.2)))
 (some (x.2.2.1,x.2.2.2.2))
def zdY (rec:(jQ×Int×jQ)→Option jQ) (x:(jQ×Int×jQ)):Option jQ :=
 cond (decide (x.2.1<((List.length x.1:Nat):Int)))
 (((lp zcr zd) (x.1,x.2.1,false,0,x.2.2)).bind fun r13 =>
  cond (!r13.1)
  ((gx x.1 x.2.1).bind fun e14 =>
   cond (yQ (List.length r13.2+List.length ([(e14.1,e14.2)]:List zc)) 32)
   (rec (x.1,(IntKind.wrap .i64 (x.2.1+1)),(r13.2++([(e14.1,e14.2)]:List zc))))
   (none))
  (rec (x.1,(IntKind.wrap .i64 (x.2.1+1)),r13.2)))
 (some x.2.2)
def ziS (a0:jQ):Option jQ :=
 ((lp zdY zd) (a0,0,([]:jQ))).bind fun r16 =>
 some r16
def zbN (rec:(jR×Int×Int×jQ×jR×jQ×(List (Int×jI)))→Option (List (Int×jI))) (x:(jR×Int×Int×jQ×jR×jQ×(List (Int×jI)))):Option (List (Int×jI)) :=
 (gx x.1 x.2.1).bind fun e29 =>
 cond (decide (x.2.2.1<((List.length e29:Nat):Int)))
 ((gx x.1 x.2.1).bind fun e30 =>
  (gx e30 x.2.2.1).bind fun e31 =>
  cond (decide (e31<0))
  ((zjL x.2.2.2.2.2.2 (IntKind.wrap .i64 ((-1) - e31))).bind fun r32 =>
   cond (decide (r32<0))
   (cond (yQ (List.length x.2.2.2.2.2.2+List.length ([((IntKind.wrap .i64 ((-1) - e31)),([(IntKind.wrap .i64 ((-1) - ((List.length x.2.2.2.2.2.2:Nat):Int)))]:List Int))]:List (Int×jI))) 32)
    (rec (x.1,x.2.1,(IntKind.wrap .i64 (x.2.2.1+1)),x.2.2.2.1,x.2.2.2.2.1,x.2.2.2.2.2.1,(x.2.2.2.2.2.2++([((IntKind.wrap .i64 ((-1) - e31)),([(IntKind.wrap .i64 ((-1) - ((List.length x.2.2.2.2.2.2:Nat):Int)))]:List Int))]:List (Int×jI)))))
    (none))
   (rec (x.1,x.2.1,(IntKind.wrap .i64 (x.2.2.1+1)),x.2.2.2.1,x.2.2.2.2.1,x.2.2.2.2.2.1,x.2.2.2.2.2.2)))
  (rec (x.1,x.2.1,(IntKind.wrap .i64 (x.2.2.1+1)),x.2.2.2.1,x.2.2.2.2.1,x.2.2.2.2.2.1,x.2.2.2.2.2.2)))
 (some x.2.2.2.2.2.2)
def zcx (rec:(Int×Bool×Int×jQ×jR×jQ×jQ×jQ×jR)→Option (Bool×jQ×jQ×jR)) (x:(Int×Bool×Int×jQ×jR×jQ×jQ×jQ×jR)):Option (Bool×jQ×jQ×jR) :=
 cond (decide (x.2.2.1<((List.length x.2.2.2.2.2.2.2.2:Nat):Int)))
 (cond x.2.1
  (rec (x.1,true,(IntKind.wrap .i64 (x.2.2.1+1)),x.2.2.2.1,x.2.2.2.2.1,x.2.2.2.2.2.1,x.2.2.2.2.2.2.1,x.2.2.2.2.2.2.2.1,x.2.2.2.2.2.2.2.2))
  ((inR x.2.2.1 (List.length x.2.2.2.2.2.2.2.2)).bind fun k9 =>
   (x.2.2.2.2.2.2.2.2[k9]?).bind fun x10 =>
   (gx x.2.2.2.2.1 x.1).bind fun e11 =>
   (zaD x10 e11).bind fun r12 =>
   rec (x.1,r12,(IntKind.wrap .i64 (x.2.2.1+1)),x.2.2.2.1,x.2.2.2.2.1,x.2.2.2.2.2.1,x.2.2.2.2.2.2.1,x.2.2.2.2.2.2.2.1,x.2.2.2.2.2.2.2.2)))
 (some (x.2.1,x.2.2.2.2.2.2.1,x.2.2.2.2.2.2.2.1,x.2.2.2.2.2.2.2.2))
def zdD (rec:(jR×Int×jQ×jR×jQ×(List (Int×jI)))→Option (List (Int×jI))) (x:(jR×Int×jQ×jR×jQ×(List (Int×jI)))):Option (List (Int×jI)) :=
 cond (decide (x.2.1<((List.length x.1:Nat):Int)))
 (((lp zbN zd) (x.1,x.2.1,0,x.2.2.1,x.2.2.2.1,x.2.2.2.2.1,x.2.2.2.2.2)).bind fun r35 =>
  rec (x.1,(IntKind.wrap .i64 (x.2.1+1)),x.2.2.1,x.2.2.2.1,x.2.2.2.2.1,r35))
 (some x.2.2.2.2.2)
def zdK (rec:(Int×jQ×jR×jQ×jQ×jQ×jR)→Option (jQ×jQ×jR)) (x:(Int×jQ×jR×jQ×jQ×jQ×jR)):Option (jQ×jQ×jR) :=
 cond (decide (x.1<((List.length x.2.2.1:Nat):Int)))
 (((lp zcx zd) (x.1,false,0,x.2.1,x.2.2.1,x.2.2.2.1,x.2.2.2.2.1,x.2.2.2.2.2.1,x.2.2.2.2.2.2)).bind fun r17 =>
  cond (!r17.1)
  ((gx x.2.2.1 x.1).bind fun e18 =>
   cond (yQ (List.length r17.2.2.2+List.length ([e18]:List jI)) 24)
   (rec ((IntKind.wrap .i64 (x.1+1)),x.2.1,x.2.2.1,x.2.2.2.1,r17.2.1,r17.2.2.1,(r17.2.2.2++([e18]:List jI))))
   (none))
  (rec ((IntKind.wrap .i64 (x.1+1)),x.2.1,x.2.2.1,x.2.2.2.1,r17.2.1,r17.2.2.1,r17.2.2.2)))
 (some (x.2.2.2.2.1,x.2.2.2.2.2.1,x.2.2.2.2.2.2))
def zlp (a0:jQ) (a1:jR) (a2:jQ):Option (jQ×jR×jQ) :=
 (ziS a0).bind fun r38 =>
 (ziS a2).bind fun r39 =>
 ((lp zdK zd) (0,a0,a1,a2,r38,r39,([]:jR))).bind fun r40 =>
 (zho r40.1 r40.2.2 r40.2.1).bind fun r41 =>
 ((lp zdD zd) (r41,0,r40.1,r40.2.2,r40.2.1,([]:(List (Int×jI))))).bind fun r42 =>
 (zdA r42 r40.1 r40.2.2 r40.2.1).bind fun r43 =>
 some (r43.1,r43.2.1,r43.2.2)
def zhx (a0:jS) (a1:(List (Int×jI))) (a2:jQ) (a3:jR) (a4:jQ):Option (jQ×jR×Bool×jQ) :=
 (zdA a1 a2 a3 a4).bind fun r4 =>
 (zf1 a0 r4.1 r4.2.1 r4.2.2).bind fun r5 =>
 cond (!r5)
 (some (([]:jQ),([]:jR),false,([]:jQ)))
 ((zlp r4.1 r4.2.1 r4.2.2).bind fun r6 =>
  some (r6.1,r6.2.1,true,r6.2.2))
end Go.Abs.Q
namespace Go.Abs.Q
open Go Go.Abs
def zaE (s1:Int):List (Int×jI)→Nat→Option (Unit⊕Int)
 | [],i=>some (Sum.inl ())
 | e::es,i =>
  cond (e.1==s1)
  (some (Sum.inr (i:Int)))
  (zaE s1 es (i+1))
theorem zjr (s0:(List (Int×jI))) (s1:Int) (hl:List.length s0≤maxLen):lp zfx zd (s0,s1,0)=zaE s1 s0 0:=zdC zfx (fun i=>(s0,s1,i)) (fun es i=>zaE s1 es i) hl (fun r i h=>by unfold zfx zaE; simp only[h,cond_false]) (fun r i e es h g w k=>by unfold zfx zaE; simp only[h,cond_true,g,Option.bind_some,w,k])
def yB (s0:(List (Int×jI))):List Int→jI→Option jI
 | [],s3=>some s3
 | e::es,s3 =>
  cond (decide (e<0))
  ((zjL s0 (IntKind.wrap .i64 ((-1) - e))).bind fun r18 =>
   cond (decide (r18<0))
   (cond (yQ (List.length s3+List.length ([e]:List Int)) 8)
    (yB s0 es (s3++([e]:List Int)))
    (none))
   ((gx s0 r18).bind fun e20 =>
    cond (yQ (List.length s3+List.length e20.2) 8)
    (yB s0 es (s3++e20.2))
    (none)))
  (cond (yQ (List.length s3+List.length ([e]:List Int)) 8)
   (yB s0 es (s3++([e]:List Int)))
   (none))
theorem ziZ (s0:(List (Int×jI))) (s1:jI) (s3:jI) (hl:List.length s1≤maxLen):lp zeC zd (s0,s1,0,s3)=yB s0 s1 s3:=zaJ zeC (fun i s3=>(s0,s1,i,s3)) (fun es i s3=>yB s0 es s3) hl (fun r i s3 h=>by unfold zeC yB; simp only[h,cond_false]) (fun r i s3 e es h g w k=>by unfold zeC yB; simp only[h,cond_true,g,Option.bind_some,w,k]) s3
def qI (s0:(List (Int×jI))) (s5:jQ) (s6:jR):List zc→jQ→Option (jQ×jR×jQ)
 | [],s7=>some (s5,s6,s7)
 | e::es,s7 =>
  (zcd s0 e.2).bind fun r26 =>
  cond (yQ (List.length s7+List.length ([(e.1,r26)]:List zc)) 32)
  (qI s0 s5 s6 es (s7++([(e.1,r26)]:List zc)))
  (none)
theorem zif (s0:(List (Int×jI))) (s2:jQ) (s3:jR) (s4:jQ) (s5:jQ) (s6:jR) (s7:jQ) (hl:List.length s4≤maxLen):lp zdM zd (s0,0,s2,s3,s4,s5,s6,s7)=qI s0 s5 s6 s4 s7:=zaJ zdM (fun i s7=>(s0,i,s2,s3,s4,s5,s6,s7)) (fun es i s7=>qI s0 s5 s6 es s7) hl (fun r i s7 h=>by unfold zdM qI; simp only[h,cond_false]) (fun r i s7 e es h g w k=>by unfold zdM qI; simp only[h,cond_true,g,Option.bind_some,w,k]) s7
def qF (s0:(List (Int×jI))) (s5:jQ):List jI→jR→Option (jQ×jR)
 | [],s6=>some (s5,s6)
 | e::es,s6 =>
  (zcd s0 e).bind fun r16 =>
  cond (yQ (List.length s6+List.length ([r16]:List jI)) 24)
  (qF s0 s5 es (s6++([r16]:List jI)))
  (none)
theorem zio (s0:(List (Int×jI))) (s2:jQ) (s3:jR) (s4:jQ) (s5:jQ) (s6:jR) (hl:List.length s3≤maxLen):lp zdF zd (s0,0,s2,s3,s4,s5,s6)=qF s0 s5 s3 s6:=zaJ zdF (fun i s6=>(s0,i,s2,s3,s4,s5,s6)) (fun es i s6=>qF s0 s5 es s6) hl (fun r i s6 h=>by unfold zdF qF; simp only[h,cond_false]) (fun r i s6 e es h g w k=>by unfold zdF qF; simp only[h,cond_true,g,Option.bind_some,w,k]) s6
def qH (s0:(List (Int×jI))):List zc→jQ→Option jQ
 | [],s5=>some s5
 | e::es,s5 =>
  (zcd s0 e.2).bind fun r9 =>
  cond (yQ (List.length s5+List.length ([(e.1,r9)]:List zc)) 32)
  (qH s0 es (s5++([(e.1,r9)]:List zc)))
  (none)
theorem ziF (s0:(List (Int×jI))) (s2:jQ) (s3:jR) (s4:jQ) (s5:jQ) (hl:List.length s2≤maxLen):lp zdX zd (s0,0,s2,s3,s4,s5)=qH s0 s2 s5:=zaJ zdX (fun i s5=>(s0,i,s2,s3,s4,s5)) (fun es i s5=>qH s0 es s5) hl (fun r i s5 h=>by unfold zdX qH; simp only[h,cond_false]) (fun r i s5 e es h g w k=>by unfold zdX qH; simp only[h,cond_true,g,Option.bind_some,w,k]) s5
def yL (s0:Int):List Int→(List (Int×jI))→Option ((List (Int×jI))⊕Bool)
 | [],s6=>some (Sum.inl s6)
 | e::es,s6 =>
  cond (decide ((IntKind.wrap .i64 (e+s0))>23))
  (some (Sum.inr false))
  (cond (yQ (List.length s6+List.length ([(e,([(IntKind.wrap .i64 ((IntKind.wrap .i64 ((-1) - e)) - s0))]:List Int))]:List (Int×jI))) 32)
   (yL s0 es (s6++([(e,([(IntKind.wrap .i64 ((IntKind.wrap .i64 ((-1) - e)) - s0))]:List Int))]:List (Int×jI))))
   (none))
theorem zgU (s0:Int) (s1:jI) (s3:jQ) (s4:jR) (s5:jQ) (s6:(List (Int×jI))) (hl:List.length s1≤maxLen):lp zaT zd (s0,s1,0,s3,s4,s5,s6)=yL s0 s1 s6:=zaJ zaT (fun i s6=>(s0,s1,i,s3,s4,s5,s6)) (fun es i s6=>yL s0 es s6) hl (fun r i s6 h=>by unfold zaT yL; simp only[h,cond_false]) (fun r i s6 e es h g w k=>by unfold zaT yL; simp only[h,cond_true,g,Option.bind_some,w,k]) s6
def zae (s1:jI):List Int→Nat→Option (Unit⊕Bool)
 | [],i=>some (Sum.inl ())
 | e::es,i =>
  (gx s1 (i:Int)).bind fun e4 =>
  cond (e != e4)
  (some (Sum.inr false))
  (zae s1 es (i+1))
theorem zir (s0:jI) (s1:jI) (hl:List.length s0≤maxLen):lp zdB zd (s0,s1,0)=zae s1 s0 0:=zdC zdB (fun i=>(s0,s1,i)) (fun es i=>zae s1 es i) hl (fun r i h=>by unfold zdB zae; simp only[h,cond_false]) (fun r i e es h g w k=>by unfold zdB zae; simp only[h,cond_true,g,Option.bind_some,w,k])
def zA (rf:((Int×jI×jR)→Option Bool)) (s0:Int) (s3:jR):List Int→Option (Unit⊕Bool)
 | []=>some (Sum.inl ())
 | e::es =>
  cond (decide (e≥0))
  (zA rf s0 s3 es)
  (cond ((IntKind.wrap .i64 ((-1) - e))==s0)
   (some (Sum.inr true))
   ((inR (IntKind.wrap .i64 ((-1) - e)) 48).bind fun k10 =>
    (s3[k10]?).bind fun x11 =>
    cond (decide (((List.length x11:Nat):Int)>0))
    ((inR (IntKind.wrap .i64 ((-1) - e)) 48).bind fun k12 =>
     (s3[k12]?).bind fun x13 =>
     (rf (s0,x13,s3)).bind fun r14 =>
     cond r14
     (some (Sum.inr true))
     (zA rf s0 s3 es))
    (zA rf s0 s3 es)))
theorem zeE (rf:((Int×jI×jR)→Option Bool)) (s0:Int) (s1:jI) (s3:jR) (hl:List.length s1≤maxLen):lp (qU rf) zd (s0,s1,0,s3)=zA rf s0 s3 s1:=zdC (qU rf) (fun i=>(s0,s1,i,s3)) (fun es i=>zA rf s0 s3 es) hl (fun r i h=>by unfold qU zA; simp only[h,cond_false]) (fun r i e es h g w k=>by unfold qU zA; simp only[h,cond_true,g,Option.bind_some,w,k])
def zJ (rf:(((jS×jI×jI×jR)→Option (Bool×jR))×((jS×jR×jR×jR)→Option (Bool×jR)))) (s0:jS) (s2:jR):List jI→Nat→jR→Option (jR⊕(Bool×jR))
 | [],i,s4=>some (Sum.inl s4)
 | e::es,i,s4 =>
  (gx s2 (i:Int)).bind fun e8 =>
  (rf.1 (s0,e,e8,s4)).bind fun r9 =>
  cond (!r9.1)
  (some (Sum.inr (false,r9.2)))
  (zJ rf s0 s2 es (i+1) r9.2)
theorem ze0 (rf:(((jS×jI×jI×jR)→Option (Bool×jR))×((jS×jR×jR×jR)→Option (Bool×jR)))) (s0:jS) (s1:jR) (s2:jR) (s4:jR) (hl:List.length s1≤maxLen):lp (zam rf) zd (s0,s1,s2,0,s4)=zJ rf s0 s2 s1 0 s4:=zaJ (zam rf) (fun i s4=>(s0,s1,s2,i,s4)) (fun es i s4=>zJ rf s0 s2 es i s4) hl (fun r i s4 h=>by unfold zam zJ; simp only[h,cond_false]) (fun r i s4 e es h g w k=>by unfold zam zJ; simp only[h,cond_true,g,Option.bind_some,w,k]) s4
def zx (rf:((jI×jR×jI)→Option jI)) (s2:jR):List Int→jI→Option jI
 | [],s3=>some s3
 | e::es,s3 =>
  cond (decide (((List.length s3:Nat):Int)≤48))
  (cond (decide (e<0))
   ((inR (IntKind.wrap .i64 ((-1) - e)) 48).bind fun k21 =>
    (s2[k21]?).bind fun x22 =>
    cond (decide (((List.length x22:Nat):Int)>0))
    ((inR (IntKind.wrap .i64 ((-1) - e)) 48).bind fun k24 =>
     (s2[k24]?).bind fun x25 =>
     (rf (x25,s2,s3)).bind fun r26 =>
     zx rf s2 es r26)
    (cond (yQ (List.length s3+List.length ([e]:List Int)) 8)
     (zx rf s2 es (s3++([e]:List Int)))
     (none)))
   (cond (yQ (List.length s3+List.length ([e]:List Int)) 8)
    (zx rf s2 es (s3++([e]:List Int)))
    (none)))
  (some s3)
theorem zeO (rf:((jI×jR×jI)→Option jI)) (s0:jI) (s2:jR) (s3:jI) (hl:List.length s0≤maxLen):lp (qV rf) zd (s0,0,s2,s3)=zx rf s2 s0 s3:=zaJ (qV rf) (fun i s3=>(s0,i,s2,s3)) (fun es i s3=>zx rf s2 es s3) hl (fun r i s3 h=>by unfold qV zx; simp only[h,cond_false]) (fun r i s3 e es h g w k=>by unfold qV zx; simp only[h,cond_true,g,Option.bind_some,w,k]) s3
def qg (s0:jQ) (s1:Int) (s4:jQ):List zc→Nat→Bool→Option (Bool×jQ)
 | [],i,s2=>some (s2,s4)
 | e::es,i,s2 =>
  cond s2
  (qg s0 s1 s4 es (i+1) true)
  ((inR (i:Int) (List.length s4)).bind fun k7 =>
   (s4[k7]?).bind fun x8 =>
   (gx s0 s1).bind fun e9 =>
   (zfe x8.1 x8.2 e9.1 e9.2).bind fun r10 =>
   qg s0 s1 s4 es (i+1) r10)
theorem ziE (s0:jQ) (s1:Int) (s4:jQ) (s2:Bool) (hl:List.length s4≤maxLen):lp zcr zd (s0,s1,s2,0,s4)=qg s0 s1 s4 s4 0 s2:=zaJ zcr (fun i s2=>(s0,s1,s2,i,s4)) (fun es i s2=>qg s0 s1 s4 es i s2) hl (fun r i s2 h=>by unfold zcr qg; simp only[h,cond_false]) (fun r i s2 e es h g w k=>by unfold zcr qg; simp only[h,cond_true,g,Option.bind_some,w,k]) s2
def qB (s0:jQ):List zc→Nat→jQ→Option jQ
 | [],i,s2=>some s2
 | e::es,i,s2 =>
  ((lp zcr zd) (s0,(i:Int),false,0,s2)).bind fun r13 =>
  cond (!r13.1)
  (cond (yQ (List.length r13.2+List.length ([(e.1,e.2)]:List zc)) 32)
   (qB s0 es (i+1) (r13.2++([(e.1,e.2)]:List zc)))
   (none))
  (qB s0 es (i+1) r13.2)
theorem zh9 (s0:jQ) (s2:jQ) (hl:List.length s0≤maxLen):lp zdY zd (s0,0,s2)=qB s0 s0 0 s2:=zaJ zdY (fun i s2=>(s0,i,s2)) (fun es i s2=>qB s0 es i s2) hl (fun r i s2 h=>by unfold zdY qB; simp only[h,cond_false]) (fun r i s2 e es h g w k=>by unfold zdY qB; simp only[h,cond_true,g,Option.bind_some,w,k]) s2
def qa (s0:Int) (s4:jR) (s6:jQ) (s7:jQ) (s8:jR):List jI→Nat→Bool→Option (Bool×jQ×jQ×jR)
 | [],i,s1=>some (s1,s6,s7,s8)
 | e::es,i,s1 =>
  cond s1
  (qa s0 s4 s6 s7 s8 es (i+1) true)
  ((inR (i:Int) (List.length s8)).bind fun k9 =>
   (s8[k9]?).bind fun x10 =>
   (gx s4 s0).bind fun e11 =>
   (zaD x10 e11).bind fun r12 =>
   qa s0 s4 s6 s7 s8 es (i+1) r12)
theorem zia (s0:Int) (s3:jQ) (s4:jR) (s5:jQ) (s6:jQ) (s7:jQ) (s8:jR) (s1:Bool) (hl:List.length s8≤maxLen):lp zcx zd (s0,s1,0,s3,s4,s5,s6,s7,s8)=qa s0 s4 s6 s7 s8 s8 0 s1:=zaJ zcx (fun i s1=>(s0,s1,i,s3,s4,s5,s6,s7,s8)) (fun es i s1=>qa s0 s4 s6 s7 s8 es i s1) hl (fun r i s1 h=>by unfold zcx qa; simp only[h,cond_false]) (fun r i s1 e es h g w k=>by unfold zcx qa; simp only[h,cond_true,g,Option.bind_some,w,k]) s1
def zaf (s0:jR) (s2:jQ) (s3:jR) (s4:jQ):List jI→Nat→(List (Int×jI))→Option (List (Int×jI))
 | [],i,s5=>some s5
 | e::es,i,s5 =>
  ((lp zbN zd) (s0,(i:Int),0,s2,s3,s4,s5)).bind fun r35 =>
  zaf s0 s2 s3 s4 es (i+1) r35
theorem ziw (s0:jR) (s2:jQ) (s3:jR) (s4:jQ) (s5:(List (Int×jI))) (hl:List.length s0≤maxLen):lp zdD zd (s0,0,s2,s3,s4,s5)=zaf s0 s2 s3 s4 s0 0 s5:=zaJ zdD (fun i s5=>(s0,i,s2,s3,s4,s5)) (fun es i s5=>zaf s0 s2 s3 s4 es i s5) hl (fun r i s5 h=>by unfold zdD zaf; simp only[h,cond_false]) (fun r i s5 e es h g w k=>by unfold zdD zaf; simp only[h,cond_true,g,Option.bind_some,w,k]) s5
def qN (s1:jQ) (s2:jR) (s3:jQ):List jI→Nat→jQ→jQ→jR→Option (jQ×jQ×jR)
 | [],i,s4,s5,s6=>some (s4,s5,s6)
 | e::es,i,s4,s5,s6 =>
  ((lp zcx zd) ((i:Int),false,0,s1,s2,s3,s4,s5,s6)).bind fun r17 =>
  cond (!r17.1)
  (cond (yQ (List.length r17.2.2.2+List.length ([e]:List jI)) 24)
   (qN s1 s2 s3 es (i+1) r17.2.1 r17.2.2.1 (r17.2.2.2++([e]:List jI)))
   (none))
  (qN s1 s2 s3 es (i+1) r17.2.1 r17.2.2.1 r17.2.2.2)
theorem zin (s1:jQ) (s2:jR) (s3:jQ) (s4:jQ) (s5:jQ) (s6:jR) (hl:List.length s2≤maxLen):lp zdK zd (0,s1,s2,s3,s4,s5,s6)=qN s1 s2 s3 s2 0 s4 s5 s6:=zw1 zdK (fun i s4 s5 s6=>(i,s1,s2,s3,s4,s5,s6)) (fun es i s4 s5 s6=>qN s1 s2 s3 es i s4 s5 s6) hl (fun r i s4 s5 s6 h=>by unfold zdK qN; simp only[h,cond_false]) (fun r i s4 s5 s6 e es h g w k=>by unfold zdK qN; simp only[h,cond_true,g,Option.bind_some,w,k]) s4 s5 s6
end Go.Abs.Q
namespace Go.Abs.Q
open Go Go.Abs
section
theorem zrc (b:List Int):(es:List Int)→(i:Nat)→i+es.length=b.length→zae b es i=some (cond (decide (es=b.drop i)) (.inl ()) (.inr false))
 | [],i,h=>by
  rw[List.drop_of_length_le (by simp at h; omega)]
  rfl
 | e::es,i,h=>by
  simp only[List.length_cons] at h
  obtain⟨x,hx⟩:∃ x,b[i]? = some x:=⟨_,List.getElem?_eq_getElem (by omega)⟩
  have hd:b.drop i=x::b.drop (i+1):=by
   have h1:=(List.getElem?_eq_some_iff.1 hx).1
   rw[List.drop_eq_getElem_cons h1]
   rw[(List.getElem?_eq_some_iff.1 hx).2]
  unfold zae
  rw[y5,hx,Option.bind_some,zrc b es (i+1) (by omega),hd]
  by_cases he:e=x
  ·subst he
   rw[show (e != e)=false from by simp,cond_false]
   simp
  ·rw[show (e != x)=true from by simp [he],cond_true]
   simp [he]
theorem zgl {a b:List Int} (h:a.length≤1000000):zaD a b=some (decide (a=b)):=by
 unfold zaD
 by_cases hl:a.length=b.length
 ·rw[show (((List.length a:Nat):Int) != ((List.length b:Nat):Int))=false from by simp [hl],cond_false,zir _ _ (by unfold maxLen; omega),zrc b a 0 (by omega),Option.bind_some,List.drop_zero]
  cases decide (a=b)<;>rfl
 ·rw[show (((List.length a:Nat):Int) != ((List.length b:Nat):Int))=true from by simp; omega,cond_true]
  have:a≠b:=fun e=>hl (by rw[e])
  simp [this]
def zzP (o:Option Tm):List Int:=match o with
 | none=>[]
 | some t=>t.codes
structure RepW (a0:List zi) (w:List jI) (B:Bd):Prop where
 len:w.length=48
 at_:∀ x,x<48→w[x]? = some (zzP (B x))
 ok:∀ x t,B x=some t→x<24∧t.ok a0 24∧t.codes.length≤48
theorem RepW.small {a0:List zi} {w:List jI} {B:Bd} (h:RepW a0 w B):zks B:=fun x t ht=>by
 obtain⟨h1,h2,h3⟩:=h.ok x t ht
 rw[Tm.codes_len] at h3
 exact ⟨by omega,h3⟩
theorem RepW.set {a0:List zi} {w:List jI} {B:Bd} (h:RepW a0 w B) {x:Nat} (hx:x<24) {t:Tm} (ht:t.ok a0 24) (hl:t.codes.length≤48):RepW a0 (w.set x t.codes) (zxu B x t) where
 len:=by rw[List.length_set]; exact h.len
 at_:=fun y hy=>by
  have:=h.len
  by_cases he:y=x
  ·subst he
   rw[List.getElem?_set_self (by omega),zdU]
   rfl
  ·rw[List.getElem?_set_ne (Ne.symm he),zgx _ _ he]
   exact h.at_ y hy
 ok:=fun y u hy=>by
  by_cases he:y=x
  ·subst he
   rw[zdU] at hy
   injection hy with hy
   subst hy
   exact ⟨hx,ht,hl⟩
  ·rw[zgx _ _ he] at hy
   exact h.ok y u hy
theorem ziN (t:Tm):0<t.codes.length:=by rw[Tm.codes_len]; exact t.size_pos
section
variable {a0:List zi} {w:List jI} {B:Bd} {σ:Sb} (hT:RepW a0 w B) (hG:Good B σ)
include hT hG
theorem zwC:∀(m k:Nat) (t:Tm),zhT t≤m→m≤k→t.ok a0 24→t.codes.length≤48 →
  ∃ u:Tm,lp zbL k (t.codes,w)=some u.codes∧u.ok a0 24∧u.codes.length≤48∧(∀ θ,SolB θ B→t.sub θ=u.sub θ)∧∀ y,u = .v y→B y=none:=by
 intro m
 induction m with
 | zero=>intro k t hm; cases t<;>simp [zhT] at hm
 | succ m ih =>
  intro k t hm hk ho hl
  obtain⟨k,rfl⟩:∃ k',k=k'+1:=⟨k - 1,by omega⟩
  rw[zm]
  have key:=fun t (h1:zhT t≤m) h2 h3=>ih k t h1 (by omega) h2 h3
  generalize lp zbL k=rec at key ⊢
  unfold zbL
  cases t with
  | v x =>
   have hx:x<24:=ho
   have hc:(Tm.v x).codes=[-1 - (x:Int)]:=rfl
   have w1:IntKind.wrap .i64 ((-1) - (-1 - (x:Int)))=(x:Int):=by rw[zp]<;>omega
   rw[hc]
   simp only[List.length_cons,List.length_nil,yZ,List.getElem?_cons_zero,Option.bind_some,w1]
   rw[show ((((0+1:Nat):Int))==1)=true from rfl,cond_true,decide_eq_true (show -1 - (x:Int)<0 by omega),cond_true,yY (show x<48 by omega),Option.bind_some,hT.at_ x (by omega),Option.bind_some]
   cases hb:B x with
   | none =>
    refine ⟨.v x,rfl,ho,hl,fun θ _=>rfl,fun y hy=>by injection hy with hy; rw[← hy]; exact hb⟩
   | some u =>
    obtain⟨-,h2,h3⟩:=hT.ok x u hb
    have hp:=ziN u
    show ∃ u1,(cond (decide (((List.length u.codes:Nat):Int)>0)) _ _)=_∧_
    rw[decide_eq_true (show ((List.length u.codes:Nat):Int)>0 by omega),cond_true]
    obtain⟨u',g1,g2,g3,g4,g5⟩:=key u (by
     cases u with
     | v y=>have:=hG.down _ y hb; simp only[zhT] at hm ⊢; omega
     | f c as=>simp only[zhT] at hm ⊢; omega) h2 h3
    refine ⟨u',?_,g2,g3,fun θ hθ=>(hθ _ u hb).trans (g4 θ hθ),g5⟩
    show (w[x]?).bind _=_
    rw[hT.at_ x (by omega),hb]
    exact g1
  | f c as =>
   refine ⟨.f c as,?_,ho,hl,fun θ _=>rfl,fun y hy=>by cases hy⟩
   have hc:(Tm.f c as).codes=(c:Int)::zb as:=rfl
   rw[hc]
   simp only[yZ,List.getElem?_cons_zero,Option.bind_some]
   rw[decide_eq_false (show ¬(c:Int)<0 by omega),cond_false]
   cases (((List.length ((c:Int)::zb as):Nat):Int)==1)<;>rfl
theorem zow {t:Tm} (ho:t.ok a0 24) (hl:t.codes.length≤48) :
  ∃ u:Tm,zcO t.codes w=some u.codes∧u.ok a0 24∧u.codes.length≤48∧(∀ θ,SolB θ B→t.sub θ=u.sub θ)∧∀ y,u = .v y→B y=none:=by
 obtain⟨u,h1,h2⟩:=zwC hT hG (zhT t) zd t (Nat.le_refl _) (by
  cases t with
  | v x=>have:x<24:=ho; simp only[zhT]; unfold zd; omega
  | f c as=>simp only[zhT]; unfold zd; omega) ho hl
 refine ⟨u,?_,h2⟩
 unfold zcO
 rw[h1]
 rfl
theorem zr6 {v:Nat} (hv0:B v=none):∀(k m:Nat) (es:List Int),(∀ c∈es,-24≤c)→es.length≤1000→(∀ c∈es,c<0→B (-1 - c).toNat≠none→Good.rank σ (-1 - c).toNat<m)→m<k →
  ∃ b,zaj k ((v:Int),es,w)=some b∧(b=true↔∃ c∈es,c<0∧(σ (-1 - c).toNat).has v):=by
 intro k
 induction k with
 | zero=>intro m es _ _ _ h; omega
 | succ k ih =>
  intro m es hc hl hr hm
  show ∃ b,zck (zaj k) (v:Int) es w=some b∧_
  unfold zck
  rw[zeE _ _ _ _ (by unfold maxLen; omega)]
  have go:∀ es:List Int,(∀ c∈es,-24≤c)→(∀ c∈es,c<0→B (-1 - c).toNat≠none→Good.rank σ (-1 - c).toNat<m) →
    ∃ b,zA (zaj k) (v:Int) w es=some (cond b (.inr true) (.inl ()))∧(b=true↔∃ c∈es,c<0∧(σ (-1 - c).toNat).has v):=by
   intro es
   induction es with
   | nil=>intro _ _; exact ⟨false,rfl,by simp⟩
   | cons e es ihe =>
    intro hc hr
    obtain⟨b,g1,g2⟩:=ihe (fun c h=>hc c (List.mem_cons_of_mem _ h)) fun c h=>hr c (List.mem_cons_of_mem _ h)
    have he:=hc e (List.mem_cons_self ..)
    unfold zA
    by_cases h0:e≥0
    ·rw[decide_eq_true h0,cond_true]
     refine ⟨b,g1,g2.trans ?_⟩
     constructor
     ·rintro⟨c,h1,h2⟩; exact ⟨c,List.mem_cons_of_mem _ h1,h2⟩
     ·rintro⟨c,h1,h2,h3⟩
      rcases List.mem_cons.1 h1 with rfl | h1
      ·omega
      ·exact ⟨c,h1,h2,h3⟩
    ·rw[decide_eq_false h0,cond_false]
     obtain⟨u,rfl⟩:∃ u:Nat,e = -1 - (u:Int):=⟨(-1 - e).toNat,by omega⟩
     have hu:u<24:=by omega
     have hn:(-1 - (-1 - (u:Int))).toNat=u:=by omega
     have w1:IntKind.wrap .i64 ((-1) - (-1 - (u:Int)))=(u:Int):=by rw[zp]<;>omega
     rw[w1]
     by_cases huv:u=v
     ·subst huv
      rw[show (((u:Nat):Int)==((u:Nat):Int))=true from by simp,cond_true]
      exact ⟨true,rfl,⟨fun _=>⟨_,List.mem_cons_self ..,by omega,by rw[hn,hG.free _ hv0]; rfl⟩,fun _=>rfl⟩⟩
     ·rw[show (((u:Nat):Int)==((v:Nat):Int))=false from by simp; omega,cond_false]
      simp only[yY (show u<48 by omega),Option.bind_some,hT.at_ u (by omega)]
      cases hb:B u with
      | none =>
       show ∃ b,(cond (decide (((List.length ([]:List Int):Nat):Int)>0)) _ _)=_∧_
       refine ⟨b,g1,g2.trans ?_⟩
       constructor
       ·rintro⟨c,h1,h2⟩; exact ⟨c,List.mem_cons_of_mem _ h1,h2⟩
       ·rintro⟨c,h1,h2,h3⟩
        rcases List.mem_cons.1 h1 with rfl | h1
        ·rw[hn,hG.free _ hb] at h3
         have h3:u=v:=h3
         exact absurd h3 huv
        ·exact ⟨c,h1,h2,h3⟩
      | some t =>
       obtain⟨-,h2,h3⟩:=hT.ok u t hb
       have hp:=ziN t
       show ∃ b,(cond (decide (((List.length t.codes:Nat):Int)>0)) _ _)=_∧_
       rw[decide_eq_true (show ((List.length t.codes:Nat):Int)>0 by omega),cond_true]
       have hcodes:∀ c∈t.codes,-24≤c∧(c<0→t.has (-1 - c).toNat):=fun c hcm=>by
        have h1:c∈zb [t]:=by simp [zb,hcm]
        by_cases hc0:c<0
        ·have h4:=(zes hc0 [t]).1 h1
         have h5:t.has (-1 - c).toNat:=by rcases h4 with h4 | h4; exact h4; exact absurd h4 (by simp [zjo])
         have h6:=Tm.ok_has t h2 h5
         exact ⟨by omega,fun _=>h5⟩
        ·exact ⟨by omega,fun h=>absurd h hc0⟩
       obtain⟨b1,k1,k2⟩:=ih (Good.rank σ u) t.codes (fun c h=>(hcodes c h).1) (by omega) (fun c hcm h0 _=>hG.rank_lt hb ((hcodes c hcm).2 h0) (by have:=(hcodes c hcm).1; omega)) (by
        have:=hr _ (List.mem_cons_self ..) (by omega) (by rw[hn,hb]; simp)
        rw[hn] at this
        omega)
       have k1:zaj k ((v:Int),zzP (some t),w)=some b1:=k1
       rw[k1,Option.bind_some]
       have hb1:b1=true↔(σ u).has v:=by
        rw[k2,hG.bound u t hb,Tm.has_sub]
        constructor
        ·rintro⟨c,h4,h5,h6⟩
         exact ⟨_,(hcodes c h4).2 h5,h6⟩
        ·rintro⟨y,h4,h5⟩
         refine ⟨-1 - (y:Int),?_,by omega,by rw[show (-1 - (-1 - (y:Int))).toNat=y by omega]; exact h5⟩
         have:=(zes (c := -1 - (y:Int)) (by omega) [t]).2 (by rw[show (-1 - (-1 - (y:Int))).toNat=y by omega]; exact .inl h4)
         simpa[zb] using this
       cases b1 with
       | true =>
        refine ⟨true,rfl,⟨fun _=>⟨_,List.mem_cons_self ..,by omega,?_⟩,fun _=>rfl⟩⟩
        rw[hn]
        exact hb1.1 rfl
       | false =>
        refine ⟨b,g1,g2.trans ?_⟩
        constructor
        ·rintro⟨c,h1,h2⟩; exact ⟨c,List.mem_cons_of_mem _ h1,h2⟩
        ·rintro⟨c,h1,h2,h3⟩
         rcases List.mem_cons.1 h1 with rfl | h1
         ·rw[hn] at h3
          exact absurd (hb1.2 h3) (by simp)
         ·exact ⟨c,h1,h2,h3⟩
  obtain⟨b,g1,g2⟩:=go es hc hr
  rw[g1,Option.bind_some]
  exact ⟨b,by cases b<;>rfl,g2⟩
end
end
end Go.Abs.Q
namespace Go.Abs.Q
open Go Go.Abs
section
structure Qf (out E r:List Int):Prop where
 fits:out.length+E.length≤48→r=out++E
 over:48<out.length+E.length→48<r.length
 len:r.length≤max out.length 49
theorem Qf.step {out E1 E2 r1 r:List Int} (h:Qf out E1 r1) (h':Qf r1 E2 r):Qf out (E1++E2) r where
 fits:=fun hl=>by
  rw[List.length_append] at hl
  have e:=h.fits (by omega)
  have e2:=h'.fits (by rw[e,List.length_append]; omega)
  rw[e2,e,List.append_assoc]
 over:=fun hl=>by
  rw[List.length_append] at hl
  by_cases h1:out.length+E1.length≤48
  ·have e:=h.fits h1
   refine h'.over ?_
   rw[e,List.length_append]; omega
  ·exact h'.over (by have:=h.over (by omega); omega)
 len:=by have:=h.len; have:=h'.len; omega
theorem Qf.full {out E:List Int} (h:48<out.length):Qf out E out:=⟨fun hl=>by omega,fun _=>h,by omega⟩
theorem Qf.one {out:List Int} (c:Int) (h:out.length≤48):Qf out [c] (out++[c]):=⟨fun _=>rfl,fun hl=>by rw[List.length_append]; exact hl,by rw[List.length_append]; simp; omega⟩
theorem Qf.nil (out:List Int):Qf out [] out:=⟨fun _=>by simp,fun h=>by simpa using h,by omega⟩
theorem zhK {a0:List zi} {t:Tm} (ho:t.ok a0 24):∀ c∈t.codes,-24≤c∧(c<0→t.has (-1 - c).toNat):=fun c hcm=>by
 by_cases hc0:c<0
 ·have h5:=(Tm.mem_codes hc0 t).1 hcm
  have h6:=Tm.ok_has t ho h5
  exact ⟨by omega,fun _=>h5⟩
 ·exact ⟨by omega,fun h=>absurd h hc0⟩
section
variable {a0:List zi} {w:List jI} {B:Bd} {σ:Sb} (hT:RepW a0 w B) (hG:Good B σ)
include hT hG
theorem zxs:∀(k m:Nat) (es out:List Int),(∀ c∈es,-24≤c)→es.length≤1000→(∀ c∈es,c<0→B (-1 - c).toNat≠none→Good.rank σ (-1 - c).toNat<m)→m<k→out.length≤1000 →
  ∃ r,qt k (es,w,out)=some r∧Qf out (es.flatMap (zgz σ)) r:=by
 intro k
 induction k with
 | zero=>intro m es out _ _ _ h; omega
 | succ k ih =>
  intro m es out hc hl hr hm ho
  show ∃ r,zcg (qt k) es w out=some r∧_
  unfold zcg
  rw[zeO _ _ _ _ (by unfold maxLen; omega)]
  have go:∀(es out:List Int),(∀ c∈es,-24≤c)→(∀ c∈es,c<0→B (-1 - c).toNat≠none→Good.rank σ (-1 - c).toNat<m)→out.length≤1000 →
    ∃ r,zx (qt k) w es out=some r∧Qf out (es.flatMap (zgz σ)) r:=by
   intro es
   induction es with
   | nil=>intro out _ _ _; exact ⟨out,rfl,Qf.nil out⟩
   | cons e es ihe =>
    intro out hc hr ho
    have ihe:=fun out ho=>ihe out (fun c h=>hc c (List.mem_cons_of_mem _ h)) (fun c h=>hr c (List.mem_cons_of_mem _ h)) ho
    have he:=hc e (List.mem_cons_self ..)
    unfold zx
    by_cases h48:out.length≤48
    ·rw[decide_eq_true (show ((List.length out:Nat):Int)≤48 by omega),cond_true,List.flatMap_cons]
     have plain:zgz σ e=[e]→∃ r,(cond (yQ (List.length out+List.length ([e]:List Int)) 8) (zx (qt k) w es (out++([e]:List Int))) none)=some r∧Qf out (zgz σ e++es.flatMap (zgz σ)) r:=fun hx=>by
      obtain⟨r,g1,g2⟩:=ihe (out++[e]) (by simp; omega)
      rw[zn (by simp; omega),cond_true,g1,hx]
      exact ⟨r,rfl,(Qf.one e h48).step g2⟩
     by_cases h0:e<0
     ·rw[decide_eq_true h0,cond_true]
      obtain⟨u,rfl⟩:∃ u:Nat,e = -1 - (u:Int):=⟨(-1 - e).toNat,by omega⟩
      have hu:u<24:=by omega
      have hn:(-1 - (-1 - (u:Int))).toNat=u:=by omega
      have w1:IntKind.wrap .i64 ((-1) - (-1 - (u:Int)))=(u:Int):=by rw[zp]<;>omega
      rw[w1]
      simp only[yY (show u<48 by omega),Option.bind_some,hT.at_ u (by omega)]
      cases hb:B u with
      | none =>
       show ∃ r,(cond (decide (((List.length ([]:List Int):Nat):Int)>0)) _ _)=_∧_
       refine plain ?_
       unfold zgz
       rw[if_pos h0,hn,hG.free u hb]
       rfl
      | some t =>
       obtain⟨-,h2,h3⟩:=hT.ok u t hb
       have hp:=ziN t
       show ∃ r,(cond (decide (((List.length t.codes:Nat):Int)>0)) _ _)=_∧_
       rw[decide_eq_true (show ((List.length t.codes:Nat):Int)>0 by omega),cond_true]
       have hcodes:=zhK h2
       obtain⟨r1,k1,k2⟩:=ih (Good.rank σ u) t.codes out (fun c h=>(hcodes c h).1) (by omega) (fun c hcm h0 _=>hG.rank_lt hb ((hcodes c hcm).2 h0) (by have:=(hcodes c hcm).1; omega)) (by
        have:=hr _ (List.mem_cons_self ..) (by omega) (by rw[hn,hb]; simp)
        rw[hn] at this
        omega) ho
       have k1:qt k (zzP (some t),w,out)=some r1:=k1
       rw[k1,Option.bind_some]
       obtain⟨r,g1,g2⟩:=ihe r1 (by have:=k2.len; omega)
       refine ⟨r,g1,Qf.step (r1:=r1) ?_ g2⟩
       have:zgz σ (-1 - (u:Int))=t.codes.flatMap (zgz σ):=by
        unfold zgz
        rw[if_pos h0,hn,hG.bound u t hb,Tm.codes_sub]
        rfl
       rw[this]
       exact k2
     ·rw[decide_eq_false h0,cond_false]
      refine plain ?_
      unfold zgz
      rw[if_neg h0]
    ·rw[decide_eq_false (show ¬((List.length out:Nat):Int)≤48 by omega),cond_false]
     exact ⟨out,rfl,Qf.full (by omega)⟩
  obtain⟨r,g1,g2⟩:=go es out hc hr ho
  rw[g1,Option.bind_some]
  exact ⟨r,rfl,g2⟩
theorem zvh {t:Tm} (ho:t.ok a0 24) (hl:t.codes.length≤48):∃ r,zde t.codes w []=some r∧Qf [] (t.sub σ).codes r:=by
 rw[Tm.codes_sub]
 refine zxs hT hG zd 100 t.codes [] (fun c h=>(zhK ho c h).1) (by omega) (fun c _ _ _ => ?_) (by unfold zd; omega) (by simp)
 have:=Good.rank_le σ (-1 - c).toNat
 omega
theorem zp0 {v:Nat} (hv0:B v=none) {t:Tm} (ho:t.ok a0 24) (hl:t.codes.length≤48):∃ b,zfI (v:Int) t.codes w=some b∧(b=true↔(t.sub σ).has v):=by
 obtain⟨b,h1,h2⟩:=zr6 hT hG hv0 zd 100 t.codes (fun c h=>(zhK ho c h).1) (by omega) (fun c _ _ _=>by have:=Good.rank_le σ (-1 - c).toNat; omega) (by unfold zd; omega)
 refine ⟨b,h1,h2.trans ?_⟩
 rw[Tm.has_sub]
 constructor
 ·rintro⟨c,h4,h5,h6⟩
  exact ⟨_,(zhK ho c h4).2 h5,h6⟩
 ·rintro⟨y,h4,h5⟩
  refine ⟨-1 - (y:Int),(Tm.mem_codes (by omega) t).2 (by rw[show (-1 - (-1 - (y:Int))).toNat=y by omega]; exact h4),by omega,by rw[show (-1 - (-1 - (y:Int))).toNat=y by omega]; exact h5⟩
end
structure OutW (a0:List zi) (B:Bd) (E:List (Tm×Tm)) (r:Bool×List jI):Prop where
 yes:r.1=true→∃ B' σ',RepW a0 r.2 B'∧Good B' σ'∧∀ θ,SolB θ B'↔SolB θ B∧Sol θ E
 no:r.1=false→∀ θ,SolB θ B→Sol θ E→False
theorem zc8 {θ:Sb} {t u:Tm}:Sol θ [(t,u)]↔t.sub θ=u.sub θ:=by simp [Sol]
theorem zmP {a0:List zi} {w:List jI} {B:Bd} {σ:Sb} (hT:RepW a0 w B) (hG:Good B σ) {x:Nat} (hx:x<24) (hb:B x=none) {c:Nat} {as:List Tm} (ho:(Tm.f c as).ok a0 24) (hl:(Tm.f c as).codes.length≤48) :
  ∃ r,zv [-1 - (x:Int)] (Tm.f c as).codes false w=some r∧OutW a0 B [(.v x,.f c as)] r:=by
 unfold zv
 have w1:IntKind.wrap .i64 ((-1) - (-1 - (x:Int)))=(x:Int):=by rw[zp]<;>omega
 simp only[yZ,List.getElem?_cons_zero,Option.bind_some,cond_false,w1]
 obtain⟨b,h1,h2⟩:=zp0 hT hG hb ho hl
 rw[h1,Option.bind_some]
 cases b with
 | true =>
  refine ⟨_,rfl,⟨fun h=>(nomatch h),fun _ θ h3 h4=>hG.occurs (h2.1 rfl) h3 (zc8.1 h4)⟩⟩
 | false =>
  simp only[cond_false,yY (show x<48 by omega),Option.bind_some,hT.at_ x (by omega)]
  have hn:¬((Tm.f c as).sub σ).has x:=fun h=>by have:=h2.2 h; cases this
  refine ⟨_,rfl,⟨fun _=>⟨_,_,hT.set hx ho hl,hG.bind hb hn (fun y hy=>by cases hy),fun θ => ?_⟩,fun h=>(nomatch h)⟩⟩
  rw[SolB.upd hb,zc8]
  rfl
theorem zoc {a0:List zi} {w:List jI} {B:Bd} {σ:Sb} (hT:RepW a0 w B) (hG:Good B σ) {x y:Nat} (hx:x<24) (hy:y<x) (hbx:B x=none) (hby:B y=none) :
  ∃ r,zv [-1 - (y:Int)] [-1 - (x:Int)] true w=some r∧OutW a0 B [(.v x,.v y)] r:=by
 unfold zv
 have w1:IntKind.wrap .i64 ((-1) - (-1 - (x:Int)))=(x:Int):=by rw[zp]<;>omega
 simp only[yZ,List.getElem?_cons_zero,Option.bind_some,cond_true,w1,yY (show x<48 by omega),hT.at_ x (by omega)]
 have hn:¬((Tm.v y).sub σ).has x:=by
  show ¬(σ y).has x
  rw[hG.free y hby]
  intro h
  have h:y=x:=h
  omega
 have hset:RepW a0 (w.set x (Tm.v y).codes) (zxu B x (.v y)):=hT.set hx (show y<24 by omega) (by show 1≤48; omega)
 refine ⟨_,rfl,⟨fun _=>⟨_,_,hset,hG.bind hbx hn (fun z hz=>by injection hz with hz; omega),fun θ => ?_⟩,fun h=>(nomatch h)⟩⟩
 rw[SolB.upd hbx,zc8]
 rfl
theorem OutW.via {a0:List zi} {B:Bd} {E E':List (Tm×Tm)} {r:Bool×List jI} (h:OutW a0 B E r) (he:∀ θ,SolB θ B→(Sol θ E↔Sol θ E')):OutW a0 B E' r where
 yes:=fun hr=>by
  obtain⟨B',σ',h1,h2,h3⟩:=h.yes hr
  exact ⟨B',σ',h1,h2,fun θ=>(h3 θ).trans ⟨fun ⟨a,b⟩=>⟨a,(he θ a).1 b⟩,fun ⟨a,b⟩=>⟨a,(he θ a).2 b⟩⟩⟩
 no:=fun hr θ h1 h2=>h.no hr θ h1 ((he θ h1).2 h2)
def Dep (R:List Tm) (B:Bd) (δ:Nat) (t:Tm):Prop:=∀ θ,SolB θ B→∃ c∈R,δ+(t.sub θ).ht≤(c.sub θ).ht
theorem Dep.mono {R:List Tm} {B B':Bd} {δ:Nat} {t:Tm} (h:Dep R B δ t) (hB:∀ θ,SolB θ B'→SolB θ B):Dep R B' δ t:=fun θ hθ=>h θ (hB θ hθ)
theorem Dep.lt {R:List Tm} {B:Bd} {σ:Sb} {δ:Nat} {t:Tm} (h:Dep R B δ t) (hG:Good B σ) (hS:zks B) (hR:∀ c∈R,c.size≤48):δ<2500:=by
 obtain⟨c,hc,h1⟩:=h σ hG.bound
 have h2:=Tm.ht_sub (s:=σ) (M:=49*49) c fun x _=>hG.low hS x
 have h3:=c.ht_size
 have h4:=hR c hc
 have h5:=zD8 (t.sub σ)
 omega
end
end Go.Abs.Q
namespace Go.Abs.Q
open Go Go.Abs
section
theorem zwb {a0:List zi} {t u:Tm} (ht:t.ok a0 24) (hu:u.ok a0 24) (h:t.codes=u.codes):t=u:=by
 have:=zdm (a0:=a0) _ [t] [u] (Nat.le_refl _) ⟨ht,trivial⟩ ⟨hu,trivial⟩ (by simp [zb,h])
 injection this
def Sm (a0:List zi) (t:Tm):Prop:=t.ok a0 24∧t.codes.length≤48
def zvs (a0:List zi) (R:List Tm) (k:Nat):Prop:=∀(δ:Nat) (w:List jI) (B:Bd) (σ:Sb) (t u:Tm),RepW a0 w B→Good B σ→Sm a0 t→Sm a0 u→Dep R B δ t→2*(2600 - δ)≤k →
 ∃ r,(yv k).1 (a0,t.codes,u.codes,w)=some r∧OutW a0 B [(t,u)] r
def zAf (a0:List zi) (R:List Tm) (k:Nat):Prop:=∀(δ:Nat) (w:List jI) (B:Bd) (σ:Sb) (ts us:List Tm),RepW a0 w B→Good B σ→(∀ t∈ts,Sm a0 t)→(∀ t∈us,Sm a0 t)→ts.length=us.length→ts.length≤1000→(∀ t∈ts,Dep R B δ t)→2*(2600 - δ)+1≤k →
 ∃ r,(yv k).2 (a0,ts.map Tm.codes,us.map Tm.codes,w)=some r∧OutW a0 B (ts.zip us) r
theorem zwS {a0:List zi} {R:List Tm} {k:Nat} (hp:zvs a0 R k):zAf a0 R (k+1):=by
 intro δ w B σ ts us hT hG hts hus hl hlen hd hk
 show ∃ r,zcK (yv k) a0 (ts.map Tm.codes) (us.map Tm.codes) w=some r∧_
 unfold zcK
 rw[ze0 _ _ _ _ _ (by rw[List.length_map]; unfold maxLen; omega)]
 have go:∀(ts vs:List Tm) (i:Nat) (w:List jI) (B:Bd) (σ:Sb),RepW a0 w B→Good B σ→us.drop i=vs→(∀ t∈ts,Sm a0 t)→ts.length=vs.length→(∀ t∈ts,Dep R B δ t) →
   (∃ w',zJ (yv k) a0 (us.map Tm.codes) (ts.map Tm.codes) i w=some (.inl w')∧OutW a0 B (ts.zip vs) (true,w')) ∨
   (∃ w',zJ (yv k) a0 (us.map Tm.codes) (ts.map Tm.codes) i w=some (.inr (false,w'))∧OutW a0 B (ts.zip vs) (false,w')):=by
  intro ts
  induction ts with
  | nil =>
   intro vs i w B σ hT hG hdr _ hl _
   exact .inl ⟨w,rfl,⟨fun _=>⟨B,σ,hT,hG,fun θ=>⟨fun h=>⟨h,Sol.nil⟩,fun h=>h.1⟩⟩,fun h=>(nomatch h)⟩⟩
  | cons t ts ih =>
   intro vs i w B σ hT hG hdr hts hl hd
   cases vs with
   | nil=>simp at hl
   | cons v vs =>
    have hgv:us[i]? = some v:=zk hdr
    have hvm:v∈us:=List.mem_of_getElem? hgv
    obtain⟨r,h1,h2⟩:=hp δ w B σ t v hT hG (hts t (List.mem_cons_self ..)) (hus v hvm) (hd t (List.mem_cons_self ..)) (by omega)
    rw[List.map_cons]
    unfold zJ
    rw[y5,List.getElem?_map,hgv]
    simp only[Option.map_some,Option.bind_some]
    rw[h1,Option.bind_some]
    obtain⟨b,w1⟩:=r
    cases b with
    | false =>
     refine .inr ⟨w1,rfl,⟨fun h=>(nomatch h),fun _ θ h3 h4=>h2.no rfl θ h3 ?_⟩⟩
     rw[List.zip_cons_cons,Sol.cons] at h4
     exact zc8.2 h4.1
    | true =>
     obtain⟨B',σ',g1,g2,g3⟩:=h2.yes rfl
     have comb:∀{r2:Bool×List jI},OutW a0 B' (ts.zip vs) r2→OutW a0 B ((t::ts).zip (v::vs)) r2:=fun {r2} h=>by
      rw[List.zip_cons_cons]
      refine ⟨fun hr => ?_,fun hr θ h3 h4 => ?_⟩
      ·obtain⟨B2,σ2,k1,k2,k3⟩:=h.yes hr
       refine ⟨B2,σ2,k1,k2,fun θ => ?_⟩
       rw[k3,g3,zc8,and_assoc,Sol.cons (p:=(t,v)) (E:=ts.zip vs)]
      ·rw[Sol.cons] at h4
       exact h.no hr θ ((g3 θ).2 ⟨h3,zc8.2 h4.1⟩) h4.2
     rcases ih vs (i+1) w1 B' σ' g1 g2 (ze hdr) (fun t h=>hts t (List.mem_cons_of_mem _ h)) (by simpa using hl) (fun t h=>(hd t (List.mem_cons_of_mem _ h)).mono fun θ hθ=>((g3 θ).1 hθ).1) with ⟨w',q1,q2⟩ | ⟨w',q1,q2⟩
     ·exact .inl ⟨w',q1,comb q2⟩
     ·exact .inr ⟨w',q1,comb q2⟩
 rcases go ts us 0 w B σ hT hG rfl hts hl hd with ⟨w',h1,h2⟩ | ⟨w',h1,h2⟩
 ·rw[h1]; exact ⟨_,rfl,h2⟩
 ·rw[h1]; exact ⟨_,rfl,h2⟩
theorem zsG {a0:List zi} (hs:SignOk a0) {R:List Tm} (hR:∀ c∈R,c.size≤48) {k:Nat} (ha:zAf a0 R k):zvs a0 R (k+1):=by
 intro δ w B σ t u hT hG ht hu hd hk
 show ∃ r,zbg (yv k) a0 t.codes u.codes w=some r∧_
 obtain⟨t1,a1,a2,a3,a4,a5⟩:=zow hT hG ht.1 ht.2
 obtain⟨u1,b1,b2,b3,b4,b5⟩:=zow hT hG hu.1 hu.2
 -- it is enough to speak of these
 suffices h:∃ r,zbg (yv k) a0 t.codes u.codes w=some r∧OutW a0 B [(t1,u1)] r by
  obtain⟨r,h1,h2⟩:=h
  exact ⟨r,h1,h2.via fun θ hθ=>by rw[zc8,zc8,a4 θ hθ,b4 θ hθ]⟩
 have eta:∀{o:Option (Bool×List jI)} {E:List (Tm×Tm)},(∃ r,o=some r∧OutW a0 B E r)→∃ r,(o.bind fun r=>some (r.1,r.2))=some r∧OutW a0 B E r:=fun ⟨r,h1,h2⟩=>⟨r,by rw[h1]; rfl,h2⟩
 have flip:∀{o:Option (Bool×List jI)} {p q:Tm},(∃ r,o=some r∧OutW a0 B [(p,q)] r)→∃ r,o=some r∧OutW a0 B [(q,p)] r:=fun ⟨r,h1,h2⟩=>⟨r,h1,h2.via fun θ _=>by rw[zc8,zc8]; exact eq_comm⟩
 unfold zbg
 rw[a1,Option.bind_some,b1,Option.bind_some,zgl (by omega),Option.bind_some]
 by_cases he:t1.codes=u1.codes
 ·have:=zwb a2 b2 he
  subst this
  rw[decide_eq_true he,cond_true]
  exact ⟨_,rfl,⟨fun _=>⟨B,σ,hT,hG,fun θ=>⟨fun h=>⟨h,zc8.2 rfl⟩,fun h=>h.1⟩⟩,fun h=>(nomatch h)⟩⟩
 rw[decide_eq_false he,cond_false]
 have hne:t1≠u1:=fun h=>he (by rw[h])
 clear he a1 b1
 cases t1 with
 | v x =>
  have hx:x<24:=a2
  have hbx:=a5 x rfl
  have c1:(Tm.v x).codes=[-1 - (x:Int)]:=rfl
  have d1:decide (-1 - (x:Int)<0)=true:=decide_eq_true (by omega)
  have d2:decide (-1 - (x:Int)≥0)=false:=decide_eq_false (by omega)
  cases u1 with
  | v y =>
   have hy:y<24:=b2
   have hby:=b5 y rfl
   have c2:(Tm.v y).codes=[-1 - (y:Int)]:=rfl
   have d3:decide (-1 - (y:Int)<0)=true:=decide_eq_true (by omega)
   have hxy:x≠y:=fun h=>hne (by rw[h])
   rw[c1,c2]
   by_cases hlt:y<x
   ·have d4:decide (-1 - (x:Int) < -1 - (y:Int))=true:=decide_eq_true (by omega)
    simp only[yZ,List.getElem?_cons_zero,Option.bind_some,d1,d3,d4,cond_true]
    exact eta (zoc hT hG hx hlt hbx hby)
   ·have d4:decide (-1 - (x:Int) < -1 - (y:Int))=false:=decide_eq_false (by omega)
    simp only[yZ,List.getElem?_cons_zero,Option.bind_some,d1,d2,d3,d4,cond_true,cond_false]
    exact eta (flip (zoc hT hG hy (by omega) hby hbx))
  | f c as =>
   have c2:(Tm.f c as).codes=(c:Int)::zb as:=rfl
   have d3:decide ((c:Int)<0)=false:=decide_eq_false (by omega)
   have h1:=zmP hT hG hx hbx b2 b3
   rw[c2] at h1
   rw[c1,c2]
   simp only[yZ,List.getElem?_cons_zero,Option.bind_some,d1,d2,d3,cond_true,cond_false]
   exact eta h1
 | f c as =>
  have c1:(Tm.f c as).codes=(c:Int)::zb as:=rfl
  have d1:decide ((c:Int)<0)=false:=decide_eq_false (by omega)
  have d2:decide ((c:Int)≥0)=true:=decide_eq_true (by omega)
  cases u1 with
  | v y =>
   have hy:y<24:=b2
   have hby:=b5 y rfl
   have c2:(Tm.v y).codes=[-1 - (y:Int)]:=rfl
   have d3:decide (-1 - (y:Int)<0)=true:=decide_eq_true (by omega)
   have h1:=zmP hT hG hy hby a2 a3
   rw[c1] at h1
   rw[c1,c2]
   simp only[yZ,List.getElem?_cons_zero,Option.bind_some,d1,d2,d3,cond_true,cond_false]
   exact eta (flip h1)
  | f d bs =>
   have c2:(Tm.f d bs).codes=(d:Int)::zb bs:=rfl
   have d3:decide ((d:Int)<0)=false:=decide_eq_false (by omega)
   rw[c1,c2]
   simp only[yZ,List.getElem?_cons_zero,Option.bind_some,d1,d2,d3,cond_true,cond_false]
   by_cases hcd:c=d
   ·subst hcd
    rw[show ((c:Int) != (c:Int))=false from by simp,cond_false]
    have hla:as.length=bs.length:=by
     have h1:=a2.1
     have h2:=b2.1
     rw[h1] at h2
     injection h2
    rw[c1,List.length_cons] at a3
    rw[c2,List.length_cons] at b3
    have hw:∀{xs:List Tm},(zb xs).length≤48→∀ t∈xs,t.codes.length≤48:=fun h t ht=>Nat.le_trans (zd9 ht) h
    rw[zcL,Option.bind_some,zaK hs (by omega) (yp as a2.2),Option.bind_some,zcL,Option.bind_some,zaK hs (by omega) (yp bs b2.2),Option.bind_some]
    have hlt:=hd.lt hG hT.small hR
    obtain⟨r,h1,h2⟩:=ha (δ+1) w B σ as bs hT hG (fun t h=>⟨zbQ.1 a2.2 t h,hw (by omega) t h⟩) (fun t h=>⟨zbQ.1 b2.2 t h,hw (by omega) t h⟩) hla (by
      have:=zhH (yp as a2.2)
      rw[List.length_map] at this
      omega) (fun a ham θ hθ=>by
      obtain⟨c',hc',h5⟩:=hd θ hθ
      refine ⟨c',hc',?_⟩
      rw[a4 θ hθ] at h5
      have h6:((Tm.f c as).sub θ).ht=htR (zbo θ as)+1:=rfl
      have h7:=zpM (ts:=zbo θ as) (t:=a.sub θ) (by rw[zic]; exact List.mem_map_of_mem ham)
      omega) (by omega)
    rw[h1,Option.bind_some]
    refine ⟨_,rfl,h2.via fun θ _ => ?_⟩
    rw[Sol.zip hla,zc8,zBI]
    simp
   ·rw[show ((c:Int) != (d:Int))=true from by simp; omega,cond_true]
    refine ⟨_,rfl,⟨fun h=>(nomatch h),fun _ θ _ h4 => ?_⟩⟩
    rw[zc8,zBI] at h4
    exact hcd h4.1
theorem zxU {a0:List zi} (hs:SignOk a0) {R:List Tm} (hR:∀ c∈R,c.size≤48):∀ k,zvs a0 R k∧zAf a0 R k:=by
 intro k
 induction k with
 | zero =>
  refine ⟨fun δ w B σ t u hT hG _ _ hd hk => ?_,fun δ w B σ ts us _ _ _ _ _ _ _ hk=>by omega⟩
  have:=hd.lt hG hT.small hR
  omega
 | succ k ih=>exact ⟨zsG hs hR ih.2,zwS ih.1⟩
end
end Go.Abs.Q
namespace Go.Abs.Q
open Go Go.Abs
section
theorem zEO (a0:List zi):RepW a0 (List.replicate 48 ([]:List Int)) (fun _=>none) where
 len:=by simp
 at_:=fun x hx=>by rw[List.getElem?_replicate,if_pos hx]; rfl
 ok:=fun x t h=>by cases h
theorem zor {a0:List zi} {w:List jI} {B:Bd} {σ:Sb} (hT:RepW a0 w B) (hG:Good B σ):∀(m v k:Nat) (out:List (Int×List Int)),24 - v=m→v≤24→m<k→out.length≤v →
  lp zaA k ((v:Int),w,out)=some (cond (zap σ ((List.range 24).drop v)) (.inl (out++zbq B σ ((List.range 24).drop v))) (.inr (true,false))):=by
 intro m
 induction m with
 | zero =>
  intro v k out hm hv hk ho
  obtain⟨k,rfl⟩:∃ k',k=k'+1:=⟨k - 1,by omega⟩
  rw[zm]
  generalize lp zaA k=rec
  unfold zaA
  have:v=24:=by omega
  subst this
  rw[show (List.range 24).drop 24=[] from rfl]
  simp [zbq,zap]
 | succ m ih =>
  intro v k out hm hv hk ho
  obtain⟨k,rfl⟩:∃ k',k=k'+1:=⟨k - 1,by omega⟩
  rw[zm]
  have key:=fun out' ho'=>ih (v+1) k out' (by omega) (by omega) (by omega) ho'
  generalize lp zaA k=rec at key ⊢
  unfold zaA
  have w1:IntKind.wrap .i64 ((v:Int)+1)=((v+1:Nat):Int):=by rw[zp]<;>omega
  have hdr:(List.range 24).drop v=v::(List.range 24).drop (v+1):=by
   rw[List.drop_eq_getElem_cons (by simp; omega)]
   simp
  simp only[decide_eq_true (show (v:Int)≤23 by omega),cond_true,yY (show v<48 by omega),Option.bind_some,hT.at_ v (by omega),w1]
  rw[hdr]
  cases hb:B v with
  | none =>
   show (cond (((List.length ([]:List Int):Nat):Int)==0) _ _)=_
   rw[show (((List.length ([]:List Int):Nat):Int)==0)=true from rfl,cond_true,key out (by omega)]
   have hs:(σ v).size≤48:=by rw[hG.free v hb]; simp [Tm.size]
   have hb:zrG B v=false:=by simp [zrG,hb]
   simp [zbq,zap,hb,hs]
  | some t =>
   obtain⟨-,h2,h3⟩:=hT.ok v t hb
   have hp:=ziN t
   show (cond (((List.length t.codes:Nat):Int)==0) _ ((zde t.codes w []).bind _))=_
   rw[show (((List.length t.codes:Nat):Int)==0)=false from by simp; intro h; rw[h] at hp; simp at hp,cond_false]
   obtain⟨r,g1,g2⟩:=zvh hT hG h2 h3
   rw[← hG.bound v t hb] at g2
   rw[g1,Option.bind_some]
   by_cases hs:(σ v).size≤48
   ·have hr:=g2.fits (by rw[Tm.codes_len]; simpa using hs)
    rw[List.nil_append] at hr
    subst hr
    rw[decide_eq_false (show ¬((List.length (σ v).codes:Nat):Int)>48 by rw[Tm.codes_len]; omega),cond_false,zn (by simp only[List.length_singleton]; omega),cond_true,key _ (by simp only[List.length_append,List.length_singleton]; omega)]
    have hb:zrG B v=true:=by simp [zrG,hb]
    simp [zbq,zap,hb,hs]
   ·have hr:=g2.over (by rw[Tm.codes_len]; simp; omega)
    rw[decide_eq_true (show ((List.length r:Nat):Int)>48 by omega),cond_true]
    simp [zap,hs]
theorem ziU {a0:List zi} (hs:SignOk a0) {ts us:List Tm} (ht:okR a0 24 ts) (hu:okR a0 24 us) (hlx:(zb ts).length≤48) (hly:(zb us).length≤48) :
  (zcP a0 (zb ts) (zb us)=some (false,true,[])∧(ts.length≠us.length∨∀ θ,¬ Sol θ (ts.zip us))) ∨
  (ts.length=us.length∧∃ σ,Mgu σ (ts.zip us)∧zcP a0 (zb ts) (zb us)=some (true,zap σ (List.range 24),cond (zap σ (List.range 24)) (zdW σ) [])):=by
 unfold zcP
 rw[zaK hs (by omega) (yp ts ht),Option.bind_some,zaK hs (by omega) (yp us hu),Option.bind_some]
 by_cases hl:ts.length=us.length
 ·rw[show (((List.length (ts.map Tm.codes):Nat):Int) != ((List.length (us.map Tm.codes):Nat):Int))=false from by simp [hl],cond_false]
  have sm:∀{xs:List Tm},okR a0 24 xs→(zb xs).length≤48→∀ t∈xs,Sm a0 t:=fun h1 h2 t h=>⟨zbQ.1 h1 t h,Nat.le_trans (zd9 h) h2⟩
  have hR:∀ c∈ts,c.size≤48:=fun c hc=>by have:=(sm ht hlx c hc).2; rwa [Tm.codes_len] at this
  obtain⟨r,h1,h2⟩:=(zxU hs hR zd).2 0 (List.replicate 48 []) (fun _=>none) .v ts us (zEO a0) Good.empty (sm ht hlx) (sm hu hly) hl (by
   have:=zhH (yp ts ht)
   rw[List.length_map] at this
   omega) (fun t h θ _=>⟨t,h,by omega⟩) (by unfold zd; omega)
  have h1:zgC a0 (ts.map Tm.codes) (us.map Tm.codes) (List.replicate 48 [])=some r:=h1
  rw[h1,Option.bind_some]
  cases hb:r.1 with
  | false=>exact .inl ⟨rfl,.inr fun θ h=>h2.no hb θ (fun _ _ h=>(nomatch h)) h⟩
  | true =>
   obtain⟨B',σ,g1,g2,g3⟩:=h2.yes hb
   refine .inr ⟨hl,σ,Mgu.of g2 g3,?_⟩
   have:=zor g1 g2 24 0 zd [] rfl (by omega) (by unfold zd; omega) (by simp)
   rw[show ((0:Nat):Int)=0 from rfl] at this
   rw[Bool.not_true,cond_false,this,List.drop_zero]
   have he:zbq B' σ (List.range 24)=zdW σ:=by
    unfold zbq zdW
    rw[show zrG B'=moved σ from funext (zsN g2)]
   cases zap σ (List.range 24) with
   | true=>simp only[cond_true,Option.bind_some,zcH,List.nil_append,he]
   | false=>rfl
 ·rw[show (((List.length (ts.map Tm.codes):Nat):Int) != ((List.length (us.map Tm.codes):Nat):Int))=true from by simp; omega,cond_true]
  exact .inl ⟨rfl,.inl hl⟩
end
end Go.Abs.Q
namespace Go.Abs.Q
open Go Go.Abs
section
theorem zCO (v:Int):(es:List (Int×List Int))→(i:Nat)→(zd3 es v=none∧zaE v es i=some (.inl ()))∨∃(j:Nat) (e:Int×List Int),zaE v es i=some (.inr ((i+j:Nat):Int))∧es[j]? = some e∧zd3 es v=some e.2
 | [],i=>.inl ⟨rfl,rfl⟩
 | e::es,i=>by
  unfold zaE zd3
  rw[List.find?_cons]
  cases h:e.1==v with
  | true=>exact .inr ⟨0,e,rfl,rfl,rfl⟩
  | false =>
   rw[cond_false]
   rcases zCO v es (i+1) with ⟨h1,h2⟩ | ⟨j,e',h1,h2,h3⟩
   ·exact .inl ⟨h1,h2⟩
   ·exact .inr ⟨j+1,e',by rw[h1,show i+1+j=i+(j+1) from by omega],by simpa using h2,h3⟩
theorem zvL {s:List (Int×List Int)} (hl:s.length≤1000) (v:Int):(zd3 s v=none∧zjL s v=some (-1))∨∃(j:Nat) (e:Int×List Int),zjL s v=some (j:Int)∧s[j]? = some e∧zd3 s v=some e.2:=by
 unfold zjL
 rw[zjr _ _ (by unfold maxLen; omega)]
 rcases zCO v s 0 with ⟨h1,h2⟩ | ⟨j,e,h1,h2,h3⟩
 ·exact .inl ⟨h1,by rw[h2]; rfl⟩
 ·exact .inr ⟨j,e,by rw[h1,Nat.zero_add]; rfl,h2,h3⟩
theorem zyd {s:List (Int×List Int)} (h:BindsOk s):(es out:List Int)→(∀ c∈es,-1000000≤c∧c≤1000000)→out.length+1000*es.length≤1000000000→yB s es out=some (out++onB s es)
 | [],out,_,_=>by simp [yB,onB]
 | c::es,out,hc,hl=>by
  have hc0:=hc c (List.mem_cons_self ..)
  simp only[List.length_cons] at hl
  have ih:=fun out hl=>zyd h es out (fun c h=>hc c (List.mem_cons_of_mem _ h)) hl
  unfold yB
  have plain:onC s c=[c]→(cond (yQ (List.length out+List.length ([c]:List Int)) 8) (yB s es (out++([c]:List Int))) none)=some (out++onB s (c::es)):=fun hx=>by
   rw[zn (by simp; omega),cond_true,ih _ (by simp; omega)]
   unfold onB
   rw[List.flatMap_cons,hx,List.append_assoc]
  by_cases h0:c<0
  ·rw[decide_eq_true h0,cond_true]
   have w1:IntKind.wrap .i64 ((-1) - c) = -1 - c:=by rw[zp]<;>omega
   rw[w1]
   rcases zvL h.len (-1 - c) with ⟨h1,h2⟩ | ⟨j,e,h1,h2,h3⟩
   ·rw[h2,Option.bind_some,show decide ((-1:Int)<0)=true from rfl,cond_true]
    refine plain ?_
    unfold onC
    rw[h1,decide_eq_false (show ¬ c≥0 by omega)]
    rfl
   ·have he:=(h.all e (List.mem_of_getElem? h2)).2
    rw[h1,Option.bind_some,decide_eq_false (show ¬(j:Int)<0 by omega),cond_false,y5,h2,Option.bind_some,zn (by omega),cond_true,ih _ (by rw[List.length_append]; omega)]
    unfold onB
    have:onC s c=e.2:=by
     unfold onC
     rw[h3,decide_eq_false (show ¬ c≥0 by omega)]
     rfl
    rw[List.flatMap_cons,this,List.append_assoc]
  ·rw[decide_eq_false h0,cond_false]
   refine plain ?_
   unfold onC
   rw[decide_eq_true (show c≥0 by omega)]
   rfl
theorem zpg {s:List (Int×List Int)} (h:BindsOk s) {r:List Int} (hr:zcB r):zcd s r=some (onB s r):=by
 have:=hr.1
 unfold zcd
 rw[ziZ _ _ _ (by unfold maxLen; omega),zyd h r [] hr.2 (by simp; omega)]
 rfl
theorem zuE {s:List (Int×List Int)} (h:BindsOk s):(es out:List zc)→(∀ l∈es,zcB l.2)→out.length+es.length≤1000000→qH s es out=some (out++zmh s es)
 | [],out,_,_=>by simp [qH,zmh]
 | e::es,out,hn,hl=>by
  simp only[List.length_cons] at hl
  unfold qH
  rw[zpg h (hn e (List.mem_cons_self ..)),Option.bind_some,zn (by simp; omega),cond_true,zuE h es _ (fun l hl=>hn l (List.mem_cons_of_mem _ hl)) (by simp; omega)]
  simp [zmh]
theorem ztA {s:List (Int×List Int)} (h:BindsOk s) (s5:List zc):(es out:List jI)→(∀ l∈es,zcB l)→out.length+es.length≤1000000→qF s s5 es out=some (s5,out++zsD s es)
 | [],out,_,_=>by simp [qF,zsD]
 | e::es,out,hn,hl=>by
  simp only[List.length_cons] at hl
  unfold qF
  rw[zpg h (hn e (List.mem_cons_self ..)),Option.bind_some,zn (by simp; omega),cond_true,ztA h s5 es _ (fun l hl=>hn l (List.mem_cons_of_mem _ hl)) (by simp; omega)]
  simp [zsD]
theorem ztB {s:List (Int×List Int)} (h:BindsOk s) (s5:List zc) (s6:List jI):(es out:List zc)→(∀ l∈es,zcB l.2)→out.length+es.length≤1000000→qI s s5 s6 es out=some (s5,s6,out++zmh s es)
 | [],out,_,_=>by simp [qI,zmh]
 | e::es,out,hn,hl=>by
  simp only[List.length_cons] at hl
  unfold qI
  rw[zpg h (hn e (List.mem_cons_self ..)),Option.bind_some,zn (by simp; omega),cond_true,ztB h s5 s6 es _ (fun l hl=>hn l (List.mem_cons_of_mem _ hl)) (by simp; omega)]
  simp [zmh]
theorem zp7 {s:List (Int×List Int)} (h:BindsOk s) {L:List zc} {T:List jI} {C:List zc} (hL:∀ l∈L,zcB l.2) (hT:∀ l∈T,zcB l) (hC:∀ l∈C,zcB l.2) (h1:L.length≤1000) (h2:T.length≤1000) (h3:C.length≤1000) :
  zdA s L T C=some (zmh s L,zsD s T,zmh s C):=by
 unfold zdA
 rw[ziF _ _ _ _ _ (by unfold maxLen; omega),zuE h L [] hL (by simp; omega),Option.bind_some,
  zio _ _ _ _ _ _ (by unfold maxLen; omega),ztA h _ T [] hT (by simp; omega),Option.bind_some,
  zif _ _ _ _ _ _ _ (by unfold maxLen; omega),ztB h _ _ C [] hC (by simp; omega),Option.bind_some]
 simp
theorem zsm {l k:zc} (h:l.2.length≤1000000):zfe l.1 l.2 k.1 k.2=some (decide (l=k)):=by
 obtain⟨n,r⟩:=l
 obtain⟨n',r'⟩:=k
 unfold zfe
 by_cases hn:n=n'
 ·subst hn
  simp only[beq_self_eq_true,cond_true]
  rw[zgl h,Option.bind_some]
  simp
 ·rw[show (n==n')=false from by simp [hn],cond_false]
  simp [hn]
theorem ztv {s0 out:List zc} {i0:Nat} {e0:zc} (he:s0[i0]? = some e0) (ho:∀ l∈out,l.2.length≤1000000):(es:List zc)→(i:Nat)→(b:Bool)→out.drop i=es→qg s0 (i0:Int) out es i b=some (b||decide (e0∈es),out)
 | [],i,b,_=>by simp [qg]
 | e::es,i,b,hd=>by
  have ih:=fun b=>ztv he ho es (i+1) b (ze hd)
  unfold qg
  cases b with
  | true=>rw[cond_true,ih true]; rfl
  | false =>
   have hi:=zI hd
   have hg:=zk hd
   rw[cond_false,yY hi,Option.bind_some,hg,Option.bind_some,y5,he,Option.bind_some,zsm (ho e (List.mem_of_getElem? hg)),Option.bind_some,ih]
   congr 2
   rw[Bool.eq_iff_iff,Bool.false_or,Bool.or_eq_true,decide_eq_true_iff,decide_eq_true_iff,decide_eq_true_iff,List.mem_cons]
   exact ⟨fun h=>h.imp Eq.symm id,fun h=>h.imp Eq.symm id⟩
theorem zqs {s0:List zc} (hs:∀ l∈s0,l.2.length≤1000000):(es:List zc)→(i:Nat)→(out:List zc)→s0.drop i=es→(∀ l∈out,l.2.length≤1000000)→out.length+es.length≤1000000→qB s0 es i out=some (zK es out)
 | [],i,out,_,_,_=>rfl
 | e::es,i,out,hd,ho,hl=>by
  simp only[List.length_cons] at hl
  have hg:=zk hd
  have hem:=List.mem_of_getElem? hg
  unfold qB zK
  rw[ziE _ _ _ _ (by unfold maxLen; omega),ztv hg ho out 0 false rfl,Option.bind_some,Bool.false_or]
  by_cases hm:e∈out
  ·have e1:∀ inst:Decidable (e∈out),@decide (e∈out) inst=true:=fun _=>decide_eq_true hm
   simp only[e1,Bool.not_true,cond_false,cond_true]
   exact zqs hs es (i+1) out (ze hd) ho (by omega)
  ·have e1:∀ inst:Decidable (e∈out),@decide (e∈out) inst=false:=fun _=>decide_eq_false hm
   simp only[e1,Bool.not_false,cond_true,cond_false]
   rw[zn (by simp; omega),cond_true]
   exact zqs hs es (i+1) _ (ze hd) (fun l hl=>by
    rcases List.mem_append.1 hl with hl | hl
    ·exact ho l hl
    ·rw[List.mem_singleton.1 hl]; exact hs e hem) (by simp; omega)
theorem ztg {L:List zc} (hs:∀ l∈L,l.2.length≤1000000) (hl:L.length≤1000):ziS L=some (zK L []):=by
 unfold ziS
 rw[zh9 _ _ (by unfold maxLen; omega),zqs hs L 0 [] rfl (fun _ h=>(nomatch h)) (by simp; omega)]
 rfl
theorem zuo {s4 out:List jI} {s6 s7:List zc} {i0:Nat} {e0:List Int} (he:s4[i0]? = some e0) (ho:∀ l∈out,l.length≤1000000):(es:List jI)→(i:Nat)→(b:Bool)→out.drop i=es→qa (i0:Int) s4 s6 s7 out es i b=some (b||decide (e0∈es),s6,s7,out)
 | [],i,b,_=>by simp [qa]
 | e::es,i,b,hd=>by
  have ih:=fun b=>zuo (s6:=s6) (s7:=s7) he ho es (i+1) b (ze hd)
  unfold qa
  cases b with
  | true=>rw[cond_true,ih true]; rfl
  | false =>
   have hi:=zI hd
   have hg:=zk hd
   rw[cond_false,yY hi,Option.bind_some,hg,Option.bind_some,y5,he,Option.bind_some,zgl (ho e (List.mem_of_getElem? hg)),Option.bind_some,ih]
   congr 2
   rw[Bool.eq_iff_iff,Bool.false_or,Bool.or_eq_true,decide_eq_true_iff,decide_eq_true_iff,decide_eq_true_iff,List.mem_cons]
   exact ⟨fun h=>h.imp Eq.symm id,fun h=>h.imp Eq.symm id⟩
theorem zpU {s1 s3 s4 s5:List zc} {s2:List jI} (hs:∀ l∈s2,l.length≤1000000):(es:List jI)→(i:Nat)→(out:List jI)→s2.drop i=es→(∀ l∈out,l.length≤1000000)→out.length+es.length≤1000000→qN s1 s2 s3 es i s4 s5 out=some (s4,s5,zK es out)
 | [],i,out,_,_,_=>rfl
 | e::es,i,out,hd,ho,hl=>by
  simp only[List.length_cons] at hl
  have hg:=zk hd
  have hem:=List.mem_of_getElem? hg
  unfold qN zK
  rw[zia _ _ _ _ _ _ _ _ (by unfold maxLen; omega),zuo hg ho out 0 false rfl,Option.bind_some,Bool.false_or]
  by_cases hm:e∈out
  ·have e1:∀ inst:Decidable (e∈out),@decide (e∈out) inst=true:=fun _=>decide_eq_true hm
   simp only[e1,Bool.not_true,cond_false,cond_true]
   exact zpU hs es (i+1) out (ze hd) ho (by omega)
  ·have e1:∀ inst:Decidable (e∈out),@decide (e∈out) inst=false:=fun _=>decide_eq_false hm
   simp only[e1,Bool.not_false,cond_true,cond_false]
   rw[zn (by simp; omega),cond_true]
   exact zpU hs es (i+1) _ (ze hd) (fun l hl=>by
    rcases List.mem_append.1 hl with hl | hl
    ·exact ho l hl
    ·rw[List.mem_singleton.1 hl]; exact hs e hem) (by simp; omega)
end
end Go.Abs.Q
namespace Go.Abs.Q
open Go Go.Abs
section
def zy3 (bs:List (Int×List Int)) (c:Int):List (Int×List Int):=cond (decide (c<0)&&(zd3 bs (-1 - c)).isNone) (bs++[(-1 - c,[-1 - (bs.length:Int)])]) bs
def zzl (bs:List (Int×List Int)) (r:List Int):List (Int×List Int):=r.foldl zy3 bs
theorem zwR (bs:List (Int×List Int)) (c:Int):(zy3 bs c).length≤bs.length+1:=by
 unfold zy3
 cases decide (c<0)&&(zd3 bs (-1 - c)).isNone<;>simp
theorem zwL (r:List Int):(bs:List (Int×List Int))→(zzl bs r).length≤bs.length+r.length:=by
 unfold zzl
 induction r with
 | nil=>intro bs; simp
 | cons c r ih =>
  intro bs
  have:=ih (zy3 bs c)
  have:=zwR bs c
  simp only[List.foldl_cons,List.length_cons]
  omega
theorem zs6 {rows:List jI} {i:Nat} {r:List Int} (hr:rows[i]? = some r) (L:List zc) (T:List jI) (C:List zc) (hrl:r.length≤1000):∀(es:List Int) (j k:Nat) (bs:List (Int×List Int)),r.drop j=es→(∀ c∈es,-1000000≤c∧c≤1000000)→es.length<k→bs.length+es.length≤1000 →
  lp zbN k (rows,(i:Int),(j:Int),L,T,C,bs)=some (zzl bs es)
 | [],j,k,bs,hd,_,hk,_=>by
  obtain⟨k,rfl⟩:∃ k',k=k'+1:=⟨k - 1,by simp at hk; omega⟩
  rw[zm]
  generalize lp zbN k=rec
  unfold zbN
  have:=qh hd
  rw[y5,hr,Option.bind_some,decide_eq_false (show ¬(j:Int)<((List.length r:Nat):Int) by omega),cond_false]
  rfl
 | c::es,j,k,bs,hd,hc,hk,hb=>by
  obtain⟨k,rfl⟩:∃ k',k=k'+1:=⟨k - 1,by simp at hk; omega⟩
  simp only[List.length_cons] at hk hb
  have hlt:=zI hd
  have hc0:=hc c (List.mem_cons_self ..)
  rw[zm]
  have key:=fun bs hb=>zs6 hr L T C hrl es (j+1) k bs (ze hd) (fun c h=>hc c (List.mem_cons_of_mem _ h)) (by omega) hb
  generalize lp zbN k=rec at key ⊢
  unfold zbN
  have w1:IntKind.wrap .i64 ((j:Int)+1)=((j+1:Nat):Int):=by rw[zp]<;>omega
  have w2:IntKind.wrap .i64 ((-1) - c) = -1 - c:=by rw[zp]<;>omega
  have w3:IntKind.wrap .i64 ((-1) - ((List.length bs:Nat):Int)) = -1 - (bs.length:Int):=by rw[zp]<;>omega
  simp only[y5,hr,Option.bind_some,zk hd,w1,w2,w3]
  rw[decide_eq_true (show (j:Int)<((List.length r:Nat):Int) by omega),cond_true]
  show _=some (zzl (zy3 bs c) es)
  unfold zy3
  by_cases h0:c<0
  ·rw[decide_eq_true h0,cond_true,Bool.true_and]
   rcases zvL (s:=bs) (by omega) (-1 - c) with ⟨h1,h2⟩ | ⟨q,e,h1,h2,h3⟩
   ·rw[h2,Option.bind_some,show decide ((-1:Int)<0)=true from rfl,cond_true,zn (by simp; omega),cond_true,key _ (by simp; omega),h1]
    rfl
   ·rw[h1,Option.bind_some,decide_eq_false (show ¬(q:Int)<0 by omega),cond_false,key _ (by omega),h3]
    rfl
  ·rw[decide_eq_false h0,cond_false,Bool.false_and,cond_false,key _ (by omega)]
theorem ztn {rows:List jI} (L:List zc) (T:List jI) (C:List zc) (hrows:∀ r∈rows,zcB r):(es:List jI)→(i:Nat)→(bs:List (Int×List Int))→rows.drop i=es→bs.length+zl es≤1000 →
  zaf rows L T C es i bs=some (es.foldl zzl bs)
 | [],_,_,_,_=>rfl
 | e::es,i,bs,hd,hb=>by
  have hg:=zk hd
  have he:=hrows e (List.mem_of_getElem? hg)
  have hs:zl (e::es)=e.length+zl es:=by simp [zl]
  unfold zaf
  have:=zs6 hg L T C he.1 e 0 zd bs rfl he.2 (by have:=he.1; unfold zd; omega) (by omega)
  rw[show ((0:Nat):Int)=0 from rfl] at this
  have hl:=zwL e bs
  rw[this,Option.bind_some,ztn L T C hrows es (i+1) _ (ze hd) (by omega)]
  rfl
structure Rl (s:zmT) (bs:List (Int×List Int)):Prop where
 cnt:(bs.length:Int)=s.2
 at_:∀ v:Nat,zd3 bs (v:Int)=if s.1.getD v 0=0 then none else some [-(s.1.getD v 0)]
 one:∀ b∈bs,b.2.length=1
theorem zoE (bs:List (Int×List Int)) (v w:Int) (t:List Int):zd3 (bs++[(v,t)]) w=match zd3 bs w with
  | some u=>some u
  | none=>cond (v==w) (some t) none:=by
 unfold zd3
 rw[List.find?_append]
 cases h:bs.find? fun b=>b.1==w with
 | some b=>rfl
 | none =>
  simp only[Option.none_or,List.find?_cons,List.find?_nil,Option.map_none]
  cases v==w<;>rfl
theorem rl0:Rl (List.replicate 24 (0:Int),0) [] where
 cnt:=rfl
 at_:=fun v=>by
  rw[if_pos]
  ·rfl
  ·show (List.replicate 24 (0:Int)).getD v 0=0
   rw[List.getD_eq_getElem?_getD,List.getElem?_replicate]
   split<;>rfl
 one:=fun _ h=>(nomatch h)
theorem Rl.ok {s:zmT} {bs:List (Int×List Int)} (h:Rl s bs) (hI:RenI s):BindsOk bs where
 len:=by have:=h.cnt; have:=hI.next; omega
 all:=fun b hb=>by
  have:=h.one b hb
  exact ⟨fun e=>by rw[e] at this; simp at this,by omega⟩
theorem Rl.step {s:zmT} {bs:List (Int×List Int)} (h:Rl s bs) (hI:RenI s) {c:Int} (hc : -24≤c):Rl (zkL s c).2 (zy3 bs c):=by
 unfold zkL zy3
 by_cases h0:c≥0
 ·rw[decide_eq_true h0,cond_true,decide_eq_false (show ¬ c<0 by omega),Bool.false_and,cond_false]
  exact h
 ·rw[decide_eq_false h0,cond_false,decide_eq_true (show c<0 by omega),Bool.true_and]
  obtain⟨v,rfl⟩:∃ v:Nat,c = -1 - (v:Int):=⟨(-1 - c).toNat,by omega⟩
  have e1:(-1 - (-1 - (v:Int)))=(v:Int):=by omega
  rw[e1,Int.toNat_natCast,h.at_ v]
  by_cases hz:s.1.getD v 0=0
  ·rw[if_pos hz,show (s.1.getD v 0==0)=true from by rw[hz]; rfl,cond_true,show (none:Option jI).isNone=true from rfl,cond_true]
   have hv:v<s.1.length:=by rw[hI.len]; omega
   have hcnt:=h.cnt
   refine ⟨by show (((bs++[_]).length:Nat):Int)=s.2+1; rw[List.length_append,← hcnt]; simp,fun w => ?_,fun b hb => ?_⟩
   ·rw[zoE,h.at_ w]
    show _=if (s.1.set v (s.2+1)).getD w 0=0 then none else some [-((s.1.set v (s.2+1)).getD w 0)]
    rw[zdu hv]
    have hn:=hI.next
    by_cases hw:w=v
    ·subst hw
     rw[if_pos hz,if_pos rfl,if_neg (show ¬ s.2+1=0 by omega)]
     simp only[beq_self_eq_true,cond_true]
     rw[show -1 - (bs.length:Int) = -(s.2+1) from by omega]
    ·rw[if_neg hw]
     by_cases hz2:s.1.getD w 0=0
     ·rw[if_pos hz2]
      simp only
      rw[show (((v:Nat):Int)==((w:Nat):Int))=false from by simp; omega]
      rfl
     ·rw[if_neg hz2]
   ·rcases List.mem_append.1 hb with hb | hb
    ·exact h.one b hb
    ·rw[List.mem_singleton.1 hb]; rfl
  ·rw[if_neg hz,show (s.1.getD v 0==0)=false from by simpa using hz,cond_false]
   exact h
theorem Rl.row:(r:List Int)→{s:zmT}→{bs:List (Int×List Int)}→Rl s bs→RenI s→(∀ c∈r,-24≤c)→Rl (zd4 s r).2 (zzl bs r)
 | [],_,_,h,_,_=>h
 | c::r,s,bs,h,hI,hc=>by
  have h1:=h.step hI (hc c (List.mem_cons_self ..))
  exact Rl.row r h1 (zoC hI (hc c (List.mem_cons_self ..))).1 fun d hd=>hc d (List.mem_cons_of_mem _ hd)
theorem Rl.lits:(ls:List zc)→{s:zmT}→{bs:List (Int×List Int)}→Rl s bs→RenI s→(∀ l∈ls,∀ c∈l.2,-24≤c)→Rl (zaN s ls).2 ((ls.map (·.2)).foldl zzl bs)
 | [],_,_,h,_,_=>h
 | l::ls,s,bs,h,hI,hc=>by
  have h1:=h.row l.2 hI (hc l (List.mem_cons_self ..))
  exact Rl.lits ls h1 (zgW l.2 hI (hc l (List.mem_cons_self ..))).1 fun d hd=>hc d (List.mem_cons_of_mem _ hd)
theorem Rl.rows:(ls:List jI)→{s:zmT}→{bs:List (Int×List Int)}→Rl s bs→RenI s→(∀ l∈ls,∀ c∈l,-24≤c)→Rl (zcA s ls).2 (ls.foldl zzl bs)
 | [],_,_,h,_,_=>h
 | l::ls,s,bs,h,hI,hc=>by
  have h1:=h.row l hI (hc l (List.mem_cons_self ..))
  exact Rl.rows ls h1 (zgW l hI (hc l (List.mem_cons_self ..))).1 fun d hd=>hc d (List.mem_cons_of_mem _ hd)
theorem znr {f:zmT} (hI:RenI f) {bs:List (Int×List Int)} (h:Rl f bs):(r:List Int)→(∀ c∈r,-24≤c)→(∀ x,zsC r x→f.1.getD x.toNat 0≠0)→onB bs r=zdo (fun v=>.v (rho f v)) r
 | [],_,_=>rfl
 | c::r,hc,hz=>by
  have ih:=znr hI h r (fun d hd=>hc d (List.mem_cons_of_mem _ hd)) fun x ⟨d,hd,h1⟩=>hz x ⟨d,List.mem_cons_of_mem _ hd,h1⟩
  have hc0:=hc c (List.mem_cons_self ..)
  unfold onB zdo at ih ⊢
  rw[List.flatMap_cons,List.flatMap_cons,ih]
  congr 1
  unfold onC zgz
  by_cases h0:c≥0
  ·rw[decide_eq_true h0,cond_true,if_neg (by omega)]
  ·rw[decide_eq_false h0,cond_false,if_pos (by omega)]
   obtain⟨v,rfl⟩:∃ v:Nat,c = -1 - (v:Int):=⟨(-1 - c).toNat,by omega⟩
   have e1:(-1 - (-1 - (v:Int)))=(v:Int):=by omega
   have hv:=hz (v:Int) ⟨_,List.mem_cons_self ..,by omega,by omega⟩
   rw[Int.toNat_natCast] at hv
   rw[e1,h.at_ v,if_neg hv,Int.toNat_natCast]
   have:=hI.rng v
   unfold rho
   show [-(f.1.getD v 0)]=[-1 - (((f.1.getD v 0).toNat - 1:Nat):Int)]
   congr 1
   omega
theorem zAQ {L:List zc} {T:List jI} {C:List zc} (hc:∀ r∈yr L T C,Cds r) (hl:L.length≤100) (ht:T.length≤100) (hcl:C.length≤100) (hsum:zl (L.map (·.2))+zl T+zl (C.map (·.2))≤1000):zlp L T C=some (zeT L T C):=by
 have cL:∀ l∈L,Cds l.2:=fun l h=>hc _ (zaI h)
 have cT:∀ l∈T,Cds l:=fun l h=>hc _ (zcz h)
 have cC:∀ l∈C,Cds l.2:=fun l h=>hc _ (zb2 h)
 have mL:∀ l,l∈zK L []↔l∈L:=fun l=>by simpa using qJ (x:=l) L []
 have mT:∀ l,l∈zK T []↔l∈T:=fun l=>by simpa using qJ (x:=l) T []
 have mC:∀ l,l∈zK C []↔l∈C:=fun l=>by simpa using qJ (x:=l) C []
 have lL:=zaH L []
 have lT:=zaH T []
 have lC:=zaH C []
 simp only[List.length_nil,Nat.zero_add] at lL lT lC
 have big:∀ r:List Int,Cds r→r.length≤1000000:=fun r h=>by have:=h.1; omega
 unfold zlp
 rw[ztg (fun l h=>big _ (cL l h)) (by omega),Option.bind_some,ztg (fun l h=>big _ (cC l h)) (by omega),Option.bind_some,
  zin _ _ _ _ _ _ (by unfold maxLen; omega),zpU (fun l h=>big _ (cT l h)) T 0 [] rfl (fun _ h=>(nomatch h)) (by simp; omega),Option.bind_some]
 simp only
 rw[zhm _ _ _ (by omega) (by omega) (by omega),Option.bind_some]
 have nr:∀ r∈(zK L []).map (·.2)++zK T []++(zK C []).map (·.2),Cds r:=fun r hr=>by
  rcases List.mem_append.1 hr with hr | hr
  ·rcases List.mem_append.1 hr with hr | hr
   ·obtain⟨l,hl,rfl⟩:=List.mem_map.1 hr; exact cL l ((mL l).1 hl)
   ·exact cT r ((mT r).1 hr)
  ·obtain⟨l,hl,rfl⟩:=List.mem_map.1 hr; exact cC l ((mC l).1 hl)
 have sL:zl ((zK L []).map (·.2))≤zl (L.map (·.2)):=by
  have:=zfR (fun l:zc=>l.2.length) L []
  have h4:(([]:List zc).map (fun l:zc=>l.2.length)).sum=0:=rfl
  rw[h4,Nat.zero_add] at this
  unfold zl
  rw[List.map_map,List.map_map]
  exact this
 have sC:zl ((zK C []).map (·.2))≤zl (C.map (·.2)):=by
  have:=zfR (fun l:zc=>l.2.length) C []
  have h4:(([]:List zc).map (fun l:zc=>l.2.length)).sum=0:=rfl
  rw[h4,Nat.zero_add] at this
  unfold zl
  rw[List.map_map,List.map_map]
  exact this
 have sT:zl (zK T [])≤zl T:=by
  have:=zfR List.length T []
  unfold zl
  simpa using this
 rw[ziw _ _ _ _ _ (by simp only[List.length_append,List.length_map]; unfold maxLen; omega),ztn _ _ _ (fun r hr=>(nr r hr).near) _ 0 [] List.drop_zero (by rw[zaF,zaF]; simp only[List.length_nil]; omega),Option.bind_some,List.foldl_append,List.foldl_append]
 -- the numbering
 obtain⟨a1,a2,a3,a4⟩:=zfz (zK L []) zFn fun l hl=>fun c h=>((cL l ((mL l).1 hl)).2 c h).1
 obtain⟨b1,b2,b3,b4⟩:=zjI (zK T []) a1 fun l hl=>fun c h=>((cT l ((mT l).1 hl)).2 c h).1
 obtain⟨c1,c2,c3,c4⟩:=zfz (zK C []) b1 fun l hl=>fun c h=>((cC l ((mC l).1 hl)).2 c h).1
 have r1:=rl0.lits (zK L []) zFn fun l hl=>fun c h=>((cL l ((mL l).1 hl)).2 c h).1
 have r2:=r1.rows (zK T []) a1 fun l hl=>fun c h=>((cT l ((mT l).1 hl)).2 c h).1
 have r3:=r2.lits (zK C []) b1 fun l hl=>fun c h=>((cC l ((mC l).1 hl)).2 c h).1
 have nz1:∀ x,zgA ((zK L []).map (·.2)) x→(zaN (zcA (zaN (List.replicate 24 0,0) (zK L [])).2 (zK T [])).2 (zK C [])).2.1.getD x.toNat 0≠0:=fun x hx=>by
  have:=a3 x hx
  rw[c2 _ (by rw[b2 _ this]; exact this),b2 _ this]
  exact this
 have nz2:∀ x,zgA (zK T []) x→(zaN (zcA (zaN (List.replicate 24 0,0) (zK L [])).2 (zK T [])).2 (zK C [])).2.1.getD x.toNat 0≠0:=fun x hx=>by
  have:=b3 x hx
  rw[c2 _ this]
  exact this
 rw[zp7 (r3.ok c1) (fun l h=>(cL l ((mL l).1 h)).near) (fun l h=>(cT l ((mT l).1 h)).near) (fun l h=>(cC l ((mC l).1 h)).near) (by omega) (by omega) (by omega),Option.bind_some]
 unfold zeT zCQ
 rw[a4 _ (b2.trans c2),b4 _ c2,c4 _ (ExtS.refl _)]
 have eL:zmh _ (zK L [])=zcD _ (zK L []):=List.map_congr_left fun l h=>by
  show (l.1,_)=(l.1,_)
  rw[znr c1 r3 l.2 (fun c hh=>((cL l ((mL l).1 h)).2 c hh).1) fun x hx=>nz1 x ⟨_,List.mem_map_of_mem h,hx⟩]
 have eT:zsD _ (zK T [])=(zK T []).map _:=List.map_congr_left fun l h=>znr c1 r3 l (fun c hh=>((cT l ((mT l).1 h)).2 c hh).1) fun x hx=>nz2 x ⟨_,h,hx⟩
 have eC:zmh _ (zK C [])=zcD _ (zK C []):=List.map_congr_left fun l h=>by
  show (l.1,_)=(l.1,_)
  rw[znr c1 r3 l.2 (fun c hh=>((cC l ((mC l).1 h)).2 c hh).1) fun x hx=>c3 x ⟨_,List.mem_map_of_mem h,hx⟩]
 rw[eL,eT,eC]
end
end Go.Abs.Q
