import Derived.Test.YtgjajclncfhidabGreatDoorQa
/-
  What the functions make of plain values, and what the law says of that.
-/
namespace Go.Abs.Q
open Go Go.Abs
section
def NumsOk (nums:List Int):Prop:=nums≠[]∧nums.length≤9223372036854775807
def lookF (m:Int) (nums:List Int) (c:Int) (xs:List Int):Int:=(ref9_Model_look m nums c xs).getD 0
section
variable (m:Int) (nums:List Int)
mutual
def valT (env:Nat→Int):Tm→Int
 | .v n=>env n
 | .f c ts=>Int.tmod (lookF m nums (c:Int) (valR env ts)) m
def valR (env:Nat→Int):List Tm→List Int
 | []=>[]
 | t::ts=>valT env t::valR env ts
end
mutual
theorem valT_sub (env:Nat→Int) (s:Sb):(t:Tm)→valT m nums env (t.sub s)=valT m nums (fun n=>valT m nums env (s n)) t
 | .v n=>rfl
 | .f c ts=>by
  show Int.tmod (lookF m nums (c:Int) (valR m nums env (subR s ts))) m=_
  rw[valR_sub env s ts]
  rfl
theorem valR_sub (env:Nat→Int) (s:Sb):(ts:List Tm)→valR m nums env (subR s ts)=valR m nums (fun n=>valT m nums env (s n)) ts
 | []=>rfl
 | t::ts=>by
  show valT m nums env (t.sub s)::valR m nums env (subR s ts)=_
  rw[valT_sub env s t,valR_sub env s ts]
  rfl
end
mutual
theorem valT_ext {e e':Nat→Int}:(t:Tm)→(∀ x,t.has x→e x=e' x)→valT m nums e t=valT m nums e' t
 | .v n,h=>h n rfl
 | .f c ts,h=>by
  show Int.tmod (lookF m nums (c:Int) (valR m nums e ts)) m=Int.tmod (lookF m nums (c:Int) (valR m nums e' ts)) m
  rw[valR_ext ts h]
theorem valR_ext {e e':Nat→Int}:(ts:List Tm)→(∀ x,hasR x ts→e x=e' x)→valR m nums e ts=valR m nums e' ts
 | [],_=>rfl
 | t::ts,h=>by
  show valT m nums e t::valR m nums e ts=valT m nums e' t::valR m nums e' ts
  rw[valT_ext t fun x hx=>h x (.inl hx),valR_ext ts fun x hx=>h x (.inr hx)]
end
end
structure EnvOk (m:Int) (E:List Int):Prop where
 len:E.length=24
 rng:∀ x∈E,0≤x∧x<m
def envF (E:List Int) (n:Nat):Int:=E.getD n 0
theorem EnvOk.get {m:Int} {E:List Int} (h:EnvOk m E) {n:Nat} (hn:n<24):E[n]? = some (envF E n):=by
 unfold envF
 rw[List.getD_eq_getElem?_getD,List.getElem?_eq_getElem (by rw[h.len]; exact hn)]
 rfl
theorem EnvOk.val {m:Int} {E:List Int} (h:EnvOk m E) {n:Nat} (hn:n<24):0≤envF E n∧envF E n<m:=h.rng _ (List.mem_of_getElem? (h.get hn))
theorem arity_at {a0:List QSym} (hs:SignOk a0) {c q:Nat} (h:arity a0 (c:Int)=some q):∃ e,gx a0 (c:Int)=some e∧e.2.2.1=(q:Int):=by
 unfold arity at h
 rw[decide_eq_false (show ¬(c:Int)<0 by omega),cond_false,Int.toNat_natCast] at h
 cases he:a0[c]? with
 | none=>rw[he] at h; cases h
 | some e =>
  rw[he] at h
  simp only at h
  refine ⟨e,by rw[gx_nat,he],?_⟩
  have:=hs.at he
  cases hk:(e.2.1==0) with
  | true=>rw[hk] at h; cases h
  | false=>rw[hk] at h; injection h with h; omega
end
end Go.Abs.Q
namespace Go.Abs.Q
open Go Go.Abs
section
abbrev TLit:=Bool×Nat×List Tm
def cl (l:TLit):QLit:=(l.1,(l.2.1:Int)::codesR l.2.2)
def WfL (a0:List QSym) (l:TLit):Prop:=okR a0 24 l.2.2∧(∃ e,a0[l.2.1]? = some e∧e.2.1=0∧((l.2.2.length:Nat):Int)=e.2.2.1)∧(codesR l.2.2).length≤48
def WfR (a0:List QSym) (ts:List Tm):Prop:=okR a0 24 ts∧(codesR ts).length≤48
theorem lits_tree {a0:List QSym}:(ls:List QLit)→litsB a0 ls=true→∃ lt:List TLit,ls=lt.map cl∧∀ l∈lt,WfL a0 l
 | [],_=>⟨[],rfl,fun _ h=>(nomatch h)⟩
 | l::ls,h=>by
  unfold litsB at h
  rw[List.all_cons,Bool.and_eq_true] at h
  obtain⟨lt,h1,h2⟩:=lits_tree ls h.2
  obtain⟨c,ts,e,h3,h4,h5,h6,h7,h8,-⟩:=atom_tree h.1
  refine ⟨(l.1,c,ts)::lt,by rw[List.map_cons,← h1]; show l::ls=(l.1,(c:Int)::codesR ts)::ls; rw[← h3],fun x hx => ?_⟩
  rcases List.mem_cons.1 hx with rfl | hx
  ·exact ⟨h4,⟨e,h5,h6,h7⟩,h8⟩
  ·exact h2 x hx
theorem rows_tree {a0:List QSym} {rs:List (List Int)} (h:rowsB a0 rs=true):∃ rt:List (List Tm),rs=rt.map codesR∧∀ r∈rt,WfR a0 r:=by
 obtain⟨n,hn⟩:=rowsB_all h
 clear h
 induction rs with
 | nil=>exact ⟨[],rfl,fun _ h=>(nomatch h)⟩
 | cons r rs ih =>
  obtain⟨rt,h1,h2⟩:=ih fun q hq=>hn q (List.mem_cons_of_mem _ hq)
  obtain⟨ps,hc,-,hl,-⟩:=rowW_spec (hn r (List.mem_cons_self ..))
  obtain⟨ts,h3,-,h4⟩:=row_of hc
  refine ⟨ts::rt,by rw[List.map_cons,← h1,← h4],fun x hx => ?_⟩
  rcases List.mem_cons.1 hx with rfl | hx
  ·exact ⟨h3,by rw[← h4]; exact hl⟩
  ·exact h2 x hx
theorem may_tree {a0:List QSym} {L:List QLit} {T:List (List Int)} {C:List QLit} (h:mayB a0 L T C=true):∃(Lt:List TLit) (Tt:List (List Tm)) (Ct:List TLit),L=Lt.map cl∧T=Tt.map codesR∧C=Ct.map cl∧(∀ l∈Lt,WfL a0 l)∧(∀ r∈Tt,WfR a0 r)∧∀ l∈Ct,WfL a0 l:=by
 obtain⟨-,-,-,-,h4,h5,h6,-⟩:=mayB_spec h
 obtain⟨Lt,a1,a2⟩:=lits_tree L h4
 obtain⟨Tt,b1,b2⟩:=rows_tree h5
 obtain⟨Ct,c1,c2⟩:=lits_tree C h6
 exact ⟨Lt,Tt,Ct,a1,b1,c1,a2,b2,c2⟩
section
variable {m:Int} (hm:0<m) {nums:List Int} (hn:NumsOk nums) {a0:List QSym} (hs:SignOk a0) {E:List Int} (hE:EnvOk m E)
include hm hn hs hE
end
theorem EnvOk.set {m:Int} {E:List Int} (h:EnvOk m E) {v:Nat} {x:Int} (hx:0≤x∧x<m):EnvOk m (E.set v x) where
 len:=by rw[List.length_set]; exact h.len
 rng:=fun y hy=>by
  rcases List.mem_or_eq_of_mem_set hy with hy | hy
  ·exact h.rng y hy
  ·rw[hy]; exact hx
end
end Go.Abs.Q
namespace Go.Abs.Q
open Go Go.Abs
section
def VarT (L:List TLit) (T:List (List Tm)) (C:List TLit) (x:Nat):Prop:=(∃ l∈L,hasR x l.2.2)∨(∃ r∈T,hasR x r)∨∃ l∈C,hasR x l.2.2
theorem VarC_cl {l:TLit} {x:Nat}:VarC (cl l).2 (x:Int)↔hasR x l.2.2:=by
 constructor
 ·rintro⟨c,hc,h0,he⟩
  rcases List.mem_cons.1 hc with rfl | hc
  ·omega
  ·obtain⟨k,h1,h2⟩:=VarC_codes.1 ⟨c,hc,h0,he⟩
   have:x=k:=by omega
   rw[this]; exact h2
 ·intro h
  obtain⟨c,hc,h0,he⟩:=VarC_codes.2 ⟨x,rfl,h⟩
  exact ⟨c,List.mem_cons_of_mem _ hc,h0,he⟩
theorem VarR_tree {L:List TLit} {T:List (List Tm)} {C:List TLit} {x:Nat}:VarR (rowsOf (L.map cl) (T.map codesR) (C.map cl)) (x:Int)↔VarT L T C x:=by
 unfold rowsOf VarT
 rw[VarR_append,VarR_append]
 constructor
 ·rintro ((⟨r,hr,h⟩ | ⟨r,hr,h⟩) | ⟨r,hr,h⟩)
  ·obtain⟨q,hq,rfl⟩:=List.mem_map.1 hr
   obtain⟨l,hl,rfl⟩:=List.mem_map.1 hq
   exact .inl ⟨l,hl,VarC_cl.1 h⟩
  ·obtain⟨q,hq,rfl⟩:=List.mem_map.1 hr
   obtain⟨l,hl,rfl⟩:=List.mem_map.1 hq
   exact .inr (.inr ⟨l,hl,VarC_cl.1 h⟩)
  ·obtain⟨l,hl,rfl⟩:=List.mem_map.1 hr
   obtain⟨k,h1,h2⟩:=VarC_codes.1 h
   have:x=k:=by omega
   exact .inr (.inl ⟨l,hl,by rw[this]; exact h2⟩)
 ·rintro (⟨l,hl,h⟩ | ⟨r,hr,h⟩ | ⟨l,hl,h⟩)
  ·exact .inl (.inl ⟨_,List.mem_map_of_mem (List.mem_map_of_mem hl),VarC_cl.2 h⟩)
  ·exact .inr ⟨_,List.mem_map_of_mem hr,VarC_codes.2 ⟨x,rfl,h⟩⟩
  ·exact .inl (.inr ⟨_,List.mem_map_of_mem (List.mem_map_of_mem hl),VarC_cl.2 h⟩)
end
end Go.Abs.Q
namespace Go.Abs.Q
open Go Go.Abs
section
abbrev RenS:=List Int×Int
def rho (s:RenS) (v:Nat):Nat:=(s.1.getD v 0).toNat - 1
structure RenI (s:RenS):Prop where
 len:s.1.length=24
 rng:∀ v,0≤s.1.getD v 0∧s.1.getD v 0≤s.2
 inj:∀ v w,s.1.getD v 0=s.1.getD w 0→s.1.getD v 0≠0→v=w
 cnt:((s.1.countP (fun x=>x != 0):Nat):Int)=s.2
def ExtS (s s':RenS):Prop:=∀ v,s.1.getD v 0≠0→s'.1.getD v 0=s.1.getD v 0
theorem ExtS.refl (s:RenS):ExtS s s:=fun _ _=>rfl
theorem ExtS.trans {s t u:RenS} (h:ExtS s t) (h':ExtS t u):ExtS s u:=fun v hv=>(h' v (by rw[h v hv]; exact hv)).trans (h v hv)
theorem RenI.next {s:RenS} (h:RenI s):0≤s.2∧s.2≤24:=by
 have h1:=h.cnt
 have h2:s.1.countP (fun x=>x != 0)≤s.1.length:=List.countP_le_length
 rw[h.len] at h2
 omega
theorem RenI.rho_lt {s:RenS} (h:RenI s) {v:Nat} (_hv:s.1.getD v 0≠0):rho s v<24:=by
 have h1:=h.rng v
 have h2:=h.next
 unfold rho
 omega
theorem RenI.rho_inj {s:RenS} (h:RenI s) {v w:Nat} (hv:s.1.getD v 0≠0) (hw:s.1.getD w 0≠0) (he:rho s v=rho s w):v=w:=by
 have h1:=h.rng v
 have h2:=h.rng w
 unfold rho at he
 exact h.inj v w (by omega) hv
theorem ren0:RenI (List.replicate 24 (0:Int),0) where
 len:=by simp
 rng:=fun v=>by
  rw[List.getD_eq_getElem?_getD,List.getElem?_replicate]
  split<;>simp
 inj:=fun v w _ h=>by
  exfalso
  apply h
  rw[List.getD_eq_getElem?_getD,List.getElem?_replicate]
  split<;>rfl
 cnt:=by decide
theorem countP_set {xs:List Int} {v:Nat} {y:Int} (hv:xs[v]? = some 0) (hy:y≠0):(xs.set v y).countP (fun x=>x != 0)=xs.countP (fun x=>x != 0)+1:=by
 obtain⟨hx,he⟩:=List.getElem?_eq_some_iff.1 hv
 have h1:=List.take_append_drop v xs
 have h2:xs.drop v=0::xs.drop (v+1):=by rw[List.drop_eq_getElem_cons hx,he]
 have h3:xs.set v y=xs.take v++y::xs.drop (v+1):=by rw[List.set_eq_take_append_cons_drop,if_pos hx]
 conv=>rhs; rw[← h1,h2]
 rw[h3]
 simp [List.countP_append,hy]
 omega
theorem getD_set {xs:List Int} {v w:Nat} {y:Int} (hv:v<xs.length):(xs.set v y).getD w 0=if w=v then y else xs.getD w 0:=by
 rw[List.getD_eq_getElem?_getD,List.getD_eq_getElem?_getD]
 by_cases h:w=v
 ·subst h; rw[List.getElem?_set_self hv,if_pos rfl]; rfl
 ·rw[List.getElem?_set_ne (Ne.symm h),if_neg h]
theorem ren1_spec {s:RenS} (h:RenI s) {c:Int} (hc : -24≤c):RenI (ren1 s c).2∧ExtS s (ren1 s c).2∧(c<0→(ren1 s c).2.1.getD (-1 - c).toNat 0≠0)∧∀ f,ExtS (ren1 s c).2 f→[(ren1 s c).1]=expC (fun v=>.v (rho f v)) c:=by
 unfold ren1
 by_cases h0:c≥0
 ·rw[decide_eq_true h0,cond_true]
  refine ⟨h,ExtS.refl s,fun h1=>by omega,fun f _ => ?_⟩
  unfold expC
  rw[if_neg (by omega)]
 ·rw[decide_eq_false h0,cond_false]
  have hv:(-1 - c).toNat<s.1.length:=by rw[h.len]; omega
  have hexp:∀ f:RenS,expC (fun v=>.v (rho f v)) c=[-1 - ((rho f (-1 - c).toNat:Nat):Int)]:=fun f=>by
   unfold expC
   rw[if_pos (by omega)]
   rfl
  by_cases hz:s.1.getD (-1 - c).toNat 0=0
  ·rw[show (s.1.getD (-1 - c).toNat 0==0)=true from by rw[hz]; rfl,cond_true]
   have hn:=h.next
   have hget:s.1[(-1 - c).toNat]? = some 0:=by
    rw[List.getD_eq_getElem?_getD,List.getElem?_eq_getElem hv] at hz
    rw[List.getElem?_eq_getElem hv]
    exact congrArg some hz
   refine ⟨⟨by simpa using h.len,fun v => ?_,fun v w he hnz => ?_,?_⟩,fun v hvz => ?_,fun _ => ?_,fun f hf => ?_⟩
   ·show 0≤(s.1.set _ _).getD v 0∧(s.1.set _ _).getD v 0≤s.2+1
    rw[getD_set hv]
    have:=h.rng v
    split<;>omega
   ·have he:(s.1.set (-1 - c).toNat (s.2+1)).getD v 0=(s.1.set (-1 - c).toNat (s.2+1)).getD w 0:=he
    have hnz:(s.1.set (-1 - c).toNat (s.2+1)).getD v 0≠0:=hnz
    rw[getD_set hv] at he hnz
    rw[getD_set hv] at he
    have h1:=h.rng v
    have h2:=h.rng w
    by_cases e1:v=(-1 - c).toNat
    ·rw[if_pos e1] at he hnz
     by_cases e2:w=(-1 - c).toNat
     ·rw[e1,e2]
     ·rw[if_neg e2] at he; omega
    ·rw[if_neg e1] at he hnz
     by_cases e2:w=(-1 - c).toNat
     ·rw[if_pos e2] at he; omega
     ·rw[if_neg e2] at he
      exact h.inj v w he hnz
   ·show (((s.1.set (-1 - c).toNat (s.2+1)).countP (fun x=>x != 0):Nat):Int)=s.2+1
    rw[countP_set hget (by omega),← h.cnt]
    omega
   ·show (s.1.set _ _).getD v 0=_
    rw[getD_set hv]
    split
    ·rename_i e; rw[e,hz] at hvz; exact absurd rfl hvz
    ·rfl
   ·show (s.1.set _ _).getD _ 0≠0
    rw[getD_set hv,if_pos rfl]
    omega
   ·rw[hexp]
    have hf2:=hf (-1 - c).toNat (by
     show (s.1.set _ _).getD _ 0≠0
     rw[getD_set hv,if_pos rfl]
     omega)
    have hf2:f.1.getD (-1 - c).toNat 0=(s.1.set (-1 - c).toNat (s.2+1)).getD (-1 - c).toNat 0:=hf2
    rw[getD_set hv,if_pos rfl] at hf2
    unfold rho
    rw[hf2]
    show [-(s.2+1)]=_
    congr 1
    omega
  ·rw[show (s.1.getD (-1 - c).toNat 0==0)=false from by simpa using hz,cond_false]
   refine ⟨h,ExtS.refl s,fun _=>hz,fun f hf => ?_⟩
   rw[hexp]
   have hf2:f.1.getD (-1 - c).toNat 0=s.1.getD (-1 - c).toNat 0:=hf _ hz
   have:=h.rng (-1 - c).toNat
   unfold rho
   rw[hf2]
   show [-(s.1.getD (-1 - c).toNat 0)]=_
   congr 1
   omega
theorem renR_spec:(r:List Int)→{s:RenS}→RenI s→(∀ c∈r,-24≤c)→RenI (renR s r).2∧ExtS s (renR s r).2∧(∀ x,VarC r x→(renR s r).2.1.getD x.toNat 0≠0)∧∀ f,ExtS (renR s r).2 f→(renR s r).1=subCs (fun v=>.v (rho f v)) r
 | [],s,h,_=>⟨h,ExtS.refl s,fun x ⟨c,hc,_⟩=>(nomatch hc),fun _ _=>rfl⟩
 | c::r,s,h,hc=>by
  obtain⟨h1,h2,h3,h4⟩:=ren1_spec h (hc c (List.mem_cons_self ..))
  obtain⟨g1,g2,g3,g4⟩:=renR_spec r h1 fun d hd=>hc d (List.mem_cons_of_mem _ hd)
  refine ⟨g1,h2.trans g2,fun x ⟨d,hd,hd0,hx⟩ => ?_,fun f hf => ?_⟩
  ·rcases List.mem_cons.1 hd with rfl | hd
   ·subst hx
    show (renR (ren1 s d).2 r).2.1.getD (-1 - d).toNat 0≠0
    rw[g2 _ (h3 hd0)]
    exact h3 hd0
   ·exact g3 x ⟨d,hd,hd0,hx⟩
  ·have hf:ExtS (renR (ren1 s c).2 r).2 f:=hf
   show (ren1 s c).1::(renR (ren1 s c).2 r).1=_
   unfold subCs
   rw[List.flatMap_cons,← h4 f (g2.trans hf),g4 f hf]
   rfl
theorem renLs_spec:(ls:List QLit)→{s:RenS}→RenI s→(∀ l∈ls,∀ c∈l.2,-24≤c)→RenI (renLs s ls).2∧ExtS s (renLs s ls).2∧(∀ x,VarR (ls.map (·.2)) x→(renLs s ls).2.1.getD x.toNat 0≠0)∧∀ f,ExtS (renLs s ls).2 f→(renLs s ls).1=subLs (fun v=>.v (rho f v)) ls
 | [],s,h,_=>⟨h,ExtS.refl s,fun x ⟨c,hc,_⟩=>(nomatch hc),fun _ _=>rfl⟩
 | l::ls,s,h,hc=>by
  obtain⟨h1,h2,h3,h4⟩:=renR_spec l.2 h (hc l (List.mem_cons_self ..))
  obtain⟨g1,g2,g3,g4⟩:=renLs_spec ls h1 fun d hd=>hc d (List.mem_cons_of_mem _ hd)
  refine ⟨g1,h2.trans g2,fun x hx => ?_,fun f hf => ?_⟩
  ·rw[List.map_cons,VarR_cons] at hx
   rcases hx with hx | hx
   ·show (renLs (renR s l.2).2 ls).2.1.getD x.toNat 0≠0
    rw[g2 _ (h3 x hx)]
    exact h3 x hx
   ·exact g3 x hx
  ·have hf:ExtS (renLs (renR s l.2).2 ls).2 f:=hf
   show (l.1,(renR s l.2).1)::(renLs (renR s l.2).2 ls).1=_
   rw[h4 f (g2.trans hf),g4 f hf]
   rfl
theorem renRs_spec:(ls:List (List Int))→{s:RenS}→RenI s→(∀ l∈ls,∀ c∈l,-24≤c)→RenI (renRs s ls).2∧ExtS s (renRs s ls).2∧(∀ x,VarR ls x→(renRs s ls).2.1.getD x.toNat 0≠0)∧∀ f,ExtS (renRs s ls).2 f→(renRs s ls).1=ls.map (subCs (fun v=>.v (rho f v)))
 | [],s,h,_=>⟨h,ExtS.refl s,fun x ⟨c,hc,_⟩=>(nomatch hc),fun _ _=>rfl⟩
 | l::ls,s,h,hc=>by
  obtain⟨h1,h2,h3,h4⟩:=renR_spec l h (hc l (List.mem_cons_self ..))
  obtain⟨g1,g2,g3,g4⟩:=renRs_spec ls h1 fun d hd=>hc d (List.mem_cons_of_mem _ hd)
  refine ⟨g1,h2.trans g2,fun x hx => ?_,fun f hf => ?_⟩
  ·rw[VarR_cons] at hx
   rcases hx with hx | hx
   ·show (renRs (renR s l).2 ls).2.1.getD x.toNat 0≠0
    rw[g2 _ (h3 x hx)]
    exact h3 x hx
   ·exact g3 x hx
  ·have hf:ExtS (renRs (renR s l).2 ls).2 f:=hf
   show (renR s l).1::(renRs (renR s l).2 ls).1=_
   rw[h4 f (g2.trans hf),g4 f hf]
   rfl
theorem normC_ren {L:List QLit} {T:List (List Int)} {C:List QLit} (hc:∀ r∈rowsOf L T C,∀ c∈r,-24≤c):∃ ρ:Nat→Nat,
  normC L T C=(subLs (fun v=>.v (ρ v)) (onceL L []),(onceL T []).map (subCs (fun v=>.v (ρ v))),subLs (fun v=>.v (ρ v)) (onceL C [])) ∧
  (∀ x,VarR (rowsOf L T C) x→ρ x.toNat<24)∧∀ x y,VarR (rowsOf L T C) x→VarR (rowsOf L T C) y→ρ x.toNat=ρ y.toNat→x.toNat=y.toNat:=by
 have mL:∀ l,l∈onceL L []↔l∈L:=fun l=>by simpa using onceL_mem (x:=l) L []
 have mT:∀ l,l∈onceL T []↔l∈T:=fun l=>by simpa using onceL_mem (x:=l) T []
 have mC:∀ l,l∈onceL C []↔l∈C:=fun l=>by simpa using onceL_mem (x:=l) C []
 obtain⟨a1,a2,a3,a4⟩:=renLs_spec (onceL L []) ren0 fun l hl=>hc _ (mem_rows_lit ((mL l).1 hl))
 obtain⟨b1,b2,b3,b4⟩:=renRs_spec (onceL T []) a1 fun l hl=>hc _ (mem_rows_row ((mT l).1 hl))
 obtain⟨c1,c2,c3,c4⟩:=renLs_spec (onceL C []) b1 fun l hl=>hc _ (mem_rows_cond ((mC l).1 hl))
 have nz:∀ x,VarR (rowsOf L T C) x→(renLs (renRs (renLs (List.replicate 24 0,0) (onceL L [])).2 (onceL T [])).2 (onceL C [])).2.1.getD x.toNat 0≠0:=by
  intro x hx
  unfold rowsOf at hx
  rw[VarR_append,VarR_append] at hx
  rcases hx with (⟨r,hr,hx⟩ | ⟨r,hr,hx⟩) | ⟨r,hr,hx⟩
  ·obtain⟨l,hl,rfl⟩:=List.mem_map.1 hr
   have:=a3 x ⟨_,List.mem_map_of_mem ((mL l).2 hl),hx⟩
   rw[c2 _ (by rw[b2 _ this]; exact this),b2 _ this]
   exact this
  ·obtain⟨l,hl,rfl⟩:=List.mem_map.1 hr
   exact c3 x ⟨_,List.mem_map_of_mem ((mC l).2 hl),hx⟩
  ·have:=b3 x ⟨_,(mT r).2 hr,hx⟩
   rw[c2 _ this]
   exact this
 refine ⟨rho (renLs (renRs (renLs (List.replicate 24 0,0) (onceL L [])).2 (onceL T [])).2 (onceL C [])).2,?_,fun x hx=>c1.rho_lt (nz x hx),fun x y hx hy he=>c1.rho_inj (nz x hx) (nz y hy) he⟩
 unfold normC renC
 rw[a4 _ (b2.trans c2),b4 _ c2,c4 _ (ExtS.refl _)]
def subTL (s:Sb) (l:TLit):TLit:=(l.1,l.2.1,subR s l.2.2)
theorem subLs_cl (s:Sb) (ls:List TLit):subLs s (ls.map cl)=(ls.map (subTL s)).map cl:=by
 unfold subLs
 rw[List.map_map,List.map_map]
 refine List.map_congr_left fun l _ => ?_
 show (l.1,subCs s ((l.2.1:Int)::codesR l.2.2))=(l.1,(l.2.1:Int)::codesR (subR s l.2.2))
 rw[codesR_sub]
 unfold subCs
 rw[List.flatMap_cons]
 have:expC s (l.2.1:Int)=[(l.2.1:Int)]:=by unfold expC; rw[if_neg (by omega)]
 rw[this]
 rfl
theorem subRs_codes (s:Sb) (rs:List (List Tm)):(rs.map codesR).map (subCs s)=(rs.map (subR s)).map codesR:=by
 rw[List.map_map,List.map_map]
 refine List.map_congr_left fun r _ => ?_
 show subCs s (codesR r)=codesR (subR s r)
 rw[codesR_sub]
 rfl
end
end Go.Abs.Q
namespace Go.Abs.Q
open Go Go.Abs
section
theorem rowW_codes {a0:List QSym} (hb:signB a0=true) {ts:List Tm} (h:WfR a0 ts):rowW a0 (codesR ts)=some ts.length:=by
 unfold rowW beginsB
 rw[hb,decide_eq_true h.2,cuts_codes ts h.1]
 simp
theorem rowsB_of {a0:List QSym} {rs:List (List Int)} {n:Nat} (h:∀ r∈rs,rowW a0 r=some n):rowsB a0 rs=true:=by
 cases rs with
 | nil=>rfl
 | cons r rs =>
  unfold rowsB
  show (match rowW a0 r with | none=>false | some n=>rs.all fun q=>rowW a0 q==some n)=true
  rw[h r (List.mem_cons_self ..)]
  exact List.all_eq_true.2 fun q hq=>by rw[h q (List.mem_cons_of_mem _ hq)]; simp
theorem atom_of_wf {a0:List QSym} (hb:signB a0=true) {l:TLit} (h:WfL a0 l):atomB a0 (cl l).2=true:=by
 obtain⟨h1,⟨e,h2,h3,h4⟩,h5⟩:=h
 exact atomT_mk h1 h2 h3 h4 h5 hb
theorem cl_inj {a0:List QSym} {l k:TLit} (hl:WfL a0 l) (hk:WfL a0 k) (h:cl l=cl k):l=k:=by
 obtain⟨n,c,ts⟩:=l
 obtain⟨n',c',us⟩:=k
 have h:((n,(c:Int)::codesR ts):QLit)=(n',(c':Int)::codesR us):=h
 injection h with h1 h2
 injection h2 with h2 h3
 have h3:=codesR_inj _ ts us (Nat.le_refl _) hl.1 hk.1 h3
 have:c=c':=by omega
 rw[h1,this,h3]
theorem pick_tree {α β:Type} (f:α→β) {as:List α}:(bs:List β)→(∀ b∈bs,b∈as.map f)→∃ as':List α,bs=as'.map f∧∀ a∈as',a∈as
 | [],_=>⟨[],rfl,fun _ h=>(nomatch h)⟩
 | b::bs,h=>by
  obtain⟨as',h1,h2⟩:=pick_tree f bs fun x hx=>h x (List.mem_cons_of_mem _ hx)
  obtain⟨a,ha,rfl⟩:=List.mem_map.1 (h b (List.mem_cons_self ..))
  refine ⟨a::as',by rw[List.map_cons,← h1],fun x hx => ?_⟩
  rcases List.mem_cons.1 hx with rfl | hx
  ·exact ha
  ·exact h2 x hx
theorem once_sum {α:Type} [DecidableEq α] (f:α→Nat):(es out:List α)→((onceL es out).map f).sum≤(out.map f).sum+(es.map f).sum
 | [],out=>by simp [onceL]
 | e::es,out=>by
  unfold onceL
  by_cases h:e∈out
  ·rw[decide_eq_true h,cond_true]
   have:=once_sum f es out
   simp only[List.map_cons,List.sum_cons]
   omega
  ·rw[decide_eq_false h,cond_false]
   have:=once_sum f es (out++[e])
   simp only[List.map_cons,List.sum_cons,List.map_append,List.sum_append,List.map_nil,List.sum_nil] at this ⊢
   omega
abbrev vS (ρ:Nat→Nat):Sb:=fun v=>.v (ρ v)
theorem vS_len (ρ:Nat→Nat) (r:List Int):(subCs (vS ρ) r).length=r.length:=by
 unfold subCs
 induction r with
 | nil=>rfl
 | cons c r ih =>
  rw[List.flatMap_cons,List.length_append,ih,List.length_cons]
  unfold expC
  split
  ·simp [Tm.codes]; omega
  ·simp; omega
theorem wfR_vS {a0:List QSym} {ρ:Nat→Nat} {ts:List Tm} (h:WfR a0 ts) (hρ:∀ x,hasR x ts→ρ x<24):WfR a0 (subR (vS ρ) ts):=by
 refine ⟨okR_sub ts h.1 fun x hx=>hρ x hx,?_⟩
 rw[codesR_sub]
 have:=vS_len ρ (codesR ts)
 unfold subCs at this
 rw[this]
 exact h.2
theorem wfL_vS {a0:List QSym} {ρ:Nat→Nat} {l:TLit} (h:WfL a0 l) (hρ:∀ x,hasR x l.2.2→ρ x<24):WfL a0 (subTL (vS ρ) l):=by
 obtain⟨h1,⟨e,h2,h3,h4⟩,h5⟩:=h
 have:=wfR_vS (a0:=a0) ⟨h1,h5⟩ hρ
 exact ⟨this.1,⟨e,h2,h3,by show (((subR (vS ρ) l.2.2).length:Nat):Int)=_; rw[subR_length]; exact h4⟩,this.2⟩
theorem normal_tree {a0:List QSym} {L:List TLit} {T:List (List Tm)} {C:List TLit} (hmay:mayB a0 (L.map cl) (T.map codesR) (C.map cl)=true) (hL:∀ l∈L,WfL a0 l) (hT:∀ r∈T,WfR a0 r) (hC:∀ l∈C,WfL a0 l) :
  ∃(L1:List TLit) (T1:List (List Tm)) (C1:List TLit) (ρ:Nat→Nat),normC (L.map cl) (T.map codesR) (C.map cl)=((L1.map (subTL (vS ρ))).map cl,(T1.map (subR (vS ρ))).map codesR,(C1.map (subTL (vS ρ))).map cl)∧(∀ l∈L1.map (subTL (vS ρ)),WfL a0 l)∧(∀ r∈T1.map (subR (vS ρ)),WfR a0 r)∧(∀ l∈C1.map (subTL (vS ρ)),WfL a0 l) ∧
   mayB a0 ((L1.map (subTL (vS ρ))).map cl) ((T1.map (subR (vS ρ))).map codesR) ((C1.map (subTL (vS ρ))).map cl)=true∧(∀ x,VarT L T C x→ρ x<24)∧(∀ x y,VarT L T C x→VarT L T C y→ρ x=ρ y→x=y)∧(∀ x,VarT (L1.map (subTL (vS ρ))) (T1.map (subR (vS ρ))) (C1.map (subTL (vS ρ))) x↔∃ y,VarT L T C y∧ρ y=x) ∧
   (∀ l,l∈L1↔l∈L)∧(∀ l,l∈T1↔l∈T)∧∀ l,l∈C1↔l∈C:=by
 obtain⟨hsb,g1,g2,g3,g4,g5,g6,g7⟩:=mayB_spec hmay
 obtain⟨ρ,hn,hr1,hr2⟩:=normC_ren (L:=L.map cl) (T:=T.map codesR) (C:=C.map cl) fun r hr c hc=>(may_small hmay r hr).2 c hc
 have hρ:∀ x,VarT L T C x→ρ x<24:=fun x hx=>by
  have:=hr1 x (VarR_tree.2 hx)
  rwa [Int.toNat_natCast] at this
 have mL:∀ l,l∈onceL (L.map cl) []↔l∈L.map cl:=fun l=>by simpa using onceL_mem (x:=l) (L.map cl) []
 have mT:∀ l,l∈onceL (T.map codesR) []↔l∈T.map codesR:=fun l=>by simpa using onceL_mem (x:=l) (T.map codesR) []
 have mC:∀ l,l∈onceL (C.map cl) []↔l∈C.map cl:=fun l=>by simpa using onceL_mem (x:=l) (C.map cl) []
 obtain⟨L1,eL,sL⟩:=pick_tree cl (onceL (L.map cl) []) fun b hb=>(mL b).1 hb
 obtain⟨T1,eT,sT⟩:=pick_tree codesR (onceL (T.map codesR) []) fun b hb=>(mT b).1 hb
 obtain⟨C1,eC,sC⟩:=pick_tree cl (onceL (C.map cl) []) fun b hb=>(mC b).1 hb
 have bL:∀ l,l∈L1↔l∈L:=fun l=>⟨sL l,fun hl=>by
  have h1:=(mL (cl l)).2 (List.mem_map_of_mem hl)
  rw[eL] at h1
  obtain⟨k,hk,he⟩:=List.mem_map.1 h1
  rw[← cl_inj (hL k (sL k hk)) (hL l hl) he]
  exact hk⟩
 have bC:∀ l,l∈C1↔l∈C:=fun l=>⟨sC l,fun hl=>by
  have h1:=(mC (cl l)).2 (List.mem_map_of_mem hl)
  rw[eC] at h1
  obtain⟨k,hk,he⟩:=List.mem_map.1 h1
  rw[← cl_inj (hC k (sC k hk)) (hC l hl) he]
  exact hk⟩
 have bT:∀ l,l∈T1↔l∈T:=fun l=>⟨sT l,fun hl=>by
  have h1:=(mT (codesR l)).2 (List.mem_map_of_mem hl)
  rw[eT] at h1
  obtain⟨k,hk,he⟩:=List.mem_map.1 h1
  rw[← codesR_inj _ k l (Nat.le_refl _) (hT k (sT k hk)).1 (hT l hl).1 he]
  exact hk⟩
 have wL:∀ l∈L1.map (subTL (vS ρ)),WfL a0 l:=fun l hl=>by
  obtain⟨k,hk,rfl⟩:=List.mem_map.1 hl
  exact wfL_vS (hL k (sL k hk)) fun x hx=>hρ x (.inl ⟨k,sL k hk,hx⟩)
 have wC:∀ l∈C1.map (subTL (vS ρ)),WfL a0 l:=fun l hl=>by
  obtain⟨k,hk,rfl⟩:=List.mem_map.1 hl
  exact wfL_vS (hC k (sC k hk)) fun x hx=>hρ x (.inr (.inr ⟨k,sC k hk,hx⟩))
 have wT:∀ l∈T1.map (subR (vS ρ)),WfR a0 l:=fun l hl=>by
  obtain⟨k,hk,rfl⟩:=List.mem_map.1 hl
  exact wfR_vS (hT k (sT k hk)) fun x hx=>hρ x (.inr (.inl ⟨k,sT k hk,hx⟩))
 have lL:L1.length≤5:=by
  have h1:=congrArg List.length eL
  have h2:=onceL_len (L.map cl) []
  rw[List.length_map] at h1 h2 g1
  simp at h2; omega
 have lT:T1.length≤3:=by
  have h1:=congrArg List.length eT
  have h2:=onceL_len (T.map codesR) []
  rw[List.length_map] at h1 h2 g2
  simp at h2; omega
 have lC:C1.length≤3:=by
  have h1:=congrArg List.length eC
  have h2:=onceL_len (C.map cl) []
  rw[List.length_map] at h1 h2 g3
  simp at h2; omega
 refine ⟨L1,T1,C1,ρ,?_,wL,wT,wC,?_,hρ,fun x y hx hy he => ?_,fun x => ?_,bL,bT,bC⟩
 ·rw[hn,eL,eT,eC,subLs_cl,subRs_codes,subLs_cl]
 ·refine mayB_mk hsb (by simpa using lL) (by simpa using lT) (by simpa using lC) ?_ ?_ ?_ ?_
  ·refine List.all_eq_true.2 fun l hl => ?_
   obtain⟨k,hk,rfl⟩:=List.mem_map.1 hl
   exact atom_of_wf hsb (wL k hk)
  ·obtain⟨n,hw⟩:=rowsB_all g5
   refine rowsB_of (n:=n) fun r hr => ?_
   obtain⟨k,hk,rfl⟩:=List.mem_map.1 hr
   rw[rowW_codes hsb (wT k hk)]
   obtain⟨j,hj,rfl⟩:=List.mem_map.1 hk
   rw[subR_length]
   have:=hw (codesR j) (List.mem_map_of_mem (sT j hj))
   rwa [rowW_codes hsb (hT j (sT j hj))] at this
  ·refine List.all_eq_true.2 fun l hl => ?_
   obtain⟨k,hk,rfl⟩:=List.mem_map.1 hl
   exact atom_of_wf hsb (wC k hk)
  ·have sumL:∀(X X1:List TLit),onceL (X.map cl) []=X1.map cl→sumLen (((X1.map (subTL (vS ρ))).map cl).map (·.2))≤sumLen ((X.map cl).map (·.2)):=by
    intro X X1 he
    rw[← subLs_cl]
    have h1:(subLs (vS ρ) (X1.map cl)).map (·.2.length)=(X1.map cl).map (·.2.length):=by
     unfold subLs
     rw[List.map_map]
     exact List.map_congr_left fun l _=>vS_len ρ l.2
    unfold sumLen
    rw[List.map_map,List.map_map]
    have h2:=once_sum (fun l:QLit=>l.2.length) (X.map cl) []
    rw[he] at h2
    have h3:List.map (List.length ∘ fun x=>x.2) (subLs (vS ρ) (X1.map cl))=(X1.map cl).map (·.2.length):=h1
    rw[h3]
    have h4:(([]:List QLit).map (fun l:QLit=>l.2.length)).sum=0:=rfl
    have h5:List.map (List.length ∘ fun x=>x.2) (X.map cl)=(X.map cl).map (fun l:QLit=>l.2.length):=rfl
    rw[h4,Nat.zero_add] at h2
    exact h2
   have sumT:sumLen ((T1.map (subR (vS ρ))).map codesR)≤sumLen (T.map codesR):=by
    rw[← subRs_codes]
    have h2:=once_sum List.length (T.map codesR) []
    rw[eT] at h2
    unfold sumLen
    rw[List.map_map]
    have h3:List.map (List.length ∘ subCs (vS ρ)) (T1.map codesR)=(T1.map codesR).map List.length:=List.map_congr_left fun r _=>vS_len ρ r
    rw[h3]
    simpa using h2
   have h1:=sumL L L1 eL
   have h2:=sumL C C1 eC
   omega
 ·have:=hr2 x y (VarR_tree.2 hx) (VarR_tree.2 hy) (by rw[Int.toNat_natCast,Int.toNat_natCast]; exact he)
  rwa [Int.toNat_natCast,Int.toNat_natCast] at this
 ·constructor
  ·rintro (⟨l,hl,hx⟩ | ⟨r,hr,hx⟩ | ⟨l,hl,hx⟩)
   ·obtain⟨k,hk,rfl⟩:=List.mem_map.1 hl
    obtain⟨y,hy,he⟩:=(hasR_sub k.2.2).1 hx
    exact ⟨y,.inl ⟨k,sL k hk,hy⟩,he⟩
   ·obtain⟨k,hk,rfl⟩:=List.mem_map.1 hr
    obtain⟨y,hy,he⟩:=(hasR_sub k).1 hx
    exact ⟨y,.inr (.inl ⟨k,sT k hk,hy⟩),he⟩
   ·obtain⟨k,hk,rfl⟩:=List.mem_map.1 hl
    obtain⟨y,hy,he⟩:=(hasR_sub k.2.2).1 hx
    exact ⟨y,.inr (.inr ⟨k,sC k hk,hy⟩),he⟩
  ·rintro⟨y,⟨l,hl,hy⟩ | ⟨r,hr,hy⟩ | ⟨l,hl,hy⟩,he⟩
   ·exact .inl ⟨_,List.mem_map_of_mem ((bL l).2 hl),(hasR_sub l.2.2).2 ⟨y,hy,he⟩⟩
   ·exact .inr (.inl ⟨_,List.mem_map_of_mem ((bT r).2 hr),(hasR_sub r).2 ⟨y,hy,he⟩⟩)
   ·exact .inr (.inr ⟨_,List.mem_map_of_mem ((bC l).2 hl),(hasR_sub l.2.2).2 ⟨y,hy,he⟩⟩)
end
end Go.Abs.Q
namespace Go.Abs.Q
open Go Go.Abs
section
mutual
theorem Tm.sub_id:(t:Tm)→t.sub (fun n=>Tm.v n)=t
 | .v n=>rfl
 | .f c as=>by rw[Tm.sub,subR_id as]
theorem subR_id:(ts:List Tm)→subR (fun n=>Tm.v n) ts=ts
 | []=>rfl
 | t::ts=>by rw[subR,Tm.sub_id t,subR_id ts]
end
section
variable {m:Nat} (hm:0<m) (hm3:m≤3) {nums:List Int} (hn:NumsOk nums) {a0:List QSym} (hs:SignOk a0)
include hm hm3 hn hs
end
end
end Go.Abs.Q
namespace Go.Abs.Q
open Go Go.Abs
section
section
variable {m:Nat} (hm:0<m) (hm3:m≤3) {nums:List Int} (hn:NumsOk nums) {a0:List QSym} (hs:SignOk a0)
include hm hm3 hn hs
end
end
end Go.Abs.Q
namespace Go.Abs.Q
open Go Go.Abs
section
theorem slc_take {α:Type} (xs:List α) {i:Nat} (h:i≤xs.length):slc2 xs none (some (i:Int))=some (xs.take i):=by
 show slc xs 0 (i:Int)=some _
 unfold slc
 rw[decide_eq_true (show (0:Int)≤0 by omega),decide_eq_true (show (0:Int)≤(i:Int) by omega),decide_eq_true (show (i:Int)≤((xs.length:Nat):Int) by omega)]
 simp
end
end Go.Abs.Q
namespace Go.Abs.Q
open Go Go.Abs
section
section
variable {m:Nat} (hm:0<m) (hm3:m≤3) {nums:List Int} (hn:NumsOk nums) {a0:List QSym} (hs:SignOk a0)
include hm hm3 hn hs
end
end
end Go.Abs.Q
namespace Go.Abs.Q
open Go Go.Abs
section
end
end Go.Abs.Q
namespace Go.Abs.Q
open Go Go.Abs
def ref1_Same_L0 (rec:((List Int)×(List Int)×Int)→Option (Unit⊕Bool)) (x:((List Int)×(List Int)×Int)):Option (Unit⊕Bool) :=
 cond (decide (x.2.2<((List.length x.1:Nat):Int)))
 ((gx x.1 x.2.2).bind fun e3 =>
  (gx x.2.1 x.2.2).bind fun e4 =>
  cond (e3 != e4)
  (some (Sum.inr false))
  (rec (x.1,x.2.1,(IntKind.wrap .i64 (x.2.2+1)))))
 (some (Sum.inl ()))
def ref1_Same (a0:(List Int)) (a1:(List Int)):Option Bool :=
 cond (((List.length a0:Nat):Int) != ((List.length a1:Nat):Int))
 (some false)
 (((lp ref1_Same_L0 fuel) (a0,a1,0)).bind fun r8 =>
  caseS r8
  (fun _z9=>some true)
  (fun z10=>some z10))
end Go.Abs.Q
namespace Go.Abs.Q
open Go Go.Abs
def ref1_Same_L0_go (s1:(List Int)):List Int→Nat→Option (Unit⊕Bool)
 | [],_i=>some (Sum.inl ())
 | e::es,i =>
  (gx s1 (i:Int)).bind fun e4 =>
  cond (e != e4)
  (some (Sum.inr false))
  (ref1_Same_L0_go s1 es (i+1))
theorem ref1_Same_L0_go_at0 (s0:(List Int)) (s1:(List Int)) (hl:List.length s0≤maxLen):lp ref1_Same_L0 fuel (s0,s1,0)=ref1_Same_L0_go s1 s0 0:=rngl0 ref1_Same_L0 (fun i=>(s0,s1,i)) (fun es i=>ref1_Same_L0_go s1 es i) hl (fun r i h=>by unfold ref1_Same_L0 ref1_Same_L0_go; simp only[h,cond_false]) (fun r i e es h g w k=>by unfold ref1_Same_L0 ref1_Same_L0_go; simp only[h,cond_true,g,Option.bind_some,w,k])
end Go.Abs.Q
namespace Go.Abs.Q
open Go Go.Abs
section
theorem same1_go (b:List Int):(es:List Int)→(i:Nat)→i+es.length=b.length→ref1_Same_L0_go b es i=some (cond (decide (es=b.drop i)) (.inl ()) (.inr false))
 | [],i,h=>by
  rw[List.drop_of_length_le (by simp at h; omega)]
  rfl
 | e::es,i,h=>by
  simp only[List.length_cons] at h
  obtain⟨x,hx⟩:∃ x,b[i]? = some x:=⟨_,List.getElem?_eq_getElem (by omega)⟩
  have hd:b.drop i=x::b.drop (i+1):=by
   have h1:=(List.getElem?_eq_some_iff.1 hx).1
   rw[List.drop_eq_getElem_cons h1]
   rw[(List.getElem?_eq_some_iff.1 hx).2]
  unfold ref1_Same_L0_go
  rw[gx_nat,hx,Option.bind_some,same1_go b es (i+1) (by omega),hd]
  by_cases he:e=x
  ·subst he
   rw[show (e != e)=false from by simp,cond_false]
   simp
  ·rw[show (e != x)=true from by simp [he],cond_true]
   simp [he]
theorem same1_eq {a b:List Int} (h:a.length≤1000000):ref1_Same a b=some (decide (a=b)):=by
 unfold ref1_Same
 by_cases hl:a.length=b.length
 ·rw[show (((List.length a:Nat):Int) != ((List.length b:Nat):Int))=false from by simp [hl],cond_false,ref1_Same_L0_go_at0 _ _ (by unfold maxLen; omega),same1_go b a 0 (by omega),Option.bind_some,List.drop_zero]
  cases decide (a=b)<;>rfl
 ·rw[show (((List.length a:Nat):Int) != ((List.length b:Nat):Int))=true from by simp; omega,cond_true]
  have:a≠b:=fun e=>hl (by rw[e])
  simp [this]
def codeO (o:Option Tm):List Int:=match o with
 | none=>[]
 | some t=>t.codes
structure RepW (a0:List QSym) (w:List (List Int)) (B:Bd):Prop where
 len:w.length=48
 at_:∀ x,x<48→w[x]? = some (codeO (B x))
 ok:∀ x t,B x=some t→x<24∧t.ok a0 24∧t.codes.length≤48
theorem RepW.small {a0:List QSym} {w:List (List Int)} {B:Bd} (h:RepW a0 w B):Small B:=fun x t ht=>by
 obtain⟨h1,h2,h3⟩:=h.ok x t ht
 rw[Tm.codes_len] at h3
 exact ⟨by omega,h3⟩
theorem RepW.set {a0:List QSym} {w:List (List Int)} {B:Bd} (h:RepW a0 w B) {x:Nat} (hx:x<24) {t:Tm} (ht:t.ok a0 24) (hl:t.codes.length≤48):RepW a0 (w.set x t.codes) (updB B x t) where
 len:=by rw[List.length_set]; exact h.len
 at_:=fun y hy=>by
  have:=h.len
  by_cases he:y=x
  ·subst he
   rw[List.getElem?_set_self (by omega),updB_same]
   rfl
  ·rw[List.getElem?_set_ne (Ne.symm he),updB_ne _ _ he]
   exact h.at_ y hy
 ok:=fun y u hy=>by
  by_cases he:y=x
  ·subst he
   rw[updB_same] at hy
   injection hy with hy
   subst hy
   exact ⟨hx,ht,hl⟩
  ·rw[updB_ne _ _ he] at hy
   exact h.ok y u hy
section
variable {a0:List QSym} {w:List (List Int)} {B:Bd} {σ:Sb} (hT:RepW a0 w B) (hG:Good B σ)
include hT hG
end
end
end Go.Abs.Q
namespace Go.Abs.Q
open Go Go.Abs
section
theorem term_codes {a0:List QSym} {t:Tm} (ho:t.ok a0 24):∀ c∈t.codes,-24≤c∧(c<0→t.has (-1 - c).toNat):=fun c hcm=>by
 by_cases hc0:c<0
 ·have h5:=(Tm.mem_codes hc0 t).1 hcm
  have h6:=Tm.ok_has t ho h5
  exact ⟨by omega,fun _=>h5⟩
 ·exact ⟨by omega,fun h=>absurd h hc0⟩
section
variable {a0:List QSym} {w:List (List Int)} {B:Bd} {σ:Sb} (hT:RepW a0 w B) (hG:Good B σ)
include hT hG
end
end
end Go.Abs.Q
namespace Go.Abs.Q
open Go Go.Abs
section
end
end Go.Abs.Q
namespace Go.Abs.Q
open Go Go.Abs
section
end
end Go.Abs.Q
namespace Go.Abs.Q
open Go Go.Abs
section
end
end Go.Abs.Q
namespace Go.Abs.Q
open Go Go.Abs
section
end
end Go.Abs.Q
namespace Go.Abs.Q
open Go Go.Abs
section
theorem may_sum {a0:List QSym} (_hs:SignOk a0) {L:List QLit} {T:List (List Int)} {C:List QLit} (h:mayB a0 L T C=true):L.length≤5∧T.length≤3∧C.length≤3∧sumLen (L.map (·.2))+sumLen T+sumLen (C.map (·.2))≤1000:=by
 obtain⟨-,h1,h2,h3,-,-,-,h7⟩:=mayB_spec h
 exact ⟨h1,h2,h3,by omega⟩
end
end Go.Abs.Q
namespace Go.Abs.Q
open Go Go.Abs
section
end
end Go.Abs.Q
namespace Go.Abs.Q
open Go Go.Abs
end Go.Abs.Q
namespace Go.Abs.Q
open Go Go.Abs
end Go.Abs.Q
namespace Go.Abs.Q
open Go Go.Abs
section
end
end Go.Abs.Q
namespace Go.Abs.Q
open Go Go.Abs
section
end
end Go.Abs.Q
namespace Go.Abs.Q
open Go Go.Abs
section
mutual
theorem Tm.syms {a0:List QSym} (hs:SignOk a0):(t:Tm)→t.ok a0 24→∀ c∈t.codes,-24≤c∧(0≤c→∃ e,gx a0 c=some e)
 | .v n,ho,c,hc=>by
  have hn:n<24:=ho
  have hc:c = -1 - (n:Int):=by simpa[Tm.codes] using hc
  exact ⟨by omega,fun h=>by omega⟩
 | .f d as,ho,c,hc=>by
  rcases List.mem_cons.1 (show c∈(d:Int)::codesR as from hc) with rfl | hc
  ·obtain⟨e,he,-⟩:=arity_at hs ho.1
   exact ⟨by omega,fun _=>⟨e,he⟩⟩
  ·exact symsR hs as ho.2 c hc
theorem symsR {a0:List QSym} (hs:SignOk a0):(ts:List Tm)→okR a0 24 ts→∀ c∈codesR ts,-24≤c∧(0≤c→∃ e,gx a0 c=some e)
 | [],_,_,hc=>by simp [codesR] at hc
 | t::ts,ho,c,hc=>by
  rcases List.mem_append.1 (show c∈t.codes++codesR ts from hc) with hc | hc
  ·exact Tm.syms hs t ho.1 c hc
  ·exact symsR hs ts ho.2 c hc
end
end
end Go.Abs.Q
namespace Go.Abs.Q
open Go Go.Abs
section
end
end Go.Abs.Q
namespace Go.Abs.Q
open Go Go.Abs
section
end
end Go.Abs.Q
namespace Go.Abs.Q
open Go Go.Abs
section
end
end Go.Abs.Q
namespace Go.Abs.Q
open Go Go.Abs
section
def clash (l e:QLit):Bool:=(l.1 != e.1)&&decide (l.2=e.2)
theorem clash_sym (l e:QLit):clash l e=clash e l:=by
 unfold clash
 rw[Bool.eq_iff_iff]
 simp only[Bool.and_eq_true,decide_eq_true_iff,bne_iff_ne]
 exact ⟨fun h=>⟨Ne.symm h.1,h.2.symm⟩,fun h=>⟨Ne.symm h.1,h.2.symm⟩⟩
theorem trivial8_go (e:QLit):(es:List QLit)→(i:Nat)→(∀ l∈es,l.2.length≤1000)→e.2.length≤1000→∃ z,slices_IndexFunc_8_L0_go e.1 e.2 es i=some z∧caseS z (fun _=>decide ((-1:Int)≥0)) (fun j=>decide (j≥0))=es.any fun l=>clash l e
 | [],i,_,_=>⟨.inl (),rfl,rfl⟩
 | l::es,i,h,he=>by
  obtain⟨z,g1,g2⟩:=trivial8_go e es (i+1) (fun l hl=>h l (List.mem_cons_of_mem _ hl)) he
  unfold slices_IndexFunc_8_L0_go clause_Trivial_c1
  rw[List.any_cons]
  have hc:clash l e=(!(e.1==l.1)&&decide (e.2=l.2)):=by rw[clash_sym]; rfl
  cases hb : !(e.1==l.1) with
  | false =>
   rw[hb] at hc
   rw[cond_false,Option.bind_some,cond_false,hc,Bool.false_and,Bool.false_or]
   exact ⟨z,g1,g2⟩
  | true =>
   rw[hb] at hc
   rw[cond_true,slices_Equal_eq (by unfold maxLen; omega),Option.bind_some,Option.bind_some,hc,Bool.true_and]
   cases decide (e.2=l.2) with
   | true =>
    refine ⟨.inr (i:Int),rfl,?_⟩
    show decide ((i:Int)≥0)=_
    rw[decide_eq_true (show (i:Int)≥0 by omega)]
    rfl
   | false=>exact ⟨z,g1,g2⟩
theorem contains8_eq {L:List QLit} {e:QLit} (h:∀ l∈L,l.2.length≤1000) (he:e.2.length≤1000) (hl:L.length≤1000):slices_ContainsFunc_8 L e.1 e.2=some (L.any fun l=>clash l e):=by
 unfold slices_ContainsFunc_8 slices_IndexFunc_8
 obtain⟨z,g1,g2⟩:=trivial8_go e L 0 h he
 rw[slices_IndexFunc_8_L0_go_at0 _ _ _ (by unfold maxLen; omega),g1,Option.bind_some,← g2]
 cases z<;>rfl
end
end Go.Abs.Q
namespace Go.Abs.Q
open Go Go.Abs
section
def selfB (a0:List QSym) (e:QLit):Bool:=(clause_selfSame a0 e.1 e.2).getD false
theorem self_spec {a0:List QSym} (hs:SignOk a0) {e:QLit} (h:atomB a0 e.2=true):clause_selfSame a0 e.1 e.2=some (selfB a0 e)∧∀ X Y:Option (Unit⊕Bool),
  (cond (!e.1) ((gx e.2 0).bind fun e30=>cond (e30==0) ((slc2 e.2 (some 1) none).bind fun y31=>(ref1_Parts a0 y31).bind fun r32=>(inR 0 (List.length r32)).bind fun k33=>(r32[k33]?).bind fun x34=>(inR 1 (List.length r32)).bind fun k35=>(r32[k35]?).bind fun x36=>(ref1_Same x34 x36).bind fun r37=>cond r37 X Y) Y) Y)=cond (selfB a0 e) X Y:=by
 obtain⟨n,r⟩:=e
 obtain⟨c,ts,q,hr,ho,hq,-,hl,h48,-⟩:=atom_tree h
 have hr:r=(c:Int)::codesR ts:=hr
 subst hr
 unfold selfB clause_selfSame
 cases n with
 | true=>exact ⟨rfl,fun X Y=>rfl⟩
 | false =>
  simp only[cond_false,Bool.not_false,cond_true,gx_zero,List.getElem?_cons_zero,Option.bind_some]
  by_cases hc:c=0
  ·subst hc
   have h2:ts.length=2:=by
    rw[hs.eq] at hq
    injection hq with hq
    subst hq
    have:((ts.length:Nat):Int)=2:=hl
    omega
   obtain⟨t1,t2,rfl⟩:∃ t1 t2,ts=[t1,t2]:=by
    match ts,h2 with
    | [t1,t2],_=>exact ⟨t1,t2,rfl⟩
   have hcut:=cuts_codes [t1,t2] ho
   have l1:t1.codes.length≤1000:=by
    have h9:t1.codes.length≤(codesR [t1,t2]).length:=codes_le (List.mem_cons_self ..)
    exact Nat.le_trans h9 (Nat.le_trans h48 (by decide))
   have e8:=term_Pieces_eq hs (a1:=codesR [t1,t2]) (Nat.le_trans h48 (by decide)) hcut
   have e9:=ref1_Parts_eq hs (a1:=codesR [t1,t2]) (Nat.le_trans h48 (by decide)) hcut
   have s8:slc2 (((0:Nat):Int)::codesR [t1,t2]) (some 1) none=some (codesR [t1,t2]):=slc_tail _ _
   rw[List.map_cons,List.map_cons,List.map_nil] at e8 e9
   generalize codesR [t1,t2]=row at e8 e9 s8 ⊢
   generalize t1.codes=p1 at l1 e8 e9
   generalize t2.codes=p2 at e8 e9
   have q1:slices_Equal p1 p2=some (decide (p1=p2)):=slices_Equal_eq (Nat.le_trans l1 (by decide))
   have q2:ref1_Same p1 p2=some (decide (p1=p2)):=same1_eq (Nat.le_trans l1 (by decide))
   have i0:inR 0 (List.length [p1,p2])=some 0:=rfl
   have i1:inR 1 (List.length [p1,p2])=some 1:=rfl
   have g0:[p1,p2][0]? = some p1:=rfl
   have g1:[p1,p2][1]? = some p2:=rfl
   rw[show ((((0:Nat):Int)) != 0)=false from rfl,cond_false,show ((((0:Nat):Int))==0)=true from rfl]
   simp only[s8,Option.bind_some,e8,e9,cond_true,i0,i1,g0,g1,q1,q2,Option.getD_some,implies_true,and_self]
  ·rw[show ((c:Int) != 0)=true from by simp [hc],show ((c:Int)==0)=false from by simp [hc]]
   simp only[cond_true,cond_false,Option.getD_some,implies_true,and_self]
def trivB (a0:List QSym) (L:List QLit):Bool:=L.any fun e=>selfB a0 e||L.any fun l=>clash l e
theorem trivial_go {a0:List QSym} (hs:SignOk a0) {L:List QLit} (hL:∀ l∈L,l.2.length≤1000) (hl:L.length≤1000):(es:List QLit)→(∀ l∈es,atomB a0 l.2=true)→clause_Trivial_L0_go a0 L es=some (cond (es.any fun e=>selfB a0 e||L.any fun l=>clash l e) (.inr (true,0)) (.inl ()))
 | [],_=>rfl
 | e::es,h=>by
  have he:=h e (List.mem_cons_self ..)
  have hel:=atomB_len he
  unfold clause_Trivial_L0_go
  rw[(self_spec hs he).1,Option.bind_some,contains8_eq hL (by omega) hl,List.any_cons,trivial_go hs hL hl es fun l hl=>h l (List.mem_cons_of_mem _ hl)]
  cases selfB a0 e with
  | true=>rfl
  | false =>
   rw[cond_false,Option.bind_some,Bool.false_or]
   cases L.any fun l=>clash l e<;>rfl
theorem trivial_eq {a0:List QSym} {L:List QLit} {T:List (List Int)} {C:List QLit} (h:mayB a0 L T C=true):clause_Trivial a0 L T C=some (trivB a0 L,0):=by
 have hs:=signB_ok (mayB_spec h).1
 obtain⟨l1,-,-,-⟩:=may_sum hs h
 obtain⟨-,-,-,-,l4,-,-,-⟩:=mayB_spec h
 have hA:∀ l∈L,atomB a0 l.2=true:=fun l hl=>List.all_eq_true.1 l4 l hl
 unfold clause_Trivial
 rw[clause_May_eq,h,Option.bind_some,Bool.not_true,cond_false,clause_Trivial_L0_go_at0 _ _ _ _ _ (by unfold maxLen; omega),trivial_go hs (fun l hl=>by have:=atomB_len (hA l hl); omega) (by omega) L hA,Option.bind_some]
 unfold trivB
 cases L.any fun e=>selfB a0 e||L.any fun l=>clash l e<;>rfl
end
end Go.Abs.Q
namespace Go.Abs.Q
open Go Go.Abs
section
theorem trivial_total (a0:List QSym) (L:List QLit) (T:List (List Int)) (C:List QLit):∃ t,clause_Trivial a0 L T C=some t:=by
 cases h:mayB a0 L T C with
 | true=>exact ⟨_,trivial_eq h⟩
 | false =>
  refine ⟨(false,800),?_⟩
  unfold clause_Trivial
  rw[clause_May_eq,h]
  rfl
end
end Go.Abs.Q
namespace Go.Abs.Q
open Go Go.Abs
end Go.Abs.Q
namespace Go.Abs.Q
open Go Go.Abs
section
def SameCl (L:List QLit) (T:List (List Int)) (C:List QLit):Prop:=law0_SameClause L T C L T C=some true
theorem sameCl_nil:SameCl [] [] []:=by
 unfold SameCl
 exact law0_SameClause_refl (by simp) (by simp) (by simp) (by simp) (by simp) (by simp)
theorem norm_may {a0:List QSym} {L:List QLit} {T:List (List Int)} {C:List QLit} (h:mayB a0 L T C=true):mayB a0 (normC L T C).1 (normC L T C).2.1 (normC L T C).2.2=true:=by
 obtain⟨Lt,Tt,Ct,rfl,rfl,rfl,hL,hT,hC⟩:=may_tree h
 obtain⟨L1,T1,C1,ρ,e,-,-,-,hm,-⟩:=normal_tree h hL hT hC
 rw[e]
 exact hm
theorem copy_clause {L:List QLit} {T:List (List Int)} {C:List QLit} (h1:L.length≤1048576) (h1m:∀ l∈L,l.2.length≤1048576) (h2:T.length≤1048576) (h2m:∀ l∈T,l.length≤1048576) (h3:C.length≤1048576) (h3m:∀ l∈C,l.2.length≤1048576) :
  law0_CopyClause L T C=some (L,T,C)∧SameCl L T C:=by
 refine ⟨?_,?_⟩
 ·unfold law0_CopyClause
  rw[law0_CopyLits_eq (fun l hl=>Nat.le_trans (h1m l hl) (by decide)) (Nat.le_trans h1 (by decide)),law0_CopyRows_eq (fun l hl=>Nat.le_trans (h2m l hl) (by decide)) (Nat.le_trans h2 (by decide)),law0_CopyLits_eq (fun l hl=>Nat.le_trans (h3m l hl) (by decide)) (Nat.le_trans h3 (by decide))]
  rfl
 ·have hM:1048576≤maxLen:=by decide
  exact law0_SameClause_refl (Nat.le_trans h1 hM) (fun e he=>Nat.le_trans (h1m e he) hM) (Nat.le_trans h2 hM) (fun e he=>Nat.le_trans (h2m e he) hM) (Nat.le_trans h3 hM) (fun e he=>Nat.le_trans (h3m e he) hM)
end
end Go.Abs.Q
namespace Go.Abs.Q
open Go Go.Abs
end Go.Abs.Q
namespace Go.Abs.Q
open Go Go.Abs
section
abbrev StepT:=Int×Int×Int×Int×Int×Int×Int×List QLit×List (List Int)×List QLit
section
variable {a0:List QSym} {L:List QLit} {T:List (List Int)} {C:List QLit} (hmay:mayB a0 L T C=true)
include hmay
end
end
end Go.Abs.Q
namespace Go.Abs.Q
open Go Go.Abs
section
section
variable {a0:List QSym} {L:List QLit} {T:List (List Int)} {C:List QLit} (hmay:mayB a0 L T C=true)
include hmay
end
end
end Go.Abs.Q
namespace Go.Abs.Q
open Go Go.Abs
end Go.Abs.Q
namespace Go.Abs.Q
open Go Go.Abs
end Go.Abs.Q
namespace Go.Abs.Q
open Go Go.Abs
section
end
end Go.Abs.Q
namespace Go.Abs.Q
open Go Go.Abs
def para_equation (a0:(List QLit)) (_a1:(List (List Int))) (_a2:(List QLit)) (a3:Int) (a4:Bool):Option Bool :=
 cond (decide (a3≥0))
 (cond (decide (a3<((List.length a0:Nat):Int)))
  ((gx a0 a3).bind fun e4 =>
   (gx e4.2 0).bind fun e5 =>
   cond (e5==0)
   ((gx a0 a3).bind fun e6 =>
    some (e6.1==a4))
   (some false))
  (some false))
 (some false)
def resolve_Apart_1 (a0:(List QSym)) (a1:(List QLit)) (a2:(List (List Int))) (a3:(List QLit)) (a4:(List QLit)) (a5:(List (List Int))) (a6:(List QLit)):Option (Bool×(List QLit)×(List (List Int))×(List QLit)) :=
 (clause_Vars a0 a1 a2 a3).bind fun r14 =>
 cond (decide (((List.length r14.2:Nat):Int)>0))
 ((inR (IntKind.wrap .i64 (((List.length r14.2:Nat):Int) - 1)) (List.length r14.2)).bind fun k15 =>
  (r14.2[k15]?).bind fun x16 =>
  (clause_Vars a0 a4 a5 a6).bind fun r17 =>
  cond (decide (((List.length r17.2:Nat):Int)>0))
  ((inR (IntKind.wrap .i64 (((List.length r17.2:Nat):Int) - 1)) (List.length r17.2)).bind fun k18 =>
   (r17.2[k18]?).bind fun x19 =>
   cond (decide ((IntKind.wrap .i64 (x19+(IntKind.wrap .i64 (x16+1))))>23))
   (some (false,([]:(List QLit)),([]:(List (List Int))),([]:(List QLit))))
   ((clause_Shift a4 a5 a6 (IntKind.wrap .i64 (x16+1))).bind fun r20 =>
    some (true,r20.1,r20.2.1,r20.2.2)))
  ((clause_Shift a4 a5 a6 (IntKind.wrap .i64 (x16+1))).bind fun r21 =>
   some (true,r21.1,r21.2.1,r21.2.2)))
 ((clause_Vars a0 a4 a5 a6).bind fun r22 =>
  cond (decide (((List.length r22.2:Nat):Int)>0))
  ((inR (IntKind.wrap .i64 (((List.length r22.2:Nat):Int) - 1)) (List.length r22.2)).bind fun k23 =>
   (r22.2[k23]?).bind fun x24 =>
   cond (decide ((IntKind.wrap .i64 (x24+0))>23))
   (some (false,([]:(List QLit)),([]:(List (List Int))),([]:(List QLit))))
   ((clause_Shift a4 a5 a6 0).bind fun r25 =>
    some (true,r25.1,r25.2.1,r25.2.2)))
  ((clause_Shift a4 a5 a6 0).bind fun r26 =>
   some (true,r26.1,r26.2.1,r26.2.2)))
def resolve_Sides (a0:(List QSym)) (a1:(List Int)):Option (List (List Int)) :=
 (slc2 a1 (some 1) none).bind fun y3 =>
 (term_Pieces a0 y3).bind fun r4 =>
 some r4
def para_before (a0:(List QSym)) (a1:(List Int)) (a2:(List Int)):Option Bool :=
 (order_Compare a0 a1 a2).bind fun r2 =>
 cond (r2.1 != 2)
 (some (r2.1 != 3))
 (some false)
def para_changed (a0:(List QSym)) (a1:(List Int)) (a2:Int) (a3:(List Int)):Option (List Int) :=
 (term_Skip a0 a1 a2).bind fun r5 =>
 (slc2 a1 none (some a2)).bind fun y6 =>
 (slc2 a1 (some r5.1) none).bind fun y7 =>
 (slices_Concat_2 ([y6,a3,y7]:List (List Int))).bind fun r8 =>
 some r8
def para_one (a0:(List QSym)) (a1:(List QLit)) (a2:(List (List Int))) (a3:(List QLit)) (a4:Int) (a5:Int) (a6:(List QLit)) (a7:(List (List Int))) (a8:(List QLit)) (a9:Int) (a10:Int):Option ((List QLit)×(List (List Int))×Bool×Int×(List QLit)) :=
 (gx a6 a9).bind fun e28 =>
 (gx e28.2 a10).bind fun e29 =>
 cond (decide (e29<0))
 (some (([]:(List QLit)),([]:(List (List Int))),false,0,([]:(List QLit))))
 ((resolve_Apart_1 a0 a1 a2 a3 a6 a7 a8).bind fun r30 =>
  cond (!r30.1)
  (some (([]:(List QLit)),([]:(List (List Int))),false,1501,([]:(List QLit))))
  ((gx a1 a4).bind fun e31 =>
   (resolve_Sides a0 e31.2).bind fun r32 =>
   (inR a9 (List.length r30.2.1)).bind fun k33 =>
   (r30.2.1[k33]?).bind fun x34 =>
   (term_Skip a0 x34.2 a10).bind fun r35 =>
   (inR a5 (List.length r32)).bind fun k36 =>
   (r32[k36]?).bind fun x37 =>
   (slc2 x34.2 (some a10) (some r35.1)).bind fun y38 =>
   (unify_Unify a0 x37 y38).bind fun r39 =>
   cond (r39.2.1 != 0)
   (some (([]:(List QLit)),([]:(List (List Int))),false,1502,([]:(List QLit))))
   (cond (!r39.1)
    (some (([]:(List QLit)),([]:(List (List Int))),false,0,([]:(List QLit))))
    ((inR a5 (List.length r32)).bind fun k40 =>
     (r32[k40]?).bind fun x41 =>
     (bind_On r39.2.2 x41).bind fun r42 =>
     (inR (IntKind.wrap .i64 (1 - a5)) (List.length r32)).bind fun k43 =>
     (r32[k43]?).bind fun x44 =>
     (bind_On r39.2.2 x44).bind fun r45 =>
     cond (decide (((List.length r42:Nat):Int)>48))
     (some (([]:(List QLit)),([]:(List (List Int))),false,1502,([]:(List QLit))))
     (cond (decide (((List.length r45:Nat):Int)>48))
      (some (([]:(List QLit)),([]:(List (List Int))),false,1502,([]:(List QLit))))
      ((para_before a0 r42 r45).bind fun r46 =>
       cond r46
       (some (([]:(List QLit)),([]:(List (List Int))),false,0,([]:(List QLit))))
       ((inR (IntKind.wrap .i64 (1 - a5)) (List.length r32)).bind fun k47 =>
        (r32[k47]?).bind fun x48 =>
        (para_changed a0 x34.2 a10 x48).bind fun r49 =>
        (inR a9 (List.length r30.2.1)).bind fun k50 =>
        (r30.2.1[k50]?).bind fun x51 =>
        (resolve_Both a1 a2 a3 a4 (List.set r30.2.1 k50 (x51.1,r49)) r30.2.2.1 r30.2.2.2 (-1)).bind fun r52 =>
        (clause_On r39.2.2 r52.2.1 r52.1 r52.2.2).bind fun r53 =>
        (clause_Normal a0 r53.1 r53.2.1 r53.2.2).bind fun r54 =>
        cond (r54.2.2.1 != 0)
        (some (([]:(List QLit)),([]:(List (List Int))),false,1502,([]:(List QLit))))
        (some (r54.1,r54.2.1,true,0,r54.2.2.2)))))))))
def para_One (a0:(List QSym)) (a1:(List QLit)) (a2:(List (List Int))) (a3:(List QLit)) (a4:Int) (a5:Int) (a6:(List QLit)) (a7:(List (List Int))) (a8:(List QLit)) (a9:Int) (a10:Int):Option ((List QLit)×(List (List Int))×Bool×Int×(List QLit)) :=
 (clause_May a0 a1 a2 a3).bind fun r8 =>
 cond (!r8)
 (some (([]:(List QLit)),([]:(List (List Int))),false,1500,([]:(List QLit))))
 ((clause_May a0 a6 a7 a8).bind fun r9 =>
  cond (!r9)
  (some (([]:(List QLit)),([]:(List (List Int))),false,1500,([]:(List QLit))))
  ((para_equation a1 a2 a3 a4 false).bind fun r10 =>
   cond (!r10)
   (some (([]:(List QLit)),([]:(List (List Int))),false,1500,([]:(List QLit))))
   (cond (a5 != 0)
    (cond (a5 != 1)
     (some (([]:(List QLit)),([]:(List (List Int))),false,1500,([]:(List QLit))))
     (cond (decide (a9<0))
      (some (([]:(List QLit)),([]:(List (List Int))),false,1500,([]:(List QLit))))
      (cond (decide (a9≥((List.length a6:Nat):Int)))
       (some (([]:(List QLit)),([]:(List (List Int))),false,1500,([]:(List QLit))))
       (cond (decide (a10<1))
        (some (([]:(List QLit)),([]:(List (List Int))),false,1500,([]:(List QLit))))
        ((gx a6 a9).bind fun e11 =>
         cond (decide (a10≥((List.length e11.2:Nat):Int)))
         (some (([]:(List QLit)),([]:(List (List Int))),false,1500,([]:(List QLit))))
         ((para_one a0 a1 a2 a3 a4 a5 a6 a7 a8 a9 a10).bind fun r12 =>
          some (r12.1,r12.2.1,r12.2.2.1,r12.2.2.2.1,r12.2.2.2.2)))))))
    (cond (decide (a9<0))
     (some (([]:(List QLit)),([]:(List (List Int))),false,1500,([]:(List QLit))))
     (cond (decide (a9≥((List.length a6:Nat):Int)))
      (some (([]:(List QLit)),([]:(List (List Int))),false,1500,([]:(List QLit))))
      (cond (decide (a10<1))
       (some (([]:(List QLit)),([]:(List (List Int))),false,1500,([]:(List QLit))))
       ((gx a6 a9).bind fun e13 =>
        cond (decide (a10≥((List.length e13.2:Nat):Int)))
        (some (([]:(List QLit)),([]:(List (List Int))),false,1500,([]:(List QLit))))
        ((para_one a0 a1 a2 a3 a4 a5 a6 a7 a8 a9 a10).bind fun r14 =>
         some (r14.1,r14.2.1,r14.2.2.1,r14.2.2.2.1,r14.2.2.2.2)))))))))
end Go.Abs.Q
namespace Go.Abs.Q
open Go Go.Abs
section
inductive RT (t u:Tm):Tm→Tm→Prop
 | here:RT t u t u
 | arg (c:Nat) (l r:List Tm) {a b:Tm}:RT t u a b→RT t u (.f c (l++a::r)) (.f c (l++b::r))
theorem RT.ok {a0:List QSym} {N:Nat} {t u a b:Tm} (h:RT t u a b) (hu:u.ok a0 N) (ha:a.ok a0 N):b.ok a0 N:=by
 induction h with
 | here=>exact hu
 | arg c l r h ih =>
  refine ⟨by have:=ha.1; simpa using this,okR_iff.2 fun w hw => ?_⟩
  have h2:=okR_iff.1 ha.2
  rcases List.mem_append.1 hw with hw | hw
  ·exact h2 w (List.mem_append_left _ hw)
  ·rcases List.mem_cons.1 hw with rfl | hw
   ·exact ih (h2 _ (by simp))
   ·exact h2 w (by simp [hw])
end
end Go.Abs.Q
namespace Go.Abs.Q
open Go Go.Abs
section
end
end Go.Abs.Q
namespace Go.Abs.Q
open Go Go.Abs
section
def eqB (L:List QLit) (i:Int) (neg:Bool):Bool:=placeB L i&&(match gx L i with
 | some l=>(gx l.2 0==some 0)&&(l.1==neg)
 | none=>false)
end
end Go.Abs.Q
namespace Go.Abs.Q
open Go Go.Abs
section
section
variable {a0:List QSym} {L:List QLit} (hL:∀ l∈L,atomB a0 l.2=true) (T:List (List Int)) (C:List QLit)
include hL
end
end
end Go.Abs.Q
namespace Go.Abs.Q
open Go Go.Abs
section
variable (a0:List QSym) (L:List QLit) (T:List (List Int)) (C:List QLit) (a b:Int) (L':List QLit) (T':List (List Int)) (C':List QLit)
def rowLen (j:Int):Nat:=match gx L' j with
 | some l=>l.2.length
 | none=>0
variable {a0 L T C a b L' T' C'} (h:mayB a0 L T C=true) (h':mayB a0 L' T' C'=true)
include h h'
end
end Go.Abs.Q
namespace Go.Abs.Q
open Go Go.Abs
section
section
variable {a0:List QSym} {L:List QLit} {T:List (List Int)} {C:List QLit} {a b:Int} {L':List QLit} {T':List (List Int)} {C':List QLit} (h:mayB a0 L T C=true) (h':mayB a0 L' T' C'=true)
 {P:StepT→Prop} (hP:∀(i side j:Int) (at':Nat) (r:ResT),eqB L i false=true→(side=0∨side=1)→0≤j→j<L'.length→1≤at'→at'<rowLen L' j→para_One a0 L T C i side L' T' C' j (at':Int)=some r→r.2.2.1=true→r.2.2.2.1=0→mayB a0 r.1 r.2.1 r.2.2.2.2=true→SameCl r.1 r.2.1 r.2.2.2.2→P (3,a,i,side,b,j,(at':Int),r.1,r.2.1,r.2.2.2.2))
include h h' hP
end
end
end Go.Abs.Q
namespace Go.Abs.Q
open Go Go.Abs
section
section
variable (a0:List QSym) (L:List QLit) (T:List (List Int)) (C:List QLit) (a:Int)
variable {a0 L T C a} (h:mayB a0 L T C=true)
include h
end
end
end Go.Abs.Q
namespace Go.Abs.Q
open Go Go.Abs
section
theorem valR_eq {m:Int} {nums:List Int} {env:Nat→Int}:(ts:List Tm)→valR m nums env ts=ts.map (valT m nums env)
 | []=>rfl
 | t::ts=>by rw[valR,valR_eq ts]; rfl
theorem RT.val {m:Int} {nums:List Int} {env:Nat→Int} {t u a b:Tm} (h:RT t u a b) (hv:valT m nums env t=valT m nums env u):valT m nums env a=valT m nums env b:=by
 induction h with
 | here=>exact hv
 | arg c l r h ih=>simp only[valT,valR_eq,List.map_append,List.map_cons,ih]
section
variable {m:Nat} (hm:0<m) (hm3:m≤3) {nums:List Int} (hn:NumsOk nums) {a0:List QSym} (hs:SignOk a0)
include hm hm3 hn hs
end
end
end Go.Abs.Q
namespace Go.Abs.Q
open Go Go.Abs
section
end
end Go.Abs.Q
namespace Go.Abs.Q
open Go Go.Abs
section
end
end Go.Abs.Q
namespace Go.Abs.Q
open Go Go.Abs
def law23_words:Option (List QSym) :=
 some ([(([61]:Str),0,2,1),(([97]:Str),1,0,1),(([98]:Str),1,0,2),(([102]:Str),1,1,1),(([103]:Str),1,2,3),(([112]:Str),0,1,1),(([114]:Str),0,2,2)]:List QSym)
def slices_Clone_2 (a0:(Option (List QSym))):Option (List QSym) :=
 cond (Option.isNone a0)
 (some ([]:(List QSym)))
 (cond (room (List.length ([]:List QSym)+List.length (Option.getD a0 [])) 40)
  (some (([]:List QSym)++(Option.getD a0 [])))
  (none))
def slices_Clone_3:Option (List QSym) :=
 some ([]:(List QSym))
def slices_Clone_2N (a0:(List QSym)):Option (List QSym):=slices_Clone_2 (some a0)
def cnf_free_1_L0 (rf:(((List (Int×Int×(List Int)))×(List Bool)×(List Int))→Option ((List (Int×Int×(List Int)))×(List Int)))) (rec:((List (Int×Int×(List Int)))×(List Int)×Int×Int×(List Int)×(List Bool))→Option (List Int)) (x:((List (Int×Int×(List Int)))×(List Int)×Int×Int×(List Int)×(List Bool))):Option (List Int) :=
 cond (decide (x.2.2.2.1<x.2.2.1))
 ((gx x.2.1 x.2.2.2.1).bind fun e14 =>
  (slices_BinarySearch x.2.2.2.2.1 e14).bind fun r15 =>
  cond (!r15.2)
  ((inR e14 24).bind fun k16 =>
   (x.2.2.2.2.2[k16]?).bind fun x17 =>
   cond (!x17)
   ((slices_Insert r15.1 x.2.2.2.2.1 ([e14]:List Int)).bind fun r18 =>
    rec (x.1,x.2.1,x.2.2.1,(IntKind.wrap .i64 (x.2.2.2.1+1)),r18,x.2.2.2.2.2))
   (rec (x.1,x.2.1,x.2.2.1,(IntKind.wrap .i64 (x.2.2.2.1+1)),x.2.2.2.2.1,x.2.2.2.2.2)))
  (rec (x.1,x.2.1,x.2.2.1,(IntKind.wrap .i64 (x.2.2.2.1+1)),x.2.2.2.2.1,x.2.2.2.2.2)))
 (some x.2.2.2.2.1)
def cnf_free_1_S (rf:(((List (Int×Int×(List Int)))×(List Bool)×(List Int))→Option ((List (Int×Int×(List Int)))×(List Int)))) (a0:(List (Int×Int×(List Int)))) (a1:(List Bool)) (a2:(List Int)):Option ((List (Int×Int×(List Int)))×(List Int)) :=
 (gx a0 0).bind fun e32 =>
 (slc2 a0 (some 1) none).bind fun y33 =>
 cond (e32.1==0)
 ((term_Seen_1 e32.2.2 ([]:(List Int))).bind fun r34 =>
  ((lp (cnf_free_1_L0 rf) fuel) (y33,r34,((List.length r34:Nat):Int),0,a2,a1)).bind fun r35 =>
  some (y33,r35))
 (cond (e32.1==5)
  (cond (e32.1==5)
   ((inR e32.2.1 24).bind fun k36 =>
    (a1[k36]?).bind fun x37 =>
    cond (Nat.beq (List.length (List.set a1 k36 true)) 24)
    ((rf (y33,(List.set a1 k36 true),a2)).bind fun r38 =>
     some (r38.1,r38.2))
    (none))
   (cond (e32.1==1)
    (cond (Nat.beq (List.length a1) 24)
     ((rf (y33,a1,a2)).bind fun r39 =>
      some (r39.1,r39.2))
     (none))
    (cond (Nat.beq (List.length a1) 24)
     ((rf (y33,a1,a2)).bind fun r40 =>
      cond (Nat.beq (List.length a1) 24)
      ((rf (r40.1,a1,r40.2)).bind fun r41 =>
       some (r41.1,r41.2))
      (none))
     (none))))
  (cond (e32.1==6)
   ((inR e32.2.1 24).bind fun k42 =>
    (a1[k42]?).bind fun x43 =>
    cond (Nat.beq (List.length (List.set a1 k42 true)) 24)
    ((rf (y33,(List.set a1 k42 true),a2)).bind fun r44 =>
     some (r44.1,r44.2))
    (none))
   (cond (e32.1==1)
    (cond (Nat.beq (List.length a1) 24)
     ((rf (y33,a1,a2)).bind fun r45 =>
      some (r45.1,r45.2))
     (none))
    (cond (Nat.beq (List.length a1) 24)
     ((rf (y33,a1,a2)).bind fun r46 =>
      cond (Nat.beq (List.length a1) 24)
      ((rf (r46.1,a1,r46.2)).bind fun r47 =>
       some (r47.1,r47.2))
      (none))
     (none)))))
def cnf_free_1_R_step (rf:(((List (Int×Int×(List Int)))×(List Bool)×(List Int))→Option ((List (Int×Int×(List Int)))×(List Int)))):(((List (Int×Int×(List Int)))×(List Bool)×(List Int))→Option ((List (Int×Int×(List Int)))×(List Int))) :=
 fun (x:((List (Int×Int×(List Int)))×(List Bool)×(List Int)))=>cnf_free_1_S rf x.1 x.2.1 x.2.2
def cnf_free_1_R_base:(((List (Int×Int×(List Int)))×(List Bool)×(List Int))→Option ((List (Int×Int×(List Int)))×(List Int))):=fun _=>none
def cnf_free_1_R (k:Nat):(((List (Int×Int×(List Int)))×(List Bool)×(List Int))→Option ((List (Int×Int×(List Int)))×(List Int))):=lpR cnf_free_1_R_base cnf_free_1_R_step k
def cnf_free_1 (a0:(List (Int×Int×(List Int)))) (a1:(List Bool)) (a2:(List Int)):Option ((List (Int×Int×(List Int)))×(List Int)):=(cnf_free_1_R fuel) (a0,a1,a2)
def cnf_scope_with (a0:(List (List Int))) (a1:(List Int)) (a2:Int) (a3:(List Int)):Option ((List (List Int))×(List Int)) :=
 (inR a2 24).bind fun k3 =>
 (a0[k3]?).bind fun x4 =>
 some ((List.set a0 k3 a3),a1)
def cnf_maker_universal (a0:Int) (a1:(List (List Int))) (a2:(List Int)) (a3:(List (Int×Int×(List Int)))) (a4:Int) (a5:(List QSym)):Option ((List (List Int))×(List Int)×Int×(List (Int×Int×(List Int)))×Int×(List QSym)) :=
 cond (decide (a4>23))
 (some (a1,a2,2303,a3,a4,a5))
 ((term_Number a4).bind fun r4 =>
  (slices_CloneN a2).bind fun r5 =>
  cond (room (List.length r5+List.length ([r4]:List Int)) 8)
  ((cnf_scope_with a1 (r5++([r4]:List Int)) a0 ([r4]:List Int)).bind fun r6 =>
   some (r6.1,r6.2,0,a3,(IntKind.wrap .i64 (a4+1)),a5))
  (none))
def cnf_maker_atom_L0 (rec:(Bool×(List Int)×Int×Int×(List (List Int))×(List Int)×(List Int))→Option (List Int)) (x:(Bool×(List Int)×Int×Int×(List (List Int))×(List Int)×(List Int))):Option (List Int) :=
 cond (decide (x.2.2.2.1<x.2.2.1))
 ((gx x.2.1 x.2.2.2.1).bind fun e7 =>
  cond (decide (e7≥0))
  (cond (room (List.length x.2.2.2.2.2.2+List.length ([e7]:List Int)) 8)
   (rec (x.1,x.2.1,x.2.2.1,(IntKind.wrap .i64 (x.2.2.2.1+1)),x.2.2.2.2.1,x.2.2.2.2.2.1,(x.2.2.2.2.2.2++([e7]:List Int))))
   (none))
  ((term_Number e7).bind fun r8 =>
   (inR r8 24).bind fun k9 =>
   (x.2.2.2.2.1[k9]?).bind fun x10 =>
   cond (room (List.length x.2.2.2.2.2.2+List.length x10) 8)
   (rec (x.1,x.2.1,x.2.2.1,(IntKind.wrap .i64 (x.2.2.2.1+1)),x.2.2.2.2.1,x.2.2.2.2.2.1,(x.2.2.2.2.2.2++x10)))
   (none)))
 (some x.2.2.2.2.2.2)
def cnf_maker_atom (a0:(List Int)) (a1:Bool) (a2:(List (List Int))) (a3:(List Int)) (a4:(List (Int×Int×(List Int)))) (a5:Int) (a6:(List QSym)):Option (Int×(List ((List QLit)×(List (List Int))×(List QLit)))×(List (Int×Int×(List Int)))×Int×(List QSym)) :=
 (gx a0 0).bind fun e12 =>
 (slc2 a0 (some 1) none).bind fun y13 =>
 ((lp cnf_maker_atom_L0 fuel) (a1,y13,((List.length y13:Nat):Int),0,a2,a3,([e12]:List Int))).bind fun r14 =>
 cond (decide (((List.length r14:Nat):Int)>49))
 (some (2303,([]:(List ((List QLit)×(List (List Int))×(List QLit)))),a4,a5,a6))
 (some (0,([(([(a1,r14)]:List QLit),([]:(List (List Int))),([]:(List QLit)))]:List ((List QLit)×(List (List Int))×(List QLit))),a4,a5,a6))
def cnf_maker_either_L0 (rec:((List ((List QLit)×(List (List Int))×(List QLit)))×(List ((List QLit)×(List (List Int))×(List QLit)))×Int×Int×(List ((List QLit)×(List (List Int))×(List QLit)))×Int×Int×(List (Int×Int×(List Int)))×Int×(List ((List QLit)×(List (List Int))×(List QLit)))×(List QLit)×(List (List Int))×(List QLit)×(List QSym))→Option (((List (Int×Int×(List Int)))×Int×(List ((List QLit)×(List (List Int))×(List QLit)))×(List QSym))⊕(Int×(List (Int×Int×(List Int)))×Int×(List QSym)))) (x:((List ((List QLit)×(List (List Int))×(List QLit)))×(List ((List QLit)×(List (List Int))×(List QLit)))×Int×Int×(List ((List QLit)×(List (List Int))×(List QLit)))×Int×Int×(List (Int×Int×(List Int)))×Int×(List ((List QLit)×(List (List Int))×(List QLit)))×(List QLit)×(List (List Int))×(List QLit)×(List QSym))):Option (((List (Int×Int×(List Int)))×Int×(List ((List QLit)×(List (List Int))×(List QLit)))×(List QSym))⊕(Int×(List (Int×Int×(List Int)))×Int×(List QSym))) :=
 cond (decide (x.2.2.2.2.2.2.1<x.2.2.2.2.2.1))
 ((gx x.2.2.2.2.1 x.2.2.2.2.2.2.1).bind fun e8 =>
  (slices_Concat_1 ([x.2.2.2.2.2.2.2.2.2.2.1,e8.1]:List (List QLit))).bind fun r9 =>
  (clause_May x.2.2.2.2.2.2.2.2.2.2.2.2.2 r9 ([]:(List (List Int))) ([]:(List QLit))).bind fun r10 =>
  cond (!r10)
  (some (Sum.inr (2303,x.2.2.2.2.2.2.2.1,x.2.2.2.2.2.2.2.2.1,x.2.2.2.2.2.2.2.2.2.2.2.2.2)))
  (cond (((List.length x.2.2.2.2.2.2.2.2.2.1:Nat):Int)==16)
   (some (Sum.inr (2303,x.2.2.2.2.2.2.2.1,x.2.2.2.2.2.2.2.2.1,x.2.2.2.2.2.2.2.2.2.2.2.2.2)))
   (cond (room (List.length x.2.2.2.2.2.2.2.2.2.1+List.length ([(r9,([]:(List (List Int))),([]:(List QLit)))]:List ((List QLit)×(List (List Int))×(List QLit)))) 72)
    (rec (x.1,x.2.1,x.2.2.1,x.2.2.2.1,x.2.2.2.2.1,x.2.2.2.2.2.1,(IntKind.wrap .i64 (x.2.2.2.2.2.2.1+1)),x.2.2.2.2.2.2.2.1,x.2.2.2.2.2.2.2.2.1,(x.2.2.2.2.2.2.2.2.2.1++([(r9,([]:(List (List Int))),([]:(List QLit)))]:List ((List QLit)×(List (List Int))×(List QLit)))),x.2.2.2.2.2.2.2.2.2.2.1,x.2.2.2.2.2.2.2.2.2.2.2.1,x.2.2.2.2.2.2.2.2.2.2.2.2.1,x.2.2.2.2.2.2.2.2.2.2.2.2.2))
    (none))))
 (some (Sum.inl (x.2.2.2.2.2.2.2.1,x.2.2.2.2.2.2.2.2.1,x.2.2.2.2.2.2.2.2.2.1,x.2.2.2.2.2.2.2.2.2.2.2.2.2)))
def cnf_maker_either_L1 (rec:((List ((List QLit)×(List (List Int))×(List QLit)))×(List ((List QLit)×(List (List Int))×(List QLit)))×Int×Int×(List (Int×Int×(List Int)))×Int×(List ((List QLit)×(List (List Int))×(List QLit)))×(List QSym))→Option (((List (Int×Int×(List Int)))×Int×(List ((List QLit)×(List (List Int))×(List QLit)))×(List QSym))⊕(Int×(List (Int×Int×(List Int)))×Int×(List QSym)))) (x:((List ((List QLit)×(List (List Int))×(List QLit)))×(List ((List QLit)×(List (List Int))×(List QLit)))×Int×Int×(List (Int×Int×(List Int)))×Int×(List ((List QLit)×(List (List Int))×(List QLit)))×(List QSym))):Option (((List (Int×Int×(List Int)))×Int×(List ((List QLit)×(List (List Int))×(List QLit)))×(List QSym))⊕(Int×(List (Int×Int×(List Int)))×Int×(List QSym))) :=
 cond (decide (x.2.2.2.1<x.2.2.1))
 ((gx x.2.1 x.2.2.2.1).bind fun e17 =>
  ((lp cnf_maker_either_L0 fuel) (x.1,x.2.1,x.2.2.1,x.2.2.2.1,x.1,((List.length x.1:Nat):Int),0,x.2.2.2.2.1,x.2.2.2.2.2.1,x.2.2.2.2.2.2.1,e17.1,e17.2.1,e17.2.2,x.2.2.2.2.2.2.2)).bind fun r18 =>
  caseS r18
  (fun z19=>rec (x.1,x.2.1,x.2.2.1,(IntKind.wrap .i64 (x.2.2.2.1+1)),z19.1,z19.2.1,z19.2.2.1,z19.2.2.2))
  (fun z20=>some (Sum.inr (z20.1,z20.2.1,z20.2.2.1,z20.2.2.2))))
 (some (Sum.inl (x.2.2.2.2.1,x.2.2.2.2.2.1,x.2.2.2.2.2.2.1,x.2.2.2.2.2.2.2)))
def cnf_maker_either (a0:(List ((List QLit)×(List (List Int))×(List QLit)))) (a1:(List ((List QLit)×(List (List Int))×(List QLit)))) (a2:(List (Int×Int×(List Int)))) (a3:Int) (a4:(List QSym)):Option (Int×(List ((List QLit)×(List (List Int))×(List QLit)))×(List (Int×Int×(List Int)))×Int×(List QSym)) :=
 ((lp cnf_maker_either_L1 fuel) (a1,a0,((List.length a0:Nat):Int),0,a2,a3,([]:(List ((List QLit)×(List (List Int))×(List QLit)))),a4)).bind fun r24 =>
 caseS r24
 (fun z25=>some (0,z25.2.2.1,z25.1,z25.2.1,z25.2.2.2))
 (fun z26=>some (z26.1,([]:(List ((List QLit)×(List (List Int))×(List QLit)))),z26.2.1,z26.2.2.1,z26.2.2.2))
def slices_Grow_3 (a0:Int):Option (List ((List QLit)×(List (List Int))×(List QLit))) :=
 cond (decide (a0<0))
 (none)
 (cond (decide ((IntKind.wrap .i64 (a0 - 0))>0))
  (cond (eqI 0 0&&eqI 0 0)
   (cond (posI (IntKind.wrap .i64 (a0 - 0)))
    (cond (room (Int.toNat (IntKind.wrap .i64 (a0 - 0))) 72)
     ((slc2 (List.replicate (Int.toNat (IntKind.wrap .i64 (a0 - 0))) (([]:(List QLit)),([]:(List (List Int))),([]:(List QLit)))) none (some 0)).bind fun y2 =>
      some y2)
     (none))
    (none))
   (none))
  (some ([]:(List ((List QLit)×(List (List Int))×(List QLit))))))
def slices_Concat_3_L1 (rec:((List (List ((List QLit)×(List (List Int))×(List QLit))))×Int×Int×(List ((List QLit)×(List (List Int))×(List QLit))))→Option (List ((List QLit)×(List (List Int))×(List QLit)))) (x:((List (List ((List QLit)×(List (List Int))×(List QLit))))×Int×Int×(List ((List QLit)×(List (List Int))×(List QLit))))):Option (List ((List QLit)×(List (List Int))×(List QLit))) :=
 cond (decide (x.2.2.1<x.2.1))
 ((gx x.1 x.2.2.1).bind fun e7 =>
  cond (room (List.length x.2.2.2+List.length e7) 72)
  (rec (x.1,x.2.1,(IntKind.wrap .i64 (x.2.2.1+1)),(x.2.2.2++e7)))
  (none))
 (some x.2.2.2)
def slices_Concat_3_L0 (rec:((List (List ((List QLit)×(List (List Int))×(List QLit))))×Int×(List (List ((List QLit)×(List (List Int))×(List QLit))))×Int×Int)→Option Int) (x:((List (List ((List QLit)×(List (List Int))×(List QLit))))×Int×(List (List ((List QLit)×(List (List Int))×(List QLit))))×Int×Int)):Option Int :=
 cond (decide (x.2.2.2.2<x.2.2.2.1))
 ((gx x.2.2.1 x.2.2.2.2).bind fun e2 =>
  cond (decide ((IntKind.wrap .i64 (x.2.1+((List.length e2:Nat):Int)))<0))
  (none)
  (rec (x.1,(IntKind.wrap .i64 (x.2.1+((List.length e2:Nat):Int))),x.2.2.1,x.2.2.2.1,(IntKind.wrap .i64 (x.2.2.2.2+1)))))
 (some x.2.1)
def slices_Concat_3 (a0:(List (List ((List QLit)×(List (List Int))×(List QLit))))):Option (List ((List QLit)×(List (List Int))×(List QLit))) :=
 ((lp slices_Concat_3_L0 fuel) (a0,0,a0,((List.length a0:Nat):Int),0)).bind fun r9 =>
 (slices_Grow_3 r9).bind fun r10 =>
 ((lp slices_Concat_3_L1 fuel) (a0,((List.length a0:Nat):Int),0,r10)).bind fun r11 =>
 some r11
def cnf_maker_name_L0 (rec:(Int×(List QSym)×(List (Int×Int×(List Int)))×Int)→Option Str) (x:(Int×(List QSym)×(List (Int×Int×(List Int)))×Int)):Option Str :=
 (strconv_Itoa x.1).bind fun r3 =>
 cond (decide ((List.length ([115,107]:Str)+List.length r3:Nat)<4611686018427387904))
 ((sign_Find x.2.1 (([115,107]:Str)++r3)).bind fun r4 =>
  cond (decide (r4.1<0))
  (some (([115,107]:Str)++r3))
  (rec ((IntKind.wrap .i64 (x.1+1)),x.2.1,x.2.2.1,x.2.2.2)))
 (none)
def cnf_maker_name (a0:(List QSym)) (a1:(List (Int×Int×(List Int)))) (a2:Int):Option Str :=
 ((lp cnf_maker_name_L0 fuel) (1,a0,a1,a2)).bind fun r6 =>
 some r6
def cnf_maker_skolem (a0:Int) (a1:(List (List Int))) (a2:(List Int)) (a3:(List (Int×Int×(List Int)))) (a4:Int) (a5:(List QSym)):Option ((List (List Int))×(List Int)×Int×(List (Int×Int×(List Int)))×Int×(List QSym)) :=
 cond (decide (((List.length a2:Nat):Int)>3))
 (some (a1,a2,2301,a3,a4,a5))
 (cond (((List.length a5:Nat):Int)==20)
  (some (a1,a2,2302,a3,a4,a5))
  (cond (room (List.length ([((List.length a5:Nat):Int)]:List Int)+List.length a2) 8)
   ((cnf_maker_name a5 a3 a4).bind fun r3 =>
    cond (room (List.length a5+List.length ([(r3,2,((List.length a2:Nat):Int),1)]:List QSym)) 40)
    ((cnf_scope_with a1 a2 a0 (([((List.length a5:Nat):Int)]:List Int)++a2)).bind fun r4 =>
     some (r4.1,r4.2,0,a3,a4,(a5++([(r3,2,((List.length a2:Nat):Int),1)]:List QSym))))
    (none))
   (none)))
def cnf_maker_two_S (rf:(((Int×Bool×(List (List Int))×(List Int)×(List (Int×Int×(List Int)))×Int×(List QSym))→Option (Int×(List ((List QLit)×(List (List Int))×(List QLit)))×(List (Int×Int×(List Int)))×Int×(List QSym)))×((Bool×(List (List Int))×(List Int)×(List (Int×Int×(List Int)))×Int×(List QSym))→Option (Int×(List ((List QLit)×(List (List Int))×(List QLit)))×(List (Int×Int×(List Int)))×Int×(List QSym))))) (a0:Int) (a1:Bool) (a2:(List (List Int))) (a3:(List Int)) (a4:(List (Int×Int×(List Int)))) (a5:Int) (a6:(List QSym)):Option (Int×(List ((List QLit)×(List (List Int))×(List QLit)))×(List (Int×Int×(List Int)))×Int×(List QSym)) :=
 (rf.2 ((!(a1==(a0==4))),a2,a3,a4,a5,a6)).bind fun r5 =>
 cond (r5.1 != 0)
 (some (r5.1,([]:(List ((List QLit)×(List (List Int))×(List QLit)))),r5.2.2.1,r5.2.2.2.1,r5.2.2.2.2))
 ((rf.2 (a1,a2,a3,r5.2.2.1,r5.2.2.2.1,r5.2.2.2.2)).bind fun r6 =>
  cond (r6.1 != 0)
  (some (r6.1,([]:(List ((List QLit)×(List (List Int))×(List QLit)))),r6.2.2.1,r6.2.2.2.1,r6.2.2.2.2))
  (cond (a1==(a0==2))
   ((cnf_maker_either r5.2.1 r6.2.1 r6.2.2.1 r6.2.2.2.1 r6.2.2.2.2).bind fun r7 =>
    some (r7.1,r7.2.1,r7.2.2.1,r7.2.2.2.1,r7.2.2.2.2))
   (cond (decide ((IntKind.wrap .i64 (((List.length r5.2.1:Nat):Int)+((List.length r6.2.1:Nat):Int)))>16))
    (some (2303,([]:(List ((List QLit)×(List (List Int))×(List QLit)))),r6.2.2.1,r6.2.2.2.1,r6.2.2.2.2))
    ((slices_Concat_3 ([r5.2.1,r6.2.1]:List (List ((List QLit)×(List (List Int))×(List QLit))))).bind fun r8 =>
     some (0,r8,r6.2.2.1,r6.2.2.2.1,r6.2.2.2.2)))))
def cnf_maker_part_S (rf:(((Int×Bool×(List (List Int))×(List Int)×(List (Int×Int×(List Int)))×Int×(List QSym))→Option (Int×(List ((List QLit)×(List (List Int))×(List QLit)))×(List (Int×Int×(List Int)))×Int×(List QSym)))×((Bool×(List (List Int))×(List Int)×(List (Int×Int×(List Int)))×Int×(List QSym))→Option (Int×(List ((List QLit)×(List (List Int))×(List QLit)))×(List (Int×Int×(List Int)))×Int×(List QSym))))) (a0:Bool) (a1:(List (List Int))) (a2:(List Int)) (a3:(List (Int×Int×(List Int)))) (a4:Int) (a5:(List QSym)):Option (Int×(List ((List QLit)×(List (List Int))×(List QLit)))×(List (Int×Int×(List Int)))×Int×(List QSym)) :=
 (gx a3 0).bind fun e20 =>
 (slc2 a3 (some 1) none).bind fun y21 =>
 cond (e20.1==0)
 ((cnf_maker_atom e20.2.2 a0 a1 a2 y21 a4 a5).bind fun r22 =>
  some (r22.1,r22.2.1,r22.2.2.1,r22.2.2.2.1,r22.2.2.2.2))
 (cond (e20.1==1)
  ((rf.2 ((!a0),a1,a2,y21,a4,a5)).bind fun r23 =>
   some (r23.1,r23.2.1,r23.2.2.1,r23.2.2.2.1,r23.2.2.2.2))
  (cond (e20.1==2)
   (cond (e20.1==2)
    ((rf.1 (e20.1,a0,a1,a2,y21,a4,a5)).bind fun r24 =>
     some (r24.1,r24.2.1,r24.2.2.1,r24.2.2.2.1,r24.2.2.2.2))
    (cond (a0==(e20.1==6))
     ((cnf_maker_universal e20.2.1 a1 a2 y21 a4 a5).bind fun r25 =>
      cond (r25.2.2.1 != 0)
      (some (r25.2.2.1,([]:(List ((List QLit)×(List (List Int))×(List QLit)))),r25.2.2.2.1,r25.2.2.2.2.1,r25.2.2.2.2.2))
      ((rf.2 (a0,r25.1,r25.2.1,r25.2.2.2.1,r25.2.2.2.2.1,r25.2.2.2.2.2)).bind fun r26 =>
       some (r26.1,r26.2.1,r26.2.2.1,r26.2.2.2.1,r26.2.2.2.2)))
     ((cnf_maker_skolem e20.2.1 a1 a2 y21 a4 a5).bind fun r27 =>
      cond (r27.2.2.1 != 0)
      (some (r27.2.2.1,([]:(List ((List QLit)×(List (List Int))×(List QLit)))),r27.2.2.2.1,r27.2.2.2.2.1,r27.2.2.2.2.2))
      ((rf.2 (a0,r27.1,r27.2.1,r27.2.2.2.1,r27.2.2.2.2.1,r27.2.2.2.2.2)).bind fun r28 =>
       some (r28.1,r28.2.1,r28.2.2.1,r28.2.2.2.1,r28.2.2.2.2)))))
   (cond (e20.1==3)
    (cond (e20.1==3)
     ((rf.1 (e20.1,a0,a1,a2,y21,a4,a5)).bind fun r29 =>
      some (r29.1,r29.2.1,r29.2.2.1,r29.2.2.2.1,r29.2.2.2.2))
     (cond (a0==(e20.1==6))
      ((cnf_maker_universal e20.2.1 a1 a2 y21 a4 a5).bind fun r30 =>
       cond (r30.2.2.1 != 0)
       (some (r30.2.2.1,([]:(List ((List QLit)×(List (List Int))×(List QLit)))),r30.2.2.2.1,r30.2.2.2.2.1,r30.2.2.2.2.2))
       ((rf.2 (a0,r30.1,r30.2.1,r30.2.2.2.1,r30.2.2.2.2.1,r30.2.2.2.2.2)).bind fun r31 =>
        some (r31.1,r31.2.1,r31.2.2.1,r31.2.2.2.1,r31.2.2.2.2)))
      ((cnf_maker_skolem e20.2.1 a1 a2 y21 a4 a5).bind fun r32 =>
       cond (r32.2.2.1 != 0)
       (some (r32.2.2.1,([]:(List ((List QLit)×(List (List Int))×(List QLit)))),r32.2.2.2.1,r32.2.2.2.2.1,r32.2.2.2.2.2))
       ((rf.2 (a0,r32.1,r32.2.1,r32.2.2.2.1,r32.2.2.2.2.1,r32.2.2.2.2.2)).bind fun r33 =>
        some (r33.1,r33.2.1,r33.2.2.1,r33.2.2.2.1,r33.2.2.2.2)))))
    (cond (e20.1==4)
     ((rf.1 (e20.1,a0,a1,a2,y21,a4,a5)).bind fun r34 =>
      some (r34.1,r34.2.1,r34.2.2.1,r34.2.2.2.1,r34.2.2.2.2))
     (cond (a0==(e20.1==6))
      ((cnf_maker_universal e20.2.1 a1 a2 y21 a4 a5).bind fun r35 =>
       cond (r35.2.2.1 != 0)
       (some (r35.2.2.1,([]:(List ((List QLit)×(List (List Int))×(List QLit)))),r35.2.2.2.1,r35.2.2.2.2.1,r35.2.2.2.2.2))
       ((rf.2 (a0,r35.1,r35.2.1,r35.2.2.2.1,r35.2.2.2.2.1,r35.2.2.2.2.2)).bind fun r36 =>
        some (r36.1,r36.2.1,r36.2.2.1,r36.2.2.2.1,r36.2.2.2.2)))
      ((cnf_maker_skolem e20.2.1 a1 a2 y21 a4 a5).bind fun r37 =>
       cond (r37.2.2.1 != 0)
       (some (r37.2.2.1,([]:(List ((List QLit)×(List (List Int))×(List QLit)))),r37.2.2.2.1,r37.2.2.2.2.1,r37.2.2.2.2.2))
       ((rf.2 (a0,r37.1,r37.2.1,r37.2.2.2.1,r37.2.2.2.2.1,r37.2.2.2.2.2)).bind fun r38 =>
        some (r38.1,r38.2.1,r38.2.2.1,r38.2.2.2.1,r38.2.2.2.2))))))))
def cnf_maker_part_R_step (rf:(((Int×Bool×(List (List Int))×(List Int)×(List (Int×Int×(List Int)))×Int×(List QSym))→Option (Int×(List ((List QLit)×(List (List Int))×(List QLit)))×(List (Int×Int×(List Int)))×Int×(List QSym)))×((Bool×(List (List Int))×(List Int)×(List (Int×Int×(List Int)))×Int×(List QSym))→Option (Int×(List ((List QLit)×(List (List Int))×(List QLit)))×(List (Int×Int×(List Int)))×Int×(List QSym))))):(((Int×Bool×(List (List Int))×(List Int)×(List (Int×Int×(List Int)))×Int×(List QSym))→Option (Int×(List ((List QLit)×(List (List Int))×(List QLit)))×(List (Int×Int×(List Int)))×Int×(List QSym)))×((Bool×(List (List Int))×(List Int)×(List (Int×Int×(List Int)))×Int×(List QSym))→Option (Int×(List ((List QLit)×(List (List Int))×(List QLit)))×(List (Int×Int×(List Int)))×Int×(List QSym)))) :=
 (fun (x:(Int×Bool×(List (List Int))×(List Int)×(List (Int×Int×(List Int)))×Int×(List QSym)))=>cnf_maker_two_S rf x.1 x.2.1 x.2.2.1 x.2.2.2.1 x.2.2.2.2.1 x.2.2.2.2.2.1 x.2.2.2.2.2.2,fun (x:(Bool×(List (List Int))×(List Int)×(List (Int×Int×(List Int)))×Int×(List QSym)))=>cnf_maker_part_S rf x.1 x.2.1 x.2.2.1 x.2.2.2.1 x.2.2.2.2.1 x.2.2.2.2.2)
def cnf_maker_part_R_base:(((Int×Bool×(List (List Int))×(List Int)×(List (Int×Int×(List Int)))×Int×(List QSym))→Option (Int×(List ((List QLit)×(List (List Int))×(List QLit)))×(List (Int×Int×(List Int)))×Int×(List QSym)))×((Bool×(List (List Int))×(List Int)×(List (Int×Int×(List Int)))×Int×(List QSym))→Option (Int×(List ((List QLit)×(List (List Int))×(List QLit)))×(List (Int×Int×(List Int)))×Int×(List QSym)))):=(fun _=>none,fun _=>none)
def cnf_maker_part_R (k:Nat):(((Int×Bool×(List (List Int))×(List Int)×(List (Int×Int×(List Int)))×Int×(List QSym))→Option (Int×(List ((List QLit)×(List (List Int))×(List QLit)))×(List (Int×Int×(List Int)))×Int×(List QSym)))×((Bool×(List (List Int))×(List Int)×(List (Int×Int×(List Int)))×Int×(List QSym))→Option (Int×(List ((List QLit)×(List (List Int))×(List QLit)))×(List (Int×Int×(List Int)))×Int×(List QSym)))):=lpR cnf_maker_part_R_base cnf_maker_part_R_step k
def cnf_maker_two (a0:Int) (a1:Bool) (a2:(List (List Int))) (a3:(List Int)) (a4:(List (Int×Int×(List Int)))) (a5:Int) (a6:(List QSym)):Option (Int×(List ((List QLit)×(List (List Int))×(List QLit)))×(List (Int×Int×(List Int)))×Int×(List QSym)):=(cnf_maker_part_R fuel).1 (a0,a1,a2,a3,a4,a5,a6)
def cnf_maker_part (a0:Bool) (a1:(List (List Int))) (a2:(List Int)) (a3:(List (Int×Int×(List Int)))) (a4:Int) (a5:(List QSym)):Option (Int×(List ((List QLit)×(List (List Int))×(List QLit)))×(List (Int×Int×(List Int)))×Int×(List QSym)):=(cnf_maker_part_R fuel).2 (a0,a1,a2,a3,a4,a5)
def cnf_Clauses_L1 (rec:((List ((List QLit)×(List (List Int))×(List QLit)))×Int×Int×(List QSym)×(List (Int×Int×(List Int)))×Int×(List ((List QLit)×(List (List Int))×(List QLit))))→Option (List ((List QLit)×(List (List Int))×(List QLit)))) (x:((List ((List QLit)×(List (List Int))×(List QLit)))×Int×Int×(List QSym)×(List (Int×Int×(List Int)))×Int×(List ((List QLit)×(List (List Int))×(List QLit))))):Option (List ((List QLit)×(List (List Int))×(List QLit))) :=
 cond (decide (x.2.2.1<x.2.1))
 ((gx x.1 x.2.2.1).bind fun e18 =>
  (clause_Trivial x.2.2.2.1 e18.1 e18.2.1 e18.2.2).bind fun r19 =>
  cond (!r19.1)
  ((clause_Normal x.2.2.2.1 e18.1 e18.2.1 e18.2.2).bind fun r20 =>
   cond (room (List.length x.2.2.2.2.2.2+List.length ([(r20.1,r20.2.1,r20.2.2.2)]:List ((List QLit)×(List (List Int))×(List QLit)))) 72)
   (rec (x.1,x.2.1,(IntKind.wrap .i64 (x.2.2.1+1)),x.2.2.2.1,x.2.2.2.2.1,x.2.2.2.2.2.1,(x.2.2.2.2.2.2++([(r20.1,r20.2.1,r20.2.2.2)]:List ((List QLit)×(List (List Int))×(List QLit))))))
   (none))
  (rec (x.1,x.2.1,(IntKind.wrap .i64 (x.2.2.1+1)),x.2.2.2.1,x.2.2.2.2.1,x.2.2.2.2.2.1,x.2.2.2.2.2.2)))
 (some x.2.2.2.2.2.2)
def cnf_Clauses_L0 (rec:((List Int)×Int×Int×(List (Int×Int×(List Int)))×Int×(List (List Int))×(List Int)×(List QSym))→Option ((List (Int×Int×(List Int)))×Int×(List (List Int))×(List Int)×(List QSym))) (x:((List Int)×Int×Int×(List (Int×Int×(List Int)))×Int×(List (List Int))×(List Int)×(List QSym))):Option ((List (Int×Int×(List Int)))×Int×(List (List Int))×(List Int)×(List QSym)) :=
 cond (decide (x.2.2.1<x.2.1))
 ((gx x.1 x.2.2.1).bind fun e8 =>
  (cnf_maker_universal e8 x.2.2.2.2.2.1 x.2.2.2.2.2.2.1 x.2.2.2.1 x.2.2.2.2.1 x.2.2.2.2.2.2.2).bind fun r9 =>
  rec (x.1,x.2.1,(IntKind.wrap .i64 (x.2.2.1+1)),r9.2.2.2.1,r9.2.2.2.2.1,r9.1,r9.2.1,r9.2.2.2.2.2))
 (some (x.2.2.2.1,x.2.2.2.2.1,x.2.2.2.2.2.1,x.2.2.2.2.2.2.1,x.2.2.2.2.2.2.2))
def cnf_Clauses (a0:(List QSym)) (a1:(List (Int×Int×(List Int)))):Option ((List QSym)×Int×(List ((List QLit)×(List (List Int))×(List QLit)))) :=
 (formula_May a0 a1).bind fun r22 =>
 cond (!r22)
 (some (([]:(List QSym)),2300,([]:(List ((List QLit)×(List (List Int))×(List QLit))))))
 ((slices_Clone_2N a0).bind fun r23 =>
  (cnf_free_1 a1 (List.replicate 24 false:(List Bool)) ([]:(List Int))).bind fun r24 =>
  ((lp cnf_Clauses_L0 fuel) (r24.2,((List.length r24.2:Nat):Int),0,a1,0,(List.replicate 24 ([]:(List Int))),([]:(List Int)),r23)).bind fun r25 =>
  (cnf_maker_part false r25.2.2.1 r25.2.2.2.1 r25.1 r25.2.1 r25.2.2.2.2).bind fun r26 =>
  cond (r26.1 != 0)
  (some (([]:(List QSym)),r26.1,([]:(List ((List QLit)×(List (List Int))×(List QLit))))))
  (((lp cnf_Clauses_L1 fuel) (r26.2.1,((List.length r26.2.1:Nat):Int),0,r26.2.2.2.2,r26.2.2.1,r26.2.2.2.1,([]:(List ((List QLit)×(List (List Int))×(List QLit)))))).bind fun r27 =>
   some (r26.2.2.2.2,0,r27)))
def law0_SameClauses_L0 (rec:((List ((List QLit)×(List (List Int))×(List QLit)))×(List ((List QLit)×(List (List Int))×(List QLit)))×Int)→Option (Unit⊕Bool)) (x:((List ((List QLit)×(List (List Int))×(List QLit)))×(List ((List QLit)×(List (List Int))×(List QLit)))×Int)):Option (Unit⊕Bool) :=
 cond (decide (x.2.2<((List.length x.1:Nat):Int)))
 ((gx x.1 x.2.2).bind fun e4 =>
  (gx x.2.1 x.2.2).bind fun e5 =>
  (law0_SameClause e4.1 e4.2.1 e4.2.2 e5.1 e5.2.1 e5.2.2).bind fun r6 =>
  cond (!r6)
  (some (Sum.inr false))
  (rec (x.1,x.2.1,(IntKind.wrap .i64 (x.2.2+1)))))
 (some (Sum.inl ()))
def law0_SameClauses (a0:(List ((List QLit)×(List (List Int))×(List QLit)))) (a1:(List ((List QLit)×(List (List Int))×(List QLit)))):Option Bool :=
 cond (((List.length a0:Nat):Int) != ((List.length a1:Nat):Int))
 (some false)
 (((lp law0_SameClauses_L0 fuel) (a0,a1,0)).bind fun r10 =>
  caseS r10
  (fun z11=>some true)
  (fun z12=>some z12))
def law23_awake:Option Bool :=
 (law23_words).bind fun r12 =>
 (formula_Parse r12 ([97,108,108,32,88,51,32,40,112,40,88,51,41,32,45,62,32,101,120,32,88,49,32,114,40,88,51,44,32,88,49,41,41]:Str)).bind fun r13 =>
 (law23_words).bind fun r14 =>
 (cnf_Clauses r14 r13.2).bind fun r15 =>
 (law23_words).bind fun r16 =>
 (cnf_Clauses r16 ([]:(List (Int×Int×(List Int))))).bind fun r17 =>
 (law0_Num r13.1).bind fun r18 =>
 cond (r18==0)
 ((law0_Num r15.2.1).bind fun r19 =>
  cond (r19==0)
  (cond (((List.length r15.1:Nat):Int)==8)
   ((gx r15.1 7).bind fun e20 =>
    cond (cond (eqS e20.1 ([115,107,49]:Str)) (cond (eqI e20.2.1 2) (cond (eqI e20.2.2.1 1) (cond (eqI e20.2.2.2 1) true false) false) false) false)
    ((law0_SameClauses r15.2.2 ([(([(true,([5,(-1)]:List Int)),(false,([6,(-1),7,(-1)]:List Int))]:List QLit),([]:(List (List Int))),([]:(List QLit)))]:List ((List QLit)×(List (List Int))×(List QLit)))).bind fun r21 =>
     cond r21
     ((law0_Num r17.2.1).bind fun r22 =>
      some (r22==2300))
     (some false))
    (some false))
   (some false))
  (some false))
 (some false)
def law0_CopyClauses_L0 (rec:((List ((List QLit)×(List (List Int))×(List QLit)))×Int×(List ((List QLit)×(List (List Int))×(List QLit))))→Option (List ((List QLit)×(List (List Int))×(List QLit)))) (x:((List ((List QLit)×(List (List Int))×(List QLit)))×Int×(List ((List QLit)×(List (List Int))×(List QLit))))):Option (List ((List QLit)×(List (List Int))×(List QLit))) :=
 cond (decide (x.2.1<((List.length x.1:Nat):Int)))
 ((gx x.1 x.2.1).bind fun e5 =>
  (law0_CopyClause e5.1 e5.2.1 e5.2.2).bind fun r6 =>
  cond (room (List.length x.2.2+List.length ([(r6.1,r6.2.1,r6.2.2)]:List ((List QLit)×(List (List Int))×(List QLit)))) 72)
  (rec (x.1,(IntKind.wrap .i64 (x.2.1+1)),(x.2.2++([(r6.1,r6.2.1,r6.2.2)]:List ((List QLit)×(List (List Int))×(List QLit))))))
  (none))
 (some x.2.2)
def law0_CopyClauses (a0:(List ((List QLit)×(List (List Int))×(List QLit)))):Option (List ((List QLit)×(List (List Int))×(List QLit))) :=
 ((lp law0_CopyClauses_L0 fuel) (a0,0,([]:(List ((List QLit)×(List (List Int))×(List QLit)))))).bind fun r8 =>
 some r8
def law23_CnfAnds_L0 (rec:((List QSym)×(List (Int×Int×(List Int)))×Int×Int)→Option (Unit⊕Bool)) (x:((List QSym)×(List (Int×Int×(List Int)))×Int×Int)):Option (Unit⊕Bool) :=
 (gx x.2.1 x.2.2.1).bind fun e11 =>
 cond (decide (x.2.2.2<((List.length e11.2.2:Nat):Int)))
 ((gx x.2.1 x.2.2.1).bind fun e12 =>
  (gx e12.2.2 x.2.2.2).bind fun e13 =>
  cond (decide (e13<0))
  (some (Sum.inr true))
  (rec (x.1,x.2.1,x.2.2.1,(IntKind.wrap .i64 (x.2.2.2+1)))))
 (some (Sum.inl ()))
def law23_CnfAnds_L1 (rec:((List QSym)×(List (Int×Int×(List Int)))×Int)→Option (Unit⊕Bool)) (x:((List QSym)×(List (Int×Int×(List Int)))×Int)):Option (Unit⊕Bool) :=
 cond (decide (x.2.2<((List.length x.2.1:Nat):Int)))
 ((gx x.2.1 x.2.2).bind fun e17 =>
  cond (e17.1==5)
  (some (Sum.inr true))
  ((gx x.2.1 x.2.2).bind fun e18 =>
   cond (e18.1==6)
   (some (Sum.inr true))
   (((lp law23_CnfAnds_L0 fuel) (x.1,x.2.1,x.2.2,0)).bind fun r19 =>
    caseS r19
    (fun z20=>rec (x.1,x.2.1,(IntKind.wrap .i64 (x.2.2+1))))
    (fun z21=>some (Sum.inr z21)))))
 (some (Sum.inl ()))
def law23_CnfAnds (a0:(List QSym)) (a1:(List (Int×Int×(List Int)))) (a2:(List (Int×Int×(List Int)))):Option Bool :=
 (law23_awake).bind fun r30 =>
 cond (!r30)
 (some false)
 ((cnf_Clauses a0 a1).bind fun r31 =>
  (cnf_Clauses a0 a2).bind fun r32 =>
  (law0_Num r31.2.1).bind fun r33 =>
  cond (r33 != 0)
  (some true)
  ((law0_Num r32.2.1).bind fun r34 =>
   cond (r34 != 0)
   (some true)
   (cond (decide ((IntKind.wrap .i64 (((List.length a1:Nat):Int)+((List.length a2:Nat):Int)))≥40))
    (some true)
    (cond (room (List.length ([(2,0,([]:(List Int)))]:List (Int×Int×(List Int)))+List.length a1) 40)
     (cond (room (List.length (([(2,0,([]:(List Int)))]:List (Int×Int×(List Int)))++a1)+List.length a2) 40)
      (((lp law23_CnfAnds_L1 fuel) (a0,((([(2,0,([]:(List Int)))]:List (Int×Int×(List Int)))++a1)++a2),0)).bind fun r35 =>
       caseS r35
       (fun z36=>(cnf_Clauses a0 ((([(2,0,([]:(List Int)))]:List (Int×Int×(List Int)))++a1)++a2)).bind fun r37 =>
        (law0_Num r37.2.1).bind fun r38 =>
        cond (r38==2303)
        (some (((List.length r37.2.2:Nat):Int)==0))
        ((law0_Num r37.2.1).bind fun r39 =>
         cond (r39==0)
         (cond (((List.length r37.1:Nat):Int)==((List.length a0:Nat):Int))
          ((law0_CopyClauses r31.2.2).bind fun r40 =>
           cond (room (List.length r40+List.length r32.2.2) 72)
           ((law0_SameClauses r37.2.2 (r40++r32.2.2)).bind fun r41 =>
            some r41)
           (none))
          (some false))
         (some false)))
       (fun z42=>some z42))
      (none))
     (none)))))
end Go.Abs.Q
namespace Go.Abs.Q
open Go Go.Abs
def cnf_free_1_L0_go (rf:(((List (Int×Int×(List Int)))×(List Bool)×(List Int))→Option ((List (Int×Int×(List Int)))×(List Int)))) (s5:(List Bool)):List Int→(List Int)→Option (List Int)
 | [],s4=>some s4
 | e::es,s4 =>
  (slices_BinarySearch s4 e).bind fun r15 =>
  cond (!r15.2)
  ((inR e 24).bind fun k16 =>
   (s5[k16]?).bind fun x17 =>
   cond (!x17)
   ((slices_Insert r15.1 s4 ([e]:List Int)).bind fun r18 =>
    cnf_free_1_L0_go rf s5 es r18)
   (cnf_free_1_L0_go rf s5 es s4))
  (cnf_free_1_L0_go rf s5 es s4)
theorem cnf_free_1_L0_go_at0 (rf:(((List (Int×Int×(List Int)))×(List Bool)×(List Int))→Option ((List (Int×Int×(List Int)))×(List Int)))) (s0:(List (Int×Int×(List Int)))) (s1:(List Int)) (s5:(List Bool)) (s4:(List Int)) (hl:List.length s1≤maxLen):lp (cnf_free_1_L0 rf) fuel (s0,s1,((List.length s1:Nat):Int),0,s4,s5)=cnf_free_1_L0_go rf s5 s1 s4:=rngl1 (cnf_free_1_L0 rf) (fun i s4=>(s0,s1,((List.length s1:Nat):Int),i,s4,s5)) (fun es i s4=>cnf_free_1_L0_go rf s5 es s4) hl (fun r i s4 h=>by unfold cnf_free_1_L0 cnf_free_1_L0_go; simp only[h,cond_false]) (fun r i s4 e es h g w k=>by unfold cnf_free_1_L0 cnf_free_1_L0_go; simp only[h,cond_true,g,Option.bind_some,w,k]) s4
def cnf_maker_atom_L0_go (s4:(List (List Int))):List Int→(List Int)→Option (List Int)
 | [],s6=>some s6
 | e::es,s6 =>
  cond (decide (e≥0))
  (cond (room (List.length s6+List.length ([e]:List Int)) 8)
   (cnf_maker_atom_L0_go s4 es (s6++([e]:List Int)))
   (none))
  ((term_Number e).bind fun r8 =>
   (inR r8 24).bind fun k9 =>
   (s4[k9]?).bind fun x10 =>
   cond (room (List.length s6+List.length x10) 8)
   (cnf_maker_atom_L0_go s4 es (s6++x10))
   (none))
theorem cnf_maker_atom_L0_go_at0 (s0:Bool) (s1:(List Int)) (s4:(List (List Int))) (s5:(List Int)) (s6:(List Int)) (hl:List.length s1≤maxLen):lp cnf_maker_atom_L0 fuel (s0,s1,((List.length s1:Nat):Int),0,s4,s5,s6)=cnf_maker_atom_L0_go s4 s1 s6:=rngl1 cnf_maker_atom_L0 (fun i s6=>(s0,s1,((List.length s1:Nat):Int),i,s4,s5,s6)) (fun es i s6=>cnf_maker_atom_L0_go s4 es s6) hl (fun r i s6 h=>by unfold cnf_maker_atom_L0 cnf_maker_atom_L0_go; simp only[h,cond_false]) (fun r i s6 e es h g w k=>by unfold cnf_maker_atom_L0 cnf_maker_atom_L0_go; simp only[h,cond_true,g,Option.bind_some,w,k]) s6
def cnf_maker_either_L0_go (s7:(List (Int×Int×(List Int)))) (s8:Int) (s10:(List QLit)) (s13:(List QSym)):List ((List QLit)×(List (List Int))×(List QLit))→(List ((List QLit)×(List (List Int))×(List QLit)))→Option (((List (Int×Int×(List Int)))×Int×(List ((List QLit)×(List (List Int))×(List QLit)))×(List QSym))⊕(Int×(List (Int×Int×(List Int)))×Int×(List QSym)))
 | [],s9=>some (Sum.inl (s7,s8,s9,s13))
 | e::es,s9 =>
  (slices_Concat_1 ([s10,e.1]:List (List QLit))).bind fun r9 =>
  (clause_May s13 r9 ([]:(List (List Int))) ([]:(List QLit))).bind fun r10 =>
  cond (!r10)
  (some (Sum.inr (2303,s7,s8,s13)))
  (cond (((List.length s9:Nat):Int)==16)
   (some (Sum.inr (2303,s7,s8,s13)))
   (cond (room (List.length s9+List.length ([(r9,([]:(List (List Int))),([]:(List QLit)))]:List ((List QLit)×(List (List Int))×(List QLit)))) 72)
    (cnf_maker_either_L0_go s7 s8 s10 s13 es (s9++([(r9,([]:(List (List Int))),([]:(List QLit)))]:List ((List QLit)×(List (List Int))×(List QLit)))))
    (none)))
theorem cnf_maker_either_L0_go_at0 (s0:(List ((List QLit)×(List (List Int))×(List QLit)))) (s1:(List ((List QLit)×(List (List Int))×(List QLit)))) (s2:Int) (s3:Int) (s4:(List ((List QLit)×(List (List Int))×(List QLit)))) (s7:(List (Int×Int×(List Int)))) (s8:Int) (s10:(List QLit)) (s11:(List (List Int))) (s12:(List QLit)) (s13:(List QSym)) (s9:(List ((List QLit)×(List (List Int))×(List QLit)))) (hl:List.length s4≤maxLen):lp cnf_maker_either_L0 fuel (s0,s1,s2,s3,s4,((List.length s4:Nat):Int),0,s7,s8,s9,s10,s11,s12,s13)=cnf_maker_either_L0_go s7 s8 s10 s13 s4 s9:=rngl1 cnf_maker_either_L0 (fun i s9=>(s0,s1,s2,s3,s4,((List.length s4:Nat):Int),i,s7,s8,s9,s10,s11,s12,s13)) (fun es i s9=>cnf_maker_either_L0_go s7 s8 s10 s13 es s9) hl (fun r i s9 h=>by unfold cnf_maker_either_L0 cnf_maker_either_L0_go; simp only[h,cond_false]) (fun r i s9 e es h g w k=>by unfold cnf_maker_either_L0 cnf_maker_either_L0_go; simp only[h,cond_true,g,Option.bind_some,w,k]) s9
def cnf_maker_either_L1_go (s0:(List ((List QLit)×(List (List Int))×(List QLit)))) (s1:(List ((List QLit)×(List (List Int))×(List QLit)))):List ((List QLit)×(List (List Int))×(List QLit))→Nat→(List (Int×Int×(List Int)))→Int→(List ((List QLit)×(List (List Int))×(List QLit)))→(List QSym)→Option (((List (Int×Int×(List Int)))×Int×(List ((List QLit)×(List (List Int))×(List QLit)))×(List QSym))⊕(Int×(List (Int×Int×(List Int)))×Int×(List QSym)))
 | [],i,s4,s5,s6,s7=>some (Sum.inl (s4,s5,s6,s7))
 | e::es,i,s4,s5,s6,s7 =>
  ((lp cnf_maker_either_L0 fuel) (s0,s1,((List.length s1:Nat):Int),(i:Int),s0,((List.length s0:Nat):Int),0,s4,s5,s6,e.1,e.2.1,e.2.2,s7)).bind fun r18 =>
  caseS r18
  (fun z19=>cnf_maker_either_L1_go s0 s1 es (i+1) z19.1 z19.2.1 z19.2.2.1 z19.2.2.2)
  (fun z20=>some (Sum.inr (z20.1,z20.2.1,z20.2.2.1,z20.2.2.2)))
theorem cnf_maker_either_L1_go_at0 (s0:(List ((List QLit)×(List (List Int))×(List QLit)))) (s1:(List ((List QLit)×(List (List Int))×(List QLit)))) (s4:(List (Int×Int×(List Int)))) (s5:Int) (s6:(List ((List QLit)×(List (List Int))×(List QLit)))) (s7:(List QSym)) (hl:List.length s1≤maxLen):lp cnf_maker_either_L1 fuel (s0,s1,((List.length s1:Nat):Int),0,s4,s5,s6,s7)=cnf_maker_either_L1_go s0 s1 s1 0 s4 s5 s6 s7:=rngl4 cnf_maker_either_L1 (fun i s4 s5 s6 s7=>(s0,s1,((List.length s1:Nat):Int),i,s4,s5,s6,s7)) (fun es i s4 s5 s6 s7=>cnf_maker_either_L1_go s0 s1 es i s4 s5 s6 s7) hl (fun r i s4 s5 s6 s7 h=>by unfold cnf_maker_either_L1 cnf_maker_either_L1_go; simp only[h,cond_false]) (fun r i s4 s5 s6 s7 e es h g w k=>by unfold cnf_maker_either_L1 cnf_maker_either_L1_go; simp only[h,cond_true,g,Option.bind_some,w,k]) s4 s5 s6 s7
def slices_Concat_3_L1_go:List (List ((List QLit)×(List (List Int))×(List QLit)))→(List ((List QLit)×(List (List Int))×(List QLit)))→Option (List ((List QLit)×(List (List Int))×(List QLit)))
 | [],s3=>some s3
 | e::es,s3 =>
  cond (room (List.length s3+List.length e) 72)
  (slices_Concat_3_L1_go es (s3++e))
  (none)
theorem slices_Concat_3_L1_go_at0 (s0:(List (List ((List QLit)×(List (List Int))×(List QLit))))) (s3:(List ((List QLit)×(List (List Int))×(List QLit)))) (hl:List.length s0≤maxLen):lp slices_Concat_3_L1 fuel (s0,((List.length s0:Nat):Int),0,s3)=slices_Concat_3_L1_go s0 s3:=rngl1 slices_Concat_3_L1 (fun i s3=>(s0,((List.length s0:Nat):Int),i,s3)) (fun es i s3=>slices_Concat_3_L1_go es s3) hl (fun r i s3 h=>by unfold slices_Concat_3_L1 slices_Concat_3_L1_go; simp only[h,cond_false]) (fun r i s3 e es h g w k=>by unfold slices_Concat_3_L1 slices_Concat_3_L1_go; simp only[h,cond_true,g,Option.bind_some,w,k]) s3
def slices_Concat_3_L0_go:List (List ((List QLit)×(List (List Int))×(List QLit)))→Int→Option Int
 | [],s1=>some s1
 | e::es,s1 =>
  cond (decide ((IntKind.wrap .i64 (s1+((List.length e:Nat):Int)))<0))
  (none)
  (slices_Concat_3_L0_go es (IntKind.wrap .i64 (s1+((List.length e:Nat):Int))))
theorem slices_Concat_3_L0_go_at0 (s0:(List (List ((List QLit)×(List (List Int))×(List QLit))))) (s2:(List (List ((List QLit)×(List (List Int))×(List QLit))))) (s1:Int) (hl:List.length s2≤maxLen):lp slices_Concat_3_L0 fuel (s0,s1,s2,((List.length s2:Nat):Int),0)=slices_Concat_3_L0_go s2 s1:=rngl1 slices_Concat_3_L0 (fun i s1=>(s0,s1,s2,((List.length s2:Nat):Int),i)) (fun es i s1=>slices_Concat_3_L0_go es s1) hl (fun r i s1 h=>by unfold slices_Concat_3_L0 slices_Concat_3_L0_go; simp only[h,cond_false]) (fun r i s1 e es h g w k=>by unfold slices_Concat_3_L0 slices_Concat_3_L0_go; simp only[h,cond_true,g,Option.bind_some,w,k]) s1
def cnf_Clauses_L1_go (s3:(List QSym)):List ((List QLit)×(List (List Int))×(List QLit))→(List ((List QLit)×(List (List Int))×(List QLit)))→Option (List ((List QLit)×(List (List Int))×(List QLit)))
 | [],s6=>some s6
 | e::es,s6 =>
  (clause_Trivial s3 e.1 e.2.1 e.2.2).bind fun r19 =>
  cond (!r19.1)
  ((clause_Normal s3 e.1 e.2.1 e.2.2).bind fun r20 =>
   cond (room (List.length s6+List.length ([(r20.1,r20.2.1,r20.2.2.2)]:List ((List QLit)×(List (List Int))×(List QLit)))) 72)
   (cnf_Clauses_L1_go s3 es (s6++([(r20.1,r20.2.1,r20.2.2.2)]:List ((List QLit)×(List (List Int))×(List QLit)))))
   (none))
  (cnf_Clauses_L1_go s3 es s6)
theorem cnf_Clauses_L1_go_at0 (s0:(List ((List QLit)×(List (List Int))×(List QLit)))) (s3:(List QSym)) (s4:(List (Int×Int×(List Int)))) (s5:Int) (s6:(List ((List QLit)×(List (List Int))×(List QLit)))) (hl:List.length s0≤maxLen):lp cnf_Clauses_L1 fuel (s0,((List.length s0:Nat):Int),0,s3,s4,s5,s6)=cnf_Clauses_L1_go s3 s0 s6:=rngl1 cnf_Clauses_L1 (fun i s6=>(s0,((List.length s0:Nat):Int),i,s3,s4,s5,s6)) (fun es i s6=>cnf_Clauses_L1_go s3 es s6) hl (fun r i s6 h=>by unfold cnf_Clauses_L1 cnf_Clauses_L1_go; simp only[h,cond_false]) (fun r i s6 e es h g w k=>by unfold cnf_Clauses_L1 cnf_Clauses_L1_go; simp only[h,cond_true,g,Option.bind_some,w,k]) s6
def cnf_Clauses_L0_go:List Int→(List (Int×Int×(List Int)))→Int→(List (List Int))→(List Int)→(List QSym)→Option ((List (Int×Int×(List Int)))×Int×(List (List Int))×(List Int)×(List QSym))
 | [],s3,s4,s5,s6,s7=>some (s3,s4,s5,s6,s7)
 | e::es,s3,s4,s5,s6,s7 =>
  (cnf_maker_universal e s5 s6 s3 s4 s7).bind fun r9 =>
  cnf_Clauses_L0_go es r9.2.2.2.1 r9.2.2.2.2.1 r9.1 r9.2.1 r9.2.2.2.2.2
theorem cnf_Clauses_L0_go_at0 (s0:(List Int)) (s3:(List (Int×Int×(List Int)))) (s4:Int) (s5:(List (List Int))) (s6:(List Int)) (s7:(List QSym)) (hl:List.length s0≤maxLen):lp cnf_Clauses_L0 fuel (s0,((List.length s0:Nat):Int),0,s3,s4,s5,s6,s7)=cnf_Clauses_L0_go s0 s3 s4 s5 s6 s7:=rngl5 cnf_Clauses_L0 (fun i s3 s4 s5 s6 s7=>(s0,((List.length s0:Nat):Int),i,s3,s4,s5,s6,s7)) (fun es i s3 s4 s5 s6 s7=>cnf_Clauses_L0_go es s3 s4 s5 s6 s7) hl (fun r i s3 s4 s5 s6 s7 h=>by unfold cnf_Clauses_L0 cnf_Clauses_L0_go; simp only[h,cond_false]) (fun r i s3 s4 s5 s6 s7 e es h g w k=>by unfold cnf_Clauses_L0 cnf_Clauses_L0_go; simp only[h,cond_true,g,Option.bind_some,w,k]) s3 s4 s5 s6 s7
def law0_SameClauses_L0_go (s1:(List ((List QLit)×(List (List Int))×(List QLit)))):List ((List QLit)×(List (List Int))×(List QLit))→Nat→Option (Unit⊕Bool)
 | [],i=>some (Sum.inl ())
 | e::es,i =>
  (gx s1 (i:Int)).bind fun e5 =>
  (law0_SameClause e.1 e.2.1 e.2.2 e5.1 e5.2.1 e5.2.2).bind fun r6 =>
  cond (!r6)
  (some (Sum.inr false))
  (law0_SameClauses_L0_go s1 es (i+1))
theorem law0_SameClauses_L0_go_at0 (s0:(List ((List QLit)×(List (List Int))×(List QLit)))) (s1:(List ((List QLit)×(List (List Int))×(List QLit)))) (hl:List.length s0≤maxLen):lp law0_SameClauses_L0 fuel (s0,s1,0)=law0_SameClauses_L0_go s1 s0 0:=rngl0 law0_SameClauses_L0 (fun i=>(s0,s1,i)) (fun es i=>law0_SameClauses_L0_go s1 es i) hl (fun r i h=>by unfold law0_SameClauses_L0 law0_SameClauses_L0_go; simp only[h,cond_false]) (fun r i e es h g w k=>by unfold law0_SameClauses_L0 law0_SameClauses_L0_go; simp only[h,cond_true,g,Option.bind_some,w,k])
def law0_CopyClauses_L0_go:List ((List QLit)×(List (List Int))×(List QLit))→(List ((List QLit)×(List (List Int))×(List QLit)))→Option (List ((List QLit)×(List (List Int))×(List QLit)))
 | [],s2=>some s2
 | e::es,s2 =>
  (law0_CopyClause e.1 e.2.1 e.2.2).bind fun r6 =>
  cond (room (List.length s2+List.length ([(r6.1,r6.2.1,r6.2.2)]:List ((List QLit)×(List (List Int))×(List QLit)))) 72)
  (law0_CopyClauses_L0_go es (s2++([(r6.1,r6.2.1,r6.2.2)]:List ((List QLit)×(List (List Int))×(List QLit)))))
  (none)
theorem law0_CopyClauses_L0_go_at0 (s0:(List ((List QLit)×(List (List Int))×(List QLit)))) (s2:(List ((List QLit)×(List (List Int))×(List QLit)))) (hl:List.length s0≤maxLen):lp law0_CopyClauses_L0 fuel (s0,0,s2)=law0_CopyClauses_L0_go s0 s2:=rngl1 law0_CopyClauses_L0 (fun i s2=>(s0,i,s2)) (fun es i s2=>law0_CopyClauses_L0_go es s2) hl (fun r i s2 h=>by unfold law0_CopyClauses_L0 law0_CopyClauses_L0_go; simp only[h,cond_false]) (fun r i s2 e es h g w k=>by unfold law0_CopyClauses_L0 law0_CopyClauses_L0_go; simp only[h,cond_true,g,Option.bind_some,w,k]) s2
def law23_CnfAnds_L1_go (s0:(List QSym)) (s1:(List (Int×Int×(List Int)))):List (Int×Int×(List Int))→Nat→Option (Unit⊕Bool)
 | [],i=>some (Sum.inl ())
 | e::es,i =>
  cond (e.1==5)
  (some (Sum.inr true))
  (cond (e.1==6)
   (some (Sum.inr true))
   (((lp law23_CnfAnds_L0 fuel) (s0,s1,(i:Int),0)).bind fun r19 =>
    caseS r19
    (fun z20=>law23_CnfAnds_L1_go s0 s1 es (i+1))
    (fun z21=>some (Sum.inr z21))))
theorem law23_CnfAnds_L1_go_at0 (s0:(List QSym)) (s1:(List (Int×Int×(List Int)))) (hl:List.length s1≤maxLen):lp law23_CnfAnds_L1 fuel (s0,s1,0)=law23_CnfAnds_L1_go s0 s1 s1 0:=rngl0 law23_CnfAnds_L1 (fun i=>(s0,s1,i)) (fun es i=>law23_CnfAnds_L1_go s0 s1 es i) hl (fun r i h=>by unfold law23_CnfAnds_L1 law23_CnfAnds_L1_go; simp only[h,cond_false]) (fun r i e es h g w k=>by unfold law23_CnfAnds_L1 law23_CnfAnds_L1_go; simp only[h,cond_true,g,Option.bind_some,w,k])
end Go.Abs.Q
namespace Go.Abs.Q
open Go Go.Abs
section
theorem Rise.ext:{xs ys:List Int}→Rise xs→Rise ys→(∀ x,x∈xs↔x∈ys)→xs=ys
 | [],[],_,_,_=>rfl
 | [],y::ys,_,_,h=>nomatch (h y).2 (List.mem_cons_self ..)
 | x::xs,[],_,_,h=>nomatch (h x).1 (List.mem_cons_self ..)
 | x::xs,y::ys,hx,hy,h=>by
  have hx:=List.pairwise_cons.1 hx
  have hy:=List.pairwise_cons.1 hy
  have e:x=y:=by
   rcases List.mem_cons.1 ((h x).1 (List.mem_cons_self ..)) with h1 | h1
   ·exact h1
   ·rcases List.mem_cons.1 ((h y).2 (List.mem_cons_self ..)) with h2 | h2
    ·exact h2.symm
    ·have:=hx.1 y h2
     have:=hy.1 x h1
     omega
  subst e
  rw[Rise.ext hx.2 hy.2 fun z => ?_]
  constructor
  ·intro hz
   rcases List.mem_cons.1 ((h z).1 (List.mem_cons_of_mem _ hz)) with h1 | h1
   ·have:=hx.1 z hz; omega
   ·exact h1
  ·intro hz
   rcases List.mem_cons.1 ((h z).2 (List.mem_cons_of_mem _ hz)) with h1 | h1
   ·have:=hy.1 z hz; omega
   ·exact h1
theorem Rise.bound {n:Nat}:{xs:List Int}→{a:Int}→Rise xs→(∀ x∈xs,a≤x∧x<a+n)→xs.length≤n
 | [],_,_,_=>Nat.zero_le _
 | x::xs,a,h,hb=>by
  have h:=List.pairwise_cons.1 h
  have h0:=hb x (List.mem_cons_self ..)
  have:xs.length≤n - 1:=Rise.bound (n:=n - 1) (a:=a+1) h.2 fun y hy=>by
   have:=h.1 y hy
   have:=hb y (List.mem_cons_of_mem _ hy)
   omega
  rw[List.length_cons]
  omega
theorem atomB_codes {a0:List QSym} {a:List Int} (h:atomB a0 a=true):∀ c∈a,-24≤c∧c≤1000000:=fun x hx=>by
 have h2:=(atomB_near (signB_ok (atomB_sign h)) h).2 x hx
 obtain⟨c,ts,e,rfl,ho,-⟩:=atom_tree h
 refine ⟨?_,h2.2⟩
 rcases List.mem_cons.1 hx with rfl | hx
 ·omega
 ·rw[codesR_eq] at hx
  obtain⟨t,ht,hx⟩:=List.mem_flatMap.1 hx
  exact (term_codes (okR_iff.1 ho t ht) x hx).1
def freeB:Fm→Int→Bool
 | .atom a,x=>a.any fun c=>decide (c<0)&&(-1 - c==x)
 | .not f,x=>freeB f x
 | .qu _ v f,x=>x != v&&freeB f x
 | .bin _ f g,x=>freeB f x||freeB g x
theorem free_var {a:List Int} {x:Int}:freeB (.atom a) x=true↔VarC a x:=by
 unfold freeB VarC
 rw[List.any_eq_true]
 constructor
 ·rintro⟨c,hc,h⟩
  rw[Bool.and_eq_true,decide_eq_true_eq,beq_iff_eq] at h
  exact ⟨c,hc,h.1,h.2.symm⟩
 ·rintro⟨c,hc,h1,h2⟩
  exact ⟨c,hc,by rw[Bool.and_eq_true,decide_eq_true_eq,beq_iff_eq]; exact ⟨h1,h2.symm⟩⟩
theorem freeB_neg {a0:List QSym} (hs:SignOk a0):(t:Fm)→t.ok a0=true→{x:Int}→x<0→freeB t x=false
 | .atom a,h,x,hx=>by
  rw[Bool.eq_false_iff]
  intro h1
  obtain⟨c,hc,h2,h3⟩:=free_var.1 h1
  omega
 | .not f,h,x,hx=>freeB_neg hs f h hx
 | .qu q v f,h,x,hx=>by
  unfold Fm.ok at h
  rw[Bool.and_eq_true] at h
  rw[freeB,freeB_neg hs f h.2 hx,Bool.and_false]
 | .bin q f g,h,x,hx=>by
  unfold Fm.ok at h
  rw[Bool.and_eq_true,Bool.and_eq_true] at h
  rw[freeB,freeB_neg hs f h.1.2 hx,freeB_neg hs g h.2 hx,Bool.or_false]
def InV (xs:List Int):Prop:=∀ x∈xs,0≤x∧x<24
theorem InV.len {xs:List Int} (h:Rise xs) (hv:InV xs):xs.length≤24:=Rise.bound (a:=0) h fun x hx=>by have:=hv x hx; omega
theorem free_go {rf:((List QNode×List Bool×List Int)→Option (List QNode×List Int))} {bd:List Bool} (hb:bd.length=24):(es vs:List Int)→InV es→Rise vs→InV vs→∃ ws,cnf_free_1_L0_go rf bd es vs=some ws∧Rise ws∧InV ws∧∀ x,x∈ws↔x∈vs∨(x∈es∧bd[x.toNat]? = some false)
 | [],vs,_,h,hv=>⟨vs,rfl,h,hv,fun x=>⟨.inl,fun h=>h.elim (fun h=>h) fun h=>nomatch h.1⟩⟩
 | e::es,vs,he,h,hv=>by
  have he0:=he e (List.mem_cons_self ..)
  have he':InV es:=fun x hx=>he x (List.mem_cons_of_mem _ hx)
  have hl:=hv.len h
  obtain⟨q,b,h1,h2,h3,h4,h5⟩:=bs_spec h (by omega) e
  unfold cnf_free_1_L0_go
  rw[h1,Option.bind_some]
  have skip:(∀ x,x=e→bd[x.toNat]? = some false→x∈vs)→∃ ws,cnf_free_1_L0_go rf bd es vs=some ws∧Rise ws∧InV ws∧∀ x,x∈ws↔x∈vs∨(x∈e::es∧bd[x.toNat]? = some false):=fun hx=>by
   obtain⟨ws,g1,g2,g3,g4⟩:=free_go hb es vs he' h hv
   refine ⟨ws,g1,g2,g3,fun x=>(g4 x).trans ⟨?_,?_⟩⟩
   ·rintro (h6 | ⟨h6,h7⟩)
    ·exact .inl h6
    ·exact .inr ⟨List.mem_cons_of_mem _ h6,h7⟩
   ·rintro (h6 | ⟨h6,h7⟩)
    ·exact .inl h6
    ·rcases List.mem_cons.1 h6 with h6 | h6
     ·exact .inl (hx x h6 h7)
     ·exact .inr ⟨h6,h7⟩
  cases b with
  | true =>
   simp only[Bool.not_true,cond_false]
   exact skip fun x hx _=>by rw[hx]; exact h5.1 rfl
  | false =>
   simp only[Bool.not_false,cond_true]
   have ht:e.toNat<24:=by omega
   have hi:inR e 24=some e.toNat:=by
    have:=inR_nat ht
    rwa [show ((e.toNat:Nat):Int)=e by omega] at this
   rw[hi,Option.bind_some,List.getElem?_eq_getElem (by omega),Option.bind_some]
   cases hbe:bd[e.toNat]'(by omega) with
   | true =>
    simp only[Bool.not_true,cond_false]
    refine skip fun x hx hf => ?_
    rw[hx,List.getElem?_eq_getElem (by omega),hbe] at hf
    cases hf
   | false =>
    simp only[Bool.not_false,cond_true]
    have hn:e∉vs:=fun h=>by have:=h5.2 h; cases this
    have hi:slices_Insert (q:Int) vs [e]=some (insAt vs q [e]):=by
     unfold slices_Insert insF
     rw[room_ok (by simp; omega)]
     have e1:nneg (q:Int)=true:=by simp [nneg]
     have e2:decide ((q:Int)≤(List.length vs:Int))=true:=by simp; omega
     have e3:posI ((List.length [e]:Nat):Int)=true:=by simp [posI]
     rw[e1,e2,e3,Int.toNat_natCast]
     rfl
    rw[hi,Option.bind_some]
    obtain⟨ws,g1,g2,g3,g4⟩:=free_go hb es (insAt vs q [e]) he' (insert_rise h h2 h3 h4 hn) (fun x hx=>by
     rcases mem_insAt.1 hx with hx | hx
     ·exact hv x hx
     ·rw[hx]; exact he0)
    refine ⟨ws,g1,g2,g3,fun x=>(g4 x).trans ?_⟩
    rw[mem_insAt]
    constructor
    ·rintro ((h6 | h6) | ⟨h6,h7⟩)
     ·exact .inl h6
     ·exact .inr ⟨by rw[h6]; exact List.mem_cons_self ..,by rw[h6,List.getElem?_eq_getElem (by omega),hbe]⟩
     ·exact .inr ⟨List.mem_cons_of_mem _ h6,h7⟩
    ·rintro (h6 | ⟨h6,h7⟩)
     ·exact .inl (.inl h6)
     ·rcases List.mem_cons.1 h6 with h6 | h6
      ·exact .inl (.inr h6)
      ·exact .inr ⟨h6,h7⟩
theorem set_false {bd:List Bool} {n i:Nat} (hn:n<bd.length):(bd.set n true)[i]? = some false↔i≠n∧bd[i]? = some false:=by
 rw[List.getElem?_set]
 by_cases h:n=i
 ·subst h
  rw[if_pos rfl,if_pos hn]
  constructor
  ·intro h; cases h
  ·rintro⟨h,-⟩; exact absurd rfl h
 ·rw[if_neg h]
  exact ⟨fun h'=>⟨fun e=>h e.symm,h'⟩,fun h'=>h'.2⟩
theorem free_R {a0:List QSym} (hs:SignOk a0):(t:Fm)→t.ok a0=true→(rest:List QNode)→(k:Nat)→t.flat.length<k→(bd:List Bool)→bd.length=24→(vs:List Int)→Rise vs→InV vs →
  ∃ ws,cnf_free_1_R k (t.flat++rest,bd,vs)=some (rest,ws)∧Rise ws∧InV ws∧∀ x,x∈ws↔x∈vs∨(freeB t x=true∧bd[x.toNat]? = some false)
 | .atom a,h,rest,k,hk,bd,hb,vs,h1,h2=>by
  obtain⟨k,rfl⟩:∃ k',k=k'+1:=⟨k - 1,by omega⟩
  show ∃ ws,cnf_free_1_S (cnf_free_1_R k) ((0,0,a)::rest) bd vs=_∧_
  unfold cnf_free_1_S
  rw[gx_zero,List.getElem?_cons_zero,Option.bind_some,slc_tail,Option.bind_some,show (((0:Int),(0:Int),a).1==0)=true from rfl,cond_true]
  have hn:=atomB_codes (show atomB a0 a=true from h)
  have hl:=atomB_len (show atomB a0 a=true from h)
  have hr:Rise []:=List.Pairwise.nil
  obtain⟨us,g1,g2,g3,g4⟩:=seen_spec (r:=a) hr (by simp; omega) (fun c hc=>by have:=hn c hc; omega)
  have hu:InV us:=fun x hx=>by
   rcases (g3 x).1 hx with hx | ⟨c,hc,hx,rfl⟩
   ·cases hx
   ·have:=hn c hc; omega
  rw[g1,Option.bind_some,cnf_free_1_L0_go_at0 _ _ _ _ _ (by have:=hu.len g2; unfold maxLen; omega)]
  obtain⟨ws,f1,f2,f3,f4⟩:=free_go (rf:=cnf_free_1_R k) hb us vs hu h1 h2
  rw[f1]
  refine ⟨ws,rfl,f2,f3,fun x=>(f4 x).trans ?_⟩
  rw[free_var,g3 x]
  simp
 | .not f,h,rest,k,hk,bd,hb,vs,h1,h2=>by
  obtain⟨k,rfl⟩:∃ k',k=k'+1:=⟨k - 1,by omega⟩
  obtain⟨ws,g1,g2⟩:=free_R hs f h rest k (by simp only[Fm.flat,List.length_cons] at hk; omega) bd hb vs h1 h2
  refine ⟨ws,?_,g2⟩
  show cnf_free_1_S (cnf_free_1_R k) ((1,0,[])::(f.flat++rest)) bd vs=_
  unfold cnf_free_1_S
  rw[gx_zero,List.getElem?_cons_zero,Option.bind_some,slc_tail,Option.bind_some]
  simp only[Int.reduceBEq,cond_false,cond_true,hb,Nat.beq_refl,g1,Option.bind_some]
 | .qu q v f,h,rest,k,hk,bd,hb,vs,h1,h2=>by
  obtain⟨k,rfl⟩:∃ k',k=k'+1:=⟨k - 1,by omega⟩
  unfold Fm.ok at h
  simp only[Bool.and_eq_true,Bool.or_eq_true,beq_iff_eq,decide_eq_true_eq] at h
  obtain⟨⟨⟨hq,hv0⟩,hv1⟩,h⟩:=h
  have hv:v.toNat<24:=by omega
  have hi:inR v 24=some v.toNat:=by
   have:=inR_nat hv
   rwa [show ((v.toNat:Nat):Int)=v by omega] at this
  obtain⟨ws,g1,g2,g3,g4⟩:=free_R hs f h rest k (by simp only[Fm.flat,List.length_cons] at hk; omega) (bd.set v.toNat true) (by rw[List.length_set,hb]) vs h1 h2
  refine ⟨ws,?_,g2,g3,fun x=>(g4 x).trans ?_⟩
  ·rcases hq with rfl | rfl
   ·show cnf_free_1_S (cnf_free_1_R k) ((5,v,[])::(f.flat++rest)) bd vs=_
    unfold cnf_free_1_S
    rw[gx_zero,List.getElem?_cons_zero,Option.bind_some,slc_tail,Option.bind_some]
    simp only[Int.reduceBEq,cond_false,cond_true,hi,Option.bind_some,List.getElem?_eq_getElem (show v.toNat<bd.length by omega),List.length_set,hb,Nat.beq_refl,g1]
   ·show cnf_free_1_S (cnf_free_1_R k) ((6,v,[])::(f.flat++rest)) bd vs=_
    unfold cnf_free_1_S
    rw[gx_zero,List.getElem?_cons_zero,Option.bind_some,slc_tail,Option.bind_some]
    simp only[Int.reduceBEq,cond_false,cond_true,hi,Option.bind_some,List.getElem?_eq_getElem (show v.toNat<bd.length by omega),List.length_set,hb,Nat.beq_refl,g1]
  ·rw[set_false (by omega),freeB,Bool.and_eq_true,bne_iff_ne]
   constructor
   ·rintro (h6 | ⟨h6,h7,h8⟩)
    ·exact .inl h6
    ·exact .inr ⟨⟨fun e=>h7 (by rw[e]),h6⟩,h8⟩
   ·rintro (h6 | ⟨⟨h6,h7⟩,h8⟩)
    ·exact .inl h6
    ·by_cases hx:x.toNat=v.toNat
     ·by_cases hx0:0≤x
      ·exact absurd (show x=v by omega) h6
      ·exact absurd h7 (by rw[Bool.not_eq_true]; exact freeB_neg hs f h (by omega))
     ·exact .inr ⟨h7,hx,h8⟩
 | .bin q f g,h,rest,k,hk,bd,hb,vs,h1,h2=>by
  obtain⟨k,rfl⟩:∃ k',k=k'+1:=⟨k - 1,by omega⟩
  unfold Fm.ok at h
  simp only[Bool.and_eq_true,Bool.or_eq_true,beq_iff_eq] at h
  obtain⟨⟨hq,hf⟩,hg⟩:=h
  have hkk:f.flat.length<k∧g.flat.length<k:=by simp only[Fm.flat,List.length_cons,List.length_append] at hk; omega
  obtain⟨us,g1,g2,g3,g4⟩:=free_R hs f hf (g.flat++rest) k hkk.1 bd hb vs h1 h2
  obtain⟨ws,f1,f2,f3,f4⟩:=free_R hs g hg rest k hkk.2 bd hb us g2 g3
  refine ⟨ws,?_,f2,f3,fun x=>(f4 x).trans ?_⟩
  ·have e:(Fm.bin q f g).flat++rest=(q,0,[])::(f.flat++(g.flat++rest)):=by simp [Fm.flat]
   rw[e]
   show cnf_free_1_S (cnf_free_1_R k) ((q,0,[])::(f.flat++(g.flat++rest))) bd vs=_
   unfold cnf_free_1_S
   rw[gx_zero,List.getElem?_cons_zero,Option.bind_some,slc_tail,Option.bind_some]
   rcases hq with (rfl | rfl) | rfl<;>simp only[Int.reduceBEq,cond_false,cond_true,hb,Nat.beq_refl,g1,f1,Option.bind_some]
  ·rw[g4 x,freeB,Bool.or_eq_true]
   constructor
   ·rintro ((h6 | ⟨h6,h7⟩) | ⟨h6,h7⟩)
    ·exact .inl h6
    ·exact .inr ⟨.inl h6,h7⟩
    ·exact .inr ⟨.inr h6,h7⟩
   ·rintro (h6 | ⟨h6 | h6,h7⟩)
    ·exact .inl (.inl h6)
    ·exact .inl (.inr ⟨h6,h7⟩)
    ·exact .inr ⟨h6,h7⟩
def freeL (t:Fm):List Int:=((List.range 24).map fun n:Nat=>(n:Int)).filter (freeB t)
theorem freeL_rise (t:Fm):Rise (freeL t):=by
 unfold freeL Rise
 apply List.Pairwise.filter
 rw[List.pairwise_map]
 exact (List.pairwise_lt_range (n:=24)).imp fun h=>by omega
theorem mem_freeL {t:Fm} {x:Int}:x∈freeL t↔freeB t x=true∧0≤x∧x<24:=by
 unfold freeL
 rw[List.mem_filter,List.mem_map]
 constructor
 ·rintro⟨⟨n,hn,rfl⟩,h⟩
  have:=List.mem_range.1 hn
  exact ⟨h,by omega,by omega⟩
 ·rintro⟨h,h0,h1⟩
  exact ⟨⟨x.toNat,List.mem_range.2 (by omega),by omega⟩,h⟩
theorem cnf_free_eq {a0:List QSym} (hs:SignOk a0) {t:Fm} (h:t.ok a0=true) (hl:t.flat.length≤1000000):cnf_free_1 t.flat (List.replicate 24 false) []=some ([],freeL t):=by
 obtain⟨ws,g1,g2,g3,g4⟩:=free_R hs t h [] fuel (Nat.lt_of_le_of_lt hl (by decide)) (List.replicate 24 false) List.length_replicate [] List.Pairwise.nil (fun x hx=>nomatch hx)
 rw[List.append_nil] at g1
 unfold cnf_free_1
 rw[g1,Rise.ext g2 (freeL_rise t) fun x=>(g4 x).trans ?_]
 rw[mem_freeL]
 constructor
 ·rintro (h6 | ⟨h6,h7⟩)
  ·cases h6
  ·rw[List.getElem?_replicate] at h7
   split at h7
   ·refine ⟨h6,?_,by omega⟩
    rcases Int.lt_or_le x 0 with hx | hx
    ·rw[freeB_neg hs t h hx] at h6; cases h6
    ·exact hx
   ·cases h7
 ·rintro⟨h6,h7,h8⟩
  exact .inr ⟨h6,by rw[List.getElem?_replicate,if_pos (by omega)]⟩
end
end Go.Abs.Q
namespace Go.Abs.Q
open Go Go.Abs
section
abbrev ClT:=List QLit×List (List Int)×List QLit
def skN (i:Nat):Str:=[115,107]++dig2 i
def skFrom (sg:List QSym):Nat→Nat→Nat
 | 0,i=>i
 | n+1,i=>cond (sg.any fun e=>e.1==skN i) (skFrom sg n (i+1)) i
def skName (sg:List QSym):Str:=skN (skFrom sg 20 1)
theorem skFrom_spec (sg:List QSym):(n i:Nat)→((sg.any fun e=>e.1==skN (skFrom sg n i))=false∧i≤skFrom sg n i∧skFrom sg n i<i+n)∨(∀ j,i≤j→j<i+n→(sg.any fun e=>e.1==skN j)=true)
 | 0,i=>.inr fun j h1 h2=>by omega
 | n+1,i=>by
  unfold skFrom
  cases h:sg.any fun e=>e.1==skN i with
  | false=>exact .inl ⟨h,Nat.le_refl _,by show i<_; omega⟩
  | true =>
   rcases skFrom_spec sg n (i+1) with ⟨h1,h2,h3⟩ | h1
   ·exact .inl ⟨h1,by show i≤skFrom sg n (i+1); omega,by show skFrom sg n (i+1)<_; omega⟩
   ·refine .inr fun j h2 h3 => ?_
    rcases Nat.lt_or_ge i j with h4 | h4
    ·exact h1 j h4 (by omega)
    ·rw[show j=i by omega]; exact h
theorem pigeon {α:Type} [DecidableEq α]:(l m:List α)→l.Nodup→(∀ x∈l,x∈m)→l.length≤m.length
 | [],_,_,_=>Nat.zero_le _
 | x::l,m,hn,h=>by
  have hx:=h x (List.mem_cons_self ..)
  have hn:=List.nodup_cons.1 hn
  have:=pigeon l (m.erase x) hn.2 fun y hy=>(List.mem_erase_of_ne fun e=>hn.1 (by rw[← e]; exact hy)).2 (h y (List.mem_cons_of_mem _ hy))
  rw[List.length_erase_of_mem hx] at this
  have:=List.length_pos_of_mem hx
  rw[List.length_cons]
  omega
theorem skN_nodup:((List.range 20).map fun j=>skN (1+j)).Nodup:=by decide
theorem skName_new {sg:List QSym} (h:sg.length<20):(sg.any fun e=>e.1==skName sg)=false∧1≤skFrom sg 20 1∧skFrom sg 20 1<21:=by
 rcases skFrom_spec sg 20 1 with h1 | h1
 ·exact h1
 ·have:=pigeon ((List.range 20).map fun j=>skN (1+j)) (sg.map fun e=>e.1) skN_nodup fun x hx=>by
   obtain⟨j,hj,rfl⟩:=List.mem_map.1 hx
   have hj:=List.mem_range.1 hj
   obtain⟨e,he,hq⟩:=List.any_eq_true.1 (h1 (1+j) (by omega) (by omega))
   rw[← eq_of_beq hq]
   exact List.mem_map_of_mem he
  rw[List.length_map,List.length_map,List.length_range] at this
  omega
theorem name_round {sg:List QSym} (hs:signB sg=true) (lf:List QNode) (vs:Int):(n i k:Nat)→n<k→i+n≤21→(sg.any fun e=>e.1==skN (skFrom sg n i))=false →
  lp cnf_maker_name_L0 k ((i:Int),sg,lf,vs)=some (skN (skFrom sg n i))
 | n,i,k,hk,hi,hf=>by
  obtain⟨k,rfl⟩:∃ k',k=k'+1:=⟨k - 1,by omega⟩
  rw[lp_succ]
  have ih:∀ m,n=m+1→(sg.any fun e=>e.1==skN (skFrom sg m (i+1)))=false→lp cnf_maker_name_L0 k (((i+1:Nat):Int),sg,lf,vs)=some (skN (skFrom sg m (i+1))):=fun m hm h=>by
   subst hm
   exact name_round hs lf vs m (i+1) k (by omega) (by omega) h
  generalize lp cnf_maker_name_L0 k=rec at ih ⊢
  unfold cnf_maker_name_L0
  have hit:strconv_Itoa (i:Int)=some (dig2 i):=by
   have:=itoaF_eq (n:=(i:Int)) (by omega) (by omega)
   rwa [Int.toNat_natCast] at this
  have hlen:=(dig2_len i).2
  simp only[hit,Option.bind_some]
  rw[decide_eq_true (by simp; omega),cond_true,sign_Find_eq hs,Option.bind_some]
  show cond (decide (idxI (sg.findIdx? fun e=>e.1==skN i)<0)) _ _=_
  rw[code_none]
  cases n with
  | zero =>
   have hf:(sg.any fun e=>e.1==skN i)=false:=hf
   rw[hf]
   rfl
  | succ n =>
   unfold skFrom at hf ⊢
   cases h:sg.any fun e=>e.1==skN i with
   | false=>rfl
   | true =>
    rw[h] at hf
    have hw:IntKind.wrap .i64 ((i:Int)+1)=((i+1:Nat):Int):=by rw[wrap64]<;>omega
    simp only[Bool.not_true,cond_false,cond_true] at hf ⊢
    rw[hw]
    exact ih n rfl hf
theorem cnf_name_eq {sg:List QSym} (hs:signB sg=true) (hl:sg.length<20) (lf:List QNode) (vs:Int):cnf_maker_name sg lf vs=some (skName sg):=by
 unfold cnf_maker_name
 rw[show (1:Int)=((1:Nat):Int) from rfl,name_round hs lf vs 20 1 fuel (by decide) (by omega) (skName_new hl).1]
 rfl
theorem mayGo_snoc {a0:List QSym} {s:QSym}:(es:List QSym)→(i:Nat)→mayGo a0 es i=true→symB s=true→idxI (a0.findIdx? (fun d=>d.1==s.1))=((i+es.length:Nat):Int)→mayGo a0 (es++[s]) i=true
 | [],i,_,h1,h2=>by
  have h2:idxI (a0.findIdx? (fun d=>d.1==s.1))=(i:Int):=h2
  show (symB s&&(idxI (a0.findIdx? (fun d=>d.1==s.1))==(i:Int))&&true)=true
  rw[h1,h2]
  simp
 | e::es,i,h,h1,h2=>by
  simp only[mayGo,Bool.and_eq_true] at h
  show (symB e&&(idxI (a0.findIdx? (fun d=>d.1==e.1))==(i:Int))&&mayGo a0 (es++[s]) (i+1))=true
  rw[mayGo_snoc es (i+1) h.2 h1 (by rw[h2,List.length_cons]; omega),h.1.1,h.1.2]
  rfl
theorem mayGo_more {a0:List QSym} {s:QSym}:(es:List QSym)→(i:Nat)→mayGo a0 es i=true→mayGo (a0++[s]) es i=true
 | [],_,_=>rfl
 | e::es,i,h=>by
  simp only[mayGo,Bool.and_eq_true] at h
  have h2:idxI (a0.findIdx? (fun d=>d.1==e.1))=(i:Int):=by simpa using h.1.2
  have h3:(a0++[s]).findIdx? (fun d=>d.1==e.1)=a0.findIdx? (fun d=>d.1==e.1):=by
   rw[List.findIdx?_append]
   cases hf:a0.findIdx? (fun d=>d.1==e.1) with
   | none=>rw[hf] at h2; unfold idxI at h2; simp only at h2; omega
   | some j=>rfl
  show (symB e&&(idxI ((a0++[s]).findIdx? (fun d=>d.1==e.1))==(i:Int))&&mayGo (a0++[s]) es (i+1))=true
  rw[h3,h.1.1,h.1.2,mayGo_more es (i+1) h.2]
  rfl
theorem signB_snoc {sg:List QSym} {s:QSym} (h:signB sg=true) (hl:sg.length<20) (hs:symB s=true) (hn:(sg.any fun e=>e.1==s.1)=false):signB (sg++[s])=true:=by
 cases sg with
 | nil=>cases h
 | cons e es =>
  unfold signB at h
  simp only[Bool.and_eq_true,decide_eq_true_eq] at h
  show (decide (((e::es)++[s]).length≤20)&&eqQ e&&mayGo ((e::es)++[s]) (es++[s]) 1)=true
  rw[decide_eq_true (by rw[List.length_append]; simp at hl ⊢; omega),h.1.2]
  have hn':(e::es).findIdx? (fun d=>d.1==s.1)=none:=by
   rw[List.findIdx?_eq_none_iff]
   intro x hx
   rw[Bool.eq_false_iff]
   intro hq
   have:((e::es).any fun e=>e.1==s.1)=true:=List.any_eq_true.2 ⟨x,hx,hq⟩
   rw[hn] at this
   cases this
  refine mayGo_snoc es 1 (mayGo_more es 1 h.2) hs ?_
  rw[List.findIdx?_append,hn']
  simp [idxI]
  omega
def outA (to:List (List Int)):List Int→List Int
 | []=>[]
 | c::cs=>cond (decide (c≥0)) [c] (to.getD (-1 - c).toNat [])++outA to cs
def atomT (neg:Bool) (to:List (List Int)) (a:List Int):Int×List ClT:=match a with
 | []=>(0,[])
 | c::r=>cond (decide ((c::outA to r).length>49)) (2303,[]) (0,[([(neg,c::outA to r)],[],[])])
theorem atom_go {to:List (List Int)} (hl:to.length=24) (h4:∀ r∈to,r.length≤4):(cs out:List Int)→(∀ c∈cs,-24≤c)→out.length+4*cs.length≤1000000→cnf_maker_atom_L0_go to cs out=some (out++outA to cs)
 | [],out,_,_=>by unfold cnf_maker_atom_L0_go outA; rw[List.append_nil]
 | c::cs,out,hc,hn=>by
  rw[List.length_cons] at hn
  have hc0:=hc c (List.mem_cons_self ..)
  have hc':∀ c∈cs,-24≤c:=fun c h=>hc c (List.mem_cons_of_mem _ h)
  unfold cnf_maker_atom_L0_go outA
  by_cases h:c≥0
  ·rw[decide_eq_true h,cond_true,room_ok (by simp; omega),cond_true,atom_go hl h4 cs _ hc' (by simp; omega),cond_true,List.append_assoc]
  ·have hn1:(-1 - c).toNat<24:=by omega
   have hi:inR (-1 - c) 24=some (-1 - c).toNat:=by
    have:=inR_nat hn1
    rwa [show (((-1 - c).toNat:Nat):Int) = -1 - c by omega] at this
   have hr:=h4 _ (List.getElem_mem (show (-1 - c).toNat<to.length by omega))
   rw[decide_eq_false h,cond_false,cond_false,term_Number_eq (by omega) (by omega),Option.bind_some,hi,Option.bind_some,List.getElem?_eq_getElem (by omega),Option.bind_some,room_ok (by omega),cond_true,
    atom_go hl h4 cs _ hc' (by rw[List.length_append]; omega),List.append_assoc,List.getD_eq_getElem?_getD,List.getElem?_eq_getElem (by omega)]
   rfl
theorem cnf_atom_eq {to:List (List Int)} (hl:to.length=24) (h4:∀ r∈to,r.length≤4) {a0:List QSym} {a:List Int} (ha:atomB a0 a=true) (neg:Bool) (un:List Int) (lf:List QNode) (vs:Int) (sg:List QSym) :
  cnf_maker_atom a neg to un lf vs sg=some ((atomT neg to a).1,(atomT neg to a).2,lf,vs,sg):=by
 have hl2:=atomB_len ha
 have hc:=atomB_codes ha
 cases a with
 | nil=>unfold atomB at ha; cases ha
 | cons c r =>
  rw[List.length_cons] at hl2
  unfold cnf_maker_atom
  rw[gx_zero,List.getElem?_cons_zero,Option.bind_some,slc_tail,Option.bind_some,cnf_maker_atom_L0_go_at0 _ _ _ _ _ (by unfold maxLen; omega),atom_go hl h4 r [c] (fun x hx=>(hc x (List.mem_cons_of_mem _ hx)).1) (by simp; omega),Option.bind_some]
  unfold atomT
  simp only
  rw[show [c]++outA to r=c::outA to r from rfl]
  by_cases h:(c::outA to r).length>49
  ·rw[decide_eq_true h,decide_eq_true (show (((c::outA to r).length:Nat):Int)>49 by omega)]; rfl
  ·rw[decide_eq_false h,decide_eq_false (show ¬((((c::outA to r).length:Nat):Int)>49) by omega)]; rfl
def SmallC (xs:List ClT):Prop:=xs.length≤16∧∀ c∈xs,c.1.length≤5∧c.2=([],[])
def pairL (xs ys:List ClT):List ClT:=xs.flatMap fun x=>ys.map fun y=>(x.1++y.1,[],[])
def pairB (sg:List QSym) (xs ys:List ClT):Bool:=decide ((pairL xs ys).length≤16)&&(pairL xs ys).all fun c=>mayB sg c.1 [] []
def eitherT (sg:List QSym) (xs ys:List ClT):Int×List ClT:=cond (pairB sg xs ys) (0,pairL xs ys) (2303,[])
theorem pair_go0 {lf:List QNode} {vs:Int} {x:List QLit} {sg:List QSym} (hx:x.length≤5):(es out:List ClT)→(∀ e∈es,e.1.length≤5)→out.length≤16→es.length≤16 →
  cnf_maker_either_L0_go lf vs x sg es out=some (cond (decide (out.length+es.length≤16)&&(es.map fun y=>((x++y.1,[],[]):ClT)).all fun c=>mayB sg c.1 [] []) (.inl (lf,vs,out++es.map fun y=>(x++y.1,[],[]),sg)) (.inr (2303,lf,vs,sg)))
 | [],out,_,ho,_=>by
  unfold cnf_maker_either_L0_go
  rw[decide_eq_true (show out.length+([]:List ClT).length≤16 from ho),List.map_nil,List.append_nil]
  rfl
 | e::es,out,he,ho,hes=>by
  have he0:=he e (List.mem_cons_self ..)
  rw[List.length_cons] at hes
  unfold cnf_maker_either_L0_go
  rw[slices_Concat2L_eq (by omega),Option.bind_some,clause_May_eq,Option.bind_some,List.map_cons,List.all_cons]
  simp only
  cases hm:mayB sg (x++e.1) [] [] with
  | false=>simp
  | true =>
   simp only[Bool.not_true,cond_false,Bool.true_and]
   by_cases h16:out.length=16
   ·rw[show (((List.length out:Nat):Int)==16)=true from by rw[h16]; rfl,cond_true,decide_eq_false (show ¬(out.length+(e::es).length≤16) by rw[List.length_cons]; omega),Bool.false_and,cond_false]
   ·rw[show (((List.length out:Nat):Int)==16)=false from by rw[beq_eq_false_iff_ne]; omega,cond_false,room_ok (by simp; omega),cond_true,pair_go0 hx es _ (fun y hy=>he y (List.mem_cons_of_mem _ hy)) (by simp; omega) (by omega)]
    rw[List.append_assoc,List.length_append,show out.length+[(x++e.1,([]:List (List Int)),([]:List QLit))].length+es.length=out.length+(e::es).length by simp; omega]
    rfl
theorem pair_go1 {ys:List ClT} {sg:List QSym} (hy:SmallC ys) {lf:List QNode} {vs:Int} (xs:List ClT):(es:List ClT)→(i:Nat)→(out:List ClT)→(∀ e∈es,e.1.length≤5)→out.length≤16 →
  cnf_maker_either_L1_go ys xs es i lf vs out sg=some (cond (decide (out.length+(pairL es ys).length≤16)&&(pairL es ys).all fun c=>mayB sg c.1 [] []) (.inl (lf,vs,out++pairL es ys,sg)) (.inr (2303,lf,vs,sg)))
 | [],i,out,_,ho=>by
  unfold cnf_maker_either_L1_go pairL
  rw[List.flatMap_nil,decide_eq_true (show out.length+([]:List ClT).length≤16 from ho),List.append_nil]
  rfl
 | e::es,i,out,he,ho=>by
  unfold cnf_maker_either_L1_go
  rw[cnf_maker_either_L0_go_at0 _ _ _ _ _ _ _ _ _ _ _ _ (by have:=hy.1; unfold maxLen; omega),pair_go0 (he e (List.mem_cons_self ..)) ys out (fun y h=>(hy.2 y h).1) ho hy.1,Option.bind_some]
  have e1:pairL (e::es) ys=(ys.map fun y=>((e.1++y.1,[],[]):ClT))++pairL es ys:=by unfold pairL; rw[List.flatMap_cons]
  rw[e1,List.all_append,List.length_append,List.length_map]
  by_cases h1:out.length+ys.length≤16
  ·rw[decide_eq_true h1,Bool.true_and]
   cases hm:(ys.map fun y=>((e.1++y.1,[],[]):ClT)).all fun c=>mayB sg c.1 [] [] with
   | false=>rw[Bool.false_and,Bool.and_false]; rfl
   | true =>
    rw[Bool.true_and]
    show cnf_maker_either_L1_go ys xs es (i+1) lf vs _ sg=_
    rw[pair_go1 hy xs es (i+1) _ (fun y h=>he y (List.mem_cons_of_mem _ h)) (by simp; omega),List.length_append,List.length_map,List.append_assoc,Nat.add_assoc]
  ·rw[decide_eq_false h1,decide_eq_false (show ¬(out.length+(ys.length+(pairL es ys).length)≤16) by omega)]
   rfl
theorem cnf_either_eq {xs ys:List ClT} (hx:SmallC xs) (hy:SmallC ys) (lf:List QNode) (vs:Int) (sg:List QSym):cnf_maker_either xs ys lf vs sg=some ((eitherT sg xs ys).1,(eitherT sg xs ys).2,lf,vs,sg):=by
 unfold cnf_maker_either
 rw[cnf_maker_either_L1_go_at0 _ _ _ _ _ _ (by have:=hx.1; unfold maxLen; omega),pair_go1 hy xs xs 0 [] (fun e h=>(hx.2 e h).1) (by simp)]
 unfold eitherT pairB
 rw[List.length_nil,Nat.zero_add,List.nil_append,Option.bind_some]
 cases (decide ((pairL xs ys).length≤16)&&(pairL xs ys).all fun c=>mayB sg c.1 [] [])<;>rfl
theorem eitherT_small {xs ys:List ClT} {sg:List QSym} (h:(eitherT sg xs ys).1=0):SmallC (eitherT sg xs ys).2:=by
 unfold eitherT at h ⊢
 cases hb:pairB sg xs ys with
 | false=>rw[hb] at h; cases h
 | true =>
  unfold pairB at hb
  rw[Bool.and_eq_true,decide_eq_true_eq,List.all_eq_true] at hb
  refine ⟨hb.1,fun c hc=>⟨?_,?_⟩⟩
  ·exact (mayB_spec (hb.2 c hc)).2.1
  ·obtain⟨x,-,hc⟩:=List.mem_flatMap.1 hc
   obtain⟨y,-,rfl⟩:=List.mem_map.1 hc
   rfl
end
end Go.Abs.Q
namespace Go.Abs.Q
open Go Go.Abs
section
theorem Concat_C_eq {a b:List ClT} (h:a.length+b.length≤1000):slices_Concat_3 [a,b]=some (a++b):=by
 unfold slices_Concat_3
 rw[slices_Concat_3_L0_go_at0 _ _ _ (by simp [maxLen])]
 have e0:slices_Concat_3_L0_go [a,b] 0=some ((a.length+b.length:Nat):Int):=by
  unfold slices_Concat_3_L0_go
  rw[wrap64 (by omega) (by omega),decide_eq_false (show ¬((0:Int)+((List.length a:Nat):Int)<0) by omega),cond_false]
  unfold slices_Concat_3_L0_go
  rw[wrap64 (by omega) (by omega),decide_eq_false (show ¬((0:Int)+((List.length a:Nat):Int)+((List.length b:Nat):Int)<0) by omega),cond_false]
  unfold slices_Concat_3_L0_go
  congr 1
  omega
 rw[e0,Option.bind_some]
 have e1:slices_Grow_3 ((a.length+b.length:Nat):Int)=some []:=by
  unfold slices_Grow_3
  rw[decide_eq_false (show ¬(((a.length+b.length:Nat):Int)<0) by omega),cond_false,show ((a.length+b.length:Nat):Int) - 0=((a.length+b.length:Nat):Int) by omega,wrap64 (by omega) (by omega)]
  by_cases h0:a.length+b.length=0
  ·rw[h0]; rfl
  ·rw[decide_eq_true (show ((a.length+b.length:Nat):Int)>0 by omega),cond_true]
   have e2:posI ((a.length+b.length:Nat):Int)=true:=by simp [posI]; omega
   rw[e2,Int.toNat_natCast,room_ok (by omega)]
   rw[show eqI 0 0=true from rfl]
   simp only[Bool.and_self,cond_true]
   have:=slc_take (List.replicate (a.length+b.length) (([]:List QLit),([]:List (List Int)),([]:List QLit))) (i:=0) (by simp)
   rw[show ((0:Nat):Int)=0 from rfl] at this
   rw[this]
   rfl
 rw[e1,Option.bind_some,slices_Concat_3_L1_go_at0 _ _ (by simp [maxLen])]
 unfold slices_Concat_3_L1_go
 rw[room_ok (by simp; omega),cond_true]
 unfold slices_Concat_3_L1_go
 rw[room_ok (by simp; omega),cond_true]
 unfold slices_Concat_3_L1_go
 rfl
def partT:Fm→Bool→List (List Int)→List Int→Int→List QSym→Int×List ClT×Int×List QSym
 | .atom a,d,to,_,vs,sg=>((atomT d to a).1,(atomT d to a).2,vs,sg)
 | .not f,d,to,un,vs,sg=>partT f (!d) to un vs sg
 | .qu q v f,d,to,un,vs,sg=>cond (d==(q==6))
   (cond (decide (vs>23)) (2303,[],vs,sg) (partT f d (to.set v.toNat [-1 - vs]) (un++[-1 - vs]) (vs+1) sg))
   (cond (decide (un.length>3)) (2301,[],vs,sg) (cond (decide (sg.length=20)) (2302,[],vs,sg)
    (partT f d (to.set v.toNat ((sg.length:Int)::un)) un vs (sg++[(skName sg,2,(un.length:Int),1)]))))
 | .bin q f g,d,to,un,vs,sg =>
   cond ((partT f (!(d==(q==4))) to un vs sg).1 != 0) ((partT f (!(d==(q==4))) to un vs sg).1,[],(partT f (!(d==(q==4))) to un vs sg).2.2) (
    cond ((partT g d to un (partT f (!(d==(q==4))) to un vs sg).2.2.1 (partT f (!(d==(q==4))) to un vs sg).2.2.2).1 != 0)
     ((partT g d to un (partT f (!(d==(q==4))) to un vs sg).2.2.1 (partT f (!(d==(q==4))) to un vs sg).2.2.2).1,[],(partT g d to un (partT f (!(d==(q==4))) to un vs sg).2.2.1 (partT f (!(d==(q==4))) to un vs sg).2.2.2).2.2)
     (joinC q d (partT f (!(d==(q==4))) to un vs sg).2.1 (partT g d to un (partT f (!(d==(q==4))) to un vs sg).2.2.1 (partT f (!(d==(q==4))) to un vs sg).2.2.2)))
where
 joinC (q:Int) (d:Bool) (xs:List ClT) (r:Int×List ClT×Int×List QSym):Int×List ClT×Int×List QSym :=
  cond (d==(q==2)) ((eitherT r.2.2.2 xs r.2.1).1,(eitherT r.2.2.2 xs r.2.1).2,r.2.2) (cond (decide (xs.length+r.2.1.length>16)) (2303,[],r.2.2) (0,xs++r.2.1,r.2.2))
structure SOk (to:List (List Int)) (un:List Int) (vs:Int) (sg:List QSym):Prop where
 sign:signB sg=true
 to24:to.length=24
 to4:∀ r∈to,r.length≤4
 un:(un.length:Int)≤vs
 vs:vs≤24
theorem mem_set_of {α:Type} {xs:List α} {i:Nat} {x:α} {P:α→Prop} (h:∀ y∈xs,P y) (hx:P x):∀ y∈xs.set i x,P y:=fun y hy=>by
 rcases List.mem_or_eq_of_mem_set hy with hy | hy
 ·exact h y hy
 ·rw[hy]; exact hx
theorem skName_called {sg:List QSym} (h:sg.length<20) (un:List Int) (hu:un.length≤3):symB (skName sg,2,(un.length:Int),1)=true:=by
 have h1:=(skName_new h).2
 have key:∀ n,n<21→1≤n→calledB (skN n)=true:=by decide
 unfold symB skName
 rw[key _ h1.2 h1.1]
 simp
 omega
theorem skolem_eq {to:List (List Int)} {un:List Int} {vs:Int} {sg:List QSym} (h:SOk to un vs sg) (hu:¬ un.length>3) (hl:¬ sg.length=20) {v:Int} (h0:0≤v) (h1:v≤23) (lf:List QNode) :
  cnf_maker_skolem v to un lf vs sg=some (to.set v.toNat ((sg.length:Int)::un),un,0,lf,vs,sg++[(skName sg,2,(un.length:Int),1)])∧SOk (to.set v.toNat ((sg.length:Int)::un)) un vs (sg++[(skName sg,2,(un.length:Int),1)]):=by
 have hs:=signB_ok h.sign
 have hlt:sg.length<20:=by have:=hs.len; omega
 have hv:inR v 24=some v.toNat:=by
  have:=inR_nat (show v.toNat<24 by omega)
  rwa [show ((v.toNat:Nat):Int)=v by omega] at this
 refine ⟨?_,⟨signB_snoc h.sign hlt (skName_called hlt un (by omega)) (skName_new hlt).1,by rw[List.length_set]; exact h.to24,mem_set_of h.to4 (by simp; omega),h.un,h.vs⟩⟩
 unfold cnf_maker_skolem
 rw[decide_eq_false (show ¬(((List.length un:Nat):Int)>3) by omega),cond_false,show (((List.length sg:Nat):Int)==20)=false from by rw[beq_eq_false_iff_ne]; omega,cond_false,room_ok (by simp; omega),cond_true,
  cnf_name_eq h.sign hlt,Option.bind_some,room_ok (by simp; omega),cond_true]
 unfold cnf_scope_with
 rw[hv,Option.bind_some,List.getElem?_eq_getElem (by have:=h.to24; omega),Option.bind_some]
 rfl
theorem universal_eq {to:List (List Int)} {un:List Int} {vs:Int} {sg:List QSym} (h:SOk to un vs sg) (hv:¬ vs>23) {v:Int} (h0:0≤v) (h1:v≤23) (lf:List QNode) :
  cnf_maker_universal v to un lf vs sg=some (to.set v.toNat [-1 - vs],un++[-1 - vs],0,lf,vs+1,sg)∧SOk (to.set v.toNat [-1 - vs]) (un++[-1 - vs]) (vs+1) sg:=by
 have hvv:inR v 24=some v.toNat:=by
  have:=inR_nat (show v.toNat<24 by omega)
  rwa [show ((v.toNat:Nat):Int)=v by omega] at this
 have hu:=h.un
 refine ⟨?_,⟨h.sign,by rw[List.length_set]; exact h.to24,mem_set_of h.to4 (by simp),by rw[List.length_append,List.length_singleton]; omega,by omega⟩⟩
 unfold cnf_maker_universal
 rw[decide_eq_false hv,cond_false,term_Number_eq (by omega) (by omega),Option.bind_some,slices_CloneN_eq (by omega),Option.bind_some,room_ok (by simp; omega),cond_true]
 unfold cnf_scope_with
 rw[hvv,Option.bind_some,List.getElem?_eq_getElem (by have:=h.to24; omega),Option.bind_some,Option.bind_some,wrap64 (by omega) (by omega)]
theorem bind_eta {α β γ δ ε:Type} (o:Option (α×β×γ×δ×ε)):(o.bind fun r=>some (r.1,r.2.1,r.2.2.1,r.2.2.2.1,r.2.2.2.2))=o:=by cases o<;>rfl
def PRes (rest:List QNode) (un:List Int) (p:Int×List ClT×Int×List QSym) (o:Option (Int×List ClT×List QNode×Int×List QSym)):Prop :=
 ∃ lf,o=some (p.1,p.2.1,lf,p.2.2)∧(p.1=0→lf=rest∧SmallC p.2.1)∧signB p.2.2.2=true∧(un.length:Int)≤p.2.2.1∧p.2.2.1≤24
theorem part_R {a0:List QSym}:(t:Fm)→t.ok a0=true→(rest:List QNode)→(k:Nat)→2*t.flat.length<k→(d:Bool)→(to:List (List Int))→(un:List Int)→(vs:Int)→(sg:List QSym)→SOk to un vs sg →
  PRes rest un (partT t d to un vs sg) ((cnf_maker_part_R k).2 (d,to,un,t.flat++rest,vs,sg))
 | .atom a,h,rest,k,hk,d,to,un,vs,sg,hS=>by
  obtain⟨k,rfl⟩:∃ k',k=k'+1:=⟨k - 1,by omega⟩
  show PRes _ _ _ (cnf_maker_part_S (cnf_maker_part_R k) d to un ((0,0,a)::rest) vs sg)
  unfold cnf_maker_part_S
  rw[gx_zero,List.getElem?_cons_zero,Option.bind_some,slc_tail,Option.bind_some,show (((0:Int),(0:Int),a).1==0)=true from rfl,cond_true,cnf_atom_eq hS.to24 hS.to4 (show atomB a0 a=true from h),Option.bind_some]
  refine ⟨rest,rfl,fun _=>⟨rfl,?_⟩,hS.sign,hS.un,hS.vs⟩
  show SmallC (atomT d to a).2
  unfold atomT
  cases a with
  | nil=>exact ⟨by simp,fun c hc=>nomatch hc⟩
  | cons c r =>
   simp only
   cases decide ((c::outA to r).length>49) with
   | true=>exact ⟨by simp,fun c hc=>nomatch hc⟩
   | false=>exact ⟨by simp,fun c hc=>by rw[List.mem_singleton.1 hc]; exact ⟨by simp,rfl⟩⟩
 | .not f,h,rest,k,hk,d,to,un,vs,sg,hS=>by
  obtain⟨k,rfl⟩:∃ k',k=k'+1:=⟨k - 1,by omega⟩
  obtain⟨lf,e,ih⟩:=part_R f h rest k (by simp only[Fm.flat,List.length_cons] at hk; omega) (!d) to un vs sg hS
  refine ⟨lf,?_,ih⟩
  show cnf_maker_part_S (cnf_maker_part_R k) d to un ((1,0,[])::(f.flat++rest)) vs sg=_
  unfold cnf_maker_part_S
  rw[gx_zero,List.getElem?_cons_zero,Option.bind_some,slc_tail,Option.bind_some]
  simp only[Int.reduceBEq,cond_false,cond_true,e,Option.bind_some]
  rfl
 | .qu q v f,h,rest,k,hk,d,to,un,vs,sg,hS=>by
  obtain⟨k,rfl⟩:∃ k',k=k'+1:=⟨k - 1,by omega⟩
  unfold Fm.ok at h
  simp only[Bool.and_eq_true,Bool.or_eq_true,beq_iff_eq,decide_eq_true_eq] at h
  obtain⟨⟨⟨hq,hv0⟩,hv1⟩,h⟩:=h
  have hk':2*f.flat.length<k:=by simp only[Fm.flat,List.length_cons] at hk; omega
  have e0:∀ lf,cnf_maker_part_S (cnf_maker_part_R k) d to un ((q,v,[])::lf) vs sg=cond (d==(q==6))
    ((cnf_maker_universal v to un lf vs sg).bind fun r25 =>
     cond (r25.2.2.1 != 0) (some (r25.2.2.1,([]:List ClT),r25.2.2.2.1,r25.2.2.2.2.1,r25.2.2.2.2.2))
      (((cnf_maker_part_R k).2 (d,r25.1,r25.2.1,r25.2.2.2.1,r25.2.2.2.2.1,r25.2.2.2.2.2)).bind fun r26=>some (r26.1,r26.2.1,r26.2.2.1,r26.2.2.2.1,r26.2.2.2.2)))
    ((cnf_maker_skolem v to un lf vs sg).bind fun r25 =>
     cond (r25.2.2.1 != 0) (some (r25.2.2.1,([]:List ClT),r25.2.2.2.1,r25.2.2.2.2.1,r25.2.2.2.2.2))
      (((cnf_maker_part_R k).2 (d,r25.1,r25.2.1,r25.2.2.2.1,r25.2.2.2.2.1,r25.2.2.2.2.2)).bind fun r26=>some (r26.1,r26.2.1,r26.2.2.1,r26.2.2.2.1,r26.2.2.2.2))):=fun lf=>by
   unfold cnf_maker_part_S
   rw[gx_zero,List.getElem?_cons_zero,Option.bind_some,slc_tail,Option.bind_some]
   rcases hq with rfl | rfl<;>simp only[Int.reduceBEq,cond_false,cond_true]
  show PRes _ _ _ (cnf_maker_part_S (cnf_maker_part_R k) d to un ((q,v,[])::(f.flat++rest)) vs sg)
  rw[e0,partT]
  have hu:=hS.un
  cases hd:d==(q==6) with
  | true =>
   simp only[cond_true]
   by_cases h23:vs>23
   ·rw[decide_eq_true h23,cond_true]
    unfold cnf_maker_universal
    rw[decide_eq_true h23,cond_true,Option.bind_some]
    exact ⟨_,rfl,fun h=>(nomatch h),hS.sign,hS.un,hS.vs⟩
   ·rw[decide_eq_false h23,cond_false]
    obtain⟨e1,hS'⟩:=universal_eq hS h23 hv0 hv1 (f.flat++rest)
    obtain⟨lf,e,g1,g2,g3,g4⟩:=part_R f h rest k hk' d _ _ _ _ hS'
    rw[e1,Option.bind_some]
    simp only[bne_self_eq_false,cond_false]
    rw[e]
    refine ⟨lf,rfl,g1,g2,?_,g4⟩
    rw[List.length_append,List.length_singleton] at g3
    omega
  | false =>
   simp only[cond_false]
   by_cases h3:un.length>3
   ·rw[decide_eq_true h3,cond_true]
    unfold cnf_maker_skolem
    rw[decide_eq_true (show (((List.length un:Nat):Int)>3) by omega),cond_true,Option.bind_some]
    exact ⟨_,rfl,fun h=>(nomatch h),hS.sign,hS.un,hS.vs⟩
   ·rw[decide_eq_false h3,cond_false]
    by_cases h20:sg.length=20
    ·rw[decide_eq_true h20,cond_true]
     unfold cnf_maker_skolem
     rw[decide_eq_false (show ¬(((List.length un:Nat):Int)>3) by omega),cond_false,show (((List.length sg:Nat):Int)==20)=true from by rw[h20]; rfl,cond_true,Option.bind_some]
     exact ⟨_,rfl,fun h=>(nomatch h),hS.sign,hS.un,hS.vs⟩
    ·rw[decide_eq_false h20,cond_false]
     obtain⟨e1,hS'⟩:=skolem_eq hS h3 h20 hv0 hv1 (f.flat++rest)
     obtain⟨lf,e,ih⟩:=part_R f h rest k hk' d _ _ _ _ hS'
     rw[e1,Option.bind_some]
     simp only[bne_self_eq_false,cond_false]
     rw[e]
     exact ⟨lf,rfl,ih⟩
 | .bin q f g,h,rest,k,hk,d,to,un,vs,sg,hS=>by
  obtain⟨k,rfl⟩:∃ k',k=k'+2:=⟨k - 2,by simp only[Fm.flat,List.length_cons] at hk; omega⟩
  unfold Fm.ok at h
  simp only[Bool.and_eq_true,Bool.or_eq_true,beq_iff_eq] at h
  obtain⟨⟨hq,hf⟩,hg⟩:=h
  have hkk:2*f.flat.length<k∧2*g.flat.length<k:=by simp only[Fm.flat,List.length_cons,List.length_append] at hk; omega
  have e:(Fm.bin q f g).flat++rest=(q,0,[])::(f.flat++(g.flat++rest)):=by simp [Fm.flat]
  have e0:∀ lf,cnf_maker_part_S (cnf_maker_part_R (k+1)) d to un ((q,0,[])::lf) vs sg=cnf_maker_two_S (cnf_maker_part_R k) q d to un lf vs sg:=fun lf=>by
   have e1:(cnf_maker_part_R (k+1)).1 (q,d,to,un,lf,vs,sg)=cnf_maker_two_S (cnf_maker_part_R k) q d to un lf vs sg:=rfl
   unfold cnf_maker_part_S
   rw[gx_zero,List.getElem?_cons_zero,Option.bind_some,slc_tail,Option.bind_some]
   rcases hq with (rfl | rfl) | rfl<;>simp only[Int.reduceBEq,cond_false,cond_true,e1]<;>exact bind_eta _
  show PRes _ _ _ (cnf_maker_part_S (cnf_maker_part_R (k+1)) d to un ((Fm.bin q f g).flat++rest) vs sg)
  rw[e,e0,partT]
  unfold cnf_maker_two_S
  obtain⟨l1,e1,a1,a2,a3,a4⟩:=part_R f hf (g.flat++rest) k hkk.1 (!(d==(q==4))) to un vs sg hS
  rw[e1,Option.bind_some]
  generalize partT f (!(d==(q==4))) to un vs sg=p at a1 a2 a3 a4 ⊢
  cases hp:p.1 != 0 with
  | true =>
   simp only[cond_true]
   refine ⟨_,rfl,fun h => ?_,a2,a3,a4⟩
   rw[bne_iff_ne] at hp
   exact absurd h hp
  | false =>
   simp only[cond_false]
   have hp0:p.1=0:=by simpa using hp
   obtain⟨rfl,c1⟩:=a1 hp0
   obtain⟨l2,e2,b1,b2,b3,b4⟩:=part_R g hg rest k hkk.2 d to un p.2.2.1 p.2.2.2 ⟨a2,hS.to24,hS.to4,a3,a4⟩
   rw[e2,Option.bind_some]
   generalize partT g d to un p.2.2.1 p.2.2.2=r at b1 b2 b3 b4 ⊢
   cases hr:r.1 != 0 with
   | true =>
    simp only[cond_true]
    refine ⟨_,rfl,fun h => ?_,b2,b3,b4⟩
    rw[bne_iff_ne] at hr
    exact absurd h hr
   | false =>
    simp only[cond_false]
    have hr0:r.1=0:=by simpa using hr
    obtain⟨rfl,c2⟩:=b1 hr0
    unfold partT.joinC
    cases hd:d==(q==2) with
    | true =>
     simp only[cond_true]
     rw[cnf_either_eq c1 c2,Option.bind_some]
     exact ⟨_,rfl,fun h=>⟨rfl,eitherT_small h⟩,b2,b3,b4⟩
    | false =>
     simp only[cond_false]
     have hx:=c1.1
     have hy:=c2.1
     rw[wrap64 (by omega) (by omega)]
     by_cases h16:p.2.1.length+r.2.1.length>16
     ·rw[decide_eq_true h16,decide_eq_true (show ((List.length p.2.1:Nat):Int)+((List.length r.2.1:Nat):Int)>16 by omega)]
      exact ⟨_,rfl,fun h=>(nomatch h),b2,b3,b4⟩
     ·rw[decide_eq_false h16,decide_eq_false (show ¬(((List.length p.2.1:Nat):Int)+((List.length r.2.1:Nat):Int)>16) by omega),cond_false,cond_false,Concat_C_eq (by omega),Option.bind_some]
      refine ⟨_,rfl,fun _=>⟨rfl,?_,fun c hc => ?_⟩,b2,b3,b4⟩
      ·rw[List.length_append]; omega
      ·rcases List.mem_append.1 hc with hc | hc
       ·exact c1.2 c hc
       ·exact c2.2 c hc
end
end Go.Abs.Q
namespace Go.Abs.Q
open Go Go.Abs
section
def univT:List Int→List (List Int)→List Int→Int→List (List Int)×List Int×Int
 | [],to,un,vs=>(to,un,vs)
 | v::es,to,un,vs=>univT es (to.set v.toNat [-1 - vs]) (un++[-1 - vs]) (vs+1)
theorem univ_go {sg:List QSym} (lf:List QNode):(es:List Int)→InV es→(to:List (List Int))→(un:List Int)→(vs:Int)→SOk to un vs sg→vs+(es.length:Int)≤24 →
  cnf_Clauses_L0_go es lf vs to un sg=some (lf,(univT es to un vs).2.2,(univT es to un vs).1,(univT es to un vs).2.1,sg)∧SOk (univT es to un vs).1 (univT es to un vs).2.1 (univT es to un vs).2.2 sg
 | [],_,to,un,vs,hS,_=>⟨rfl,hS⟩
 | e::es,he,to,un,vs,hS,hl=>by
  rw[List.length_cons] at hl
  have he0:=he e (List.mem_cons_self ..)
  obtain⟨e1,hS'⟩:=universal_eq hS (by omega) he0.1 (by omega) lf (v:=e)
  obtain⟨e2,hS2⟩:=univ_go lf es (fun x hx=>he x (List.mem_cons_of_mem _ hx)) _ _ _ hS' (by omega)
  refine ⟨?_,hS2⟩
  unfold cnf_Clauses_L0_go
  rw[e1,Option.bind_some]
  exact e2
def trivV (sg:List QSym) (c:ClT):Bool:=match clause_Trivial sg c.1 c.2.1 c.2.2 with
 | some r=>r.1
 | none=>false
def normV (sg:List QSym) (c:ClT):ClT:=cond (mayB sg c.1 c.2.1 c.2.2) (normC c.1 c.2.1 c.2.2) ([],[],[])
def keepT (sg:List QSym) (cs:List ClT):List ClT:=(cs.filter fun c => !trivV sg c).map (normV sg)
theorem keep_go {sg:List QSym}:(es out:List ClT)→out.length+es.length≤1000→cnf_Clauses_L1_go sg es out=some (out++keepT sg es)
 | [],out,_=>by unfold cnf_Clauses_L1_go keepT; simp
 | e::es,out,hl=>by
  rw[List.length_cons] at hl
  obtain⟨t,ht⟩:=trivial_total sg e.1 e.2.1 e.2.2
  have hv:trivV sg e=t.1:=by unfold trivV; rw[ht]
  unfold cnf_Clauses_L1_go
  rw[ht,Option.bind_some]
  cases hb:t.1 with
  | true =>
   simp only[Bool.not_true,cond_false]
   rw[keep_go es out (by omega)]
   unfold keepT
   rw[List.filter_cons_of_neg (by rw[hv,hb]; simp)]
  | false =>
   simp only[Bool.not_false,cond_true]
   have e1:clause_Normal sg e.1 e.2.1 e.2.2=some ((normV sg e).1,(normV sg e).2.1,cond (mayB sg e.1 e.2.1 e.2.2) 0 800,(normV sg e).2.2):=by
    rw[clause_Normal_eq]
    unfold normV
    cases mayB sg e.1 e.2.1 e.2.2<;>rfl
   rw[e1,Option.bind_some,room_ok (by simp; omega),cond_true,keep_go es _ (by simp; omega)]
   unfold keepT
   rw[List.filter_cons_of_pos (by rw[hv,hb]; rfl),List.map_cons,List.append_assoc]
   rfl
theorem cloneS_eq {a0:List QSym} (h:a0.length≤1000):slices_Clone_2N a0=some a0:=by
 unfold slices_Clone_2N slices_Clone_2
 simp only[Option.isNone_some,cond_false,Option.getD_some]
 rw[room_ok (by simp; omega),cond_true,List.nil_append]
def startT (t:Fm):List (List Int)×List Int×Int:=univT (freeL t) (List.replicate 24 []) [] 0
def mainT (a0:List QSym) (t:Fm):Int×List ClT×Int×List QSym:=partT t false (startT t).1 (startT t).2.1 (startT t).2.2 a0
def clausesT (a0:List QSym) (t:Fm):List QSym×Int×List ClT:=cond ((mainT a0 t).1 != 0) ([],(mainT a0 t).1,[]) ((mainT a0 t).2.2.2,0,keepT (mainT a0 t).2.2.2 (mainT a0 t).2.1)
theorem freeL_inV (t:Fm):InV (freeL t):=fun x hx=>(mem_freeL.1 hx).2
theorem freeL_len (t:Fm):(freeL t).length≤24:=(freeL_inV t).len (freeL_rise t)
theorem start_ok {a0:List QSym} (h:signB a0=true) (t:Fm):SOk (List.replicate 24 []) [] 0 a0∧SOk (startT t).1 (startT t).2.1 (startT t).2.2 a0:=by
 have hS:SOk (List.replicate 24 []) [] 0 a0:=⟨h,List.length_replicate,fun r hr=>by rw[List.eq_of_mem_replicate hr]; simp,by simp,by omega⟩
 have:=freeL_len t
 exact ⟨hS,(univ_go [] (freeL t) (freeL_inV t) _ _ _ hS (by omega)).2⟩
theorem main_ok {a0:List QSym} (h:signB a0=true) {t:Fm} (ht:t.ok a0=true) (hl:t.flat.length≤40):PRes [] (startT t).2.1 (mainT a0 t) (cnf_maker_part false (startT t).1 (startT t).2.1 t.flat (startT t).2.2 a0):=by
 have:=part_R t ht [] fuel (Nat.lt_of_le_of_lt (Nat.mul_le_mul_left 2 hl) (by decide)) false _ _ _ _ (start_ok h t).2
 rw[List.append_nil] at this
 exact this
theorem cnf_Clauses_eq {a0:List QSym} {t:Fm} (h:fmayB a0 t.flat=true) (ht:t.ok a0=true):cnf_Clauses a0 t.flat=some (clausesT a0 t):=by
 obtain⟨h1,h2,-⟩:=fmayB_tree h
 have hs:=sigB_ok h1
 have hsb:signB a0=true:=by unfold sigB at h1; rw[Bool.and_eq_true] at h1; exact h1.1
 unfold cnf_Clauses
 rw[formula_May_eq,h,Option.bind_some]
 simp only[Bool.not_true,cond_false]
 have h20:=hs.len
 have hfl:=freeL_len t
 rw[cloneS_eq (by omega),Option.bind_some,cnf_free_eq hs ht (by omega),Option.bind_some,cnf_Clauses_L0_go_at0 (freeL t) _ _ _ _ _ (by unfold maxLen; omega),(univ_go t.flat (freeL t) (freeL_inV t) _ _ _ (start_ok hsb t).1 (by omega)).1,Option.bind_some]
 obtain⟨lf,e,g1,-⟩:=main_ok hsb ht h2
 show (cnf_maker_part false (startT t).1 (startT t).2.1 t.flat (startT t).2.2 a0).bind _=_
 rw[e,Option.bind_some]
 unfold clausesT
 cases hm:(mainT a0 t).1 != 0 with
 | true=>simp only[cond_true]
 | false =>
  simp only[cond_false]
  have:=(g1 (by simpa using hm)).2.1
  rw[cnf_Clauses_L1_go_at0 _ _ _ _ _ (by unfold maxLen; omega),keep_go _ _ (by simp; omega),List.nil_append]
  rfl
theorem cnf_Clauses_bad {a0:List QSym} {f:List QNode} (h:fmayB a0 f=false):cnf_Clauses a0 f=some ([],2300,[]):=by
 unfold cnf_Clauses
 rw[formula_May_eq,h]
 rfl
def GoodC (c:ClT):Prop:=SameCl c.1 c.2.1 c.2.2
theorem sameClauses_go {xs:List ClT}:(es:List ClT)→(i:Nat)→xs.drop i=es→(∀ c∈es,GoodC c)→law0_SameClauses_L0_go xs es i=some (.inl ())
 | [],_,_,_=>rfl
 | e::es,i,h,hg=>by
  unfold law0_SameClauses_L0_go
  have hi:xs[i]? = some e:=drop_cons_get h
  rw[gx_nat,hi,Option.bind_some,show law0_SameClause e.1 e.2.1 e.2.2 e.1 e.2.1 e.2.2=some true from hg e (List.mem_cons_self ..),Option.bind_some]
  exact sameClauses_go es (i+1) (drop_cons_next h) fun c hc=>hg c (List.mem_cons_of_mem _ hc)
theorem sameClauses_refl {xs:List ClT} (h:∀ c∈xs,GoodC c) (hl:xs.length≤1000):law0_SameClauses xs xs=some true:=by
 unfold law0_SameClauses
 rw[bne_self_eq_false,cond_false,law0_SameClauses_L0_go_at0 _ _ (by unfold maxLen; omega),sameClauses_go xs 0 rfl h]
 rfl
theorem normV_good (sg:List QSym) (c:ClT):GoodC (normV sg c):=by
 unfold normV
 cases h:mayB sg c.1 c.2.1 c.2.2 with
 | false=>exact sameCl_nil
 | true =>
  exact normC_same h
theorem keepT_good {sg:List QSym} {cs:List ClT}:∀ c∈keepT sg cs,GoodC c:=fun c hc=>by
 obtain⟨d,-,rfl⟩:=List.mem_map.1 hc
 exact normV_good sg d
theorem keepT_len {sg:List QSym} {cs:List ClT}:(keepT sg cs).length≤cs.length:=by
 unfold keepT
 rw[List.length_map]
 exact List.length_filter_le _ _
theorem clausesT_small {a0:List QSym} {t:Fm} (h:fmayB a0 t.flat=true) (ht:t.ok a0=true):(clausesT a0 t).2.2.length≤16∧(clausesT a0 t).1.length≤20∧∀ c∈(clausesT a0 t).2.2,GoodC c:=by
 obtain⟨h1,h2,-⟩:=fmayB_tree h
 have hsb:signB a0=true:=by unfold sigB at h1; rw[Bool.and_eq_true] at h1; exact h1.1
 obtain⟨lf,e,g1,g2,-⟩:=main_ok hsb ht h2
 unfold clausesT
 cases hm:(mainT a0 t).1 != 0 with
 | true=>exact ⟨by simp,by simp,fun c hc=>nomatch hc⟩
 | false =>
  have:=(g1 (by simpa using hm)).2.1
  exact ⟨Nat.le_trans keepT_len this,(signB_ok g2).len,keepT_good⟩
theorem law23_awake_eq:law23_awake=some true:=by kernel_rfl
end
end Go.Abs.Q
namespace Go.Abs.Q
open Go Go.Abs
section
def Ext (sg sg':List QSym):Prop:=∃ l,sg'=sg++l∧∀ e∈l,e.2.1=2∧e.2.2.2=1
theorem Ext.refl (sg:List QSym):Ext sg sg:=⟨[],by simp,fun e h=>nomatch h⟩
theorem Ext.trans {a b c:List QSym} (h:Ext a b) (h':Ext b c):Ext a c:=by
 obtain⟨l,rfl,hl⟩:=h
 obtain⟨m,rfl,hm⟩:=h'
 exact ⟨l++m,by rw[List.append_assoc],fun e he=>(List.mem_append.1 he).elim (hl e) (hm e)⟩
theorem Ext.get {a b:List QSym} (h:Ext a b) {i:Nat} {e:QSym} (he:a[i]? = some e):b[i]? = some e:=by
 obtain⟨l,rfl,-⟩:=h
 rw[List.getElem?_append_left (List.getElem?_eq_some_iff.1 he).1,he]
theorem arity_more {a b:List QSym} (h:Ext a b) {x:Int} {k:Nat} (hk:arity a x=some k):arity b x=some k:=by
 unfold arity at hk ⊢
 cases hx:decide (x<0) with
 | true=>rw[hx] at hk; exact hk
 | false =>
  rw[hx] at hk
  simp only[cond_false] at hk ⊢
  cases he:a[x.toNat]? with
  | none=>rw[he] at hk; cases hk
  | some e=>rw[he] at hk; rw[h.get he]; exact hk
mutual
theorem ok_more {a b:List QSym} (h:Ext a b) {N:Nat}:(t:Tm)→t.ok a N→t.ok b N
 | .v _,ht=>ht
 | .f _ as,ht=>⟨arity_more h ht.1,okR_more h as ht.2⟩
theorem okR_more {a b:List QSym} (h:Ext a b) {N:Nat}:(ts:List Tm)→okR a N ts→okR b N ts
 | [],_=>trivial
 | t::ts,ht=>⟨ok_more h t ht.1,okR_more h ts ht.2⟩
end
def setS (σ:Sb) (v:Nat) (t:Tm):Sb:=fun x=>if x=v then t else σ x
end
end Go.Abs.Q
namespace Go.Abs.Q
open Go Go.Abs
section
end
end Go.Abs.Q
namespace Go.Abs.Q
open Go Go.Abs
section
end
end Go.Abs.Q
namespace Go.Abs.Q
open Go Go.Abs
section
def plainF:Fm→Prop
 | .atom a=>∀ c∈a,0≤c
 | .not f=>plainF f
 | .qu _ _ _=>False
 | .bin _ f g=>plainF f∧plainF g
theorem plain_free:(t:Fm)→plainF t→(x:Int)→freeB t x=false
 | .atom a,h,x=>by
  rw[Bool.eq_false_iff]
  intro hx
  obtain⟨c,hc,h1,-⟩:=free_var.1 hx
  have:=h c hc
  omega
 | .not f,h,x=>plain_free f h x
 | .qu _ _ _,h,_=>h.elim
 | .bin _ f g,h,x=>by rw[freeB,plain_free f h.1,plain_free g h.2]; rfl
theorem plain_freeL {t:Fm} (h:plainF t):freeL t=[]:=by
 unfold freeL
 rw[List.filter_eq_nil_iff]
 intro x _
 rw[plain_free t h]
 simp
theorem plain_part:(t:Fm)→plainF t→(d:Bool)→(to:List (List Int))→(un:List Int)→(vs:Int)→(sg:List QSym)→(partT t d to un vs sg).2.2=(vs,sg)
 | .atom a,_,d,to,un,vs,sg=>rfl
 | .not f,h,d,to,un,vs,sg=>plain_part f h (!d) to un vs sg
 | .qu _ _ _,h,_,_,_,_,_=>h.elim
 | .bin q f g,h,d,to,un,vs,sg=>by
  rw[partT]
  have h1:=plain_part f h.1 (!(d==(q==4))) to un vs sg
  generalize partT f (!(d==(q==4))) to un vs sg=p at h1 ⊢
  cases p.1 != 0 with
  | true=>exact h1
  | false =>
   simp only[cond_false]
   have h2:=plain_part g h.2 d to un p.2.2.1 p.2.2.2
   rw[h1] at h2
   rw[h1]
   simp only at h2 ⊢
   generalize partT g d to un vs sg=r at h2 ⊢
   cases r.1 != 0 with
   | true=>exact h2
   | false =>
    simp only[cond_false]
    unfold partT.joinC
    cases d==(q==2) with
    | true=>exact h2
    | false =>
     simp only[cond_false]
     cases decide (p.2.1.length+r.2.1.length>16)
     ·exact h2
     ·exact h2
theorem walk_flat {a0:List QSym}:(t:Fm)→t.ok a0=true→(n:Nat)→(rest:List QNode)→walkB a0 (n+1) (t.flat++rest)=walkB a0 n rest
 | .atom a,h,n,rest=>by
  have h:atomB a0 a=true:=h
  show (decide (0≤partN 0)&&(nodeB a0 (0,0,a)&&walkB a0 (n+(partN 0).toNat) rest))=_
  have:nodeB a0 (0,0,a)=true:=by unfold nodeB; rw[show ((((0:Int),(0:Int),a):QNode).1==0)=true from rfl,cond_true,h]; rfl
  rw[this]
  rfl
 | .not f,h,n,rest=>by
  show (decide (0≤partN 1)&&(nodeB a0 (1,0,[])&&walkB a0 (n+(partN 1).toNat) (f.flat++rest)))=_
  have:=walk_flat f h n rest
  exact this
 | .qu q v f,h,n,rest=>by
  unfold Fm.ok at h
  simp only[Bool.and_eq_true,Bool.or_eq_true,beq_iff_eq] at h
  obtain⟨⟨⟨hq,hv0⟩,hv1⟩,h⟩:=h
  have e1:nodeB a0 (q,v,[])=true:=by
   unfold nodeB
   rcases hq with rfl | rfl<;>simp only[Int.reduceBEq,cond_false,cond_true,Bool.or_true,Bool.or_false,Bool.true_or]<;>rw[show decide (v≥0)=true from hv0,hv1]<;>rfl
  show (decide (0≤partN q)&&(nodeB a0 (q,v,[])&&walkB a0 (n+(partN q).toNat) (f.flat++rest)))=_
  rw[e1]
  have:=walk_flat f h n rest
  rcases hq with rfl | rfl<;>exact this
 | .bin q f g,h,n,rest=>by
  unfold Fm.ok at h
  simp only[Bool.and_eq_true,Bool.or_eq_true,beq_iff_eq] at h
  obtain⟨⟨hq,hf⟩,hg⟩:=h
  have e:(Fm.bin q f g).flat++rest=(q,0,[])::(f.flat++(g.flat++rest)):=by simp [Fm.flat]
  rw[e]
  show (decide (0≤partN q)&&(nodeB a0 (q,0,[])&&walkB a0 (n+(partN q).toNat) (f.flat++(g.flat++rest))))=_
  have h1:=walk_flat f hf (n+1) (g.flat++rest)
  have h2:=walk_flat g hg n rest
  rcases hq with (rfl | rfl) | rfl<;>exact h1.trans h2
theorem fmayB_flat {a0:List QSym} (hs:sigB a0=true) {t:Fm} (ht:t.ok a0=true) (hl:t.flat.length≤40):fmayB a0 t.flat=true:=by
 unfold fmayB
 have:=walk_flat t ht 0 []
 rw[List.append_nil] at this
 rw[hs,decide_eq_true hl,this]
 rfl
theorem flat_len {a0:List QSym}:(t:Fm)→t.ok a0=true→∀ e∈t.flat,e.2.2.length≤1000000
 | .atom a,h,e,he=>by
  have:=atomB_len (show atomB a0 a=true from h)
  rw[List.mem_singleton.1 (show e∈[(0,0,a)] from he)]
  show a.length≤1000000
  omega
 | .not f,h,e,he=>by
  rcases List.mem_cons.1 (show e∈(1,0,[])::f.flat from he) with rfl | he
  ·exact Nat.zero_le _
  ·exact flat_len f h e he
 | .qu q v f,h,e,he=>by
  unfold Fm.ok at h
  rw[Bool.and_eq_true] at h
  rcases List.mem_cons.1 (show e∈(q,v,[])::f.flat from he) with rfl | he
  ·exact Nat.zero_le _
  ·exact flat_len f h.2 e he
 | .bin q f g,h,e,he=>by
  unfold Fm.ok at h
  rw[Bool.and_eq_true,Bool.and_eq_true] at h
  rcases List.mem_cons.1 (show e∈(q,0,[])::(f.flat++g.flat) from he) with rfl | he
  ·exact Nat.zero_le _
  ·exact (List.mem_append.1 he).elim (flat_len f h.1.2 e) (flat_len g h.2 e)
theorem ands_L0 {s0:List QSym} {xs:List QNode} {i:Nat} {e:QNode} (he:xs[i]? = some e) (hl:e.2.2.length≤1000000):(m j k:Nat)→e.2.2.length - j=m→m<k →
  ∃ r,lp law23_CnfAnds_L0 k (s0,xs,(i:Int),(j:Int))=some r∧(r = .inr true∨(r = .inl ()∧∀ c∈e.2.2.drop j,0≤c))
 | m,j,k,hm,hk=>by
  obtain⟨k,rfl⟩:∃ k',k=k'+1:=⟨k - 1,by omega⟩
  rw[lp_succ]
  have ih:∀ m',m=m'+1→∃ r,lp law23_CnfAnds_L0 k (s0,xs,(i:Int),((j+1:Nat):Int))=some r∧(r = .inr true∨(r = .inl ()∧∀ c∈e.2.2.drop (j+1),0≤c)):=fun m' h=>by
   subst h
   exact ands_L0 he hl m' (j+1) k (by omega) (by omega)
  generalize lp law23_CnfAnds_L0 k=rec at ih ⊢
  unfold law23_CnfAnds_L0
  simp only[gx_nat,he,Option.bind_some]
  by_cases hj:j<e.2.2.length
  ·rw[decide_eq_true (by omega),cond_true,List.getElem?_eq_getElem hj,Option.bind_some]
   have hd:e.2.2.drop j=e.2.2[j]::e.2.2.drop (j+1):=List.drop_eq_getElem_cons hj
   by_cases hc:e.2.2[j]<0
   ·rw[decide_eq_true hc]
    exact ⟨_,rfl,.inl rfl⟩
   ·rw[decide_eq_false hc,cond_false,show IntKind.wrap .i64 ((j:Int)+1)=((j+1:Nat):Int) by rw[wrap64]<;>omega]
    obtain⟨r,h1,h2⟩:=ih (m - 1) (by omega)
    refine ⟨r,h1,h2.imp id fun h=>⟨h.1,fun c hcm => ?_⟩⟩
    rw[hd] at hcm
    rcases List.mem_cons.1 hcm with rfl | hcm
    ·omega
    ·exact h.2 c hcm
  ·rw[decide_eq_false (by omega),cond_false]
   exact ⟨_,rfl,.inr ⟨rfl,fun c hc=>by rw[List.drop_eq_nil_of_le (by omega)] at hc; cases hc⟩⟩
theorem ands_L1 {s0:List QSym} {xs:List QNode} (hm:∀ e∈xs,e.2.2.length≤1000000):(es:List QNode)→(i:Nat)→xs.drop i=es →
  ∃ r,law23_CnfAnds_L1_go s0 xs es i=some r∧(r = .inr true∨(r = .inl ()∧∀ e∈es,e.1≠5∧e.1≠6∧∀ c∈e.2.2,0≤c))
 | [],i,_=>⟨_,rfl,.inr ⟨rfl,fun e h=>nomatch h⟩⟩
 | e::es,i,h=>by
  unfold law23_CnfAnds_L1_go
  by_cases h5:e.1=5
  ·rw[show (e.1==5)=true from by simp [h5]]; exact ⟨_,rfl,.inl rfl⟩
  by_cases h6:e.1=6
  ·rw[show (e.1==5)=false from by simpa using h5,show (e.1==6)=true from by simp [h6]]; exact ⟨_,rfl,.inl rfl⟩
  rw[show (e.1==5)=false from by simpa using h5,show (e.1==6)=false from by simpa using h6,cond_false,cond_false]
  have he:xs[i]? = some e:=drop_cons_get h
  have hlen:=hm e (List.mem_of_getElem? he)
  obtain⟨r,h1,h2⟩:=ands_L0 (s0:=s0) he hlen e.2.2.length 0 fuel (Nat.sub_zero _) (Nat.lt_of_le_of_lt hlen (by decide))
  rw[show ((0:Int))=((0:Nat):Int) from rfl,h1,Option.bind_some]
  rcases h2 with rfl | ⟨rfl,h2⟩
  ·exact ⟨_,rfl,.inl rfl⟩
  ·obtain⟨r,h3,h4⟩:=ands_L1 hm es (i+1) (drop_cons_next h)
   refine ⟨r,h3,h4.imp id fun h=>⟨h.1,fun x hx => ?_⟩⟩
   rcases List.mem_cons.1 hx with rfl | hx
   ·exact ⟨h5,h6,by simpa using h2⟩
   ·exact h.2 x hx
theorem plain_of:(t:Fm)→{a0:List QSym}→t.ok a0=true→(∀ e∈t.flat,e.1≠5∧e.1≠6∧∀ c∈e.2.2,0≤c)→plainF t
 | .atom a,_,_,h=>(h (0,0,a) (by simp [Fm.flat])).2.2
 | .not f,_,ht,h=>plain_of f ht fun e he=>h e (List.mem_cons_of_mem _ he)
 | .qu q v f,a0,ht,h=>by
  unfold Fm.ok at ht
  simp only[Bool.and_eq_true,Bool.or_eq_true,beq_iff_eq] at ht
  have:=h (q,v,[]) (by simp [Fm.flat])
  rcases ht.1.1.1 with hq | hq
  ·exact absurd hq this.1
  ·exact absurd hq this.2.1
 | .bin q f g,a0,ht,h=>by
  unfold Fm.ok at ht
  rw[Bool.and_eq_true,Bool.and_eq_true] at ht
  exact ⟨plain_of f ht.1.2 fun e he=>h e (by simp [Fm.flat,he]),plain_of g ht.2 fun e he=>h e (by simp [Fm.flat,he])⟩
theorem copyClauses_go:(es out:List ClT)→(∀ c∈es,law0_CopyClause c.1 c.2.1 c.2.2=some (c.1,c.2.1,c.2.2))→out.length+es.length≤1000→law0_CopyClauses_L0_go es out=some (out++es)
 | [],out,_,_=>by unfold law0_CopyClauses_L0_go; rw[List.append_nil]
 | e::es,out,h,hl=>by
  rw[List.length_cons] at hl
  unfold law0_CopyClauses_L0_go
  rw[h e (List.mem_cons_self ..),Option.bind_some,room_ok (by simp; omega),cond_true,copyClauses_go es _ (fun c hc=>h c (List.mem_cons_of_mem _ hc)) (by simp; omega),List.append_assoc]
  rfl
theorem copyClauses_eq {xs:List ClT} (h:∀ c∈xs,law0_CopyClause c.1 c.2.1 c.2.2=some (c.1,c.2.1,c.2.2)) (hl:xs.length≤1000):law0_CopyClauses xs=some xs:=by
 unfold law0_CopyClauses
 rw[law0_CopyClauses_L0_go_at0 _ _ (by unfold maxLen; omega),copyClauses_go xs [] h (by simp; omega)]
 rfl
theorem may_copy {sg:List QSym} {L:List QLit} {T:List (List Int)} {C:List QLit} (h:mayB sg L T C=true):law0_CopyClause L T C=some (L,T,C):=by
 obtain⟨h0,h1,h2,h3,h4,h5,h6,h7⟩:=mayB_spec h
 have hl:=litsB_small h4
 have hr:∀ r∈T,r.length≤1000:=fun r hr=>(may_cds (signB_ok h0) h r (mem_rows_row hr)).1
 have hc:=litsB_small h6
 exact (copy_clause (by omega) (fun l hl'=>Nat.le_trans (hl l hl').1 (by decide)) (by omega) (fun r hr'=>Nat.le_trans (hr r hr') (by decide)) (by omega) fun l hl'=>Nat.le_trans (hc l hl').1 (by decide)).1
theorem normV_copy (sg:List QSym) (c:ClT):law0_CopyClause (normV sg c).1 (normV sg c).2.1 (normV sg c).2.2=some ((normV sg c).1,(normV sg c).2.1,(normV sg c).2.2):=by
 unfold normV
 cases h:mayB sg c.1 c.2.1 c.2.2 with
 | false=>rfl
 | true=>exact may_copy (norm_may h)
theorem law23_CnfAnds_true (a0:List QSym) (f g:List QNode):law23_CnfAnds a0 f g=some true:=by
 unfold law23_CnfAnds
 rw[law23_awake_eq,Option.bind_some]
 simp only[Bool.not_true,cond_false]
 have tot:∀ f,∃ r,cnf_Clauses a0 f=some r:=fun f=>by
  cases h:fmayB a0 f with
  | false=>exact ⟨_,cnf_Clauses_bad h⟩
  | true =>
   obtain⟨-,-,t,rfl,ht⟩:=fmayB_tree h
   exact ⟨_,cnf_Clauses_eq h ht⟩
 cases hf:fmayB a0 f with
 | false =>
  obtain⟨r,hr⟩:=tot g
  rw[cnf_Clauses_bad hf,hr]
  rfl
 | true =>
  cases hg:fmayB a0 g with
  | false =>
   obtain⟨r,hr⟩:=tot f
   rw[hr,cnf_Clauses_bad hg,Option.bind_some,Option.bind_some]
   show cond (r.2.1 != 0) _ _=_
   cases r.2.1 != 0<;>rfl
  | true =>
   obtain⟨h1,hfl,tf,rfl,htf⟩:=fmayB_tree hf
   obtain⟨-,hgl,tg,rfl,htg⟩:=fmayB_tree hg
   have hsb:signB a0=true:=by unfold sigB at h1; rw[Bool.and_eq_true] at h1; exact h1.1
   rw[cnf_Clauses_eq hf htf,cnf_Clauses_eq hg htg,Option.bind_some,Option.bind_some]
   show cond ((clausesT a0 tf).2.1 != 0) (some true) (cond ((clausesT a0 tg).2.1 != 0) (some true) _)=_
   cases c1:(clausesT a0 tf).2.1 != 0 with
   | true=>rfl
   | false =>
    cases c2:(clausesT a0 tg).2.1 != 0 with
    | true=>rfl
    | false =>
     simp only[cond_false]
     rw[wrap64 (by omega) (by omega)]
     by_cases h40:((List.length tf.flat:Nat):Int)+((List.length tg.flat:Nat):Int)≥40
     ·rw[decide_eq_true h40]; rfl
     rw[decide_eq_false h40,cond_false,room_ok (by simp; omega),cond_true,room_ok (by simp; omega),cond_true]
     have hxl:([(2,0,[])]++tf.flat++tg.flat:List QNode).length≤1000:=by simp; omega
     have hxm:∀ e∈([(2,0,[])]++tf.flat++tg.flat:List QNode),e.2.2.length≤1000000:=fun e he=>by
      rcases List.mem_append.1 he with he | he
      ·rcases List.mem_append.1 he with he | he
       ·rw[List.mem_singleton.1 he]; simp
       ·exact flat_len tf htf e he
      ·exact flat_len tg htg e he
     obtain⟨r,e1,e2⟩:=ands_L1 (s0:=a0) hxm ([(2,0,[])]++tf.flat++tg.flat) 0 rfl
     rw[law23_CnfAnds_L1_go_at0 _ _ (by unfold maxLen; omega),e1,Option.bind_some]
     rcases e2 with rfl | ⟨rfl,e2⟩
     ·rfl
     have pf:plainF tf:=plain_of tf htf fun e he=>e2 e (by simp [he])
     have pg:plainF tg:=plain_of tg htg fun e he=>e2 e (by simp [he])
     have pb:plainF (.bin 2 tf tg):=⟨pf,pg⟩
     have hok:(Fm.bin 2 tf tg).ok a0=true:=by unfold Fm.ok; rw[htf,htg]; rfl
     have hfb:fmayB a0 (Fm.bin 2 tf tg).flat=true:=fmayB_flat h1 hok (by simp [Fm.flat]; omega)
     have e3:cnf_Clauses a0 ([(2,0,[])]++tf.flat++tg.flat)=some (clausesT a0 (.bin 2 tf tg)):=cnf_Clauses_eq hfb hok
     show (cnf_Clauses a0 ([(2,0,[])]++tf.flat++tg.flat)).bind _=_
     rw[e3,Option.bind_some]
     -- the three
     have s0:∀ t,plainF t→startT t=(List.replicate 24 [],[],0):=fun t h=>by unfold startT; rw[plain_freeL h]; rfl
     have m1:(mainT a0 tf).2.2=(0,a0):=by unfold mainT; rw[s0 tf pf]; exact plain_part tf pf _ _ _ _ _
     have m2:(mainT a0 tg).2.2=(0,a0):=by unfold mainT; rw[s0 tg pg]; exact plain_part tg pg _ _ _ _ _
     have z1:(mainT a0 tf).1=0:=by
      unfold clausesT at c1
      cases hz:(mainT a0 tf).1 != 0 with
      | true=>rw[hz] at c1; simp only[cond_true] at c1; rw[hz] at c1; cases c1
      | false=>simpa using hz
     have z2:(mainT a0 tg).1=0:=by
      unfold clausesT at c2
      cases hz:(mainT a0 tg).1 != 0 with
      | true=>rw[hz] at c2; simp only[cond_true] at c2; rw[hz] at c2; cases c2
      | false=>simpa using hz
     have q1:clausesT a0 tf=(a0,0,keepT a0 (mainT a0 tf).2.1):=by unfold clausesT; rw[z1,m1]; rfl
     have q2:clausesT a0 tg=(a0,0,keepT a0 (mainT a0 tg).2.1):=by unfold clausesT; rw[z2,m2]; rfl
     have m3:mainT a0 (.bin 2 tf tg)=cond (decide ((mainT a0 tf).2.1.length+(mainT a0 tg).2.1.length>16)) (2303,[],0,a0) (0,(mainT a0 tf).2.1++(mainT a0 tg).2.1,0,a0):=by
      have y1:mainT a0 tf=partT tf false (List.replicate 24 []) [] 0 a0:=by unfold mainT; rw[s0 tf pf]
      have y2:mainT a0 tg=partT tg false (List.replicate 24 []) [] 0 a0:=by unfold mainT; rw[s0 tg pg]
      have y3:mainT a0 (.bin 2 tf tg)=partT (.bin 2 tf tg) false (List.replicate 24 []) [] 0 a0:=by unfold mainT; rw[s0 _ pb]
      rw[y3,partT]
      simp only[show (!(false==((2:Int)==4)))=false from rfl]
      rw[← y1,z1,m1]
      simp only[bne_self_eq_false,cond_false]
      rw[← y2,z2]
      simp only[bne_self_eq_false,cond_false]
      unfold partT.joinC
      rw[m2]
      rfl
     obtain⟨b1,-,-⟩:=clausesT_small hf htf
     obtain⟨b2,-,-⟩:=clausesT_small hg htg
     have h20:=(signB_ok hsb).len
     have hkl:(clausesT a0 tf).2.2.length+(clausesT a0 tg).2.2.length≤1000:=by omega
     by_cases h16:(mainT a0 tf).2.1.length+(mainT a0 tg).2.1.length>16
     ·have q3:clausesT a0 (.bin 2 tf tg)=([],2303,[]):=by unfold clausesT; rw[m3,decide_eq_true h16]; rfl
      rw[q3]
      rfl
     ·have q3:clausesT a0 (.bin 2 tf tg)=(a0,0,(clausesT a0 tf).2.2++(clausesT a0 tg).2.2):=by
       unfold clausesT
       rw[m3,decide_eq_false h16]
       have:(clausesT a0 tf).2.2++(clausesT a0 tg).2.2=keepT a0 ((mainT a0 tf).2.1++(mainT a0 tg).2.1):=by
        rw[q1,q2]
        unfold keepT
        rw[List.filter_append,List.map_append]
       unfold clausesT at this
       rw[this]
       rfl
      rw[q3]
      have g1:∀ c∈(clausesT a0 tf).2.2,law0_CopyClause c.1 c.2.1 c.2.2=some (c.1,c.2.1,c.2.2):=fun c hc=>by
       rw[q1] at hc
       obtain⟨d,-,rfl⟩:=List.mem_map.1 hc
       exact normV_copy a0 d
      have g2:∀ c∈(clausesT a0 tf).2.2++(clausesT a0 tg).2.2,GoodC c:=fun c hc=>by
       rw[q1,q2] at hc
       rcases List.mem_append.1 hc with hc | hc
       ·exact keepT_good c hc
       ·exact keepT_good c hc
      simp only[show law0_Num 0=some 0 from rfl,Option.bind_some,show ((0:Int)==2303)=false from rfl,cond_false,beq_self_eq_true,cond_true]
      rw[copyClauses_eq g1 (by omega),Option.bind_some,room_ok (by omega),cond_true,sameClauses_refl g2 (by rw[List.length_append]; omega)]
      rfl
end
end Go.Abs.Q
