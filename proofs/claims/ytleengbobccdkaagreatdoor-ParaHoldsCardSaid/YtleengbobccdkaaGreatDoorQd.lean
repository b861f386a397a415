import Derived.Test.YtleengbobccdkaaGreatDoorQc
/-
  What the functions make of plain values, and what the law says of that.
-/
namespace Go.Abs.Q
open Go Go.Abs
section
theorem zsx {m:Int} {nums:List Int} {env:Nat→Int}:(ts:List Tm)→zfN m nums env ts=ts.map (zee m nums env)
 | []=>rfl
 | t::ts=>by rw[zfN,zsx ts]; rfl
theorem RT.val {m:Int} {nums:List Int} {env:Nat→Int} {t u a b:Tm} (h:RT t u a b) (hv:zee m nums env t=zee m nums env u):zee m nums env a=zee m nums env b:=by
 induction h with
 | here=>exact hv
 | arg c l r h ih=>simp only[zee,zsx,List.map_append,List.map_cons,ih]
theorem RR.val {m:Int} {nums:List Int} {env:Nat→Int} {t u:Tm} {ts us:List Tm} (h:RR t u ts us) (hv:zee m nums env t=zee m nums env u):zfN m nums env ts=zfN m nums env us:=by
 obtain⟨l,a,b,r,rfl,rfl,h⟩:=h
 simp only[zsx,List.map_append,List.map_cons,h.val hv]
theorem ztr {θ:Sb} {t u:Tm} (h:Sol θ ([t].zip [u])):t.sub θ=u.sub θ:=by
 have:=(Sol.zip (ts:=[t]) (us:=[u]) rfl).1 h
 simpa[zaU] using this
theorem zHJ {ls:List zde} {k:Nat} {x:zde}:(ls.map cl).set k (cl x)=(ls.set k x).map cl:=by rw[List.map_set]
section
variable {m:Nat} (hm:0<m) (hm3:m≤3) {nums:List Int} (hn:zdB nums) {a0:List zi} (hs:SignOk a0)
include hm hm3 hn hs
theorem zuf {L:List zde} {T:List (List Tm)} {C:List zde} (hmay:zb5 a0 (L.map cl) (T.map za) (C.map cl)=true) (hL:∀ l∈L,WfL a0 l) (hT:∀ r∈T,WfR a0 r) (hC:∀ l∈C,WfL a0 l)
  {L':List zde} {T':List (List Tm)} {C':List zde} (hmay':zb5 a0 (L'.map cl) (T'.map za) (C'.map cl)=true) (hL':∀ l∈L',WfL a0 l) (hT':∀ r∈T',WfR a0 r) (hC':∀ l∈C',WfL a0 l) {i side j:Int} {at':Nat} {r:zmq}
  (hi:eqB (L.map cl) i false=true) (hsd:side=0∨side=1) (hj0:0≤j) (hj1:j<(L'.map cl).length) (h1:1≤at') (h2:at'<zbD (L'.map cl) j) (hr:zdx a0 (L.map cl) (T.map za) (C.map cl) i side (L'.map cl) (T'.map za) (C'.map cl) j (at':Int)=some r) (g1:r.2.2.1=true) (g2:r.2.2.2.1=0)
  (H:Holds m nums L T C) (H':Holds m nums L' T' C'):zH (m:Int) nums a0 r.1 r.2.1 r.2.2.2.2=some true:=by
 obtain⟨A,k1,k2⟩:=zoY hi
 obtain⟨⟨n',A'⟩,k3,-⟩:=zkn hj0 hj1
 have h2:at'<A'.length:=by unfold zbD at h2; rwa [k3] at h2
 rw[zyg hmay hmay' hi hsd hj0 hj1 h1 (by unfold zbD; rw[k3]; exact h2)] at hr
 obtain⟨s0,s1,fr,to,rfl,ok0,ok1,hft,o,o1,-,o3⟩:=zq2 hmay hmay' k1 k2 k3 hsd h1 h2
 rw[hr] at o1
 subst o1
 have no:∀{k:Int},some r=zcN k→False:=fun e=>by
  injection e with e
  rw[e] at g1
  cases g1
 rcases o3 with ⟨_,_,_,e⟩ | ⟨v,b,c,us,-,-,hb,-,rfl,ho',⟨e,_⟩ | ⟨hnear,t,x,y,ht,e5,-,hou,hrep,⟨e,_⟩ | ⟨σ,hmgu,hok,⟨e,_⟩ | ⟨-,-,-,k,-,⟨e,_⟩ | ⟨e,-⟩⟩⟩⟩⟩
 ·exact (no e).elim
 ·exact (no e).elim
 ·exact (no e).elim
 ·exact (no e).elim
 ·exact (no e).elim
 obtain⟨ws,hrr,hws⟩:=hrep to
 have okto:to.ok a0 24:=by rcases hft with ⟨-,-,rfl⟩ | ⟨-,-,rfl⟩<;>assumption
 have okws:=hrr.ok okto hou
 obtain⟨hj0',lj,hlj,ej⟩:=zEA k3
 obtain⟨hi0',li,hli,ei⟩:=zEA k1
 have near:∀ x,zo7 L' T' C' x→x+b<24:=fun x hx=>by
  have:=hnear (x:Int) (zhP.2 hx)
  omega
 have eset:(zgO (b:Int) (L'.map cl)).set j.toNat (n',(c:Int)::(x++to.codes++y))=((L'.map (zcA (upS b))).set j.toNat (n',c,ws)).map cl:=by
  rw[zvw,← zHJ]
  unfold cl
  rw[hws]
 have eL:zu i (L.map cl) 0++(zgO (b:Int) (L'.map cl)).set j.toNat (n',(c:Int)::(x++to.codes++y))=(zu i L 0++(L'.map (zcA (upS b))).set j.toNat (n',c,ws)).map cl:=by
  rw[eset,zjL,List.map_append]
 have eT:zoK b (T.map za) (T'.map za)=(T++T'.map (zaU (upS b))).map za:=by
  unfold zoK
  rw[zut,List.map_append]
 have eC:zo6 b (C.map cl) (C'.map cl)=(C++C'.map (zcA (upS b))).map cl:=by
  unfold zo6
  rw[zvw,List.map_append]
 rw[eL,eT,eC] at e
 obtain⟨r',q1,q2⟩:=zly (a0:=a0) (σ:=σ) (L:=(zu i L 0++(L'.map (zcA (upS b))).set j.toNat (n',c,ws)).map cl) (T:=(T++T'.map (zaU (upS b))).map za) (C:=(C++C'.map (zcA (upS b))).map cl) (k:=1502) (by omega)
 rw[q1] at e
 injection e with e
 subst e
 obtain⟨g3,g4⟩:=q2 g2
 have okU:∀{ts:List Tm},okR a0 24 ts→(∀ x,zjz x ts→x+b<24)→okR a0 24 (zaU (upS b) ts):=fun {ts} h h2=>zkI ts h h2
 have oL':∀ l∈L'.map (zcA (upS b)),okR a0 24 l.2.2:=fun l hl=>by
  obtain⟨k,hk,rfl⟩:=List.mem_map.1 hl
  exact okU (hL' k hk).1 fun x hx=>near x (.inl ⟨k,hk,hx⟩)
 have oL:∀ l∈zu i L 0++(L'.map (zcA (upS b))).set j.toNat (n',c,ws),okR a0 24 l.2.2:=fun l hl=>by
  rcases List.mem_append.1 hl with hl | hl
  ·exact (hL l (zdW L 0 hl)).1
  ·rcases zsr hl with hl | rfl
   ·exact oL' l hl
   ·exact okws
 have oT:∀ r∈T++T'.map (zaU (upS b)),okR a0 24 r:=fun l hl=>by
  rcases List.mem_append.1 hl with hl | hl
  ·exact (hT l hl).1
  ·obtain⟨k,hk,rfl⟩:=List.mem_map.1 hl
   exact okU (hT' k hk).1 fun x hx=>near x (.inr (.inl ⟨k,hk,hx⟩))
 have oC:∀ l∈C++C'.map (zcA (upS b)),okR a0 24 l.2.2:=fun l hl=>by
  rcases List.mem_append.1 hl with hl | hl
  ·exact (hC l hl).1
  ·obtain⟨k,hk,rfl⟩:=List.mem_map.1 hl
   exact okU (hC' k hk).1 fun x hx=>near x (.inr (.inr ⟨k,hk,hx⟩))
 obtain⟨-,f2⟩:=znY hm hm3 hn hs hok oL oT oC g3
 rw[← g4] at f2
 refine f2 fun E hE => ?_
 have hv:∀ x,zo7 L T C x→x<24:=fun x hx=>by
  rcases hx with ⟨l,hl,hx⟩ | ⟨l,hl,hx⟩ | ⟨l,hl,hx⟩
  ·exact zeK _ (hL l hl).1 hx
  ·exact zeK _ (hT l hl).1 hx
  ·exact zeK _ (hC l hl).1 hx
 have H1:=H.inst hm hn hs hok hv hE
 have H2:zfQ (m:Int) nums (fun n=>zee (m:Int) nums (zbf E) (σ n)) (L'.map (zcA (upS b))) (T'.map (zaU (upS b))) (C'.map (zcA (upS b)))=true:=by
  rw[znh]
  obtain⟨E',hE',he'⟩:=zpn hm hn hs (env:=zbf E) (fun x hx=>hE.val hx) (σ:=fun x=>σ (if x+b<24 then x+b else 0)) (fun x _=>hok _ (by split<;>omega))
  rw[← H' E' hE']
  refine zj7 fun x hx => ?_
  have:=near x hx
  rw[he' x (by omega),if_pos this]
  rfl
 -- the literal of the equation, if it is that which is true
 have zGp:zlx (m:Int) nums (fun n=>zee (m:Int) nums (zbf E) (σ n)) li=true→zee (m:Int) nums (fun n=>zee (m:Int) nums (zbf E) (σ n)) t=zee (m:Int) nums (fun n=>zee (m:Int) nums (zbf E) (σ n)) to:=by
  intro hl
  have hv1:zee (m:Int) nums (fun n=>zee (m:Int) nums (zbf E) (σ n)) fr=zee (m:Int) nums (fun n=>zee (m:Int) nums (zbf E) (σ n)) t:=by
   rw[← zkj,← zkj,ztr hmgu.sol]
  injection ei with a1 a2
  injection a2 with a2 a3
  have a3:=zbw _ [s0,s1] li.2.2 (Nat.le_refl _) ⟨ok0,ok1,trivial⟩ (hL li (List.mem_of_getElem? hli)).1 a3
  have a2:li.2.1=0:=by omega
  unfold zlx zqS at hl
  rw[← a1,← a3,a2] at hl
  have hv2:zee (m:Int) nums (fun n=>zee (m:Int) nums (zbf E) (σ n)) s0=zee (m:Int) nums (fun n=>zee (m:Int) nums (zbf E) (σ n)) s1:=by
   simpa[zfN] using hl
  rcases hft with ⟨-,rfl,rfl⟩ | ⟨-,rfl,rfl⟩
  ·rw[← hv1,hv2]
  ·rw[← hv1,hv2]
 rcases zbz.1 H1 with ⟨k,hk,hkv⟩ | ⟨lk,hk,hkv⟩ | ⟨k,hk,hkv⟩
 ·exact zbz.2 (.inl ⟨k,List.mem_append_left _ hk,hkv⟩)
 ·obtain⟨q,hq,he⟩:=List.mem_iff_getElem.1 hk
  have hg:L[q]? = some lk:=by rw[List.getElem?_eq_getElem hq,he]
  by_cases hqi:(q:Int)=i
  ·have hlk:lk=li:=by
    have:q=i.toNat:=by omega
    rw[this,hli] at hg
    injection hg with hg
    exact hg.symm
   subst hlk
   have hsw:=zGp hkv
   rcases zbz.1 H2 with ⟨k',hk',hkv'⟩ | ⟨l2,hk',hkv'⟩ | ⟨k',hk',hkv'⟩
   ·exact zbz.2 (.inl ⟨k',List.mem_append_right _ hk',hkv'⟩)
   ·obtain⟨q',hq',he'⟩:=List.mem_iff_getElem.1 hk'
    have hg':(L'.map (zcA (upS b)))[q']? = some l2:=by rw[List.getElem?_eq_getElem hq',he']
    by_cases hqj:q'=j.toNat
    ·subst hqj
     refine zbz.2 (.inr (.inl ⟨(n',c,ws),List.mem_append_right _ (List.mem_iff_getElem.2 ⟨j.toNat,by rw[List.length_set]; exact hq',by rw[List.getElem_set_self]⟩),?_⟩))
     rw[List.getElem?_map,hlj] at hg'
     injection hg' with hg'
     have hg':zcA (upS b) lj=l2:=hg'
     injection ej with b1 b2
     injection b2 with b2 b3
     have b3:=zbw _ us lj.2.2 (Nat.le_refl _) ho' (hL' lj (List.mem_of_getElem? hlj)).1 b3
     rw[← hg'] at hkv'
     rw[← hkv']
     unfold zlx zqS zcA
     simp only
     have hc:lj.2.1=c:=by omega
     have hval:zfN (m:Int) nums (fun n=>zee (m:Int) nums (zbf E) (σ n)) ws=zfN (m:Int) nums (fun n=>zee (m:Int) nums (zbf E) (σ n)) (zaU (upS b) lj.2.2):=by
      rw[← b3,← zDh]
      exact (hrr.val hsw).symm
     rw[hval,hc,b1]
    ·refine zbz.2 (.inr (.inl ⟨l2,List.mem_append_right _ (List.mem_iff_getElem.2 ⟨q',by rw[List.length_set]; exact hq',?_⟩),hkv'⟩))
     rw[List.getElem_set_ne (Ne.symm hqj)]
     exact he'
   ·exact zbz.2 (.inr (.inr ⟨k',List.mem_append_right _ hk',hkv'⟩))
  ·exact zbz.2 (.inr (.inl ⟨lk,List.mem_append_left _ ((zje _ 0).2 ⟨q,hg,by simpa using hqi⟩),hkv⟩))
 ·exact zbz.2 (.inr (.inr ⟨k,List.mem_append_left _ hk,hkv⟩))
theorem zpx {L:List zde} {T:List (List Tm)} {C:List zde} (hmay:zb5 a0 (L.map cl) (T.map za) (C.map cl)=true) (hL:∀ l∈L,WfL a0 l) (hT:∀ r∈T,WfR a0 r) (hC:∀ l∈C,WfL a0 l) {i:Int} {r:zmq}
  (hi:eqB (L.map cl) i true=true) (hr:zaP a0 (L.map cl) (T.map za) (C.map cl) i=some r) (g1:r.2.2.1=true) (g2:r.2.2.2.1=0) (H:Holds m nums L T C):zH (m:Int) nums a0 r.1 r.2.1 r.2.2.2.2=some true:=by
 obtain⟨A,s0,s1,k1,rfl,ok0,ok1,o,o1,-,o3⟩:=zm6 hmay hi
 rw[hr] at o1
 subst o1
 rcases o3 with ⟨k,e⟩ | ⟨σ,hmgu,hok,e⟩
 ·injection e with e
  rw[e] at g1
  cases g1
 ·obtain⟨hi0',li,hli,ei⟩:=zEA k1
  rw[zjL] at e
  obtain⟨r',q1,q2⟩:=zly (a0:=a0) (σ:=σ) (L:=(zu i L 0).map cl) (T:=T.map za) (C:=C.map cl) (k:=1502) (by omega)
  rw[q1] at e
  injection e with e
  subst e
  obtain⟨g3,g4⟩:=q2 g2
  obtain⟨-,f2⟩:=znY hm hm3 hn hs hok (fun l hl=>(hL l (zdW L 0 hl)).1) (fun r hr=>(hT r hr).1) (fun l hl=>(hC l hl).1) g3
  rw[← g4] at f2
  refine f2 fun E hE => ?_
  have hv:∀ x,zo7 L T C x→x<24:=fun x hx=>by
   rcases hx with ⟨l,hl,hx⟩ | ⟨l,hl,hx⟩ | ⟨l,hl,hx⟩
   ·exact zeK _ (hL l hl).1 hx
   ·exact zeK _ (hT l hl).1 hx
   ·exact zeK _ (hC l hl).1 hx
  refine zt1 (H.inst hm hn hs hok hv hE) fun k hk l hl hlv => ?_
  exfalso
  have:l=li:=by
   have:k=i.toNat:=by omega
   rw[this,hli] at hl
   injection hl with hl
   exact hl.symm
  subst this
  injection ei with a1 a2
  injection a2 with a2 a3
  have a3:=zbw _ [s0,s1] l.2.2 (Nat.le_refl _) ⟨ok0,ok1,trivial⟩ (hL l (List.mem_of_getElem? hl)).1 a3
  have a2:l.2.1=0:=by omega
  have hval:zee (m:Int) nums (fun n=>zee (m:Int) nums (zbf E) (σ n)) s0=zee (m:Int) nums (fun n=>zee (m:Int) nums (zbf E) (σ n)) s1:=by
   rw[← zkj,← zkj,ztr hmgu.sol]
  unfold zlx zqS at hlv
  rw[← a1,← a3,a2] at hlv
  simp [zfN,hval] at hlv
end
theorem zsX (a0:List zi) {cs:List (List zc×List jI×List zc)} (hl:cs.length≤1000):(es:List (List zc×List jI×List zc))→(n k:Nat)→cs.drop n=es→es.length<k→∃ z,lp zct k (a0,cs,(n:Int))=some z
 | _,_,0,_,hk=>by omega
 | [],n,k+1,hn,_=>by
  rw[zj]
  generalize lp zct k=rec
  unfold zct
  simp only[zaq (yd hn),cond_false]
  exact ⟨_,rfl⟩
 | e::es,n,k+1,hn,hk=>by
  have hlt:=zD hn
  obtain⟨z,hz⟩:=zsX a0 hl es (n+1) k (ze hn) (by simpa using hk)
  obtain⟨x,hx⟩:=zlh a0 e.1 e.2.1 e.2.2
  rw[zj]
  generalize lp zct k=rec at hz ⊢
  unfold zct
  simp only[zbC hlt,cond_true,yx,zh hn,Option.bind_some,zbn hlt (show cs.length≤maxLen by unfold maxLen; omega),hx,show zdq x.1=some x.1 from rfl,hz]
  cases (x.1 != 0) with
  | true=>exact ⟨_,rfl⟩
  | false =>
   rw[cond_false]
   show ∃ z,cond (!decide (((List.length x.2:Nat):Int)≤6)) _ _=some z
   cases decide (((List.length x.2:Nat):Int)≤6) with
   | false=>exact ⟨_,rfl⟩
   | true=>exact ⟨z,rfl⟩
theorem zn9 (a0:List zi) (es:List (List zc×List jI×List zc)) (hl:es.length≤1000):∃ b,zij a0 es=some b:=by
 obtain⟨z,hz⟩:=zsX a0 hl es 0 zd rfl (Nat.lt_of_le_of_lt hl (by decide))
 unfold zij
 rw[show ((0:Nat):Int)=0 from rfl] at hz
 rw[hz,Option.bind_some]
 cases z with
 | inl _=>exact ⟨_,rfl⟩
 | inr b=>exact ⟨b,rfl⟩
def zAA (m:Nat) (nums:List Int) (a0:List zi) (s:qL):Prop:=zb5 a0 s.2.2.2.2.2.2.2.1 s.2.2.2.2.2.2.2.2.1 s.2.2.2.2.2.2.2.2.2=true∧zH (m:Int) nums a0 s.2.2.2.2.2.2.2.1 s.2.2.2.2.2.2.2.2.1 s.2.2.2.2.2.2.2.2.2=some true
theorem zpV {m:Nat} {nums:List Int} {a0:List zi} {L:List zc} {T:List jI} {C:List zc} {st:List qL} (hl:st.length≤100000):(es:List qL)→(n k:Nat)→st.drop n=es→es.length<k→(∀ s∈es,zAA m nums a0 s)→lp qk k (a0,st,(n:Int),L,T,C,(m:Int),nums)=some (.inl ())
 | _,_,0,_,hk,_=>by omega
 | [],n,k+1,hn,_,_=>by
  rw[zj]
  generalize lp qk k=rec
  unfold qk
  simp only[zaq (yd hn),cond_false]
 | e::es,n,k+1,hn,hk,hs=>by
  have hlt:=zD hn
  obtain⟨h1,h2⟩:=hs e (List.mem_cons_self ..)
  have ih:=zpV (L:=L) (T:=T) (C:=C) (m:=m) (nums:=nums) (a0:=a0) hl es (n+1) k (ze hn) (by simpa using hk) fun s h=>hs s (List.mem_cons_of_mem _ h)
  rw[zj]
  generalize lp qk k=rec at ih ⊢
  unfold qk
  simp only[zbC hlt,cond_true,yx,zh hn,Option.bind_some,zbn hlt (show st.length≤maxLen by unfold maxLen; omega),zK,h1,h2,Bool.not_true,cond_false,ih]
theorem zqm {m:Nat} {nums:List Int} {a0:List zi} {st:List qL} (hl:st.length≤100000):(es:List qL)→(n k:Nat)→st.drop n=es→es.length<k→(∀ s∈es,zAA m nums a0 s)→lp qu k (a0,st,(n:Int),(m:Int),nums)=some (.inl ())
 | _,_,0,_,hk,_=>by omega
 | [],n,k+1,hn,_,_=>by
  rw[zj]
  generalize lp qu k=rec
  unfold qu
  simp only[zaq (yd hn),cond_false]
 | e::es,n,k+1,hn,hk,hs=>by
  have hlt:=zD hn
  obtain⟨h1,h2⟩:=hs e (List.mem_cons_self ..)
  have ih:=zqm (m:=m) (nums:=nums) (a0:=a0) hl es (n+1) k (ze hn) (by simpa using hk) fun s h=>hs s (List.mem_cons_of_mem _ h)
  obtain⟨f,hf⟩:=zn9 a0 [(e.2.2.2.2.2.2.2.1,e.2.2.2.2.2.2.2.2.1,e.2.2.2.2.2.2.2.2.2)] (by simp)
  rw[zj]
  generalize lp qu k=rec at ih ⊢
  unfold qu
  simp only[zbC hlt,cond_true]
  cases decide ((n:Int)<12) with
  | false=>rfl
  | true =>
   simp only[cond_true,yx,zh hn,Option.bind_some,zbn hlt (show st.length≤maxLen by unfold maxLen; omega),zK,h1,h2,Bool.not_true,cond_false,ih,hf]
   cases f<;>rfl
theorem ziZ (a0:List zi) (L:List zc) (T:List jI) (C:List zc) (L':List zc) (T':List jI) (C':List zc) (k:Int) (nums:List Int) (hl:nums.length≤9223372036854775807):zaO a0 L T C L' T' C' k nums=some true:=by
 unfold zaO
 have hnum:∀ k:Int,zdq k=some k:=fun k=>rfl
 rw[znQ,Option.bind_some]
 simp only[Bool.not_true,cond_false,hnum,Option.bind_some]
 obtain⟨q',e1',e2'⟩:∃ q:Int×List qL,(∃ err,zar a0 L' T' C' 1=some (q.1,err,q.2))∧0≤q.1:=by
  cases h':zb5 a0 L' T' C' with
  | false=>exact ⟨(0,[]),⟨1500,(zqQ (a:=1) h').1⟩,Int.le_refl 0⟩
  | true =>
   obtain⟨q,e1,e2⟩:=zh8 (a:=1) (P:=fun _=>True) h' fun _ _ _ _ _ _ _ _=>trivial
   exact ⟨q,⟨0,e1⟩,e2.low⟩
 have bad:zb5 a0 L T C=false∨zb5 a0 L' T' C'=false→∀{X:Int×Int×List qL→Int×Int×List qL→Option Bool},((zeZ a0 L T C 0 L' T' C' 1).bind fun r37=>(zar a0 L' T' C' 1).bind fun r38=>cond (r37.2.1 != 0) (cond (decide (r37.1≥0)) (some (decide (r38.1≥0))) (some false)) (X r37 r38))=some true:=fun h X=>by
  obtain⟨err,e1'⟩:=e1'
  rw[zsd h,e1']
  show some (decide (q'.1≥0))=_
  rw[decide_eq_true (show q'.1≥0 from e2')]
 cases h:zb5 a0 L T C with
 | false=>exact bad (.inl h)
 | true =>
  cases h':zb5 a0 L' T' C' with
  | false=>exact bad (.inr h')
  | true =>
   have hs:=zbW (zv h).1
   obtain⟨Lt,Tt,Ct,rfl,rfl,rfl,hL,hT,hC⟩:=zpk h
   obtain⟨Lt',Tt',Ct',rfl,rfl,rfl,hL',hT',hC'⟩:=zpk h'
   obtain⟨m,hm,hm3,hnew⟩:=zAw k nums
   by_cases he:nums=[]
   ·obtain⟨p,p1,p2⟩:=zmR (a:=0) (b:=1) (P:=fun _=>True) h h' fun _ _ _ _ _ _ _ _ _ _ _ _ _ _ _ _=>trivial
    obtain⟨q,q1,q2⟩:=zh8 (a:=1) (P:=fun _=>True) h' fun _ _ _ _ _ _ _ _=>trivial
    rw[p1,q1,he]
    show cond (decide (p.1≥0)) (some (decide (q.1≥0))) (some false)=_
    rw[decide_eq_true (show p.1≥0 from p2.low),decide_eq_true (show q.1≥0 from q2.low)]
    rfl
   ·have hn:zdB nums:=⟨he,hl⟩
    obtain⟨p,p1,p2⟩:=zmR (a:=0) (b:=1) (P:=fun s=>Holds m nums Lt Tt Ct→Holds m nums Lt' Tt' Ct'→zAA m nums a0 s) h h' fun i side j at' r g1 g2 g3 g4 g5 g6 g7 g8 g9 g10 _ H H'=>⟨g10,zuf hm hm3 hn hs h hL hT hC h' hL' hT' hC' g1 g2 g3 g4 g5 g6 g7 g8 g9 H H'⟩
    obtain⟨q,q1,q2⟩:=zh8 (a:=1) (P:=fun s=>Holds m nums Lt' Tt' Ct'→zAA m nums a0 s) h' fun i r g1 g2 g3 g4 g5 _ H=>⟨g5,zpx hm hm3 hn hs h' hL' hT' hC' g1 g2 g3 g4 H⟩
    have kk:∀{o:Option Bool},o=cond (decide (p.1≥0)) (some (decide (q.1≥0))) (some false)→o=some true:=fun e=>by
     rw[e,decide_eq_true (show p.1≥0 from p2.low),decide_eq_true (show q.1≥0 from q2.low)]
     rfl
    rw[p1,q1]
    obtain⟨f,hf⟩:=zn9 a0 [(Lt.map cl,Tt.map za,Ct.map cl),(Lt'.map cl,Tt'.map za,Ct'.map cl)] (by simp)
    simp only[Option.bind_some,bne_self_eq_false,cond_false]
    rw[show (((List.length nums:Nat):Int)==0)=false from by simp; exact he,cond_false,hf,Option.bind_some]
    cases f with
    | false=>exact kk rfl
    | true =>
     rw[Bool.not_true,cond_false,hnew,Option.bind_some]
     obtain⟨b1,c1,d1⟩:=zjN hm hm3 hn hs h hL hT hC
     obtain⟨b2,c2,d2⟩:=zjN hm hm3 hn hs h' hL' hT' hC'
     simp only
     rw[c2,Option.bind_some]
     cases b2 with
     | false=>rfl
     | true =>
      have H':Holds m nums Lt' Tt' Ct':=d2.1 rfl
      have l0:=zpV (m:=m) (nums:=nums) (a0:=a0) (L:=Lt.map cl) (T:=Tt.map za) (C:=Ct.map cl) (st:=q.2) (by have:=q2.len; omega) q.2 0 zd rfl (Nat.lt_of_le_of_lt (show q.2.length≤5 from q2.len) (by decide)) fun s hs=>q2.all s hs H'
      rw[show ((0:Nat):Int)=0 from rfl] at l0
      rw[Bool.not_true,cond_false,l0,Option.bind_some]
      show ((zH (m:Int) nums a0 (Lt.map cl) (Tt.map za) (Ct.map cl)).bind _)=_
      rw[c1,Option.bind_some]
      cases b1 with
      | false=>rfl
      | true =>
       have H:Holds m nums Lt Tt Ct:=d1.1 rfl
       have l1:=zqm (m:=m) (nums:=nums) (a0:=a0) (st:=p.2) (by have:=p2.len; omega) p.2 0 zd rfl (Nat.lt_of_le_of_lt (show p.2.length≤2450 from p2.len) (by decide)) fun s hs=>p2.all s hs H H'
       rw[show ((0:Nat):Int)=0 from rfl] at l1
       rw[Bool.not_true,cond_false,l1]
       rfl
end
end Go.Abs.Q
namespace Go.Abs.Q
open Go Go.Abs
section
end
end Go.Abs.Q
namespace Go.Abs.Q
open Go Go.Abs
section
end
end Go.Abs.Q
