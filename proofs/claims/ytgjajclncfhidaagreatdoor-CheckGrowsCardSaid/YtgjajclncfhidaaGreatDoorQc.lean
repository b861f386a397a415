import Derived.Test.YtgjajclncfhidaaGreatDoorQb
/-
  What the functions make of plain values, and what the law says of that.
-/
open Bool renaming and_eq_true -> ax, and_false -> cz, eq_iff_iff -> d8, false_and -> bj, false_or -> cZ, not_false -> bu, not_true -> ay, or_eq_true -> bR, true_and -> aN
open Eq renaming symm -> fH
open Go.IntKind renaming wrap -> ag
open Int renaming eq_ofNat_of_zero_le -> dy, tmod -> dx, toNat -> bc, toNat_natCast -> bl, toNat_of_nonneg -> cG
open List renaming all_cons -> b9, all_eq_true -> aC, any_cons -> ey, any_eq_true -> du, append_assoc -> aU, append_nil -> bG, drop -> eu, drop_eq_getElem_cons -> aX, drop_left -> ep, drop_zero -> bM, find?_cons -> d7, flatMap_cons -> br, foldl_append -> eV, getD_eq_getElem?_getD -> aG, getElem?_cons_zero -> aB, getElem?_eq_getElem -> al, getElem?_eq_some_iff -> au, getElem?_map -> bt, getElem?_replicate -> bJ, length -> af, length_append -> am, length_cons -> ak, length_map -> aP, length_nil -> bb, length_set -> cg, length_singleton -> aV, map -> c5, map_append -> dk, map_congr_left -> bV, map_cons -> aM, map_map -> cJ, mem_append -> aJ, mem_append_left -> bN, mem_cons -> aD, mem_cons_of_mem -> ai, mem_cons_self -> aj, mem_iff_getElem -> dM, mem_map -> aY, mem_map_of_mem -> bi, mem_of_getElem? -> aI, mem_range -> ci, mem_singleton -> bq, nil_append -> bm, pairwise_cons -> cy, range -> aK, replicate -> az, set -> bP, take -> ew, zip_cons_cons -> ee
open List.Pairwise renaming sublist -> gS
open Nat renaming beq -> aA, le_refl -> aF, le_trans -> aH, reduceAdd -> gH, zero_add -> aQ, zero_le -> bI
open Ne renaming symm -> dB
open Option renaming bind_eq_some_iff -> ah, bind_some -> aa, getD -> bH, getD_some -> ba, isNone -> ck, map_some -> bx
open Sum renaming inl -> aT, inr -> aE
namespace Go.Abs.Q
open Go Go.Abs
theorem Be {a0:List zg} {t u:Tm} (ht:t.ok a0 24) (hu:u.ok a0 24) (h:t.codes=u.codes):t=u:=by
 have:=u3 (a0:=a0) _ [t] [u] (aF _) ⟨ht,trivial⟩ ⟨hu,trivial⟩ (by simp [za,h])
 injection this
def Sm (a0:List zg) (t:Tm):Prop:=t.ok a0 24∧t.codes.length<=48
def ME (a0:List zg) (R:List Tm) (k:Nat):Prop:=∀(δ:Nat) (w:List jI) (B:Bd) (σ:Sb) (t u:Tm),RepW a0 w B->Good B σ->Sm a0 t->Sm a0 u->Dep R B δ t->2*(2600 - δ)<=k ->
 ∃ r,(yU k).1 (a0,t.codes,u.codes,w)=some r∧OutW a0 B [(t,u)] r
def zcb (a0:List zg) (R:List Tm) (k:Nat):Prop:=∀(δ:Nat) (w:List jI) (B:Bd) (σ:Sb) (ts us:List Tm),RepW a0 w B->Good B σ->(∀ t∈ts,Sm a0 t)->(∀ t∈us,Sm a0 t)->ts.length=us.length->ts.length<=1000->(∀ t∈ts,Dep R B δ t)->2*(2600 - δ)+1<=k ->
 ∃ r,(yU k).2 (a0,ts.map Tm.codes,us.map Tm.codes,w)=some r∧OutW a0 B (ts.zip us) r
theorem R7 {a0:List zg} {R:List Tm} {k:Nat} (hp:ME a0 R k):zcb a0 R (k+1):=by
 intro δ w B σ ts us hT hG hts hus hl hlen hd hk;show ∃ r,sf (yU k) a0 (ts.map Tm.codes) (us.map Tm.codes) w=some r∧_;unfold sf;rw[jy _ _ _ _ _ (by rw[aP]; unfold maxLen; omega)]
 have go:∀(ts vs:List Tm) (i:Nat) (w:List jI) (B:Bd) (σ:Sb),RepW a0 w B->Good B σ->us.drop i=vs->(∀ t∈ts,Sm a0 t)->ts.length=vs.length->(∀ t∈ts,Dep R B δ t) ->
   (∃ w',zS (yU k) a0 (us.map Tm.codes) (ts.map Tm.codes) i w=some (.inl w')∧OutW a0 B (ts.zip vs) (true,w')) ∨
   (∃ w',zS (yU k) a0 (us.map Tm.codes) (ts.map Tm.codes) i w=some (.inr (false,w'))∧OutW a0 B (ts.zip vs) (false,w')):=by
  intro ts
  induction ts with
  | nil =>
   intro vs i w B σ hT hG hdr _ hl _;exact .inl ⟨w,rfl,⟨fun _=>⟨B,σ,hT,hG,fun θ=>⟨fun h=>⟨h,Sol.nil⟩,fun h=>h.1⟩⟩,fun h=>(nomatch h)⟩⟩
  | cons t ts ih =>
   intro vs i w B σ hT hG hdr hts hl hd;cases vs with
   | nil=>simp at hl
   | cons v vs =>
    have hgv:us[i]? = some v:=zw hdr;have hvm:v∈us:=aI hgv;obtain⟨r,h1,h2⟩:=hp δ w B σ t v hT hG (hts t (aj ..)) (hus v hvm) (hd t (aj ..)) (by omega)
    rw[aM];unfold zS;rw[yH,bt,hgv];simp only[bx,aa];rw[h1,aa];obtain⟨b,w1⟩:=r;cases b with
    | false =>
     refine .inr ⟨w1,rfl,⟨fun h=>(nomatch h),fun _ θ h3 h4=>h2.no rfl θ h3 ?_⟩⟩;rw[ee,Sol.cons] at h4;exact rb.2 h4.1
    | true =>
     obtain⟨B',σ',g1,g2,g3⟩:=h2.yes rfl;have comb:∀{r2:Bool×List jI},OutW a0 B' (ts.zip vs) r2->OutW a0 B ((t::ts).zip (v::vs)) r2:=fun {r2} h=>by
      rw[ee];refine ⟨fun hr => ?_,fun hr θ h3 h4 => ?_⟩
      ·obtain⟨B2,σ2,k1,k2,k3⟩:=h.yes hr;refine ⟨B2,σ2,k1,k2,fun θ => ?_⟩;rw[k3,g3,rb,and_assoc,Sol.cons (p:=(t,v)) (E:=ts.zip vs)]
      ·rw[Sol.cons] at h4;exact h.no hr θ ((g3 θ).2 ⟨h3,rb.2 h4.1⟩) h4.2
     rcases ih vs (i+1) w1 B' σ' g1 g2 (zj hdr) (fun t h=>hts t (ai _ h)) (by simpa using hl) (fun t h=>(hd t (ai _ h)).mono fun θ hθ=>((g3 θ).1 hθ).1) with ⟨w',q1,q2⟩ | ⟨w',q1,q2⟩
     ·exact .inl ⟨w',q1,comb q2⟩
     ·exact .inr ⟨w',q1,comb q2⟩
 rcases go ts us 0 w B σ hT hG rfl hts hl hd with ⟨w',h1,h2⟩ | ⟨w',h1,h2⟩
 ·rw[h1]; exact ⟨_,rfl,h2⟩
 ·rw[h1]; exact ⟨_,rfl,h2⟩
theorem NE {a0:List zg} (hs:SignOk a0) {R:List Tm} (hR:∀ c∈R,c.size<=48) {k:Nat} (ha:zcb a0 R k):ME a0 R (k+1):=by
 intro δ w B σ t u hT hG ht hu hd hk;show ∃ r,vZ (yU k) a0 t.codes u.codes w=some r∧_;obtain⟨t1,a1,a2,a3,a4,a5⟩:=BP hT hG ht.1 ht.2;obtain⟨u1,b1,b2,b3,b4,b5⟩:=BP hT hG hu.1 hu.2
 -- it is enough to speak of these
 suffices h:∃ r,vZ (yU k) a0 t.codes u.codes w=some r∧OutW a0 B [(t1,u1)] r by
  obtain⟨r,h1,h2⟩:=h;exact ⟨r,h1,h2.via fun θ hθ=>by rw[rb,rb,a4 θ hθ,b4 θ hθ]⟩
 have eta:∀{o:Option (Bool×List jI)} {E:List (Tm×Tm)},(∃ r,o=some r∧OutW a0 B E r)->∃ r,(o.bind fun r=>some (r.1,r.2))=some r∧OutW a0 B E r:=fun ⟨r,h1,h2⟩=>⟨r,by rw[h1]; rfl,h2⟩
 have flip:∀{o:Option (Bool×List jI)} {p q:Tm},(∃ r,o=some r∧OutW a0 B [(p,q)] r)->∃ r,o=some r∧OutW a0 B [(q,p)] r:=fun ⟨r,h1,h2⟩=>⟨r,h1,h2.via fun θ _=>by rw[rb,rb]; exact eq_comm⟩
 unfold vZ;rw[a1,aa,b1,aa,Yw (by omega),aa]
 by_cases he:t1.codes=u1.codes
 ·have:=Be a2 b2 he;subst this;rw[decide_eq_true he,cond_true];exact ⟨_,rfl,⟨fun _=>⟨B,σ,hT,hG,fun θ=>⟨fun h=>⟨h,rb.2 rfl⟩,fun h=>h.1⟩⟩,fun h=>(nomatch h)⟩⟩
 rw[decide_eq_false he,cond_false];have hne:t1≠u1:=fun h=>he (by rw[h])
 clear he a1 b1;cases t1 with
 | v x =>
  have hx:x<24:=a2;have hbx:=a5 x rfl;have c1:(Tm.v x).codes=[-1 - (x:Int)]:=rfl;have d1:decide (-1 - (x:Int)<0)=true:=decide_eq_true (by omega)
  have d2:decide (-1 - (x:Int)≥0)=false:=decide_eq_false (by omega)
  cases u1 with
  | v y =>
   have hy:y<24:=b2;have hby:=b5 y rfl;have c2:(Tm.v y).codes=[-1 - (y:Int)]:=rfl;have d3:decide (-1 - (y:Int)<0)=true:=decide_eq_true (by omega)
   have hxy:x≠y:=fun h=>hne (by rw[h])
   rw[c1,c2];by_cases hlt:y<x
   ·have d4:decide (-1 - (x:Int) < -1 - (y:Int))=true:=decide_eq_true (by omega)
    simp only[yc,aB,aa,d1,d3,d4,cond_true];exact eta (DB hT hG hx hlt hbx hby)
   ·have d4:decide (-1 - (x:Int) < -1 - (y:Int))=false:=decide_eq_false (by omega)
    simp only[yc,aB,aa,d1,d2,d3,d4,cond_true,cond_false];exact eta (flip (DB hT hG hy (by omega) hby hbx))
  | f c as =>
   have c2:(Tm.f c as).codes=(c:Int)::za as:=rfl;have d3:decide ((c:Int)<0)=false:=decide_eq_false (by omega)
   have h1:=Ic hT hG hx hbx b2 b3;rw[c2] at h1;rw[c1,c2];simp only[yc,aB,aa,d1,d2,d3,cond_true,cond_false];exact eta h1
 | f c as =>
  have c1:(Tm.f c as).codes=(c:Int)::za as:=rfl;have d1:decide ((c:Int)<0)=false:=decide_eq_false (by omega)
  have d2:decide ((c:Int)≥0)=true:=decide_eq_true (by omega)
  cases u1 with
  | v y =>
   have hy:y<24:=b2;have hby:=b5 y rfl;have c2:(Tm.v y).codes=[-1 - (y:Int)]:=rfl;have d3:decide (-1 - (y:Int)<0)=true:=decide_eq_true (by omega)
   have h1:=Ic hT hG hy hby a2 a3;rw[c1] at h1;rw[c1,c2];simp only[yc,aB,aa,d1,d2,d3,cond_true,cond_false];exact eta (flip h1)
  | f d bs =>
   have c2:(Tm.f d bs).codes=(d:Int)::za bs:=rfl;have d3:decide ((d:Int)<0)=false:=decide_eq_false (by omega)
   rw[c1,c2];simp only[yc,aB,aa,d1,d2,d3,cond_true,cond_false];by_cases hcd:c=d
   ·subst hcd;rw[show ((c:Int) != (c:Int))=false from by simp,cond_false]
    have hla:as.length=bs.length:=by
     have h1:=a2.1;have h2:=b2.1;rw[h1] at h2;injection h2
    rw[c1,ak] at a3;rw[c2,ak] at b3;have hw:∀{xs:List Tm},(za xs).length<=48->∀ t∈xs,t.codes.length<=48:=fun h t ht=>aH (u6 ht) h;rw[wB,aa,wZ hs (by omega) (yK as a2.2),aa,wB,aa,wZ hs (by omega) (yK bs b2.2),aa]
    have hlt:=hd.lt hG hT.small hR;obtain⟨r,h1,h2⟩:=ha (δ+1) w B σ as bs hT hG (fun t h=>⟨vI.1 a2.2 t h,hw (by omega) t h⟩) (fun t h=>⟨vI.1 b2.2 t h,hw (by omega) t h⟩) hla (by
      have:=Q7 (yK as a2.2);rw[aP] at this;omega) (fun a ham θ hθ=>by
      obtain⟨c',hc',h5⟩:=hd θ hθ;refine ⟨c',hc',?_⟩;rw[a4 θ hθ] at h5;have h6:((Tm.f c as).sub θ).ht=htR (ve θ as)+1:=rfl;have h7:=Ar (ts:=ve θ as) (t:=a.sub θ) (by rw[QI]; exact bi ham)
      omega) (by omega)
    rw[h1,aa];refine ⟨_,rfl,h2.via fun θ _ => ?_⟩;rw[Sol.zip hla,rb,zde];simp
   ·rw[show ((c:Int) != (d:Int))=true from by simp; omega,cond_true]
    refine ⟨_,rfl,⟨fun h=>(nomatch h),fun _ θ _ h4 => ?_⟩⟩;rw[rb,zde] at h4;exact hcd h4.1
theorem PW {a0:List zg} (hs:SignOk a0) {R:List Tm} (hR:∀ c∈R,c.size<=48):∀ k,ME a0 R k∧zcb a0 R k:=by
 intro k
 induction k with
 | zero =>
  refine ⟨fun δ w B σ t u hT hG _ _ hd hk => ?_,fun δ w B σ ts us _ _ _ _ _ _ _ hk=>by omega⟩
  have:=hd.lt hG hT.small hR;omega
 | succ k ih=>exact ⟨NE hs hR ih.2,R7 ih.1⟩
theorem zg1 (a0:List zg):RepW a0 (az 48 ([]:List Int)) (fun _=>none) where
 len:=by simp
 at_:=fun x hx=>by rw[bJ,if_pos hx]; rfl
 ok:=fun x t h=>by cases h
theorem D7 {a0:List zg} {w:List jI} {B:Bd} {σ:Sb} (hT:RepW a0 w B) (hG:Good B σ):∀(m v k:Nat) (out:List (Int×List Int)),24 - v=m->v<=24->m<k->out.length<=v ->
  lp wG k ((v:Int),w,out)=some (cond (qT σ ((aK 24).drop v)) (.inl (out++ue B σ ((aK 24).drop v))) (.inr (true,false))):=by
 intro m
 induction m with
 | zero =>
  intro v k out hm hv hk ho;obtain⟨k,rfl⟩:∃ k',k=k'+1:=⟨k - 1,by omega⟩
  rw[zu];generalize lp wG k=rec;unfold wG;have:v=24:=by omega
  subst this;rw[show (aK 24).drop 24=[] from rfl]
  simp [ue,qT]
 | succ m ih =>
  intro v k out hm hv hk ho;obtain⟨k,rfl⟩:∃ k',k=k'+1:=⟨k - 1,by omega⟩
  rw[zu];have key:=fun out' ho'=>ih (v+1) k out' (by omega) (by omega) (by omega) ho'
  generalize lp wG k=rec at key ⊢;unfold wG;have w1:ag .i64 ((v:Int)+1)=((v+1:Nat):Int):=by rw[zp]<;>omega
  have hdr:(aK 24).drop v=v::(aK 24).drop (v+1):=by
   rw[aX (by simp; omega)]
   simp
  simp only[decide_eq_true (show (v:Int)<=23 by omega),cond_true,yN (show v<48 by omega),aa,hT.at_ v (by omega),w1]
  rw[hdr];cases hb:B v with
  | none =>
   show (cond (((af ([]:List Int):Nat):Int)==0) _ _)=_;rw[show (((af ([]:List Int):Nat):Int)==0)=true from rfl,cond_true,key out (by omega)]
   have hs:(σ v).size<=48:=by rw[hG.free v hb]; simp [Tm.size]
   have hb:F0 B v=false:=by simp [F0,hb]
   simp [ue,qT,hb,hs]
  | some t =>
   obtain⟨-,h2,h3⟩:=hT.ok v t hb;have hp:=uf t;show (cond (((af t.codes:Nat):Int)==0) _ ((ra t.codes w []).bind _))=_;rw[show (((af t.codes:Nat):Int)==0)=false from by simp; intro h; rw[h] at hp; simp at hp,cond_false]
   obtain⟨r,g1,g2⟩:=L3 hT hG h2 h3;rw[← hG.bound v t hb] at g2;rw[g1,aa];by_cases hs:(σ v).size<=48
   ·have hr:=g2.fits (by rw[Tm.codes_len]; simpa using hs)
    rw[bm] at hr;subst hr;rw[decide_eq_false (show ¬((af (σ v).codes:Nat):Int)>48 by rw[Tm.codes_len]; omega),cond_false,zk (by simp only[aV]; omega),cond_true,key _ (by simp only[am,aV]; omega)]
    have hb:F0 B v=true:=by simp [F0,hb]
    simp [ue,qT,hb,hs]
   ·have hr:=g2.over (by rw[Tm.codes_len]; simp; omega)
    rw[decide_eq_true (show ((af r:Nat):Int)>48 by omega),cond_true]
    simp [qT,hs]
theorem u4 {a0:List zg} (hs:SignOk a0) {ts us:List Tm} (ht:okR a0 24 ts) (hu:okR a0 24 us) (hlx:(za ts).length<=48) (hly:(za us).length<=48) :
  (ua a0 (za ts) (za us)=some (false,true,[])∧(ts.length≠us.length∨∀ θ,¬ Sol θ (ts.zip us))) ∨
  (ts.length=us.length∧∃ σ,Mgu σ (ts.zip us)∧ua a0 (za ts) (za us)=some (true,qT σ (aK 24),cond (qT σ (aK 24)) (tn σ) [])):=by
 unfold ua;rw[wZ hs (by omega) (yK ts ht),aa,wZ hs (by omega) (yK us hu),aa]
 by_cases hl:ts.length=us.length
 ·rw[show (((af (ts.map Tm.codes):Nat):Int) != ((af (us.map Tm.codes):Nat):Int))=false from by simp [hl],cond_false]
  have sm:∀{xs:List Tm},okR a0 24 xs->(za xs).length<=48->∀ t∈xs,Sm a0 t:=fun h1 h2 t h=>⟨vI.1 h1 t h,aH (u6 h) h2⟩;have hR:∀ c∈ts,c.size<=48:=fun c hc=>by have:=(sm ht hlx c hc).2; rwa [Tm.codes_len] at this
  obtain⟨r,h1,h2⟩:=(PW hs hR ze).2 0 (az 48 []) (fun _=>none) .v ts us (zg1 a0) Good.empty (sm ht hlx) (sm hu hly) hl (by
   have:=Q7 (yK ts ht);rw[aP] at this;omega) (fun t h θ _=>⟨t,h,by omega⟩) (by unfold ze; omega)
  have h1:YV a0 (ts.map Tm.codes) (us.map Tm.codes) (az 48 [])=some r:=h1;rw[h1,aa];cases hb:r.1 with
  | false=>exact .inl ⟨rfl,.inr fun θ h=>h2.no hb θ (fun _ _ h=>(nomatch h)) h⟩
  | true =>
   obtain⟨B',σ,g1,g2,g3⟩:=h2.yes hb;refine .inr ⟨hl,σ,Mgu.of g2 g3,?_⟩;have:=D7 g1 g2 24 0 ze [] rfl (by omega) (by unfold ze; omega) (by simp)
   rw[show ((0:Nat):Int)=0 from rfl] at this
   rw[ay,cond_false,this,bM];have he:ue B' σ (aK 24)=tn σ:=by
    unfold ue tn;rw[show F0 B'=moved σ from funext (N0 g2)]
   cases qT σ (aK 24) with
   | true=>simp only[cond_true,aa,sr,bm,he]
   | false=>rfl
 ·rw[show (((af (ts.map Tm.codes):Nat):Int) != ((af (us.map Tm.codes):Nat):Int))=true from by simp; omega,cond_true]
  exact .inl ⟨rfl,.inl hl⟩
theorem zdI (v:Int):(es:List (Int×List Int))->(i:Nat)->(ke es v=none∧w7 v es i=some (.inl ()))∨∃(j:Nat) (e:Int×List Int),w7 v es i=some (.inr ((i+j:Nat):Int))∧es[j]? = some e∧ke es v=some e.2
 | [],i=>.inl ⟨rfl,rfl⟩
 | e::es,i=>by
  unfold w7 ke;rw[d7];cases h:e.1==v with
  | true=>exact .inr ⟨0,e,rfl,rfl,rfl⟩
  | false =>
   rw[cond_false];rcases zdI v es (i+1) with ⟨h1,h2⟩ | ⟨j,e',h1,h2,h3⟩
   ·exact .inl ⟨h1,h2⟩
   ·exact .inr ⟨j+1,e',by rw[h1,show i+1+j=i+(j+1) from by omega],by simpa using h2,h3⟩
theorem MK {s:List (Int×List Int)} (hl:s.length<=1000) (v:Int):(ke s v=none∧Vd s v=some (-1))∨∃(j:Nat) (e:Int×List Int),Vd s v=some (j:Int)∧s[j]? = some e∧ke s v=some e.2:=by
 unfold Vd;rw[W0 _ _ (by unfold maxLen; omega)]
 rcases zdI v s 0 with ⟨h1,h2⟩ | ⟨j,e,h1,h2,h3⟩
 ·exact .inl ⟨h1,by rw[h2]; rfl⟩
 ·exact .inr ⟨j,e,by rw[h1,aQ]; rfl,h2,h3⟩
theorem UB {s:List (Int×List Int)} (h:BindsOk s):(es out:List Int)->(∀ c∈es,-1000000<=c∧c<=1000000)->out.length+1000*es.length<=1000000000->y0 s es out=some (out++onB s es)
 | [],out,_,_=>by simp [y0,onB]
 | c::es,out,hc,hl=>by
  have hc0:=hc c (aj ..);simp only[ak] at hl;have ih:=fun out hl=>UB h es out (fun c h=>hc c (ai _ h)) hl;unfold y0;have plain:onC s c=[c]->(cond (yp (af out+af ([c]:List Int)) 8) (y0 s es (out++([c]:List Int))) none)=some (out++onB s (c::es)):=fun hx=>by
   rw[zk (by simp; omega),cond_true,ih _ (by simp; omega)]
   unfold onB;rw[br,hx,aU]
  by_cases h0:c<0
  ·rw[decide_eq_true h0,cond_true];have w1:ag .i64 ((-1) - c) = -1 - c:=by rw[zp]<;>omega
   rw[w1];rcases MK h.len (-1 - c) with ⟨h1,h2⟩ | ⟨j,e,h1,h2,h3⟩
   ·rw[h2,aa,show decide ((-1:Int)<0)=true from rfl,cond_true]
    refine plain ?_;unfold onC;rw[h1,decide_eq_false (show ¬ c≥0 by omega)]
    rfl
   ·have he:=(h.all e (aI h2)).2;rw[h1,aa,decide_eq_false (show ¬(j:Int)<0 by omega),cond_false,yH,h2,aa,zk (by omega),cond_true,ih _ (by rw[am]; omega)]
    unfold onB;have:onC s c=e.2:=by
     unfold onC;rw[h3,decide_eq_false (show ¬ c≥0 by omega)]
     rfl
    rw[br,this,aU]
  ·rw[decide_eq_false h0,cond_false];refine plain ?_;unfold onC;rw[decide_eq_true (show c≥0 by omega)]
   rfl
theorem BE {s:List (Int×List Int)} (h:BindsOk s) {r:List Int} (hr:tV r):tt s r=some (onB s r):=by
 have:=hr.1;unfold tt;rw[Wu _ _ _ (by unfold maxLen; omega),UB h r [] hr.2 (by simp; omega)]
 rfl
theorem OD {s:List (Int×List Int)} (h:BindsOk s):(es out:List zc)->(∀ l∈es,tV l.2)->out.length+es.length<=1000000->xt s es out=some (out++J7 s es)
 | [],out,_,_=>by simp [xt,J7]
 | e::es,out,hn,hl=>by
  simp only[ak] at hl;unfold xt;rw[BE h (hn e (aj ..)),aa,zk (by simp; omega),cond_true,OD h es _ (fun l hl=>hn l (ai _ hl)) (by simp; omega)]
  simp [J7]
theorem Lp {s:List (Int×List Int)} (h:BindsOk s) (s5:List zc):(es out:List jI)->(∀ l∈es,tV l)->out.length+es.length<=1000000->xm s s5 es out=some (s5,out++HR s es)
 | [],out,_,_=>by simp [xm,HR]
 | e::es,out,hn,hl=>by
  simp only[ak] at hl;unfold xm;rw[BE h (hn e (aj ..)),aa,zk (by simp; omega),cond_true,Lp h s5 es _ (fun l hl=>hn l (ai _ hl)) (by simp; omega)]
  simp [HR]
theorem NP {s:List (Int×List Int)} (h:BindsOk s) (s5:List zc) (s6:List jI):(es out:List zc)->(∀ l∈es,tV l.2)->out.length+es.length<=1000000->xA s s5 s6 es out=some (s5,s6,out++J7 s es)
 | [],out,_,_=>by simp [xA,J7]
 | e::es,out,hn,hl=>by
  simp only[ak] at hl;unfold xA;rw[BE h (hn e (aj ..)),aa,zk (by simp; omega),cond_true,NP h s5 s6 es _ (fun l hl=>hn l (ai _ hl)) (by simp; omega)]
  simp [J7]
theorem AF {s:List (Int×List Int)} (h:BindsOk s) {L:List zc} {T:List jI} {C:List zc} (hL:∀ l∈L,tV l.2) (hT:∀ l∈T,tV l) (hC:∀ l∈C,tV l.2) (h1:L.length<=1000) (h2:T.length<=1000) (h3:C.length<=1000) :
  rN s L T C=some (J7 s L,HR s T,J7 s C):=by
 unfold rN;rw[XF _ _ _ _ _ (by unfold maxLen; omega),OD h L [] hL (by simp; omega),aa,
  XU _ _ _ _ _ _ (by unfold maxLen; omega),Lp h _ T [] hT (by simp; omega),aa,
  Xy _ _ _ _ _ _ _ (by unfold maxLen; omega),NP h _ _ C [] hC (by simp; omega),aa]
 simp
theorem Hq {l k:zc} (h:l.2.length<=1000000):jF l.1 l.2 k.1 k.2=some (decide (l=k)):=by
 obtain⟨n,r⟩:=l;obtain⟨n',r'⟩:=k;unfold jF;by_cases hn:n=n'
 ·subst hn;simp only[beq_self_eq_true,cond_true];rw[Yw h,aa];simp
 ·rw[show (n==n')=false from by simp [hn],cond_false]
  simp [hn]
theorem ON {s0 out:List zc} {i0:Nat} {e0:zc} (he:s0[i0]? = some e0) (ho:∀ l∈out,l.2.length<=1000000):(es:List zc)->(i:Nat)->(b:Bool)->out.drop i=es->qD s0 (i0:Int) out es i b=some (b||decide (e0∈es),out)
 | [],i,b,_=>by simp [qD]
 | e::es,i,b,hd=>by
  have ih:=fun b=>ON he ho es (i+1) b (zj hd);unfold qD;cases b with
  | true=>rw[cond_true,ih true]; rfl
  | false =>
   have hi:=qj hd;have hg:=zw hd;rw[cond_false,yN hi,aa,hg,aa,yH,he,aa,Hq (ho e (aI hg)),aa,ih]
   congr 2
   rw[d8,cZ,bR,decide_eq_true_iff,decide_eq_true_iff,decide_eq_true_iff,aD];exact ⟨fun h=>h.imp fH id,fun h=>h.imp fH id⟩
theorem Am {s0:List zc} (hs:∀ l∈s0,l.2.length<=1000000):(es:List zc)->(i:Nat)->(out:List zc)->s0.drop i=es->(∀ l∈out,l.2.length<=1000000)->out.length+es.length<=1000000->xz s0 es i out=some (zU es out)
 | [],i,out,_,_,_=>rfl
 | e::es,i,out,hd,ho,hl=>by
  simp only[ak] at hl;have hg:=zw hd;have hem:=aI hg;unfold xz zU;rw[X2 _ _ _ _ (by unfold maxLen; omega),ON hg ho out 0 false rfl,aa,cZ]
  by_cases hm:e∈out
  ·have e1:∀ inst:Decidable (e∈out),@decide (e∈out) inst=true:=fun _=>decide_eq_true hm;simp only[e1,ay,cond_false,cond_true];exact Am hs es (i+1) out (zj hd) ho (by omega)
  ·have e1:∀ inst:Decidable (e∈out),@decide (e∈out) inst=false:=fun _=>decide_eq_false hm;simp only[e1,bu,cond_true,cond_false];rw[zk (by simp; omega),cond_true]
   exact Am hs es (i+1) _ (zj hd) (fun l hl=>by
    rcases aJ.1 hl with hl | hl
    ·exact ho l hl
    ·rw[bq.1 hl]; exact hs e hem) (by simp; omega)
theorem Nt {L:List zc} (hs:∀ l∈L,l.2.length<=1000000) (hl:L.length<=1000):Wk L=some (zU L []):=by
 unfold Wk;rw[X6 _ _ (by unfold maxLen; omega),Am hs L 0 [] rfl (fun _ h=>(nomatch h)) (by simp; omega)]
 rfl
theorem OO {s4 out:List jI} {s6 s7:List zc} {i0:Nat} {e0:List Int} (he:s4[i0]? = some e0) (ho:∀ l∈out,l.length<=1000000):(es:List jI)->(i:Nat)->(b:Bool)->out.drop i=es->qL (i0:Int) s4 s6 s7 out es i b=some (b||decide (e0∈es),s6,s7,out)
 | [],i,b,_=>by simp [qL]
 | e::es,i,b,hd=>by
  have ih:=fun b=>OO (s6:=s6) (s7:=s7) he ho es (i+1) b (zj hd);unfold qL;cases b with
  | true=>rw[cond_true,ih true]; rfl
  | false =>
   have hi:=qj hd;have hg:=zw hd;rw[cond_false,yN hi,aa,hg,aa,yH,he,aa,Yw (ho e (aI hg)),aa,ih]
   congr 2
   rw[d8,cZ,bR,decide_eq_true_iff,decide_eq_true_iff,decide_eq_true_iff,aD];exact ⟨fun h=>h.imp fH id,fun h=>h.imp fH id⟩
theorem CJ {s1 s3 s4 s5:List zc} {s2:List jI} (hs:∀ l∈s2,l.length<=1000000):(es:List jI)->(i:Nat)->(out:List jI)->s2.drop i=es->(∀ l∈out,l.length<=1000000)->out.length+es.length<=1000000->xy s1 s2 s3 es i s4 s5 out=some (s4,s5,zU es out)
 | [],i,out,_,_,_=>rfl
 | e::es,i,out,hd,ho,hl=>by
  simp only[ak] at hl;have hg:=zw hd;have hem:=aI hg;unfold xy zU;rw[XG _ _ _ _ _ _ _ _ (by unfold maxLen; omega),OO hg ho out 0 false rfl,aa,cZ]
  by_cases hm:e∈out
  ·have e1:∀ inst:Decidable (e∈out),@decide (e∈out) inst=true:=fun _=>decide_eq_true hm;simp only[e1,ay,cond_false,cond_true];exact CJ hs es (i+1) out (zj hd) ho (by omega)
  ·have e1:∀ inst:Decidable (e∈out),@decide (e∈out) inst=false:=fun _=>decide_eq_false hm;simp only[e1,bu,cond_true,cond_false];rw[zk (by simp; omega),cond_true]
   exact CJ hs es (i+1) _ (zj hd) (fun l hl=>by
    rcases aJ.1 hl with hl | hl
    ·exact ho l hl
    ·rw[bq.1 hl]; exact hs e hem) (by simp; omega)
def U8 (bs:List (Int×List Int)) (c:Int):List (Int×List Int):=cond (decide (c<0)&&(ke bs (-1 - c)).isNone) (bs++[(-1 - c,[-1 - (bs.length:Int)])]) bs
def Uu (bs:List (Int×List Int)) (r:List Int):List (Int×List Int):=r.foldl U8 bs
theorem Ss (bs:List (Int×List Int)) (c:Int):(U8 bs c).length<=bs.length+1:=by
 unfold U8;cases decide (c<0)&&(ke bs (-1 - c)).isNone<;>simp
theorem R2 (r:List Int):(bs:List (Int×List Int))->(Uu bs r).length<=bs.length+r.length:=by
 unfold Uu
 induction r with
 | nil=>intro bs; simp
 | cons c r ih =>
  intro bs;have:=ih (U8 bs c);have:=Ss bs c;simp only[List.foldl_cons,ak];omega
theorem LQ {rows:List jI} {i:Nat} {r:List Int} (hr:rows[i]? = some r) (L:List zc) (T:List jI) (C:List zc) (hrl:r.length<=1000):∀(es:List Int) (j k:Nat) (bs:List (Int×List Int)),r.drop j=es->(∀ c∈es,-1000000<=c∧c<=1000000)->es.length<k->bs.length+es.length<=1000 ->
  lp uQ k (rows,(i:Int),(j:Int),L,T,C,bs)=some (Uu bs es)
 | [],j,k,bs,hd,_,hk,_=>by
  obtain⟨k,rfl⟩:∃ k',k=k'+1:=⟨k - 1,by simp at hk; omega⟩
  rw[zu];generalize lp uQ k=rec;unfold uQ;have:=vk hd;rw[yH,hr,aa,decide_eq_false (show ¬(j:Int)<((af r:Nat):Int) by omega),cond_false]
  rfl
 | c::es,j,k,bs,hd,hc,hk,hb=>by
  obtain⟨k,rfl⟩:∃ k',k=k'+1:=⟨k - 1,by simp at hk; omega⟩
  simp only[ak] at hk hb;have hlt:=qj hd;have hc0:=hc c (aj ..);rw[zu];have key:=fun bs hb=>LQ hr L T C hrl es (j+1) k bs (zj hd) (fun c h=>hc c (ai _ h)) (by omega) hb
  generalize lp uQ k=rec at key ⊢;unfold uQ;have w1:ag .i64 ((j:Int)+1)=((j+1:Nat):Int):=by rw[zp]<;>omega
  have w2:ag .i64 ((-1) - c) = -1 - c:=by rw[zp]<;>omega
  have w3:ag .i64 ((-1) - ((af bs:Nat):Int)) = -1 - (bs.length:Int):=by rw[zp]<;>omega
  simp only[yH,hr,aa,zw hd,w1,w2,w3];rw[decide_eq_true (show (j:Int)<((af r:Nat):Int) by omega),cond_true]
  show _=some (Uu (U8 bs c) es);unfold U8;by_cases h0:c<0
  ·rw[decide_eq_true h0,cond_true,aN];rcases MK (s:=bs) (by omega) (-1 - c) with ⟨h1,h2⟩ | ⟨q,e,h1,h2,h3⟩
   ·rw[h2,aa,show decide ((-1:Int)<0)=true from rfl,cond_true,zk (by simp; omega),cond_true,key _ (by simp; omega),h1]
    rfl
   ·rw[h1,aa,decide_eq_false (show ¬(q:Int)<0 by omega),cond_false,key _ (by omega),h3]
    rfl
  ·rw[decide_eq_false h0,cond_false,bj,cond_false,key _ (by omega)]
theorem LK {rows:List jI} (L:List zc) (T:List jI) (C:List zc) (hrows:∀ r∈rows,tV r):(es:List jI)->(i:Nat)->(bs:List (Int×List Int))->rows.drop i=es->bs.length+zi es<=1000 ->
  wm rows L T C es i bs=some (es.foldl Uu bs)
 | [],_,_,_,_=>rfl
 | e::es,i,bs,hd,hb=>by
  have hg:=zw hd;have he:=hrows e (aI hg);have hs:zi (e::es)=e.length+zi es:=by simp [zi]
  unfold wm;have:=LQ hg L T C he.1 e 0 ze bs rfl he.2 (by have:=he.1; unfold ze; omega) (by omega)
  rw[show ((0:Nat):Int)=0 from rfl] at this
  have hl:=R2 e bs;rw[this,aa,LK L T C hrows es (i+1) _ (zj hd) (by omega)]
  rfl
structure Rl (s:Ib) (bs:List (Int×List Int)):Prop where
 cnt:(bs.length:Int)=s.2
 at_:∀ v:Nat,ke bs (v:Int)=if s.1.getD v 0=0 then none else some [-(s.1.getD v 0)]
 one:∀ b∈bs,b.2.length=1
theorem I7 (bs:List (Int×List Int)) (v w:Int) (t:List Int):ke (bs++[(v,t)]) w=match ke bs w with
  | some u=>some u
  | none=>cond (v==w) (some t) none:=by
 unfold ke;rw[List.find?_append];cases h:bs.find? fun b=>b.1==w with
 | some b=>rfl
 | none =>
  simp only[Option.none_or,d7,List.find?_nil,Option.map_none];cases v==w<;>rfl
theorem rl0:Rl (az 24 (0:Int),0) [] where
 cnt:=rfl
 at_:=fun v=>by
  rw[if_pos]
  ·rfl
  ·show (az 24 (0:Int)).getD v 0=0;rw[aG,bJ];split<;>rfl
 one:=fun _ h=>(nomatch h)
theorem Rl.ok {s:Ib} {bs:List (Int×List Int)} (h:Rl s bs) (hI:RenI s):BindsOk bs where
 len:=by have:=h.cnt; have:=hI.next; omega
 all:=fun b hb=>by
  have:=h.one b hb;exact ⟨fun e=>by rw[e] at this; simp at this,by omega⟩
theorem Rl.step {s:Ib} {bs:List (Int×List Int)} (h:Rl s bs) (hI:RenI s) {c:Int} (hc : -24<=c):Rl (Kl s c).2 (U8 bs c):=by
 unfold Kl U8;by_cases h0:c≥0
 ·rw[decide_eq_true h0,cond_true,decide_eq_false (show ¬ c<0 by omega),bj,cond_false]
  exact h
 ·rw[decide_eq_false h0,cond_false,decide_eq_true (show c<0 by omega),aN]
  obtain⟨v,rfl⟩:∃ v:Nat,c = -1 - (v:Int):=⟨(-1 - c).toNat,by omega⟩
  have e1:(-1 - (-1 - (v:Int)))=(v:Int):=by omega
  rw[e1,bl,h.at_ v];by_cases hz:s.1.getD v 0=0
  ·rw[if_pos hz,show (s.1.getD v 0==0)=true from by rw[hz]; rfl,cond_true,show (none:Option jI).isNone=true from rfl,cond_true]
   have hv:v<s.1.length:=by rw[hI.len]; omega
   have hcnt:=h.cnt;refine ⟨by show (((bs++[_]).length:Nat):Int)=s.2+1; rw[am,← hcnt]; simp,fun w => ?_,fun b hb => ?_⟩
   ·rw[I7,h.at_ w];show _=if (s.1.set v (s.2+1)).getD w 0=0 then none else some [-((s.1.set v (s.2+1)).getD w 0)]
    rw[ry hv];have hn:=hI.next;by_cases hw:w=v
    ·subst hw;rw[if_pos hz,if_pos rfl,if_neg (show ¬ s.2+1=0 by omega)]
     simp only[beq_self_eq_true,cond_true];rw[show -1 - (bs.length:Int) = -(s.2+1) from by omega]
    ·rw[if_neg hw];by_cases hz2:s.1.getD w 0=0
     ·rw[if_pos hz2];simp only;rw[show (((v:Nat):Int)==((w:Nat):Int))=false from by simp; omega]
      rfl
     ·rw[if_neg hz2]
   ·rcases aJ.1 hb with hb | hb
    ·exact h.one b hb
    ·rw[bq.1 hb]; rfl
  ·rw[if_neg hz,show (s.1.getD v 0==0)=false from by simpa using hz,cond_false]
   exact h
theorem Rl.row:(r:List Int)->{s:Ib}->{bs:List (Int×List Int)}->Rl s bs->RenI s->(∀ c∈r,-24<=c)->Rl (rZ s r).2 (Uu bs r)
 | [],_,_,h,_,_=>h
 | c::r,s,bs,h,hI,hc=>by
  have h1:=h.step hI (hc c (aj ..));exact Rl.row r h1 (I2 hI (hc c (aj ..))).1 fun d hd=>hc d (ai _ hd)
theorem Rl.lits:(ls:List zc)->{s:Ib}->{bs:List (Int×List Int)}->Rl s bs->RenI s->(∀ l∈ls,∀ c∈l.2,-24<=c)->Rl (vo s ls).2 ((ls.map (·.2)).foldl Uu bs)
 | [],_,_,h,_,_=>h
 | l::ls,s,bs,h,hI,hc=>by
  have h1:=h.row l.2 hI (hc l (aj ..));exact Rl.lits ls h1 (QV l.2 hI (hc l (aj ..))).1 fun d hd=>hc d (ai _ hd)
theorem Rl.rows:(ls:List jI)->{s:Ib}->{bs:List (Int×List Int)}->Rl s bs->RenI s->(∀ l∈ls,∀ c∈l,-24<=c)->Rl (tW s ls).2 (ls.foldl Uu bs)
 | [],_,_,h,_,_=>h
 | l::ls,s,bs,h,hI,hc=>by
  have h1:=h.row l hI (hc l (aj ..));exact Rl.rows ls h1 (QV l hI (hc l (aj ..))).1 fun d hd=>hc d (ai _ hd)
theorem In {f:Ib} (hI:RenI f) {bs:List (Int×List Int)} (h:Rl f bs):(r:List Int)->(∀ c∈r,-24<=c)->(∀ x,HQ r x->f.1.getD x.toNat 0≠0)->onB bs r=tG (fun v=>.v (rho f v)) r
 | [],_,_=>rfl
 | c::r,hc,hz=>by
  have ih:=In hI h r (fun d hd=>hc d (ai _ hd)) fun x ⟨d,hd,h1⟩=>hz x ⟨d,ai _ hd,h1⟩;have hc0:=hc c (aj ..);unfold onB tG at ih ⊢;rw[br,br,ih]
  congr 1
  unfold onC Yj;by_cases h0:c≥0
  ·rw[decide_eq_true h0,cond_true,if_neg (by omega)]
  ·rw[decide_eq_false h0,cond_false,if_pos (by omega)]
   obtain⟨v,rfl⟩:∃ v:Nat,c = -1 - (v:Int):=⟨(-1 - c).toNat,by omega⟩
   have e1:(-1 - (-1 - (v:Int)))=(v:Int):=by omega
   have hv:=hz (v:Int) ⟨_,aj ..,by omega,by omega⟩
   rw[bl] at hv;rw[e1,h.at_ v,if_neg hv,bl];have:=hI.rng v;unfold rho;show [-(f.1.getD v 0)]=[-1 - (((f.1.getD v 0).toNat - 1:Nat):Int)]
   congr 1
   omega
theorem zaP {L:List zc} {T:List jI} {C:List zc} (hc:∀ r∈yg L T C,Cds r) (hl:L.length<=100) (ht:T.length<=100) (hcl:C.length<=100) (hsum:zi (L.map (·.2))+zi T+zi (C.map (·.2))<=1000):JI L T C=some (tX L T C):=by
 have cL:∀ l∈L,Cds l.2:=fun l h=>hc _ (yE h);have cT:∀ l∈T,Cds l:=fun l h=>hc _ (qn h);have cC:∀ l∈C,Cds l.2:=fun l h=>hc _ (qC h);have mL:∀ l,l∈zU L []↔l∈L:=fun l=>by simpa using xl (x:=l) L []
 have mT:∀ l,l∈zU T []↔l∈T:=fun l=>by simpa using xl (x:=l) T []
 have mC:∀ l,l∈zU C []↔l∈C:=fun l=>by simpa using xl (x:=l) C []
 have lL:=w8 L [];have lT:=w8 T [];have lC:=w8 C [];simp only[bb,aQ] at lL lT lC;have big:∀ r:List Int,Cds r->r.length<=1000000:=fun r h=>by have:=h.1; omega
 unfold JI;rw[Nt (fun l h=>big _ (cL l h)) (by omega),aa,Nt (fun l h=>big _ (cC l h)) (by omega),aa,
  Xu _ _ _ _ _ _ (by unfold maxLen; omega),CJ (fun l h=>big _ (cT l h)) T 0 [] rfl (fun _ h=>(nomatch h)) (by simp; omega),aa]
 simp only;rw[Qn _ _ _ (by omega) (by omega) (by omega),aa]
 have nr:∀ r∈(zU L []).map (·.2)++zU T []++(zU C []).map (·.2),Cds r:=fun r hr=>by
  rcases aJ.1 hr with hr | hr
  ·rcases aJ.1 hr with hr | hr
   ·obtain⟨l,hl,rfl⟩:=aY.1 hr; exact cL l ((mL l).1 hl)
   ·exact cT r ((mT r).1 hr)
  ·obtain⟨l,hl,rfl⟩:=aY.1 hr; exact cC l ((mC l).1 hl)
 have sL:zi ((zU L []).map (·.2))<=zi (L.map (·.2)):=by
  have:=Z7 (fun l:zc=>l.2.length) L [];have h4:(([]:List zc).map (fun l:zc=>l.2.length)).sum=0:=rfl;rw[h4,aQ] at this;unfold zi;rw[cJ,cJ];exact this
 have sC:zi ((zU C []).map (·.2))<=zi (C.map (·.2)):=by
  have:=Z7 (fun l:zc=>l.2.length) C [];have h4:(([]:List zc).map (fun l:zc=>l.2.length)).sum=0:=rfl;rw[h4,aQ] at this;unfold zi;rw[cJ,cJ];exact this
 have sT:zi (zU T [])<=zi T:=by
  have:=Z7 af T [];unfold zi;simpa using this
 rw[XR _ _ _ _ _ (by simp only[am,aP]; unfold maxLen; omega),LK _ _ _ (fun r hr=>(nr r hr).near) _ 0 [] bM (by rw[w9,w9]; simp only[bb]; omega),aa,eV,eV]
 -- the numbering
 obtain⟨a1,a2,a3,a4⟩:=ZA (zU L []) zgR fun l hl=>fun c h=>((cL l ((mL l).1 hl)).2 c h).1;obtain⟨b1,b2,b3,b4⟩:=Vc (zU T []) a1 fun l hl=>fun c h=>((cT l ((mT l).1 hl)).2 c h).1;obtain⟨c1,c2,c3,c4⟩:=ZA (zU C []) b1 fun l hl=>fun c h=>((cC l ((mC l).1 hl)).2 c h).1;have r1:=rl0.lits (zU L []) zgR fun l hl=>fun c h=>((cL l ((mL l).1 hl)).2 c h).1;have r2:=r1.rows (zU T []) a1 fun l hl=>fun c h=>((cT l ((mT l).1 hl)).2 c h).1;have r3:=r2.lits (zU C []) b1 fun l hl=>fun c h=>((cC l ((mC l).1 hl)).2 c h).1;have nz1:∀ x,ZM ((zU L []).map (·.2)) x->(vo (tW (vo (az 24 0,0) (zU L [])).2 (zU T [])).2 (zU C [])).2.1.getD x.toNat 0≠0:=fun x hx=>by
  have:=a3 x hx;rw[c2 _ (by rw[b2 _ this]; exact this),b2 _ this]
  exact this
 have nz2:∀ x,ZM (zU T []) x->(vo (tW (vo (az 24 0,0) (zU L [])).2 (zU T [])).2 (zU C [])).2.1.getD x.toNat 0≠0:=fun x hx=>by
  have:=b3 x hx;rw[c2 _ this];exact this
 rw[AF (r3.ok c1) (fun l h=>(cL l ((mL l).1 h)).near) (fun l h=>(cT l ((mT l).1 h)).near) (fun l h=>(cC l ((mC l).1 h)).near) (by omega) (by omega) (by omega),aa]
 unfold tX zfv;rw[a4 _ (b2.trans c2),b4 _ c2,c4 _ (ExtS.refl _)];have eL:J7 _ (zU L [])=ug _ (zU L []):=bV fun l h=>by
  show (l.1,_)=(l.1,_);rw[In c1 r3 l.2 (fun c hh=>((cL l ((mL l).1 h)).2 c hh).1) fun x hx=>nz1 x ⟨_,bi h,hx⟩]
 have eT:HR _ (zU T [])=(zU T []).map _:=bV fun l h=>In c1 r3 l (fun c hh=>((cT l ((mT l).1 h)).2 c hh).1) fun x hx=>nz2 x ⟨_,h,hx⟩;have eC:J7 _ (zU C [])=ug _ (zU C []):=bV fun l h=>by
  show (l.1,_)=(l.1,_);rw[In c1 r3 l.2 (fun c hh=>((cC l ((mC l).1 h)).2 c hh).1) fun x hx=>c3 x ⟨_,bi h,hx⟩]
 rw[eL,eT,eC]
theorem TopV.unique {rs:List jI} {m m':Int} (h:TopV rs m) (h':TopV rs m') (h0:0<=m) (h0':0<=m'):m=m':=by
 have a:m'<=m:=by
  rcases h'.2 with e | e
  ·omega
  ·have:=h.1 _ e; omega
 have b:m<=m':=by
  rcases h.2 with e | e
  ·omega
  ·have:=h'.1 _ e; omega
 omega
def upB (b:Nat) (vs:List Nat):List (Int×List Int):=vs.map fun v:Nat=>((v:Int),[-1 - (v:Int) - (b:Int)])
theorem GS {b:Nat} (hb:b<=24):(vs:List Nat)->(bs:List (Int×List Int))->(∀ v∈vs,v<24)->bs.length+vs.length<=1000->qy (b:Int) (vs.map fun v:Nat=>(v:Int)) bs=some (cond (vs.all fun v=>decide (v+b<=23)) (.inl (bs++upB b vs)) (.inr false))
 | [],bs,_,_=>by simp [qy,upB]
 | v::vs,bs,h,hl=>by
  have hv:=h v (aj ..);simp only[ak] at hl;rw[aM];unfold qy;have w1:ag .i64 ((v:Int)+(b:Int))=(v:Int)+(b:Int):=by rw[zp]<;>omega
  have w2:ag .i64 ((-1) - (v:Int)) = -1 - (v:Int):=by rw[zp]<;>omega
  have w3:ag .i64 (-1 - (v:Int) - (b:Int)) = -1 - (v:Int) - (b:Int):=by rw[zp]<;>omega
  rw[w1,w2,w3,b9];by_cases hvb:v+b<=23
  ·rw[decide_eq_false (show ¬(v:Int)+(b:Int)>23 by omega),cond_false,zk (by simp; omega),cond_true,GS hb vs _ (fun x hx=>h x (ai _ hx)) (by simp; omega),decide_eq_true hvb,aN]
   simp [upB]
  ·rw[decide_eq_true (show (v:Int)+(b:Int)>23 by omega),cond_true,decide_eq_false hvb]
   rfl
theorem JC {α β:Type} (f:α->β):(r:List α)->(g:α->List β)->(∀ c∈r,g c=[f c])->r.flatMap g=r.map f
 | [],_,_=>rfl
 | c::r,g,h=>by rw[br,h c (aj ..),JC f r g fun d hd=>h d (ai _ hd)]; rfl
theorem EZ (b:Nat) (v:Nat):(vs:List Nat)->v∈vs->ke (upB b vs) (v:Int)=some [-1 - (v:Int) - (b:Int)]
 | [],h=>(nomatch h)
 | w::vs,h=>by
  have ih:=EZ b v vs;unfold ke upB at ih ⊢;rw[aM,d7];by_cases hw:w=v
  ·subst hw;simp
  ·rw[show (((w:Nat):Int)==((v:Nat):Int))=false from by simp; omega]
   rcases aD.1 h with h | h
   ·exact absurd h.symm hw
   ·exact ih h
theorem S6 {b:Nat} {vs:List Nat} {r:List Int} (h:∀ x,HQ r x->0<=x∧x.toNat∈vs):onB (upB b vs) r=r.map (upC (b:Int)):=by
 unfold onB;refine JC _ r _ fun c hc => ?_;unfold onC upC;by_cases h0:c<0
 ·obtain⟨h1,h2⟩:=h (-1 - c) ⟨c,hc,h0,rfl⟩;have:=EZ b (-1 - c).toNat vs h2;rw[cG h1] at this;rw[decide_eq_false (show ¬ c≥0 by omega),cond_false,this,decide_eq_true h0,cond_true]
  show [_]=[_]
  congr 1
  omega
 ·rw[decide_eq_true (show c≥0 by omega),cond_true,decide_eq_false h0,cond_false]
theorem zfp (b:Nat) (vs:List Nat) (h:vs.length<=1000):BindsOk (upB b vs) where
 len:=by unfold upB; rw[aP]; exact h
 all:=fun q hq=>by
  obtain⟨v,-,rfl⟩:=aY.1 hq;exact ⟨by simp,by simp⟩
theorem WX {a0:List zg} (_hs:SignOk a0) {L:List zc} {T:List jI} {C:List zc} (h:xD a0 L T C=true):L.length<=5∧T.length<=3∧C.length<=3∧zi (L.map (·.2))+zi T+zi (C.map (·.2))<=1000:=by
 obtain⟨-,h1,h2,h3,-,-,-,h7⟩:=zn h;exact ⟨h1,h2,h3,by omega⟩
theorem VG {a0:List zg} (hs:SignOk a0) {L:List zc} {T:List jI} {C:List zc} {L':List zc} {T':List jI} {C':List zc} (h:xD a0 L T C=true) (h':xD a0 L' T' C'=true) {b:Nat} (hb:b<=24) (htop:TopV (yg L T C) (b:Int)) :
  (jl L T C L' T' C'=some ([],[],false,[])∧∃ x,ZM (yg L' T' C') x∧23<x+(b:Int)) ∨
  (jl L T C L' T' C'=some (ju (b:Int) L',T'.map (c5 (upC (b:Int))),true,ju (b:Int) C')∧∀ x,ZM (yg L' T' C') x->x+(b:Int)<=23):=by
 obtain⟨l1,l2,l3,l4⟩:=WX hs h;obtain⟨m1,m2,m3,m4⟩:=WX hs h';have hcd:=jm hs h';have hwm:∀ x,x∈(Xi L T C).map (fun v:Nat=>(v:Int))↔ZM (yg L T C) x:=fun x=>by
  constructor
  ·intro hx;obtain⟨v,hv,rfl⟩:=aY.1 hx;exact (Wf (Wt v hv)).1 hv
  ·intro hx;have:=Yb h hx;obtain⟨v,rfl⟩:∃ v:Nat,x=(v:Int):=⟨x.toNat,by omega⟩
   exact bi ((Wf (by omega)).2 hx)
 have hrise:Rise ((Xi L T C).map fun v:Nat=>(v:Int)):=by
  have h1:(Xi L T C).Pairwise (· < ·):=gS List.filter_sublist List.pairwise_lt_range;unfold Rise;rw[List.pairwise_map];exact h1.imp fun h=>by omega
 have hv':∀ x,ZM (yg L' T' C') x->0<=x∧x.toNat∈Xi L' T' C':=fun x hx=>by
  have:=Yb h' hx;refine ⟨this.1,(Wf (by omega)).2 ?_⟩
  rw[cG this.1]; exact hx
 have hvl:(Xi L' T' C').length<=24:=by
  have:=ID _ (aK 24) (KE L' T' C') fun v hv=>ci.2 (Wt v hv);simpa using this
 -- the last part, whatever the way to it
 have fin:∀ o:Option (List zc×List jI×Bool×List zc),o=((lp vf ze) ((b:Int),(Xi L' T' C').map (fun v:Nat=>(v:Int)),0,L',T',C',([]:List (Int×List Int)))).bind (fun r27=>zR r27 (fun z28=>(rN z28 L' T' C').bind fun r29=>some (r29.1,r29.2.1,true,r29.2.2)) (fun z30=>some (([]:List zc),([]:List jI),z30,([]:List zc)))) ->
   (o=some ([],[],false,[])∧∃ x,ZM (yg L' T' C') x∧23<x+(b:Int))∨(o=some (ju (b:Int) L',T'.map (c5 (upC (b:Int))),true,ju (b:Int) C')∧∀ x,ZM (yg L' T' C') x->x+(b:Int)<=23):=by
  intro o ho;rw[ho,Qa _ _ _ _ _ _ (by rw[aP]; unfold maxLen; omega),GS hb _ [] Wt (by simp; omega)]
  cases ha:(Xi L' T' C').all fun v=>decide (v+b<=23) with
  | false =>
   refine .inl ⟨rfl,?_⟩;obtain⟨v,hv,hvb⟩:=List.all_eq_false.1 ha;have hvb:¬ v+b<=23:=by simpa using hvb
   exact ⟨(v:Int),(Wf (Wt v hv)).1 hv,by omega⟩
  | true =>
   refine .inr ⟨?_,fun x hx => ?_⟩
   ·simp only[cond_true,aa,sr,bm];rw[AF (zfp b _ (by omega)) (fun l hl=>(hcd _ (yE hl)).near) (fun l hl=>(hcd _ (qn hl)).near) (fun l hl=>(hcd _ (qC hl)).near) (by omega) (by omega) (by omega),aa]
    have eL:∀ ls:List zc,(∀ l∈ls,l.2∈yg L' T' C')->J7 (upB b (Xi L' T' C')) ls=ju (b:Int) ls:=fun ls hls=>bV fun l hl=>by
     show (l.1,_)=(l.1,_);rw[S6 fun x hx=>hv' x ⟨_,hls l hl,hx⟩]
    have eT:HR (upB b (Xi L' T' C')) T'=T'.map (c5 (upC (b:Int))):=bV fun l hl=>S6 fun x hx=>hv' x ⟨_,qn hl,hx⟩;rw[eL L' fun l hl=>yE hl,eL C' fun l hl=>qC hl,eT]
   ·obtain⟨h1,h2⟩:=hv' x hx;have:=aC.1 ha _ h2;have:x.toNat+b<=23:=by simpa using this
    omega
 unfold jl;rw[j8 (by omega) (by omega) (by omega) (by omega),aa]
 rcases MI hrise hwm with ⟨h1,h2⟩ | ⟨x,h1,h2,h3⟩
 ·have e0:(b:Int)=0:=htop.unique h2 (by omega) (by omega)
  rw[h1];refine fin _ ?_;rw[e0,show decide (((af ([]:List Int):Nat):Int)>0)=false from rfl,cond_false,j8 (by omega) (by omega) (by omega) (by omega),aa]
 ·have hx0:0<=x:=by
   have:=(hwm x).1 (aI h1);exact (Yb h this).1
  have hx24:=(Yb h ((hwm x).1 (aI h1))).2;have e0:(b:Int)=x+1:=htop.unique h3 (by omega) (by omega)
  refine fin _ ?_;have hl24:((Xi L T C).map fun v:Nat=>(v:Int)).length<=24:=by
   have:=ID _ (aK 24) (KE L T C) fun v hv=>ci.2 (Wt v hv);simpa using this
  generalize (Xi L T C).map (fun v:Nat=>(v:Int))=ws at h1 h2 hl24 ⊢;have w1:ag .i64 (((af ws:Nat):Int) - 1)=((ws.length - 1:Nat):Int):=by rw[zp]<;>omega
  have w2:ag .i64 (x+1)=(b:Int):=by rw[zp]<;>omega
  rw[decide_eq_true (show ((af ws:Nat):Int)>0 by omega),cond_true,w1,yN (by omega),aa,h1,aa,j8 (by omega) (by omega) (by omega) (by omega),aa,w2]
theorem Ez {α:Type} (xs:List α) {i:Nat} (h:i<=xs.length):vM xs (some (i:Int)) none=some (xs.drop i):=by
 show slc xs (i:Int) (xs.length:Int)=some _;unfold slc;rw[decide_eq_true (show (0:Int)<=(i:Int) by omega),decide_eq_true (show (i:Int)<=(xs.length:Int) by omega),decide_eq_true (show (xs.length:Int)<=((xs.length:Nat):Int) by omega)]
 simp
theorem JF {α:Type} (s:Nat):(es:List α)->(i:Nat)->s<i->zv (s:Int) es i=es
 | [],_,_=>rfl
 | e::es,i,h=>by
  show cond ((i:Int) != (s:Int)) (e::zv (s:Int) es (i+1)) (zv (s:Int) es (i+1))=_;rw[show ((i:Int) != (s:Int))=true from by simp; omega,cond_true,JF s es (i+1) (by omega)]
theorem Yq {α:Type} (s:Nat):(es:List α)->(i:Nat)->i<=s->s<i+es.length->zv (s:Int) es i=es.take (s - i)++es.drop (s - i+1)
 | [],i,h,h2=>by simp at h2; omega
 | e::es,i,h,h2=>by
  show cond ((i:Int) != (s:Int)) (e::zv (s:Int) es (i+1)) (zv (s:Int) es (i+1))=_;simp only[ak] at h2;by_cases he:i=s
  ·subst he;rw[show ((i:Int) != (i:Int))=false from by simp,cond_false,JF i es (i+1) (by omega)]
   simp
  ·rw[show ((i:Int) != (s:Int))=true from by simp; omega,cond_true,Yq s es (i+1) (by omega) (by omega)]
   rw[show s - i=(s - (i+1))+1 from by omega]
   rfl
theorem Ql {L:List zc} {i:Int} (h:z5 L i=true) (hl:L.length<=1000):u5 L i=some (zv i L 0):=by
 unfold z5 at h;simp only[ax,decide_eq_true_eq] at h;obtain⟨k,rfl⟩:∃ k:Nat,i=(k:Int):=⟨i.toNat,by omega⟩
 have w1:ag .i64 ((k:Int)+1)=((k+1:Nat):Int):=by rw[zp]<;>omega
 unfold u5;rw[w1,Im L (by omega),aa,zk (by simp; omega),cond_true,Ez L (by omega),aa,zk (by simp; omega),cond_true,Yq k L 0 (by omega) (by omega)]
 simp
theorem R9 {σ:Sb} (hsh:qT σ (aK 24)=true) {L:List zc} {T:List jI} {C:List zc} (hL:∀ l∈L,Cds l.2) (hT:∀ r∈T,Cds r) (hC:∀ l∈C,Cds l.2) (h1:L.length<=1000) (h2:T.length<=1000) (h3:C.length<=1000) :
  rN (tn σ) L T C=some (ug σ L,T.map (tG σ),ug σ C):=by
 rw[AF (Q9 hsh) (fun l hl=>(hL l hl).near) (fun r hr=>(hT r hr).near) (fun l hl=>(hC l hl).near) h1 h2 h3,
  Kf fun l hl c hc=>((hL l hl).2 c hc).1,Kf fun l hl c hc=>((hC l hl).2 c hc).1,EL fun r hr c hc=>((hT r hr).2 c hc).1]
theorem KA {a0:List zg} {σ:Sb} (hs:SignOk a0) (hsh:qT σ (aK 24)=true) {L:List zc} {T:List jI} {C:List zc} (hL:∀ l∈L,Cds l.2) (hT:∀ r∈T,Cds r) (hC:∀ l∈C,Cds l.2) (h1:L.length<=1000) (h2:T.length<=1000) (h3:C.length<=1000) (k:Int) :
  ((kF a0 (tn σ) L T C).bind fun r40=>cond (!r40.2.2.1) (vN k) (some (r40.1,r40.2.1,true,(0:Int),r40.2.2.2)))=ZE a0 σ L T C k:=by
 unfold kF ZE;rw[R9 hsh hL hT hC h1 h2 h3,aa];simp only;rw[zL,aa];cases hm:xD a0 (ug σ L) (T.map (tG σ)) (ug σ C) with
 | false=>rfl
 | true =>
  obtain⟨l1,l2,l3,l4⟩:=WX hs hm;rw[ay,cond_false,zaP (jm hs hm) (by omega) (by omega) (by omega) l4]
  rfl
theorem rq (L:List zc) (T:List jI) (C:List zc) (i:Int):tK L T C i=some (z5 L i):=by
 unfold tK z5;by_cases h:i≥0
 ·rw[decide_eq_true h,cond_true,aN]
 ·rw[decide_eq_false h,cond_false,bj]
def uS (a0:jS) (a1:jQ) (a2:jR) (a3:jQ) (a4:Int) (a5:Int):Option (jQ×jR×Bool×Int×jQ) :=
 (jX a0 a1 a2 a3).bind fun r17 =>
 cond (!r17)
 (some (([]:jQ),([]:jR),false,1400,([]:jQ)))
 ((tK a1 a2 a3 a4).bind fun r18 =>
  cond (!r18)
  (some (([]:jQ),([]:jR),false,1400,([]:jQ)))
  ((tK a1 a2 a3 a5).bind fun r19 =>
   cond (!r19)
   (some (([]:jQ),([]:jR),false,1400,([]:jQ)))
   (cond (a4==a5)
    (some (([]:jQ),([]:jR),false,1400,([]:jQ)))
    ((gx a1 a4).bind fun e20 =>
     (gx a1 a5).bind fun e21 =>
     cond (!(e20.1==e21.1))
     (some (([]:jQ),([]:jR),false,0,([]:jQ)))
     ((gx a1 a4).bind fun e22 =>
      (gx e22.2 0).bind fun e23 =>
      (gx a1 a5).bind fun e24 =>
      (gx e24.2 0).bind fun e25 =>
      cond (e23 != e25)
      (some (([]:jQ),([]:jR),false,0,([]:jQ)))
      ((gx a1 a4).bind fun e26 =>
       (vM e26.2 (some 1) none).bind fun y27 =>
       (gx a1 a5).bind fun e28 =>
       (vM e28.2 (some 1) none).bind fun y29 =>
       (ua a0 y27 y29).bind fun r30 =>
       cond (!r30.2.1)
       (some (([]:jQ),([]:jR),false,1401,([]:jQ)))
       (cond (!r30.1)
        (some (([]:jQ),([]:jR),false,0,([]:jQ)))
        ((u5 a1 a5).bind fun r31 =>
         (kF a0 r30.2.2 r31 a2 a3).bind fun r32 =>
         cond (!r32.2.2.1)
         (some (([]:jQ),([]:jR),false,1401,([]:jQ)))
         (some (r32.1,r32.2.1,true,0,r32.2.2.2))))))))))
def t5 (rec:(jS×jI×Int×Int)->Option Int) (x:(jS×jI×Int×Int)):Option Int :=
 cond (decide (x.2.2.2<((af x.2.1:Nat):Int)))
 ((gx x.2.1 x.2.2.2).bind fun e4 =>
  cond (decide (e4<0))
  (rec (x.1,x.2.1,(ag .i64 (x.2.2.1+1)),(ag .i64 (x.2.2.2+1))))
  ((gx x.2.1 x.2.2.2).bind fun e5 =>
   (gx x.1 e5).bind fun e6 =>
   rec (x.1,x.2.1,(ag .i64 (x.2.2.1+e6.2.2.2)),(ag .i64 (x.2.2.2+1)))))
 (some x.2.2.1)
def Xb (a0:jS) (a1:jI):Option Int :=
 ((lp t5 ze) (a0,a1,0,0)).bind fun r8 =>
 some r8
def tZ (rec:(jI×jI×Int×Int×Int)->Option Int) (x:(jI×jI×Int×Int×Int)):Option Int :=
 cond (decide (x.2.2.2.2<((af x.2.1:Nat):Int)))
 ((gx x.2.1 x.2.2.2.2).bind fun e5 =>
  cond (e5==(ag .i64 ((-1) - x.2.2.1)))
  (rec (x.1,x.2.1,x.2.2.1,(ag .i64 (x.2.2.2.1 - 1)),(ag .i64 (x.2.2.2.2+1))))
  (rec (x.1,x.2.1,x.2.2.1,x.2.2.2.1,(ag .i64 (x.2.2.2.2+1)))))
 (some x.2.2.2.1)
def si (rec:(jI×jI×Int×Int×Int)->Option Int) (x:(jI×jI×Int×Int×Int)):Option Int :=
 cond (decide (x.2.2.2.2<((af x.1:Nat):Int)))
 ((gx x.1 x.2.2.2.2).bind fun e2 =>
  cond (e2==(ag .i64 ((-1) - x.2.2.1)))
  (rec (x.1,x.2.1,x.2.2.1,(ag .i64 (x.2.2.2.1+1)),(ag .i64 (x.2.2.2.2+1))))
  (rec (x.1,x.2.1,x.2.2.1,x.2.2.2.1,(ag .i64 (x.2.2.2.2+1)))))
 (some x.2.2.2.1)
def uW (rec:(jI×jI×Int)->Option (Unit⊕Bool)) (x:(jI×jI×Int)):Option (Unit⊕Bool) :=
 cond (decide (x.2.2<=23))
 (((lp si ze) (x.1,x.2.1,x.2.2,0,0)).bind fun r7 =>
  ((lp tZ ze) (x.1,x.2.1,x.2.2,r7,0)).bind fun r8 =>
  cond (decide (r8<0))
  (some (aE false))
  (rec (x.1,x.2.1,(ag .i64 (x.2.2+1)))))
 (some (aT ()))
def WR (a0:jI) (a1:jI):Option Bool :=
 ((lp uW ze) (a0,a1,0)).bind fun r12 =>
 zR r12
 (fun _z13=>some true)
 (fun z14=>some z14)
def rK (rf:((jS×jI×jI)->Option Bool)) (rec:(jS×jR×jR×Int)->Option (Unit⊕Bool)) (x:(jS×jR×jR×Int)):Option (Unit⊕Bool) :=
 cond (decide (x.2.2.2<((af x.2.1:Nat):Int)))
 ((gx x.2.1 x.2.2.2).bind fun e20 =>
  (gx x.2.2.1 x.2.2.2).bind fun e21 =>
  (vd e20 e21).bind fun r22 =>
  cond (!r22)
  ((gx x.2.1 x.2.2.2).bind fun e23 =>
   (gx x.2.2.1 x.2.2.2).bind fun e24 =>
   (rf (x.1,e23,e24)).bind fun r25 =>
   some (aE r25))
  (rec (x.1,x.2.1,x.2.2.1,(ag .i64 (x.2.2.2+1)))))
 (some (aT ()))
def XT (rf:((jS×jI×jI)->Option Bool)) (a0:jS) (a1:jI) (a2:jI):Option Bool :=
 (Xb a0 a1).bind fun r29 =>
 (Xb a0 a2).bind fun r30 =>
 (WR a1 a2).bind fun r31 =>
 cond (!r31)
 (some false)
 (cond (decide (r29<r30))
  (some false)
  (cond (decide (r29>r30))
   (cond (decide (r29>r30))
    (some true)
    ((gx a1 0).bind fun e32 =>
     (gx a2 0).bind fun e33 =>
     some (decide (e32>e33))))
   ((gx a1 0).bind fun e34 =>
    (gx a2 0).bind fun e35 =>
    cond (e34 != e35)
    (cond (decide (r29>r30))
     (some true)
     ((gx a1 0).bind fun e36 =>
      (gx a2 0).bind fun e37 =>
      some (decide (e36>e37))))
    ((vM a1 (some 1) none).bind fun y38 =>
     (zQ a0 y38).bind fun r39 =>
     (vM a2 (some 1) none).bind fun y40 =>
     (zQ a0 y40).bind fun r41 =>
     ((lp (rK rf) ze) (a0,r39,r41,0)).bind fun r42 =>
     zR r42
     (fun _z43=>some false)
     (fun z44=>some z44)))))
def V0 (rf:((jS×jI×jI)->Option Bool)):((jS×jI×jI)->Option Bool) :=
 fun (x:(jS×jI×jI))=>XT rf x.1 x.2.1 x.2.2
def V3:((jS×jI×jI)->Option Bool):=fun _=>none
def XS (k:Nat):((jS×jI×jI)->Option Bool):=lpR V3 V0 k
def Ky (a0:jS) (a1:jI) (a2:jI):Option Bool:=(XS ze) (a0,a1,a2)
def tQ (a0:jS) (a1:jI) (a2:jI):Option Int :=
 (vd a1 a2).bind fun r4 =>
 cond r4
 (some 1)
 ((Ky a0 a1 a2).bind fun r5 =>
  cond r5
  (some 2)
  ((Ky a0 a2 a1).bind fun r6 =>
   cond r6
   (some 0)
   (some 3)))
def Zw (a0:jS) (a1:Bool) (a2:jI) (a3:Bool) (a4:jI):Option Int :=
 (tQ a0 a2 a4).bind fun r2 =>
 cond (r2 != 1)
 (some r2)
 (cond (a1==a3)
  (some r2)
  (cond a1
   (some 2)
   (some 0)))
def kY (rec:(jS×jQ×Int×Int)->Option (Unit⊕Bool)) (x:(jS×jQ×Int×Int)):Option (Unit⊕Bool) :=
 cond (decide (x.2.2.2<((af x.2.1:Nat):Int)))
 ((gx x.2.1 x.2.2.2).bind fun e4 =>
  (gx x.2.1 x.2.2.1).bind fun e5 =>
  (Zw x.1 e4.1 e4.2 e5.1 e5.2).bind fun r6 =>
  cond (r6==2)
  (some (aE false))
  (rec (x.1,x.2.1,x.2.2.1,(ag .i64 (x.2.2.2+1)))))
 (some (aT ()))
def Wc (a0:jS) (a1:jQ) (a2:Int):Option Bool :=
 ((lp kY ze) (a0,a1,a2,0)).bind fun r10 =>
 zR r10
 (fun _z11=>some true)
 (fun z12=>some z12)
def xu (rec:(jS×Int×jI×Int×jQ×jR×jQ)->Option (Unit⊕Bool)) (x:(jS×Int×jI×Int×jQ×jR×jQ)):Option (Unit⊕Bool) :=
 cond (decide (x.2.2.2.1<x.2.1))
 ((gx x.2.2.2.2.1 x.2.2.2.1).bind fun e15 =>
  (gx x.2.2.2.2.1 x.2.1).bind fun e16 =>
  cond (!(e15.1==e16.1))
  ((gx x.2.2.2.2.1 x.2.2.2.1).bind fun e17 =>
   (vd e17.2 x.2.2.1).bind fun r18 =>
   cond r18
   (some (aE true))
   (rec (x.1,x.2.1,x.2.2.1,(ag .i64 (x.2.2.2.1+1)),x.2.2.2.2.1,x.2.2.2.2.2.1,x.2.2.2.2.2.2)))
  (rec (x.1,x.2.1,x.2.2.1,(ag .i64 (x.2.2.2.1+1)),x.2.2.2.2.1,x.2.2.2.2.2.1,x.2.2.2.2.2.2)))
 (some (aT ()))
def rT (rec:(jS×Int×jQ×jR×jQ)->Option (Unit⊕Bool)) (x:(jS×Int×jQ×jR×jQ)):Option (Unit⊕Bool) :=
 cond (decide (x.2.1<((af x.2.2.1:Nat):Int)))
 ((gx x.2.2.1 x.2.1).bind fun e28 =>
  (gx x.2.2.1 x.2.1).bind fun e29 =>
  cond (!e29.1)
  ((gx e28.2 0).bind fun e30 =>
   cond (e30==0)
   ((vM e28.2 (some 1) none).bind fun y31 =>
    (zQ x.1 y31).bind fun r32 =>
    (inR 0 (af r32)).bind fun k33 =>
    (r32[k33]?).bind fun x34 =>
    (inR 1 (af r32)).bind fun k35 =>
    (r32[k35]?).bind fun x36 =>
    (vd x34 x36).bind fun r37 =>
    cond r37
    (some (aE true))
    (((lp xu ze) (x.1,x.2.1,e28.2,0,x.2.2.1,x.2.2.2.1,x.2.2.2.2)).bind fun r38 =>
     zR r38
     (fun _z39=>rec (x.1,(ag .i64 (x.2.1+1)),x.2.2.1,x.2.2.2.1,x.2.2.2.2))
     (fun z40=>some (aE z40))))
   (((lp xu ze) (x.1,x.2.1,e28.2,0,x.2.2.1,x.2.2.2.1,x.2.2.2.2)).bind fun r41 =>
    zR r41
    (fun _z42=>rec (x.1,(ag .i64 (x.2.1+1)),x.2.2.1,x.2.2.2.1,x.2.2.2.2))
    (fun z43=>some (aE z43))))
  (((lp xu ze) (x.1,x.2.1,e28.2,0,x.2.2.1,x.2.2.2.1,x.2.2.2.2)).bind fun r44 =>
   zR r44
   (fun _z45=>rec (x.1,(ag .i64 (x.2.1+1)),x.2.2.1,x.2.2.2.1,x.2.2.2.2))
   (fun z46=>some (aE z46))))
 (some (aT ()))
def KH (a0:jS) (a1:jQ) (a2:jR) (a3:jQ):Option Bool :=
 ((lp rT ze) (a0,0,a1,a2,a3)).bind fun r50 =>
 zR r50
 (fun _z51=>some false)
 (fun z52=>some z52)
def x5 (a0:jS) (a1:Int) (a2:Int) (a3:Int) (a4:Int) (a5:Int) (a6:Int) (a7:Int) (a8:Int) (a9:jQ) (a10:jR) (a11:jQ) (a12:Bool) (a13:Int) (a14:jT):Option (Int×jT) :=
 cond (a13 != 0)
 (some ((ag .i64 (a1+1)),a14))
 (cond a12
  ((KH a0 a9 a10 a11).bind fun r2 =>
   cond (!r2)
   (cond (yp (af a14+af ([(a2,a3,a4,a5,a6,a7,a8,a9,a10,a11)]:List jU)) 128)
    (some (a1,(a14++([(a2,a3,a4,a5,a6,a7,a8,a9,a10,a11)]:List jU))))
    (none))
   (some (a1,a14)))
  (some (a1,a14)))
def qP (rec:(jS×Int×Int×Int×Int×jQ×jR×jQ×jT)->Option (Int×jT)) (x:(jS×Int×Int×Int×Int×jQ×jR×jQ×jT)):Option (Int×jT) :=
 cond (decide (x.2.2.2.2.1<((af x.2.2.2.2.2.1:Nat):Int)))
 ((Wc x.1 x.2.2.2.2.2.1 x.2.2.2.1).bind fun r11 =>
  cond r11
  ((uS x.1 x.2.2.2.2.2.1 x.2.2.2.2.2.2.1 x.2.2.2.2.2.2.2.1 x.2.2.2.1 x.2.2.2.2.1).bind fun r12 =>
   (x5 x.1 x.2.2.1 2 x.2.1 x.2.2.2.1 0 (-1) x.2.2.2.2.1 0 r12.1 r12.2.1 r12.2.2.2.2 r12.2.2.1 r12.2.2.2.1 x.2.2.2.2.2.2.2.2).bind fun r13 =>
   rec (x.1,x.2.1,r13.1,x.2.2.2.1,(ag .i64 (x.2.2.2.2.1+1)),x.2.2.2.2.2.1,x.2.2.2.2.2.2.1,x.2.2.2.2.2.2.2.1,r13.2))
  ((Wc x.1 x.2.2.2.2.2.1 x.2.2.2.2.1).bind fun r14 =>
   cond r14
   ((uS x.1 x.2.2.2.2.2.1 x.2.2.2.2.2.2.1 x.2.2.2.2.2.2.2.1 x.2.2.2.1 x.2.2.2.2.1).bind fun r15 =>
    (x5 x.1 x.2.2.1 2 x.2.1 x.2.2.2.1 0 (-1) x.2.2.2.2.1 0 r15.1 r15.2.1 r15.2.2.2.2 r15.2.2.1 r15.2.2.2.1 x.2.2.2.2.2.2.2.2).bind fun r16 =>
    rec (x.1,x.2.1,r16.1,x.2.2.2.1,(ag .i64 (x.2.2.2.2.1+1)),x.2.2.2.2.2.1,x.2.2.2.2.2.2.1,x.2.2.2.2.2.2.2.1,r16.2))
   (rec (x.1,x.2.1,x.2.2.1,x.2.2.2.1,(ag .i64 (x.2.2.2.2.1+1)),x.2.2.2.2.2.1,x.2.2.2.2.2.2.1,x.2.2.2.2.2.2.2.1,x.2.2.2.2.2.2.2.2))))
 (some (x.2.2.1,x.2.2.2.2.2.2.2.2))
def qS (rec:(jS×Int×Int×Int×jQ×jR×jQ×jT)->Option (Int×jT)) (x:(jS×Int×Int×Int×jQ×jR×jQ×jT)):Option (Int×jT) :=
 cond (decide (x.2.2.2.1<((af x.2.2.2.2.1:Nat):Int)))
 (((lp qP ze) (x.1,x.2.1,x.2.2.1,x.2.2.2.1,(ag .i64 (x.2.2.2.1+1)),x.2.2.2.2.1,x.2.2.2.2.2.1,x.2.2.2.2.2.2.1,x.2.2.2.2.2.2.2)).bind fun r19 =>
  rec (x.1,x.2.1,r19.1,(ag .i64 (x.2.2.2.1+1)),x.2.2.2.2.1,x.2.2.2.2.2.1,x.2.2.2.2.2.2.1,r19.2))
 (some (x.2.2.1,x.2.2.2.2.2.2.2))
def Z8 (a0:jS) (a1:jQ) (a2:jR) (a3:jQ) (a4:Int):Option (Int×Int×jT) :=
 (jX a0 a1 a2 a3).bind fun r21 =>
 cond (!r21)
 (some (0,1400,([]:jT)))
 (((lp qS ze) (a0,a4,0,0,a1,a2,a3,([]:jT))).bind fun r22 =>
  some (r22.1,0,r22.2))
def qR (s0:jS):List Int->Int->Option Int
 | [],s2=>some s2
 | e::es,s2 =>
  cond (decide (e<0))
  (qR s0 es (ag .i64 (s2+1)))
  ((gx s0 e).bind fun e6 =>
   qR s0 es (ag .i64 (s2+e6.2.2.2)))
theorem Xl (s0:jS) (s1:jI) (s2:Int) (hl:af s1<=maxLen):lp t5 ze (s0,s1,s2,0)=qR s0 s1 s2:=xR t5 (fun i s2=>(s0,s1,s2,i)) (fun es i s2=>qR s0 es s2) hl (fun r i s2 h=>by unfold t5 qR; simp only[h,cond_false]) (fun r i s2 e es h g w k=>by unfold t5 qR; simp only[h,cond_true,g,aa,w,k]) s2
def y9 (s2:Int):List Int->Int->Option Int
 | [],s3=>some s3
 | e::es,s3 =>
  cond (e==(ag .i64 ((-1) - s2)))
  (y9 s2 es (ag .i64 (s3 - 1)))
  (y9 s2 es s3)
theorem Xh (s0:jI) (s1:jI) (s2:Int) (s3:Int) (hl:af s1<=maxLen):lp tZ ze (s0,s1,s2,s3,0)=y9 s2 s1 s3:=xR tZ (fun i s3=>(s0,s1,s2,s3,i)) (fun es i s3=>y9 s2 es s3) hl (fun r i s3 h=>by unfold tZ y9; simp only[h,cond_false]) (fun r i s3 e es h g w k=>by unfold tZ y9; simp only[h,cond_true,g,aa,w,k]) s3
def y8 (s2:Int):List Int->Int->Option Int
 | [],s3=>some s3
 | e::es,s3 =>
  cond (e==(ag .i64 ((-1) - s2)))
  (y8 s2 es (ag .i64 (s3+1)))
  (y8 s2 es s3)
theorem Xk (s0:jI) (s1:jI) (s2:Int) (s3:Int) (hl:af s0<=maxLen):lp si ze (s0,s1,s2,s3,0)=y8 s2 s0 s3:=xR si (fun i s3=>(s0,s1,s2,s3,i)) (fun es i s3=>y8 s2 es s3) hl (fun r i s3 h=>by unfold si y8; simp only[h,cond_false]) (fun r i s3 e es h g w k=>by unfold si y8; simp only[h,cond_true,g,aa,w,k]) s3
def wr (rf:((jS×jI×jI)->Option Bool)) (s0:jS) (s2:jR):List jI->Nat->Option (Unit⊕Bool)
 | [],_i=>some (aT ())
 | e::es,i =>
  (gx s2 (i:Int)).bind fun e21 =>
  (vd e e21).bind fun r22 =>
  cond (!r22)
  ((gx s2 (i:Int)).bind fun e24 =>
   (rf (s0,e,e24)).bind fun r25 =>
   some (aE r25))
  (wr rf s0 s2 es (i+1))
theorem XD (rf:((jS×jI×jI)->Option Bool)) (s0:jS) (s1:jR) (s2:jR) (hl:af s1<=maxLen):lp (rK rf) ze (s0,s1,s2,0)=wr rf s0 s2 s1 0:=tw (rK rf) (fun i=>(s0,s1,s2,i)) (fun es i=>wr rf s0 s2 es i) hl (fun r i h=>by unfold rK wr; simp only[h,cond_false]) (fun r i e es h g w k=>by unfold rK wr; simp only[h,cond_true,g,aa,w,k])
def vn (s0:jS) (s1:jQ) (s2:Int):List zc->Option (Unit⊕Bool)
 | []=>some (aT ())
 | e::es =>
  (gx s1 s2).bind fun e5 =>
  (Zw s0 e.1 e.2 e5.1 e5.2).bind fun r6 =>
  cond (r6==2)
  (some (aE false))
  (vn s0 s1 s2 es)
theorem Wb (s0:jS) (s1:jQ) (s2:Int) (hl:af s1<=maxLen):lp kY ze (s0,s1,s2,0)=vn s0 s1 s2 s1:=tw kY (fun i=>(s0,s1,s2,i)) (fun es i=>vn s0 s1 s2 es) hl (fun r i h=>by unfold kY vn; simp only[h,cond_false]) (fun r i e es h g w k=>by unfold kY vn; simp only[h,cond_true,g,aa,w,k])
def qJ (s0:jS) (s2:jQ) (s3:jR) (s4:jQ):List zc->Nat->Option (Unit⊕Bool)
 | [],_i=>some (aT ())
 | e::es,i =>
  cond (!e.1)
  ((gx e.2 0).bind fun e30 =>
   cond (e30==0)
   ((vM e.2 (some 1) none).bind fun y31 =>
    (zQ s0 y31).bind fun r32 =>
    (inR 0 (af r32)).bind fun k33 =>
    (r32[k33]?).bind fun x34 =>
    (inR 1 (af r32)).bind fun k35 =>
    (r32[k35]?).bind fun x36 =>
    (vd x34 x36).bind fun r37 =>
    cond r37
    (some (aE true))
    (((lp xu ze) (s0,(i:Int),e.2,0,s2,s3,s4)).bind fun r38 =>
     zR r38
     (fun _z39=>qJ s0 s2 s3 s4 es (i+1))
     (fun z40=>some (aE z40))))
   (((lp xu ze) (s0,(i:Int),e.2,0,s2,s3,s4)).bind fun r41 =>
    zR r41
    (fun _z42=>qJ s0 s2 s3 s4 es (i+1))
    (fun z43=>some (aE z43))))
  (((lp xu ze) (s0,(i:Int),e.2,0,s2,s3,s4)).bind fun r44 =>
   zR r44
   (fun _z45=>qJ s0 s2 s3 s4 es (i+1))
   (fun z46=>some (aE z46)))
theorem Xt (s0:jS) (s2:jQ) (s3:jR) (s4:jQ) (hl:af s2<=maxLen):lp rT ze (s0,0,s2,s3,s4)=qJ s0 s2 s3 s4 s2 0:=tw rT (fun i=>(s0,i,s2,s3,s4)) (fun es i=>qJ s0 s2 s3 s4 es i) hl (fun r i h=>by unfold rT qJ; simp only[h,cond_false]) (fun r i e es h g w k=>by unfold rT qJ; simp only[h,cond_true,g,aa,w,k])
theorem AJ (a0:List zg) (L:List zc) (T:List jI) (C:List zc) (i j:Int):uS a0 L T C i j=wd a0 L T C i j:=by
 unfold uS wd;rw[zL,aa,zD,aa];cases h:xD a0 L T C with
 | false=>rfl
 | true =>
  rw[ay,cond_false,cond_false,rq,aa,wk,aa];cases hpi:z5 L i with
  | false=>rfl
  | true =>
   rw[ay,cond_false,cond_false,rq,aa,wk,aa];cases hpj:z5 L j with
   | false=>rfl
   | true =>
    rw[ay,cond_false,cond_false];cases i==j with
    | true=>rfl
    | false =>
     rw[cond_false,cond_false];have eta:∀ o:Option Vf,(o.bind fun r=>some (r.1,r.2.1,r.2.2.1,r.2.2.2.1,r.2.2.2.2))=o:=fun o=>by cases o<;>rfl
     rw[eta];have hs:=xS (zn h).1;obtain⟨⟨n,A⟩,hi⟩:=uh hpi;obtain⟨⟨n',A'⟩,hj⟩:=uh hpj;obtain⟨m1,m2,m3,-⟩:=WX hs h;have hcd:=jm hs h;obtain⟨hsb,-,-,-,l4,-,-,-⟩:=zn h;obtain⟨c,ts,e,rfl,ho,he,-,hlen,hl48,-⟩:=xP (aC.1 l4 (n,A) (rL hi));obtain⟨c',us,e',rfl,ho',he',-,hlen',hl48',-⟩:=xP (aC.1 l4 (n',A') (rL hj));unfold uF;simp only[hi,hj,aa,yc,aB];cases !(n==n') with
     | true=>rfl
     | false =>
      rw[cond_false,cond_false];by_cases hc:c=c'
      ·subst hc;rw[show ((c:Int) != (c:Int))=false from by simp,cond_false,cond_false]
       simp only[wB,aa];rcases Zf hs (xs:=za ts) (ys:=za us) rfl rfl ho ho' hsb hl48 hl48' with ⟨hu,hno⟩ | ⟨hll,σ,hm,hok,hu⟩
       ·rcases u4 hs ho ho' hl48 hl48' with ⟨tg,-⟩ | ⟨hll',σ',hm',tg⟩
        ·rw[hu,tg]; rfl
        ·rcases hno with hno | hno
         ·exact absurd hll' hno
         ·exact absurd hm'.sol (hno σ')
       ·rcases u4 hs ho ho' hl48 hl48' with ⟨tg,hno⟩ | ⟨hll',σ',hm',tg⟩
        ·rcases hno with hno | hno
         ·exact absurd hll hno
         ·exact absurd hm.sol (hno σ)
        ·have:=hm.unique hm';subst this;rw[hu,tg];cases hsh:qT σ (aK 24) with
         | false=>rfl
         | true =>
          simp only[cond_true,aa,show ((0:Int) != 0)=false from rfl,cond_false,ay]
          have hwl:=tF j L 0;have cW:∀ l∈zv j L 0,Cds l.2:=fun l hl=>hcd _ (yE (v7 L 0 hl));have cT:∀ r∈T,Cds r:=fun r hr=>hcd _ (qn hr);have cC:∀ l∈C,Cds l.2:=fun l hl=>hcd _ (qC hl);rw[Ql hpj (by omega),aa,vC j (-1) (by omega) (by omega) (by omega) (by simp) (by simp) (by simp),aa]
          simp only[bG,zv];rw[D0 hsh cW cT cC (by omega) (by omega) (by omega),aa,qO,aa]
          refine (KA (a0:=a0) hs hsh cW cT cC (by omega) (by omega) (by omega) 1401).trans ?_
          unfold ZE;cases xD a0 (ug σ (zv j L 0)) (T.map (tG σ)) (ug σ C) with
          | true=>rfl
          | false=>rfl
      ·rw[show ((c:Int) != (c':Int))=true from by simp; omega]
       rfl
theorem Iy (a0:List zg):(es:List Int)->(s:Int)->qR a0 es s=qB a0 es s
 | [],_=>rfl
 | e::es,s=>by
  unfold qR qB;rw[Iy a0 es]
  congr 1
  congr 1
  funext e6
  exact Iy a0 es _
theorem C6 (a0:List zg) {r:List Int} (h:r.length<=1000000):Xb a0 r=Z0 a0 r:=by
 unfold Xb Z0;rw[Xl _ _ _ (by unfold maxLen; omega),jG _ _ _ (by unfold maxLen; omega),Iy]
def Wa (r:List Int) (v:Nat):Nat:=r.count (-1 - (v:Int))
theorem OJ (r:List Int) (v:Nat):Wa r v<=r.length:=List.count_le_length
theorem Wj (c:Int) (r:List Int) (v:Nat):Wa (c::r) v=Wa r v+cond (c == -1 - (v:Int)) 1 0:=by
 unfold Wa;rw[List.count_cons];cases c == -1 - (v:Int)<;>rfl
theorem Iz {v:Nat} (hv:v<24):(es:List Int)->(s:Int) -> -1000000000<=s->s+es.length<=1000000000->y8 (v:Int) es s=some (s+(Wa es v:Int))
 | [],s,_,_=>by simp [y8,Wa]
 | e::es,s,h0,h1=>by
  simp only[ak] at h1;unfold y8;have w1:ag .i64 ((-1) - (v:Int)) = -1 - (v:Int):=by rw[zp]<;>omega
  have w2:ag .i64 (s+1)=s+1:=by rw[zp]<;>omega
  rw[w1,w2,Wj];cases e == -1 - (v:Int) with
  | true=>rw[cond_true,cond_true,Iz hv es _ (by omega) (by omega)]; congr 1; omega
  | false=>rw[cond_false,cond_false,Iz hv es _ (by omega) (by omega)]; congr 1
theorem If {v:Nat} (hv:v<24):(es:List Int)->(s:Int) -> -1000000000<=s - es.length->s<=1000000000->y9 (v:Int) es s=some (s - (Wa es v:Int))
 | [],s,_,_=>by simp [y9,Wa]
 | e::es,s,h0,h1=>by
  simp only[ak] at h0;unfold y9;have w1:ag .i64 ((-1) - (v:Int)) = -1 - (v:Int):=by rw[zp]<;>omega
  have w2:ag .i64 (s - 1)=s - 1:=by rw[zp]<;>omega
  rw[w1,w2,Wj];cases e == -1 - (v:Int) with
  | true=>rw[cond_true,cond_true,If hv es _ (by omega) (by omega)]; congr 1; omega
  | false=>rw[cond_false,cond_false,If hv es _ (by omega) (by omega)]; congr 1
def Wm (a b:List Int) (vs:List Nat):Bool:=vs.all fun v=>decide (Wa b v<=Wa a v)
theorem P9 {a b:List Int} (ha:a.length<=1000000) (hb:b.length<=1000000):∀(m v k:Nat),24 - v=m->v<=24->m<k->lp uW k (a,b,(v:Int))=some (cond (Wm a b ((aK 24).drop v)) (.inl ()) (.inr false)):=by
 intro m
 induction m with
 | zero =>
  intro v k hm hv hk;obtain⟨k,rfl⟩:∃ k',k=k'+1:=⟨k - 1,by omega⟩
  rw[zu];generalize lp uW k=rec;unfold uW;have:v=24:=by omega
  subst this;rw[show (aK 24).drop 24=[] from rfl]
  rfl
 | succ m ih =>
  intro v k hm hv hk;obtain⟨k,rfl⟩:∃ k',k=k'+1:=⟨k - 1,by omega⟩
  rw[zu];have key:=ih (v+1) k (by omega) (by omega) (by omega)
  generalize lp uW k=rec at key ⊢;unfold uW;have w1:ag .i64 ((v:Int)+1)=((v+1:Nat):Int):=by rw[zp]<;>omega
  have hdr:(aK 24).drop v=v::(aK 24).drop (v+1):=by
   rw[aX (by simp; omega)]
   simp
  have hca:=OJ a v;have hcb:=OJ b v;simp only[decide_eq_true (show (v:Int)<=23 by omega),cond_true,w1]
  rw[Xk _ _ _ _ (by unfold maxLen; omega),Iz (by omega) a 0 (by omega) (by omega),aa,Xh _ _ _ _ (by unfold maxLen; omega),If (by omega) b _ (by omega) (by omega),aa,key,hdr]
  unfold Wm;rw[b9];by_cases hc:Wa b v<=Wa a v
  ·rw[decide_eq_false (show ¬(0+(Wa a v:Int) - (Wa b v:Int)<0) by omega),cond_false,decide_eq_true hc,aN]
  ·rw[decide_eq_true (show 0+(Wa a v:Int) - (Wa b v:Int)<0 by omega),cond_true,decide_eq_false hc,bj,cond_false]
theorem Sx {a b:List Int} (ha:a.length<=1000000) (hb:b.length<=1000000):WR a b=some (Wm a b (aK 24)):=by
 unfold WR;have:=P9 ha hb 24 0 ze rfl (by omega) (by unfold ze; omega)
 rw[show ((0:Nat):Int)=0 from rfl,bM] at this
 rw[this];cases Wm a b (aK 24)<;>rfl
theorem IT:(es:List Int)->(xs:List Int)->(∀ c∈es,-24<=c)->xs.length=24->(∀ v,v<24->0<=xs.getD v 0∧xs.getD v 0+es.length<=1000000000)->∃ ys,qo es xs=some ys∧ys.length=24∧∀ v,v<24->ys.getD v 0=xs.getD v 0+(Wa es v:Int)
 | [],xs,_,hl,_=>⟨xs,rfl,hl,fun v _=>by simp [Wa]⟩
 | c::es,xs,hc,hl,hb=>by
  have hc0:=hc c (aj ..);simp only[ak] at hb;unfold qo;by_cases h0:c<0
  ·obtain⟨u,rfl⟩:∃ u:Nat,c = -1 - (u:Int):=⟨(-1 - c).toNat,by omega⟩
   have hu:u<24:=by omega
   have hbu:=hb u hu;have hg:xs[u]? = some (xs.getD u 0):=by
    rw[aG,al (by omega)]
    rfl
   have w1:ag .i64 (xs.getD u 0+1)=xs.getD u 0+1:=by rw[zp]<;>omega
   rw[decide_eq_true h0,cond_true,qA (by omega) (by omega),aa,show -1 - (-1 - (u:Int))=(u:Int) from by omega,yN hu,aa,hg,aa,aa,hg,aa,w1]
   obtain⟨ys,g1,g2,g3⟩:=IT es (xs.set u (xs.getD u 0+1)) (fun d hd=>hc d (ai _ hd)) (by rw[cg]; exact hl) (fun v hv=>by
    rw[ry (by omega)]
    have:=hb v hv;split<;>omega)
   refine ⟨ys,g1,g2,fun v hv => ?_⟩;rw[g3 v hv,ry (by omega),Wj]
   by_cases hvu:v=u
   ·subst hvu;rw[if_pos rfl,show ((-1 - (v:Int)) == -1 - (v:Int))=true from by simp,cond_true]
    omega
   ·rw[if_neg hvu,show ((-1 - (u:Int)) == -1 - (v:Int))=false from by simp; omega,cond_false]
    omega
  ·rw[decide_eq_false h0,cond_false];obtain⟨ys,g1,g2,g3⟩:=IT es xs (fun d hd=>hc d (ai _ hd)) hl (fun v hv=>by have:=hb v hv; omega)
   refine ⟨ys,g1,g2,fun v hv => ?_⟩;rw[g3 v hv,Wj,show (c == -1 - (v:Int))=false from by simp; omega,cond_false]
   omega
theorem E8 {r:List Int} (hl:r.length<=1000000) (hc:∀ c∈r,-24<=c):∃ ys,jj r=some ys∧ys.length=24∧∀ v,v<24->ys.getD v 0=(Wa r v:Int):=by
 have hz:∀ v,(az 24 (0:Int)).getD v 0=0:=fun v=>by
  rw[aG,bJ];split<;>rfl
 obtain⟨ys,g1,g2,g3⟩:=IT r (az 24 (0:Int)) hc (by simp) (fun v _=>by rw[hz]; omega)
 refine ⟨ys,?_,g2,fun v hv=>by rw[g3 v hv,hz]; omega⟩
 unfold jj;rw[Qv _ _ (by unfold maxLen; omega),g1,aa,g2]
 rfl
theorem FN {a b xs ys:List Int} (hx:xs.length=24) (hy:ys.length=24) (gx:∀ v,v<24->xs.getD v 0=(Wa a v:Int)) (gy:∀ v,v<24->ys.getD v 0=(Wa b v:Int)):∀(m v k:Nat),24 - v=m->v<=24->m<k->lp wl k ((v:Int),xs,ys)=some (cond (Wm a b ((aK 24).drop v)) (.inl ()) (.inr false)):=by
 intro m
 induction m with
 | zero =>
  intro v k hm hv hk;obtain⟨k,rfl⟩:∃ k',k=k'+1:=⟨k - 1,by omega⟩
  rw[zu];generalize lp wl k=rec;unfold wl;have:v=24:=by omega
  subst this;rw[show (aK 24).drop 24=[] from rfl]
  rfl
 | succ m ih =>
  intro v k hm hv hk;obtain⟨k,rfl⟩:∃ k',k=k'+1:=⟨k - 1,by omega⟩
  rw[zu];have key:=ih (v+1) k (by omega) (by omega) (by omega)
  generalize lp wl k=rec at key ⊢;unfold wl;have w1:ag .i64 ((v:Int)+1)=((v+1:Nat):Int):=by rw[zp]<;>omega
  have hdr:(aK 24).drop v=v::(aK 24).drop (v+1):=by
   rw[aX (by simp; omega)]
   simp
  have h1:xs[v]? = some (Wa a v:Int):=by
   rw[← gx v (by omega),aG,al (by omega)]
   rfl
  have h2:ys[v]? = some (Wa b v:Int):=by
   rw[← gy v (by omega),aG,al (by omega)]
   rfl
  simp only[decide_eq_true (show (v:Int)<24 by omega),cond_true,w1,yN (show v<24 by omega),aa,h1,h2]
  rw[key,hdr];unfold Wm;rw[b9];by_cases hc:Wa b v<=Wa a v
  ·rw[decide_eq_false (show ¬((Wa a v:Int)<(Wa b v:Int)) by omega),cond_false,decide_eq_true hc,aN]
  ·rw[decide_eq_true (show (Wa a v:Int)<(Wa b v:Int) by omega),cond_true,decide_eq_false hc,bj,cond_false]
theorem MB {a b:List Int} (ha:a.length<=1000000) (hb:b.length<=1000000) (ca:∀ c∈a,-24<=c) (cb:∀ c∈b,-24<=c):jC a b=some (Wm a b (aK 24)):=by
 obtain⟨xs,h1,h2,h3⟩:=E8 ha ca;obtain⟨ys,g1,g2,g3⟩:=E8 hb cb;unfold jC;rw[h1,aa,g1,aa];have:=FN (a:=a) (b:=b) h2 g2 h3 g3 24 0 ze rfl (by omega) (by unfold ze; omega)
 rw[show ((0:Nat):Int)=0 from rfl,bM] at this
 rw[show aA (af (az 24 (0:Int))) 24=true from by simp,cond_true,cond_true,this]
 cases Wm a b (aK 24)<;>rfl
structure HF (a0:List zg) (a:List Int) (c:Int) (ts:List Tm):Prop where
 eq:a=c::za ts
 ok:okR a0 24 ts
 len:a.length<=1000
 low : -24<=c
 sym:0<=c->∃ e,gx a0 c=some e
theorem PF {a0:List zg} (hs:SignOk a0) {t:Tm} (ho:t.ok a0 24) (hl:t.codes.length<=1000):∃ c ts,HF a0 t.codes c ts∧(∀ d us u,u=t->u.codes=d::za us->True)∧xK ts<t.size:=by
 cases t with
 | v n =>
  have hn:n<24:=ho;exact ⟨-1 - (n:Int),[],⟨rfl,trivial,hl,by omega,fun h=>by omega⟩,fun _ _ _ _ _=>trivial,by simp [xK,Tm.size]⟩
 | f c as =>
  obtain⟨e,he,-⟩:=Ea hs ho.1;exact ⟨(c:Int),as,⟨rfl,ho.2,hl,by omega,fun _=>⟨e,he⟩⟩,fun _ _ _ _ _=>trivial,by simp [Tm.size]⟩
mutual
theorem Tm.syms {a0:List zg} (hs:SignOk a0):(t:Tm)->t.ok a0 24->∀ c∈t.codes,-24<=c∧(0<=c->∃ e,gx a0 c=some e)
 | .v n,ho,c,hc=>by
  have hn:n<24:=ho;have hc:c = -1 - (n:Int):=by simpa[Tm.codes] using hc
  exact ⟨by omega,fun h=>by omega⟩
 | .f d as,ho,c,hc=>by
  rcases aD.1 (show c∈(d:Int)::za as from hc) with rfl | hc
  ·obtain⟨e,he,-⟩:=Ea hs ho.1;exact ⟨by omega,fun _=>⟨e,he⟩⟩
  ·exact zbO hs as ho.2 c hc
theorem zbO {a0:List zg} (hs:SignOk a0):(ts:List Tm)->okR a0 24 ts->∀ c∈za ts,-24<=c∧(0<=c->∃ e,gx a0 c=some e)
 | [],_,_,hc=>by simp [za] at hc
 | t::ts,ho,c,hc=>by
  rcases aJ.1 (show c∈t.codes++za ts from hc) with hc | hc
  ·exact Tm.syms hs t ho.1 c hc
  ·exact zbO hs ts ho.2 c hc
end
theorem HF.syms {a0:List zg} (hs:SignOk a0) {a:List Int} {c:Int} {ts:List Tm} (h:HF a0 a c ts):∀ d∈a,-24<=d∧(0<=d->∃ e,gx a0 d=some e):=fun d hd=>by
 rw[h.eq] at hd;rcases aD.1 hd with rfl | hd
 ·exact ⟨h.low,h.sym⟩
 ·exact zbO hs ts h.ok d hd
theorem VF {a0:List zg}:(es:List Int)->(s:Int)->(∀ d∈es,-24<=d∧(0<=d->∃ e,gx a0 d=some e))->∃ r,qB a0 es s=some r
 | [],s,_=>⟨s,rfl⟩
 | e::es,s,h=>by
  unfold qB;have ih:=fun s=>VF es s fun d hd=>h d (ai _ hd);by_cases h0:e<0
  ·rw[decide_eq_true h0]; exact ih _
  ·obtain⟨x,hx⟩:=(h e (aj ..)).2 (by omega)
   rw[decide_eq_false h0,cond_false,hx];exact ih _
theorem HF.sum {a0:List zg} (hs:SignOk a0) {a:List Int} {c:Int} {ts:List Tm} (h:HF a0 a c ts):∃ r,Z0 a0 a=some r:=by
 have:=h.len;obtain⟨r,hr⟩:=VF a 0 (h.syms hs);refine ⟨r,?_⟩;unfold Z0;rw[jG _ _ _ (by unfold maxLen; omega),hr]
 rfl
def Xo:List Tm->List Tm->Option (Tm×Tm)
 | t::ts,u::us=>if t.codes=u.codes then Xo ts us else some (t,u)
 | _,_=>none
theorem KC:{ts us:List Tm}->{p:Tm×Tm}->Xo ts us=some p->p.1∈ts∧p.2∈us∧p.1.codes≠p.2.codes
 | [],_,_,h=>by cases h
 | _::_,[],_,h=>by cases h
 | t::ts,u::us,p,h=>by
  unfold Xo at h;split at h
  ·obtain⟨h1,h2,h3⟩:=KC h;exact ⟨ai _ h1,ai _ h2,h3⟩
  ·rename_i hne;injection h with h;subst h;exact ⟨aj ..,aj ..,hne⟩
theorem K3:{ts us:List Tm}->ts.length=us.length->Xo ts us=none->za ts=za us
 | [],[],_,_=>rfl
 | [],_::_,h,_=>by simp at h
 | _::_,[],h,_=>by simp at h
 | t::ts,u::us,hl,h=>by
  unfold Xo at h;split at h
  ·rename_i he;show t.codes++za ts=u.codes++za us;rw[he,K3 (by simpa using hl) h]
  ·cases h
theorem Dj {usA:List Tm} (hsm:∀ t∈usA,t.codes.length<=1000):(ts us:List Tm)->(i:Nat)->usA.drop i=us->ts.length=us.length->(∀ t∈ts,t.codes.length<=1000)->yV (usA.map Tm.codes) (ts.map Tm.codes) i=some (match Xo ts us with
  | none=>.inl ()
  | some p=>.inr (p.1.codes,p.2.codes))
 | [],[],i,_,_,_=>rfl
 | [],_::_,_,_,h,_=>by simp at h
 | _::_,[],_,_,h,_=>by simp at h
 | t::ts,u::us,i,hd,hl,hsmt=>by
  have hi:=qj hd;have hg:=zw hd;have ht:=hsmt t (aj ..);rw[aM];unfold yV Xo;rw[aP,decide_eq_true (show (i:Int)<(usA.length:Int) by omega),cond_true,yH,bt,hg]
  simp only[bx,aa];rw[wo (by unfold maxLen; omega),aa]
  by_cases he:t.codes=u.codes
  ·rw[decide_eq_true he,ay,cond_false,if_pos he];exact Dj hsm ts us (i+1) (zj hd) (by simpa using hl) fun t h=>hsmt t (ai _ h)
  ·rw[decide_eq_false he,bu,cond_true,if_neg he]
theorem H6 {a0:List zg} {rf:(List zg×List Int×List Int)->Option Bool} {usA:List Tm}:(ts us:List Tm)->(i:Nat)->usA.drop i=us->ts.length=us.length->(∀ t∈ts,t.codes.length<=1000)->wr rf a0 (usA.map Tm.codes) (ts.map Tm.codes) i=(match Xo ts us with
  | none=>some (.inl ())
  | some p=>(rf (a0,p.1.codes,p.2.codes)).bind fun r=>some (.inr r))
 | [],[],i,_,_,_=>rfl
 | [],_::_,_,_,h,_=>by simp at h
 | _::_,[],_,_,h,_=>by simp at h
 | t::ts,u::us,i,hd,hl,hsmt=>by
  have hg:=zw hd;have ht:=hsmt t (aj ..);rw[aM];unfold wr Xo;rw[yH,bt,hg];simp only[bx,aa];rw[Yw (by omega),aa]
  by_cases he:t.codes=u.codes
  ·rw[decide_eq_true he,ay,cond_false,if_pos he];exact H6 ts us (i+1) (zj hd) (by simpa using hl) fun t h=>hsmt t (ai _ h)
  ·rw[decide_eq_false he,bu,cond_true,if_neg he]
theorem Fb {a0:List zg} (hs:SignOk a0) {t u:Tm} (ht:t.ok a0 24) (hu:u.ok a0 24) (hlt:t.codes.length<=1000) (hlu:u.codes.length<=1000):∃ c ts d us,HF a0 t.codes c ts∧HF a0 u.codes d us∧(c=d->ts.length=us.length):=by
 obtain⟨c,ts,h1,-,-⟩:=PF hs ht hlt;obtain⟨d,us,h2,-,-⟩:=PF hs hu hlu;have inj:∀{c c':Int} {r r':List Int},c::r=c'::r'->c=c'∧r=r':=fun h=>by injection h with a b; exact ⟨a,b⟩
 refine ⟨c,ts,d,us,h1,h2,fun hcd => ?_⟩;cases t with
 | v n =>
  obtain⟨e1,e2⟩:=inj (show (-1 - (n:Int))::[]=c::za ts from h1.eq)
  have e3:ts=[]:=u3 (a0:=a0) _ ts [] (aF _) h1.ok trivial e2.symm;cases u with
  | v m =>
   obtain⟨-,e5⟩:=inj (show (-1 - (m:Int))::[]=d::za us from h2.eq)
   have e6:us=[]:=u3 (a0:=a0) _ us [] (aF _) h2.ok trivial e5.symm;rw[e3,e6]
  | f q bs =>
   obtain⟨e4,-⟩:=inj (show (q:Int)::za bs=d::za us from h2.eq)
   omega
 | f p as =>
  obtain⟨e1,e2⟩:=inj (show (p:Int)::za as=c::za ts from h1.eq)
  have e3:as=ts:=u3 (a0:=a0) _ as ts (aF _) ht.2 h1.ok e2;cases u with
  | v m =>
   obtain⟨e4,-⟩:=inj (show (-1 - (m:Int))::[]=d::za us from h2.eq)
   omega
  | f q bs =>
   obtain⟨e4,e5⟩:=inj (show (q:Int)::za bs=d::za us from h2.eq)
   have e6:bs=us:=u3 (a0:=a0) _ bs us (aF _) hu.2 h2.ok e5;have hpq:p=q:=by omega
   subst hpq;have h3:=ht.1;have h4:=hu.1;rw[h3] at h4;injection h4 with h4;rw[← e3,← e6,h4]
theorem P8 {a0:List zg} (hs:SignOk a0):∀(n:Nat) (a b:List Int) (c d:Int) (ts us:List Tm),a.length<=n->HF a0 a c ts->HF a0 b d us->(c=d->ts.length=us.length)->a≠b->∀ k k',n<k->n<k' ->
  ∃(r:Bool) (z:Unit⊕Bool),XS k (a0,a,b)=some r∧lp se k' (a0,a,b)=some z∧zR z (fun _=>false) (fun x=>x)=r:=by
 intro n
 induction n with
 | zero =>
  intro a b c d ts us hn h;rw[h.eq] at hn;simp at hn
 | succ n ih =>
  intro a b c d ts us hn ha hb har hne k k' hk hk';obtain⟨k,rfl⟩:∃ q,k=q+1:=⟨k - 1,by omega⟩
  obtain⟨k',rfl⟩:∃ q,k'=q+1:=⟨k' - 1,by omega⟩
  show ∃ r z,XT (XS k) a0 a b=some r∧_;rw[zu];have key:=fun a b c d ts us h1 h2 h3 h4 h5=>ih a b c d ts us h1 h2 h3 h4 h5 k k' (by omega) (by omega)
  generalize lp se k'=rec at key ⊢;have la:=ha.len;have lb:=hb.len;obtain⟨x,hx⟩:=ha.sum hs;obtain⟨y,hy⟩:=hb.sum hs;unfold XT se;simp only;have hnn:nn a=some a:=by rw[ha.eq]; rfl
  rw[C6 a0 (by omega),hx,aa,C6 a0 (by omega),hy,aa,Sx (by omega) (by omega),aa,hnn,aa,aa,bu,cond_true,
   MB (by omega) (by omega) (fun e he=>(ha.syms hs e he).1) (fun e he=>(hb.syms hs e he).1),aa]
  cases Wm a b (aK 24) with
  | false=>exact ⟨false,.inl (),rfl,rfl,rfl⟩
  | true =>
   rw[ay,cond_false,cond_true];simp only[aa];by_cases hxy:x=y
   ·subst hxy;rw[decide_eq_false (Int.lt_irrefl x),show (x != x)=false from by simp]
    simp only[cond_false];have ga:gx a 0=some c:=by rw[ha.eq]; rfl
    have gb:gx b 0=some d:=by rw[hb.eq]; rfl
    simp only[ga,gb,aa];by_cases hcd:c=d
    ·subst hcd;have hl:=har rfl;rw[show (c != c)=false from by simp,cond_false,cond_false]
     have ea:=ha.eq;have eb:=hb.eq;have hlt:(za ts).length+1=a.length:=by rw[ea]; rfl
     have hlu:(za us).length+1=b.length:=by rw[eb]; rfl
     have sa:vM a (some 1) none=some (za ts):=by rw[ea]; exact wB _ _
     have sb:vM b (some 1) none=some (za us):=by rw[eb]; exact wB _ _
     have ct:∀ t∈ts,t.codes.length<=1000:=fun t h=>by have:=u6 h; omega
     have cu:∀ t∈us,t.codes.length<=1000:=fun t h=>by have:=u6 h; omega
     have cuts1:=yK ts ha.ok;have cuts2:=yK us hb.ok;have lts:=Q7 cuts1;have lus:=Q7 cuts2;rw[aP] at lts lus;have pa:=wZ hs (a1:=za ts) (by omega) cuts1
     have pb:=wZ hs (a1:=za us) (by omega) cuts2
     have ta:=ur hs (a1:=za ts) (by omega) cuts1
     have tb:=ur hs (a1:=za us) (by omega) cuts2
     unfold QH;simp only[sa,sb,pa,pb,ta,tb,aa];rw[Y4 _ _ (by rw[aP]; unfold maxLen; omega),Dj cu ts us 0 rfl hl ct,aa,
      XD _ _ _ _ (by rw[aP]; unfold maxLen; omega),H6 ts us 0 rfl hl ct]
     cases hf:Xo ts us with
     | none =>
      exfalso;exact hne (by rw[ea,eb,K3 hl hf])
     | some p =>
      obtain⟨q1,q2,q3⟩:=KC hf;obtain⟨c1,ts1,d1,us1,f1,f2,f3⟩:=Fb hs (vI.1 ha.ok _ q1) (vI.1 hb.ok _ q2) (ct _ q1) (cu _ q2);have:=u6 q1;obtain⟨r,z,g1,g2,g3⟩:=key p.1.codes p.2.codes c1 d1 ts1 us1 (by omega) f1 f2 f3 q3
      refine ⟨r,z,?_,g2,g3⟩;simp only;rw[g1];rfl
    ·rw[show (c != d)=true from by simp [hcd],cond_true,cond_true]
     exact ⟨decide (c>d),.inr (decide (c>d)),rfl,rfl,rfl⟩
   ·rw[show (x != y)=true from by simp [hxy],cond_true]
    by_cases hlt:x<y
    ·rw[decide_eq_true hlt,cond_true];refine ⟨false,.inr (decide (x>y)),rfl,rfl,?_⟩;rw[decide_eq_false (show ¬ x>y by omega)]
     rfl
    ·rw[decide_eq_false hlt,cond_false,decide_eq_true (show x>y by omega),cond_true]
     exact ⟨true,.inr true,rfl,rfl,rfl⟩
theorem Nv {a0:List zg} (hs:SignOk a0) {a b:List Int} {c d:Int} {ts us:List Tm} (ha:HF a0 a c ts) (hb:HF a0 b d us) (har:c=d->ts.length=us.length) (hne:a≠b):∃ r,Ky a0 a b=some r∧we a0 a b=some r:=by
 have la:=ha.len;obtain⟨r,z,h1,h2,h3⟩:=P8 hs a.length a b c d ts us (aF _) ha hb har hne ze ze (by unfold ze; omega) (by unfold ze; omega)
 refine ⟨r,h1,?_⟩;unfold we;rw[h2,aa,← h3];cases z<;>rfl
def Vb (a0:List zg) (a b:List Int):Option (Int×Int) :=
 (yb a b).bind fun r34=>cond r34 (some (1,0)) ((we a0 a b).bind fun r35=>cond r35 (some (2,0)) ((we a0 b a).bind fun r36=>cond r36 (some (0,0)) (some (3,0))))
theorem Et {a0:List zg} (hs:SignOk a0) {a b:List Int} {c d:Int} {ts us:List Tm} (ha:HF a0 a c ts) (hb:HF a0 b d us) (har:c=d->ts.length=us.length):∃ k,tQ a0 a b=some k∧Vb a0 a b=some (k,0):=by
 have la:=ha.len;unfold tQ Vb;rw[Yw (by omega),aa,wo (by unfold maxLen; omega),aa]
 by_cases he:a=b
 ·rw[decide_eq_true he]; exact ⟨1,rfl,rfl⟩
 ·rw[decide_eq_false he,cond_false,cond_false];obtain⟨r,h1,h2⟩:=Nv hs ha hb har he;rw[h1,h2,aa,aa];cases r with
  | true=>exact ⟨2,rfl,rfl⟩
  | false =>
   obtain⟨r',g1,g2⟩:=Nv hs hb ha (fun h=>(har h.symm).symm) (dB he);rw[cond_false,cond_false,g1,g2,aa,aa];cases r' with
   | true=>exact ⟨0,rfl,rfl⟩
   | false=>exact ⟨3,rfl,rfl⟩
theorem VH (a0:List zg) (xs:List Int):∃ b,v8 a0 xs=some b:=by
 unfold v8;rw[ru,aa];cases vW a0 xs with
 | none=>exact ⟨_,rfl⟩
 | some ps=>exact ⟨_,rfl⟩
theorem PV {a0:List zg} {a b:List Int} (ha:qN a0 a=true) (hb:qN a0 b=true):∃ c ts d us,HF a0 a c ts∧HF a0 b d us∧(c=d->ts.length=us.length):=by
 obtain⟨c,ts,e,rfl,ho,he,-,hl,h48,-⟩:=xP ha;obtain⟨d,us,e',rfl,ho',he',-,hl',h48',-⟩:=xP hb;refine ⟨c,ts,d,us,⟨rfl,ho,by simp only[ak]; omega,by omega,fun _=>⟨e,by rw[yH,he]⟩⟩,⟨rfl,ho',by simp only[ak]; omega,by omega,fun _=>⟨e',by rw[yH,he']⟩⟩,fun h => ?_⟩
 have:c=d:=by omega
 rw[this,he'] at he;injection he with he;rw[he] at hl';omega
theorem Io {a0:List zg} (hs:SignOk a0) {a b:List Int} (ha:qN a0 a=true) (hb:qN a0 b=true):∃ k,tQ a0 a b=some k∧xV a0 a b=some (k,0):=by
 obtain⟨c,ts,d,us,h1,h2,h3⟩:=PV ha hb;obtain⟨k,g1,g2⟩:=Et hs h1 h2 h3;refine ⟨k,g1,?_⟩;rw[← g2];obtain⟨b1,e1⟩:=VH a0 a;obtain⟨b2,e2⟩:=VH a0 b;unfold xV;rw[e1,aa,e2,uB,ha,uB,hb];cases b1<;>cases b2<;>rfl
theorem It {a0:List zg} (hs:SignOk a0) {t u:Tm} (ht:t.ok a0 24) (hu:u.ok a0 24) (hlt:t.codes.length<=1000) (hlu:u.codes.length<=1000):∃ k,tQ a0 t.codes u.codes=some k∧Vb a0 t.codes u.codes=some (k,0):=by
 obtain⟨c,ts,d,us,h1,h2,h3⟩:=Fb hs ht hu hlt hlu;exact Et hs h1 h2 h3
theorem KK (a0:List zg) (n:Bool) (r:List Int):sY a0 n r=some (qN a0 r):=by
 unfold sY;rw[uB];rfl
theorem Ot {a0:List zg} (hs:SignOk a0) {l k:zc} (hl:qN a0 l.2=true) (hk:qN a0 k.2=true):∃ w,Zw a0 l.1 l.2 k.1 k.2=some w∧Z3 a0 l.1 l.2 k.1 k.2=some (w,0):=by
 obtain⟨w,h1,h2⟩:=Io hs hl hk;unfold Zw Z3;rw[h1,aa,KK,hl,aa,ay,cond_false,KK,hk,aa,ay,cond_false,h2,aa];simp only;cases w != 1 with
 | true=>exact ⟨w,rfl,rfl⟩
 | false =>
  rw[cond_false,cond_false];cases l.1==k.1 with
  | true=>exact ⟨w,rfl,rfl⟩
  | false =>
   rw[cond_false,cond_false];cases l.1 with
   | true=>exact ⟨2,rfl,rfl⟩
   | false=>exact ⟨0,rfl,rfl⟩
def DM (a0:List zg) (l k:zc):Bool:=(Zw a0 l.1 l.2 k.1 k.2).getD 0==2
def Js (a0:List zg) (L:List zc) (k:zc):Bool:=L.any fun l=>DM a0 l k
theorem I3 {a0:List zg} (hs:SignOk a0) {k:zc} (hk:qN a0 k.2=true):(es:List zc)->(i:Nat)->(∀ l∈es,qN a0 l.2=true)->∃ z,zX a0 k.1 k.2 es i=some z∧zR z (fun _=>decide ((-1:Int)≥0)) (fun j=>decide (j≥0))=es.any fun l=>DM a0 l k
 | [],i,_=>⟨.inl (),rfl,rfl⟩
 | e::es,i,h=>by
  obtain⟨w,h1,h2⟩:=Ot hs (h e (aj ..)) hk;obtain⟨z,g1,g2⟩:=I3 hs hk es (i+1) fun l hl=>h l (ai _ hl);unfold zX Yx;have ho:DM a0 e k=(w==2):=by unfold DM; rw[h1]; rfl
  rw[h2,aa,aa,ey,ho];simp only;cases w==2 with
  | true =>
   refine ⟨.inr (i:Int),rfl,?_⟩;show decide ((i:Int)≥0)=_;rw[decide_eq_true (show (i:Int)≥0 by omega)]
   rfl
  | false=>exact ⟨z,g1,g2⟩
theorem BO {a0:List zg} (hs:SignOk a0) {L:List zc} {k:zc} (hL:∀ l∈L,qN a0 l.2=true) (hk:qN a0 k.2=true) (hl:L.length<=1000):xv L a0 k.1 k.2=some (Js a0 L k):=by
 unfold xv so;obtain⟨z,g1,g2⟩:=I3 hs hk L 0 hL;rw[kp _ _ _ _ (by unfold maxLen; omega),g1,aa]
 unfold Js;rw[← g2];cases z<;>rfl
theorem M5 {a0:List zg} (hs:SignOk a0) {L:List zc} {i:Int} {k:zc} (hi:gx L i=some k) (hk:qN a0 k.2=true):(es:List zc)->(∀ l∈es,qN a0 l.2=true)->vn a0 L i es=some (cond (es.any fun l=>DM a0 l k) (.inr false) (.inl ()))
 | [],_=>rfl
 | e::es,h=>by
  obtain⟨w,h1,h2⟩:=Ot hs (h e (aj ..)) hk;unfold vn;have ho:DM a0 e k=(w==2):=by unfold DM; rw[h1]; rfl
  rw[hi,aa,h1,aa,ey,ho,M5 hs hi hk es fun l hl=>h l (ai _ hl)];cases w==2<;>rfl
theorem zb8 {a0:List zg} (hs:SignOk a0) {L:List zc} {i:Int} {k:zc} (hi:gx L i=some k) (hL:∀ l∈L,qN a0 l.2=true) (hl:L.length<=1000):Wc a0 L i=some (!Js a0 L k):=by
 unfold Wc Js;rw[Wb _ _ _ (by unfold maxLen; omega),M5 hs hi (hL k (rL hi)) L hL,aa]
 cases L.any fun l=>DM a0 l k<;>rfl
def yI (a0:List zg) (L:List zc):List zc->Nat->List Int
 | [],_=>[]
 | e::es,i=>cond (Js a0 L e) (yI a0 L es (i+1)) ((i:Int)::yI a0 L es (i+1))
theorem B6 {a0:List zg} (hs:SignOk a0) {L:List zc} (hL:∀ l∈L,qN a0 l.2=true) (hl:L.length<=1000):(es:List zc)->(i:Nat)->(out:List Int)->(∀ l∈es,l∈L)->out.length+es.length<=100000->xj L a0 es i out=some (out++yI a0 L es i)
 | [],i,out,_,_=>by simp [xj,yI]
 | e::es,i,out,h,hlen=>by
  simp only[ak] at hlen;unfold xj yI;rw[BO hs hL (hL e (h e (aj ..))) hl,aa];cases Js a0 L e with
  | true=>rw[ay,cond_false,cond_true,B6 hs hL hl es (i+1) out (fun l hl=>h l (ai _ hl)) (by omega)]
  | false =>
   rw[bu,cond_true,cond_false,zk (by simp; omega),cond_true,B6 hs hL hl es (i+1) _ (fun l hl=>h l (ai _ hl)) (by simp; omega)]
   simp
theorem Bc {a0:List zg}:(es:List zc)->(i:Nat)->(∀ l∈es,qN a0 l.2=true)->zW a0 es i=some (.inl ())
 | [],i,_=>rfl
 | e::es,i,h=>by
  unfold zW ZS;rw[KK,h e (aj ..),aa,aa,ay,cond_false];exact Bc es (i+1) fun l hl=>h l (ai _ hl)
theorem B8 {a0:List zg} (hb:uP a0=true) {L:List zc} (hL:∀ l∈L,qN a0 l.2=true) (hl:L.length<=1000):Xf a0 L=some (0,yI a0 L L 0):=by
 have hs:=xS hb;unfold Xf uL sF;rw[YG,hb,aa,ay,cond_false,kw _ _ (by unfold maxLen; omega),Bc L 0 hL,aa,Ww _ _ _ _ (by unfold maxLen; omega),B6 hs hL hl L 0 [] (fun _ h=>h) (by simp; omega)]
 rfl
def Xm (l e:zc):Bool:=(l.1 != e.1)&&decide (l.2=e.2)
theorem Dl (l e:zc):Xm l e=Xm e l:=by
 unfold Xm;rw[d8];simp only[ax,decide_eq_true_iff,bne_iff_ne];exact ⟨fun h=>⟨dB h.1,h.2.symm⟩,fun h=>⟨dB h.1,h.2.symm⟩⟩
theorem KL (e:zc):(es:List zc)->(i:Nat)->(∀ l∈es,l.2.length<=1000)->e.2.length<=1000->∃ z,zV e.1 e.2 es i=some z∧zR z (fun _=>decide ((-1:Int)≥0)) (fun j=>decide (j≥0))=es.any fun l=>Xm l e
 | [],i,_,_=>⟨.inl (),rfl,rfl⟩
 | l::es,i,h,he=>by
  obtain⟨z,g1,g2⟩:=KL e es (i+1) (fun l hl=>h l (ai _ hl)) he;unfold zV uU;rw[ey];have hc:Xm l e=(!(e.1==l.1)&&decide (e.2=l.2)):=by rw[Dl]; rfl
  cases hb : !(e.1==l.1) with
  | false =>
   rw[hb] at hc;rw[cond_false,aa,cond_false,hc,bj,cZ];exact ⟨z,g1,g2⟩
  | true =>
   rw[hb] at hc;rw[cond_true,wo (by unfold maxLen; omega),aa,aa,hc,aN]
   cases decide (e.2=l.2) with
   | true =>
    refine ⟨.inr (i:Int),rfl,?_⟩;show decide ((i:Int)≥0)=_;rw[decide_eq_true (show (i:Int)≥0 by omega)]
    rfl
   | false=>exact ⟨z,g1,g2⟩
theorem DO {L:List zc} {e:zc} (h:∀ l∈L,l.2.length<=1000) (he:e.2.length<=1000) (hl:L.length<=1000):xo L e.1 e.2=some (L.any fun l=>Xm l e):=by
 unfold xo tY;obtain⟨z,g1,g2⟩:=KL e L 0 h he;rw[kv _ _ _ (by unfold maxLen; omega),g1,aa,← g2]
 cases z<;>rfl
theorem za1 {a0:List zg} {L:List zc} {T:List jI} {C:List zc} {i:Nat} {e:zc} (hi:L[i]? = some e) (h:∀ l∈L,l.2.length<=1000) (hl:L.length<=1000):∀(m j k:Nat),i - j=m->j<=i->m<k ->
  lp xu k (a0,(i:Int),e.2,(j:Int),L,T,C)=some (cond (((L.take i).drop j).any fun l=>Xm l e) (.inr true) (.inl ())):=by
 have hil:=(au.1 hi).1;intro m
 induction m with
 | zero =>
  intro j k hm hj hk;obtain⟨k,rfl⟩:∃ k',k=k'+1:=⟨k - 1,by omega⟩
  rw[zu];generalize lp xu k=rec;unfold xu;have:j=i:=by omega
  subst this;rw[decide_eq_false (show ¬(j:Int)<(j:Int) by omega),cond_false,List.drop_of_length_le (by simp; omega)]
  rfl
 | succ m ih =>
  intro j k hm hj hk;obtain⟨k,rfl⟩:∃ k',k=k'+1:=⟨k - 1,by omega⟩
  rw[zu];have key:=ih (j+1) k (by omega) (by omega) (by omega)
  generalize lp xu k=rec at key ⊢;unfold xu;have w1:ag .i64 ((j:Int)+1)=((j+1:Nat):Int):=by rw[zp]<;>omega
  obtain⟨l,hlj⟩:∃ l,L[j]? = some l:=⟨_,al (by omega)⟩
  have hlm:=h l (aI hlj);have hd:(L.take i).drop j=l::(L.take i).drop (j+1):=by
   rw[aX (by simp; omega)]
   congr 1
   rw[List.getElem_take];exact (au.1 hlj).2
  simp only[decide_eq_true (show (j:Int)<(i:Int) by omega),cond_true,yH,hlj,hi,aa,w1]
  rw[hd,ey,key];have hc:Xm l e=(!(l.1==e.1)&&decide (l.2=e.2)):=rfl;cases hb : !(l.1==e.1) with
  | false =>
   rw[hb] at hc;rw[cond_false,hc,bj,cZ]
  | true =>
   rw[hb] at hc;rw[cond_true,Yw (by omega),aa,hc,aN]
   cases decide (l.2=e.2)<;>rfl
def Gb (a0:List zg) (e:zc):Bool:=(vJ a0 e.1 e.2).getD false
theorem D9 {a0:List zg} (hs:SignOk a0) {e:zc} (h:qN a0 e.2=true):vJ a0 e.1 e.2=some (Gb a0 e)∧∀ X Y:Option (Unit⊕Bool),
  (cond (!e.1) ((gx e.2 0).bind fun e30=>cond (e30==0) ((vM e.2 (some 1) none).bind fun y31=>(zQ a0 y31).bind fun r32=>(inR 0 (af r32)).bind fun k33=>(r32[k33]?).bind fun x34=>(inR 1 (af r32)).bind fun k35=>(r32[k35]?).bind fun x36=>(vd x34 x36).bind fun r37=>cond r37 X Y) Y) Y)=cond (Gb a0 e) X Y:=by
 obtain⟨n,r⟩:=e;obtain⟨c,ts,q,hr,ho,hq,-,hl,h48,-⟩:=xP h;have hr:r=(c:Int)::za ts:=hr;subst hr;unfold Gb vJ;cases n with
 | true=>exact ⟨rfl,fun X Y=>rfl⟩
 | false =>
  simp only[cond_false,bu,cond_true,yc,aB,aa];by_cases hc:c=0
  ·subst hc;have h2:ts.length=2:=by
    rw[hs.eq] at hq;injection hq with hq;subst hq;have:((ts.length:Nat):Int)=2:=hl;omega
   obtain⟨t1,t2,rfl⟩:∃ t1 t2,ts=[t1,t2]:=by
    match ts,h2 with
    | [t1,t2],_=>exact ⟨t1,t2,rfl⟩
   have hcut:=yK [t1,t2] ho;have l1:t1.codes.length<=1000:=by
    have h9:t1.codes.length<=(za [t1,t2]).length:=u6 (aj ..);exact aH h9 (aH h48 (by decide))
   have e8:=ur hs (a1:=za [t1,t2]) (aH h48 (by decide)) hcut
   have e9:=wZ hs (a1:=za [t1,t2]) (aH h48 (by decide)) hcut
   have s8:vM (((0:Nat):Int)::za [t1,t2]) (some 1) none=some (za [t1,t2]):=wB _ _;rw[aM,aM,List.map_nil] at e8 e9;generalize za [t1,t2]=row at e8 e9 s8 ⊢;generalize t1.codes=p1 at l1 e8 e9;generalize t2.codes=p2 at e8 e9;have q1:yb p1 p2=some (decide (p1=p2)):=wo (aH l1 (by decide))
   have q2:vd p1 p2=some (decide (p1=p2)):=Yw (aH l1 (by decide))
   have i0:inR 0 (af [p1,p2])=some 0:=rfl;have i1:inR 1 (af [p1,p2])=some 1:=rfl;have g0:[p1,p2][0]? = some p1:=rfl;have g1:[p1,p2][1]? = some p2:=rfl;rw[show ((((0:Nat):Int)) != 0)=false from rfl,cond_false,show ((((0:Nat):Int))==0)=true from rfl]
   simp only[s8,aa,e8,e9,cond_true,i0,i1,g0,g1,q1,q2,ba,implies_true,and_self]
  ·rw[show ((c:Int) != 0)=true from by simp [hc],show ((c:Int)==0)=false from by simp [hc]]
   simp only[cond_true,cond_false,ba,implies_true,and_self]
def Bf (a0:List zg) (L:List zc):Bool:=L.any fun e=>Gb a0 e||L.any fun l=>Xm l e
theorem GI {a0:List zg} (hs:SignOk a0) {L:List zc} (hL:∀ l∈L,l.2.length<=1000) (hl:L.length<=1000):(es:List zc)->(∀ l∈es,qN a0 l.2=true)->yQ a0 L es=some (cond (es.any fun e=>Gb a0 e||L.any fun l=>Xm l e) (.inr (true,0)) (.inl ()))
 | [],_=>rfl
 | e::es,h=>by
  have he:=h e (aj ..);have hel:=Qx he;unfold yQ;rw[(D9 hs he).1,aa,DO hL (by omega) hl,ey,GI hs hL hl es fun l hl=>h l (ai _ hl)]
  cases Gb a0 e with
  | true=>rfl
  | false =>
   rw[cond_false,aa,cZ];cases L.any fun l=>Xm l e<;>rfl
theorem GG {a0:List zg} {L:List zc} {T:List jI} {C:List zc} (h:xD a0 L T C=true):uq a0 L T C=some (Bf a0 L,0):=by
 have hs:=xS (zn h).1;obtain⟨l1,-,-,-⟩:=WX hs h;obtain⟨-,-,-,-,l4,-,-,-⟩:=zn h;have hA:∀ l∈L,qN a0 l.2=true:=fun l hl=>aC.1 l4 l hl;unfold uq;rw[zD,h,aa,ay,cond_false,Zj _ _ _ _ _ (by unfold maxLen; omega),GI hs (fun l hl=>by have:=Qx (hA l hl); omega) (by omega) L hA,aa]
 unfold Bf;cases L.any fun e=>Gb a0 e||L.any fun l=>Xm l e<;>rfl
def Ag (a0:List zg) (L:List zc):List zc->Nat->Bool
 | [],_=>false
 | e::es,i=>Gb a0 e||((L.take i).any (fun l=>Xm l e)||Ag a0 L es (i+1))
theorem Me {a0:List zg} (hs:SignOk a0) {L:List zc} {T:List jI} {C:List zc} (hA:∀ l∈L,qN a0 l.2=true) (hl:L.length<=1000):(es:List zc)->(i:Nat)->L.drop i=es->qJ a0 L T C es i=some (cond (Ag a0 L es i) (.inr true) (.inl ()))
 | [],i,_=>rfl
 | e::es,i,hd=>by
  have hg:=zw hd;have hi:=qj hd;have he:=hA e (aI hg);unfold qJ Ag;rw[(D9 hs he).2];cases Gb a0 e with
  | true=>rfl
  | false =>
   have:=za1 (a0:=a0) (T:=T) (C:=C) hg (fun l hl=>by have:=Qx (hA l hl); omega) hl i 0 ze rfl (by omega) (by unfold ze; omega)
   rw[show ((0:Nat):Int)=0 from rfl,bM] at this
   rw[cond_false,this,aa,cZ];cases (L.take i).any fun l=>Xm l e with
   | true=>rfl
   | false =>
    rw[cZ];exact Me hs hA hl es (i+1) (zj hd)
theorem D5 {a0:List zg} {L:List zc}:(es:List zc)->(i:Nat)->(Ag a0 L es i=true↔∃(k:Nat) (e:zc),es[k]? = some e∧(Gb a0 e=true∨∃ l∈L.take (i+k),Xm l e=true))
 | [],i=>by simp [Ag]
 | e::es,i=>by
  unfold Ag;rw[bR,bR,du,D5 es (i+1)];constructor
  ·rintro (h | h | ⟨k,e',h1,h2⟩)
   ·exact ⟨0,e,rfl,.inl h⟩
   ·exact ⟨0,e,rfl,.inr h⟩
   ·exact ⟨k+1,e',by simpa using h1,by rw[show i+(k+1)=i+1+k from by omega]; exact h2⟩
  ·rintro⟨k,e',h1,h2⟩;cases k with
   | zero =>
    have:e=e':=by simpa using h1
    subst this;rcases h2 with h2 | h2
    ·exact .inl h2
    ·exact .inr (.inl h2)
   | succ k=>exact .inr (.inr ⟨k,e',by simpa using h1,by rw[show i+1+k=i+(k+1) from by omega]; exact h2⟩)
theorem Lf {a0:List zg} {L:List zc}:Ag a0 L L 0=Bf a0 L:=by
 rw[d8,D5];unfold Bf;rw[du];constructor
 ·rintro⟨k,e,h1,h2⟩;refine ⟨e,aI h1,?_⟩;rw[bR];rcases h2 with h2 | ⟨l,h2,h3⟩
  ·exact .inl h2
  ·exact .inr (du.2 ⟨l,List.mem_of_mem_take h2,h3⟩)
 ·rintro⟨e,he,h⟩;obtain⟨k,hk,hke⟩:=dM.1 he;have hg:L[k]? = some e:=by rw[al hk,hke]
  rcases bR _ _ |>.mp h with h | h
  ·exact ⟨k,e,hg,.inl h⟩
  ·obtain⟨l,hl,hc⟩:=du.1 h;obtain⟨j,hj,hjl⟩:=dM.1 hl;have hgj:L[j]? = some l:=by rw[al hj,hjl]
   have mem:∀{a b:Nat} {x:zc},L[a]? = some x->a<b->x∈L.take b:=fun {a b x} hx hab=>aI (i:=a) (by rw[List.getElem?_take,if_pos hab]; exact hx)
   rcases Nat.lt_trichotomy j k with hjk | hjk | hjk
   ·exact ⟨k,e,hg,.inr ⟨l,by rw[aQ]; exact mem hgj hjk,hc⟩⟩
   ·exfalso;rw[hjk,hg] at hgj;injection hgj with hgj;rw[hgj] at hc;simp [Xm] at hc
   ·exact ⟨j,l,hgj,.inr ⟨e,by rw[aQ]; exact mem hg hjk,by rw[Dl]; exact hc⟩⟩
theorem N4 {a0:List zg} {L:List zc} {T:List jI} {C:List zc} (h:xD a0 L T C=true):KH a0 L T C=some (Bf a0 L):=by
 have hs:=xS (zn h).1;obtain⟨l1,-,-,-⟩:=WX hs h;obtain⟨-,-,-,-,l4,-,-,-⟩:=zn h;have hA:∀ l∈L,qN a0 l.2=true:=fun l hl=>aC.1 l4 l hl;unfold KH;rw[Xt _ _ _ _ (by unfold maxLen; omega),Me hs hA (by omega) L 0 rfl,aa,Lf]
 cases Bf a0 L<;>rfl
theorem Ii (a0:List zg) (L:List zc) (T:List jI) (C:List zc):∃ t,uq a0 L T C=some t:=by
 cases h:xD a0 L T C with
 | true=>exact ⟨_,GG h⟩
 | false =>
  refine ⟨(false,800),?_⟩;unfold uq;rw[zD,h];rfl
theorem CT (sig:List zg) (r a i s b j t:Int) (o1:List zc) (o2:List jI) (o3:List zc) (xL:List zc) (xT:List jI) (xC:List zc) (ok:Bool) (err left:Int) (steps:List (Int×Int×Int×Int×Int×Int×Int×List zc×List jI×List zc)) (h:ok=true->err=0->xD sig xL xT xC=true) :
  yn r a i s b j t o1 o2 o3 xL xT xC ok err sig left steps=(x5 sig left r a i s b j t xL xT xC ok err steps).map fun q=>(sig,q.1,q.2):=by
 unfold yn x5;by_cases he:err=0
 ·rw[show (err != 0)=false from by simp [he],cond_false,cond_false]
  cases ok with
  | false =>
   obtain⟨q,hq⟩:=Ii sig xL xT xC;rw[hq];rfl
  | true =>
   have hm:=h rfl he;rw[GG hm,aa,N4 hm,ay,cond_false,cond_true,aa];simp only;cases Bf sig xL with
   | true=>rfl
   | false =>
    rw[cond_false,bu,cond_true];generalize yp _ 128=q;cases q<;>rfl
 ·rw[show (err != 0)=true from by simp [he]]
  rfl
def G0 (L:List zc) (T:List jI) (C:List zc):Prop:=vu L T C L T C=some true
theorem HC:G0 [] [] []:=by
 unfold G0;exact tc (by simp) (by simp) (by simp) (by simp) (by simp) (by simp)
theorem Ki {a0:List zg} {L:List zc} {T:List jI} {C:List zc} (h:xD a0 L T C=true):xD a0 (tX L T C).1 (tX L T C).2.1 (tX L T C).2.2=true:=by
 obtain⟨Lt,Tt,Ct,rfl,rfl,rfl,hL,hT,hC⟩:=RK h;obtain⟨L1,T1,C1,ρ,e,-,-,-,hm,-⟩:=AU h hL hT hC;rw[e];exact hm
def OkR (a0:List zg) (o:Option Vf):Prop:=∃ r,o=some r∧G0 r.1 r.2.1 r.2.2.2.2∧(r.2.2.1=true->r.2.2.2.1=0->xD a0 r.1 r.2.1 r.2.2.2.2=true)
theorem qU {a0:List zg} {o:Option Vf} {k:Int} (h:o=vN k):OkR a0 o:=⟨_,h,HC,fun h=>by cases h⟩
theorem Q5 {a0:List zg} {σ:Sb} {L:List zc} {T:List jI} {C:List zc} {k:Int}:OkR a0 (ZE a0 σ L T C k):=by
 unfold ZE;cases hm:xD a0 (ug σ L) (T.map (tG σ)) (ug σ C) with
 | true=>exact ⟨_,rfl,Hk hm,fun _ _=>Ki hm⟩
 | false=>exact qU rfl
theorem GA (a0:List zg) (L:List zc) (T:List jI) (C:List zc) (i j:Int):OkR a0 (wd a0 L T C i j):=by
 unfold wd;rw[zD,aa];cases hmay:xD a0 L T C with
 | false=>exact qU (k:=1400) rfl
 | true =>
  rw[ay,cond_false,wk,aa];cases hpi:z5 L i with
  | false=>exact qU (k:=1400) rfl
  | true =>
   rw[ay,cond_false,wk,aa];cases hpj:z5 L j with
   | false=>exact qU (k:=1400) rfl
   | true =>
    rw[ay,cond_false];by_cases hij:i=j
    ·rw[show (i==j)=true from by simp [hij],cond_true]
     exact qU (k:=1400) rfl
    ·rw[show (i==j)=false from by simp [hij],cond_false]
     have eta:∀ o:Option Vf,(o.bind fun r=>some (r.1,r.2.1,r.2.2.1,r.2.2.2.1,r.2.2.2.2))=o:=fun o=>by cases o<;>rfl
     rw[eta];have hs:=xS (zn hmay).1;obtain⟨⟨n,A⟩,hi⟩:=uh hpi;obtain⟨⟨n',A'⟩,hj⟩:=uh hpj;rcases K0 hs hmay hi hj with ⟨k,r1⟩ | ⟨hnn,c,ts,us,σ,rfl,rfl,ho,ho',hll,hmgu,hok,r1⟩
     ·exact qU r1
     ·rw[r1];exact Q5
theorem AK {L:List zc} {T:List jI} {C:List zc} (h1:L.length<=1048576) (h1m:∀ l∈L,l.2.length<=1048576) (h2:T.length<=1048576) (h2m:∀ l∈T,l.length<=1048576) (h3:C.length<=1048576) (h3m:∀ l∈C,l.2.length<=1048576) :
  vK L T C=some (L,T,C)∧G0 L T C:=by
 refine ⟨?_,?_⟩
 ·unfold vK;rw[YM (fun l hl=>aH (h1m l hl) (by decide)) (aH h1 (by decide)),VT (fun l hl=>aH (h2m l hl) (by decide)) (aH h2 (by decide)),YM (fun l hl=>aH (h3m l hl) (by decide)) (aH h3 (by decide))]
  rfl
 ·have hM:1048576<=maxLen:=by decide
  exact tc (aH h1 hM) (fun e he=>aH (h1m e he) hM) (aH h2 hM) (fun e he=>aH (h2m e he) hM) (aH h3 hM) (fun e he=>aH (h3m e he) hM)
abbrev qa:=Int×Int×Int×Int×Int×Int×Int×List zc×List jI×List zc
theorem jH {a0:List zg} {L:List zc}:(es:List zc)->(i:Nat)->(k:Int)->k∈yI a0 L es i↔∃(j:Nat) (l:zc),es[j]? = some l∧k=((i+j:Nat):Int)∧Js a0 L l=false
 | [],i,k=>by simp [yI]
 | e::es,i,k=>by
  have ih:=jH es (i+1) k (a0:=a0) (L:=L);have tail:k∈yI a0 L es (i+1)↔∃(j:Nat) (l:zc),(e::es)[j+1]? = some l∧k=((i+(j+1):Nat):Int)∧Js a0 L l=false:=by
   rw[ih];constructor
   ·rintro⟨j,l,h1,h2,h3⟩;exact ⟨j,l,by simpa using h1,by rw[h2]; congr 1; omega,h3⟩
   ·rintro⟨j,l,h1,h2,h3⟩;exact ⟨j,l,by simpa using h1,by rw[h2]; congr 1; omega,h3⟩
  unfold yI;cases ho:Js a0 L e with
  | true =>
   rw[cond_true,tail];constructor
   ·rintro⟨j,l,h1,h2,h3⟩;exact ⟨j+1,l,h1,h2,h3⟩
   ·rintro⟨j,l,h1,h2,h3⟩;cases j with
    | zero=>injection h1 with h1; subst h1; rw[ho] at h3; cases h3
    | succ j=>exact ⟨j,l,h1,h2,h3⟩
  | false =>
   rw[cond_false,aD,tail];constructor
   ·rintro (h | ⟨j,l,h1,h2,h3⟩)
    ·exact ⟨0,e,rfl,by rw[h]; rfl,ho⟩
    ·exact ⟨j+1,l,h1,h2,h3⟩
   ·rintro⟨j,l,h1,h2,h3⟩;cases j with
    | zero=>exact .inl (by rw[h2]; rfl)
    | succ j=>exact .inr ⟨j,l,h1,h2,h3⟩
theorem jZ {a0:List zg} {L:List zc}:(es:List zc)->(i:Nat)->(yI a0 L es i).length<=es.length
 | [],_=>aF _
 | e::es,i=>by
  have:=jZ es (i+1) (a0:=a0) (L:=L);unfold yI;cases Js a0 L e<;>simp<;>omega
section
variable {a0:List zg} {L:List zc} {T:List jI} {C:List zc} (hmay:xD a0 L T C=true)
include hmay
theorem Kk {i:Nat} (hi:i<L.length):vy (yI a0 L L 0) (i:Int)=some (decide ((i:Int)∈yI a0 L L 0))∧Wc a0 L (i:Int)=some (decide ((i:Int)∈yI a0 L L 0)):=by
 obtain⟨hsb,l1,-,-,l4,-⟩:=zn hmay;have hs:=xS hsb;have hL:∀ l∈L,qN a0 l.2=true:=fun l hl=>aC.1 l4 l hl;have hlen:=jZ (a0:=a0) (L:=L) L 0;refine ⟨B7 _ (by unfold maxLen; omega),?_⟩
 have hg:L[i]? = some L[i]:=al hi;rw[zb8 hs (i:=(i:Int)) (k:=L[i]) (by rw[yH]; exact hg) hL (by omega)]
 congr 1
 cases ho:Js a0 L L[i] with
 | false =>
  rw[decide_eq_true ((jH L 0 (i:Int)).2 ⟨i,L[i],hg,by simp,ho⟩)]
  rfl
 | true =>
  rw[decide_eq_false fun h => ?_]
  ·rfl
  ·obtain⟨j,l,h1,h2,h3⟩:=(jH L 0 (i:Int)).1 h;have:j=i:=by omega
   subst this;rw[hg] at h1;injection h1 with h1;rw[← h1,ho] at h3;cases h3
theorem En {i j:Nat} (hi:i<L.length) (hj:j<L.length) (hij:i≠j):uF a0 L T C (i:Int) (j:Int)=wd a0 L T C (i:Int) (j:Int)∧uS a0 L T C (i:Int) (j:Int)=wd a0 L T C (i:Int) (j:Int):=by
 refine ⟨?_,AJ ..⟩;unfold wd;have hp:∀ k:Nat,k<L.length->z5 L (k:Int)=true:=fun k hk=>by
  unfold z5;simp;omega
 rw[zD,aa,hmay,ay,cond_false,wk,aa,hp i hi,ay,cond_false,wk,aa,hp j hj,ay,cond_false,show ((i:Int)==(j:Int))=false from by simp; omega,cond_false]
 have eta:∀ o:Option Vf,(o.bind fun r=>some (r.1,r.2.1,r.2.2.1,r.2.2.2.1,r.2.2.2.2))=o:=fun o=>by cases o<;>rfl
 rw[eta]
omit hmay in
theorem Av (i j:Int):∃ r,wd a0 L T C i j=some r∧G0 r.1 r.2.1 r.2.2.2.2∧(r.2.2.1=true->r.2.2.2.1=0->xD a0 r.1 r.2.1 r.2.2.2.2=true):=GA a0 L T C i j
def OC (a0:List zg) (L:List zc) (T:List jI) (C:List zc) (k:Int) (i j:Int) (c:Int) (st:List qa):Option (Int×List qa) :=
 (wd a0 L T C i j).bind fun r=>x5 a0 c 2 k i 0 (-1) j 0 r.1 r.2.1 r.2.2.2.2 r.2.2.1 r.2.2.2.1 st
omit hmay in
theorem FI (k:Int) (i j:Int) (c:Int) (st:List qa):((wd a0 L T C i j).bind fun r=>yn 2 k i 0 (-1) j 0 [] [] [] r.1 r.2.1 r.2.2.2.2 r.2.2.1 r.2.2.2.1 a0 c st)=(OC a0 L T C k i j c st).map fun q=>(a0,q.1,q.2):=by
 obtain⟨r,h1,-,h3⟩:=Av i j;unfold OC;rw[h1,aa,aa];exact CT a0 2 k i 0 (-1) j 0 [] [] [] _ _ _ _ _ c st h3
theorem EB (k:Int) {i:Nat} (hi:i<L.length):(f:Nat)->(j:Nat)->i<j->(c:Int)->(st:List qa)->(n:Int) ->
  lp sw f (a0,k,yI a0 L L 0,(i:Int),(j:Int),n,(i:Int),L,T,C,a0,c,st)=(lp qP f (a0,k,c,(i:Int),(j:Int),L,T,C,st)).map fun q=>(a0,q.1,q.2)
 | 0,_,_,_,_,_=>rfl
 | f+1,j,hij,c,st,n=>by
  have ih:=EB k hi f;rw[zu,zu];generalize lp sw f=r1 at ih ⊢;generalize lp qP f=r2 at ih ⊢;obtain⟨-,l1,-⟩:=zn hmay;unfold sw qP;simp only;by_cases hj:j<L.length
  ·obtain⟨t1,t2⟩:=Kk hmay hi;obtain⟨t3,t4⟩:=Kk hmay hj;obtain⟨o1,o2⟩:=En hmay hi hj (by omega)
   have hnext:=fun c st=>ih (j+1) (by omega) c st n
   have key:((uF a0 L T C (i:Int) (j:Int)).bind fun r13=>(yn 2 k (i:Int) 0 (-1) (j:Int) 0 [] [] [] r13.1 r13.2.1 r13.2.2.2.2 r13.2.2.1 r13.2.2.2.1 a0 c st).bind fun r14=>r1 (a0,k,yI a0 L L 0,(i:Int),((j+1:Nat):Int),n,(i:Int),L,T,C,r14.1,r14.2.1,r14.2.2)) =
     ((uS a0 L T C (i:Int) (j:Int)).bind fun r12=>(x5 a0 c 2 k (i:Int) 0 (-1) (j:Int) 0 r12.1 r12.2.1 r12.2.2.2.2 r12.2.2.1 r12.2.2.2.1 st).bind fun r13=>r2 (a0,k,r13.1,(i:Int),((j+1:Nat):Int),L,T,C,r13.2)).map fun q=>(a0,q.1,q.2):=by
    rw[o1,o2];have h1:=FI (a0:=a0) (L:=L) (T:=T) (C:=C) k (i:Int) (j:Int) c st;unfold OC at h1;obtain⟨r,h2,-,-⟩:=Av (i:Int) (j:Int);rw[h2,aa,aa] at h1;rw[h2,aa,aa,h1];cases x5 a0 c 2 k (i:Int) 0 (-1) (j:Int) 0 r.1 r.2.1 r.2.2.2.2 r.2.2.1 r.2.2.2.1 st with
    | none=>rfl
    | some q=>exact hnext q.1 q.2
   rw[sZ hj,cond_true,cond_true,t1,t2,aa,aa,t8 hj (by unfold maxLen; omega)]
   cases decide ((i:Int)∈yI a0 L L 0) with
   | true=>exact key
   | false =>
    rw[cond_false,cond_false,t3,t4,aa,aa];cases decide ((j:Int)∈yI a0 L L 0) with
    | true=>exact key
    | false=>exact hnext c st
  ·rw[tq (by omega),cond_false,cond_false]
   rfl
theorem EF (k:Int):(f:Nat)->(i:Nat)->(c:Int)->(st:List qa) ->
  lp t6 f (a0,k,yI a0 L L 0,((L.length:Nat):Int),(i:Int),L,T,C,a0,c,st)=(lp qS f (a0,k,c,(i:Int),L,T,C,st)).map fun q=>(a0,q.1,q.2)
 | 0,_,_,_=>rfl
 | f+1,i,c,st=>by
  have ih:=EF k f (i+1);rw[zu,zu];generalize lp t6 f=r1 at ih ⊢;generalize lp qS f=r2 at ih ⊢;obtain⟨-,l1,-⟩:=zn hmay;unfold t6 qS;simp only;by_cases hi:i<L.length
  ·rw[sZ hi,cond_true,cond_true,t8 hi (by unfold maxLen; omega),EB hmay k hi ze (i+1) (by omega) c st]
   cases lp qP ze (a0,k,c,(i:Int),((i+1:Nat):Int),L,T,C,st) with
   | none=>rfl
   | some q=>exact ih q.1 q.2
  ·rw[tq (by omega),cond_false,cond_false]
   rfl
end
theorem De (a0:List zg) (L:List zc) (T:List jI) (C:List zc) (k:Int):ZI a0 L T C k=Z8 a0 L T C k:=by
 unfold ZI Z8;rw[zL,aa,zD,aa];cases h:xD a0 L T C with
 | false=>rfl
 | true =>
  rw[ay,cond_false,cond_false];obtain⟨hsb,l1,-,-,l4,-⟩:=zn h;have hL:∀ l∈L,qN a0 l.2=true:=fun l hl=>aC.1 l4 l hl;rw[B8 hsb hL (by omega),aa]
  have:=EF h k ze 0 0 [];simp only at this ⊢;rw[show ((0:Nat):Int)=0 from rfl] at this
  rw[this];cases lp qS ze (a0,k,0,0,L,T,C,[])<;>rfl
section
variable {a0:List zg} {L:List zc} {T:List jI} {C:List zc} (hmay:xD a0 L T C=true)
include hmay
end
def sB (a0:jQ) (_a1:jR) (_a2:jQ) (a3:Int) (a4:Bool):Option Bool :=
 cond (decide (a3≥0))
 (cond (decide (a3<((af a0:Nat):Int)))
  ((gx a0 a3).bind fun e4 =>
   (gx e4.2 0).bind fun e5 =>
   cond (e5==0)
   ((gx a0 a3).bind fun e6 =>
    some (e6.1==a4))
   (some false))
  (some false))
 (some false)
def su (a0:jS) (a1:jQ) (a2:jR) (a3:jQ) (a4:jQ) (a5:jR) (a6:jQ):Option (Bool×jQ×jR×jQ) :=
 (qH a0 a1 a2 a3).bind fun r14 =>
 cond (decide (((af r14.2:Nat):Int)>0))
 ((inR (ag .i64 (((af r14.2:Nat):Int) - 1)) (af r14.2)).bind fun k15 =>
  (r14.2[k15]?).bind fun x16 =>
  (qH a0 a4 a5 a6).bind fun r17 =>
  cond (decide (((af r17.2:Nat):Int)>0))
  ((inR (ag .i64 (((af r17.2:Nat):Int) - 1)) (af r17.2)).bind fun k18 =>
   (r17.2[k18]?).bind fun x19 =>
   cond (decide ((ag .i64 (x19+(ag .i64 (x16+1))))>23))
   (some (false,([]:jQ),([]:jR),([]:jQ)))
   ((zH a4 a5 a6 (ag .i64 (x16+1))).bind fun r20 =>
    some (true,r20.1,r20.2.1,r20.2.2)))
  ((zH a4 a5 a6 (ag .i64 (x16+1))).bind fun r21 =>
   some (true,r21.1,r21.2.1,r21.2.2)))
 ((qH a0 a4 a5 a6).bind fun r22 =>
  cond (decide (((af r22.2:Nat):Int)>0))
  ((inR (ag .i64 (((af r22.2:Nat):Int) - 1)) (af r22.2)).bind fun k23 =>
   (r22.2[k23]?).bind fun x24 =>
   cond (decide ((ag .i64 (x24+0))>23))
   (some (false,([]:jQ),([]:jR),([]:jQ)))
   ((zH a4 a5 a6 0).bind fun r25 =>
    some (true,r25.1,r25.2.1,r25.2.2)))
  ((zH a4 a5 a6 0).bind fun r26 =>
   some (true,r26.1,r26.2.1,r26.2.2)))
def u7 (a0:jS) (a1:jI):Option jR :=
 (vM a1 (some 1) none).bind fun y3 =>
 (v9 a0 y3).bind fun r4 =>
 some r4
def XZ (a0:jS) (a1:jI) (a2:jI):Option Bool :=
 (xV a0 a1 a2).bind fun r2 =>
 cond (r2.1 != 2)
 (some (r2.1 != 3))
 (some false)
def Y9 (a0:jS) (a1:jI) (a2:Int) (a3:jI):Option jI :=
 (wu a0 a1 a2).bind fun r5 =>
 (vM a1 none (some a2)).bind fun y6 =>
 (vM a1 (some r5.1) none).bind fun y7 =>
 (vD ([y6,a3,y7]:List jI)).bind fun r8 =>
 some r8
def jV (a0:jS) (a1:jQ) (a2:jR) (a3:jQ) (a4:Int) (a5:Int) (a6:jQ) (a7:jR) (a8:jQ) (a9:Int) (a10:Int):Option (jQ×jR×Bool×Int×jQ) :=
 (gx a6 a9).bind fun e28 =>
 (gx e28.2 a10).bind fun e29 =>
 cond (decide (e29<0))
 (some (([]:jQ),([]:jR),false,0,([]:jQ)))
 ((su a0 a1 a2 a3 a6 a7 a8).bind fun r30 =>
  cond (!r30.1)
  (some (([]:jQ),([]:jR),false,1501,([]:jQ)))
  ((gx a1 a4).bind fun e31 =>
   (u7 a0 e31.2).bind fun r32 =>
   (inR a9 (af r30.2.1)).bind fun k33 =>
   (r30.2.1[k33]?).bind fun x34 =>
   (wu a0 x34.2 a10).bind fun r35 =>
   (inR a5 (af r32)).bind fun k36 =>
   (r32[k36]?).bind fun x37 =>
   (vM x34.2 (some a10) (some r35.1)).bind fun y38 =>
   (uO a0 x37 y38).bind fun r39 =>
   cond (r39.2.1 != 0)
   (some (([]:jQ),([]:jR),false,1502,([]:jQ)))
   (cond (!r39.1)
    (some (([]:jQ),([]:jR),false,0,([]:jQ)))
    ((inR a5 (af r32)).bind fun k40 =>
     (r32[k40]?).bind fun x41 =>
     (Yr r39.2.2 x41).bind fun r42 =>
     (inR (ag .i64 (1 - a5)) (af r32)).bind fun k43 =>
     (r32[k43]?).bind fun x44 =>
     (Yr r39.2.2 x44).bind fun r45 =>
     cond (decide (((af r42:Nat):Int)>48))
     (some (([]:jQ),([]:jR),false,1502,([]:jQ)))
     (cond (decide (((af r45:Nat):Int)>48))
      (some (([]:jQ),([]:jR),false,1502,([]:jQ)))
      ((XZ a0 r42 r45).bind fun r46 =>
       cond r46
       (some (([]:jQ),([]:jR),false,0,([]:jQ)))
       ((inR (ag .i64 (1 - a5)) (af r32)).bind fun k47 =>
        (r32[k47]?).bind fun x48 =>
        (Y9 a0 x34.2 a10 x48).bind fun r49 =>
        (inR a9 (af r30.2.1)).bind fun k50 =>
        (r30.2.1[k50]?).bind fun x51 =>
        (vP a1 a2 a3 a4 (bP r30.2.1 k50 (x51.1,r49)) r30.2.2.1 r30.2.2.2 (-1)).bind fun r52 =>
        (rU r39.2.2 r52.2.1 r52.1 r52.2.2).bind fun r53 =>
        (xi a0 r53.1 r53.2.1 r53.2.2).bind fun r54 =>
        cond (r54.2.2.1 != 0)
        (some (([]:jQ),([]:jR),false,1502,([]:jQ)))
        (some (r54.1,r54.2.1,true,0,r54.2.2.2)))))))))
def QZ (a0:jS) (a1:jQ) (a2:jR) (a3:jQ) (a4:Int) (a5:Int) (a6:jQ) (a7:jR) (a8:jQ) (a9:Int) (a10:Int):Option (jQ×jR×Bool×Int×jQ) :=
 (yq a0 a1 a2 a3).bind fun r8 =>
 cond (!r8)
 (some (([]:jQ),([]:jR),false,1500,([]:jQ)))
 ((yq a0 a6 a7 a8).bind fun r9 =>
  cond (!r9)
  (some (([]:jQ),([]:jR),false,1500,([]:jQ)))
  ((sB a1 a2 a3 a4 false).bind fun r10 =>
   cond (!r10)
   (some (([]:jQ),([]:jR),false,1500,([]:jQ)))
   (cond (a5 != 0)
    (cond (a5 != 1)
     (some (([]:jQ),([]:jR),false,1500,([]:jQ)))
     (cond (decide (a9<0))
      (some (([]:jQ),([]:jR),false,1500,([]:jQ)))
      (cond (decide (a9≥((af a6:Nat):Int)))
       (some (([]:jQ),([]:jR),false,1500,([]:jQ)))
       (cond (decide (a10<1))
        (some (([]:jQ),([]:jR),false,1500,([]:jQ)))
        ((gx a6 a9).bind fun e11 =>
         cond (decide (a10≥((af e11.2:Nat):Int)))
         (some (([]:jQ),([]:jR),false,1500,([]:jQ)))
         ((jV a0 a1 a2 a3 a4 a5 a6 a7 a8 a9 a10).bind fun r12 =>
          some (r12.1,r12.2.1,r12.2.2.1,r12.2.2.2.1,r12.2.2.2.2)))))))
    (cond (decide (a9<0))
     (some (([]:jQ),([]:jR),false,1500,([]:jQ)))
     (cond (decide (a9≥((af a6:Nat):Int)))
      (some (([]:jQ),([]:jR),false,1500,([]:jQ)))
      (cond (decide (a10<1))
       (some (([]:jQ),([]:jR),false,1500,([]:jQ)))
       ((gx a6 a9).bind fun e13 =>
        cond (decide (a10≥((af e13.2:Nat):Int)))
        (some (([]:jQ),([]:jR),false,1500,([]:jQ)))
        ((jV a0 a1 a2 a3 a4 a5 a6 a7 a8 a9 a10).bind fun r14 =>
         some (r14.1,r14.2.1,r14.2.2.1,r14.2.2.2.1,r14.2.2.2.2)))))))))
def rh (a0:jQ) (a1:jR) (a2:jQ) (a3:Int):Option Bool :=
 (tK a0 a1 a2 a3).bind fun r5 =>
 cond r5
 ((gx a0 a3).bind fun e6 =>
  cond (!e6.1)
  ((gx a0 a3).bind fun e7 =>
   (gx e7.2 0).bind fun e8 =>
   some (e8==0))
  (some false))
 (some false)
def Yt (a0:jI) (a1:Int) (a2:Int) (a3:jI):Option jI :=
 (vM a0 none (some a1)).bind fun y3 =>
 cond (yp (af ([]:List Int)+af y3) 8)
 (cond (yp (af (([]:List Int)++y3)+af a3) 8)
  ((vM a0 (some a2) none).bind fun y4 =>
   cond (yp (af ((([]:List Int)++y3)++a3)+af y4) 8)
   (some (((([]:List Int)++y3)++a3)++y4))
   (none))
  (none))
 (none)
def qt (a0:jS) (a1:jQ) (a2:jR) (a3:jQ) (a4:Int) (a5:Int) (a6:jQ) (a7:jR) (a8:jQ) (a9:Int) (a10:Int):Option (jQ×jR×Bool×Int×jQ) :=
 (jX a0 a1 a2 a3).bind fun r30 =>
 cond (!r30)
 (some (([]:jQ),([]:jR),false,1500,([]:jQ)))
 ((jX a0 a6 a7 a8).bind fun r31 =>
  cond (!r31)
  (some (([]:jQ),([]:jR),false,1500,([]:jQ)))
  ((rh a1 a2 a3 a4).bind fun r32 =>
   cond (!r32)
   (some (([]:jQ),([]:jR),false,1500,([]:jQ)))
   (cond (decide (a5<0))
    (some (([]:jQ),([]:jR),false,1500,([]:jQ)))
    (cond (decide (a5>1))
     (some (([]:jQ),([]:jR),false,1500,([]:jQ)))
     ((tK a6 a7 a8 a9).bind fun r33 =>
      cond (!r33)
      (some (([]:jQ),([]:jR),false,1500,([]:jQ)))
      (cond (decide (a10<1))
       (some (([]:jQ),([]:jR),false,1500,([]:jQ)))
       ((gx a6 a9).bind fun e34 =>
        cond (decide (a10≥((af e34.2:Nat):Int)))
        (some (([]:jQ),([]:jR),false,1500,([]:jQ)))
        ((gx a6 a9).bind fun e35 =>
         (gx e35.2 a10).bind fun e36 =>
         cond (decide (e36<0))
         (some (([]:jQ),([]:jR),false,0,([]:jQ)))
         ((jl a1 a2 a3 a6 a7 a8).bind fun r37 =>
          cond (!r37.2.2.1)
          (some (([]:jQ),([]:jR),false,1501,([]:jQ)))
          ((gx a1 a4).bind fun e38 =>
           (vM e38.2 (some 1) none).bind fun y39 =>
           (zQ a0 y39).bind fun r40 =>
           (inR a5 (af r40)).bind fun k41 =>
           (r40[k41]?).bind fun x42 =>
           (inR (ag .i64 (1 - a5)) (af r40)).bind fun k43 =>
           (r40[k43]?).bind fun x44 =>
           (gx r37.1 a9).bind fun e45 =>
           (Xd a0 e45.2 a10).bind fun r46 =>
           (vM e45.2 (some a10) (some r46)).bind fun y47 =>
           (ua a0 x42 y47).bind fun r48 =>
           cond (!r48.2.1)
           (some (([]:jQ),([]:jR),false,1502,([]:jQ)))
           (cond (!r48.1)
            (some (([]:jQ),([]:jR),false,0,([]:jQ)))
            ((tt r48.2.2 x42).bind fun r49 =>
             (tt r48.2.2 x44).bind fun r50 =>
             cond (decide (((af r49:Nat):Int)>48))
             (some (([]:jQ),([]:jR),false,1502,([]:jQ)))
             (cond (decide (((af r50:Nat):Int)>48))
              (some (([]:jQ),([]:jR),false,1502,([]:jQ)))
              ((tQ a0 r49 r50).bind fun r51 =>
               cond (r51==0)
               (some (([]:jQ),([]:jR),false,0,([]:jQ)))
               (cond (r51==1)
                (some (([]:jQ),([]:jR),false,0,([]:jQ)))
                ((u5 a1 a4).bind fun r52 =>
                 cond (yp (af r52+af r37.1) 32)
                 ((gx r37.1 a9).bind fun e53 =>
                  (Yt e45.2 a10 r46 x44).bind fun r54 =>
                  (inR (ag .i64 ((ag .i64 (((af a1:Nat):Int) - 1))+a9)) (af (r52++r37.1))).bind fun k55 =>
                  ((r52++r37.1)[k55]?).bind fun _x56 =>
                  (WS (bP (r52++r37.1) k55 (e53.1,r54)) a1 a2 a3 r37.1 r37.2.1 r37.2.2.2).bind fun r57 =>
                  (kF a0 r48.2.2 r57.1 r57.2.1 r57.2.2).bind fun r58 =>
                  cond (!r58.2.2.1)
                  (some (([]:jQ),([]:jR),false,1502,([]:jQ)))
                  (some (r58.1,r58.2.1,true,0,r58.2.2.2)))
                 (none)))))))))))))))))
def rg (a0:jS) (a1:jQ) (a2:jR) (a3:jQ) (a4:Int):Option (jQ×jR×Bool×Int×jQ) :=
 (gx a1 a4).bind fun e11 =>
 (u7 a0 e11.2).bind fun r12 =>
 (inR 0 (af r12)).bind fun k13 =>
 (r12[k13]?).bind fun x14 =>
 (inR 1 (af r12)).bind fun k15 =>
 (r12[k15]?).bind fun x16 =>
 (uO a0 x14 x16).bind fun r17 =>
 cond (r17.2.1 != 0)
 (some (([]:jQ),([]:jR),false,1502,([]:jQ)))
 (cond (!r17.1)
  (some (([]:jQ),([]:jR),false,0,([]:jQ)))
  ((vP a1 a2 a3 a4 ([]:jQ) ([]:jR) ([]:jQ) (-1)).bind fun r18 =>
   (rU r17.2.2 r18.2.1 r18.1 r18.2.2).bind fun r19 =>
   (xi a0 r19.1 r19.2.1 r19.2.2).bind fun r20 =>
   cond (r20.2.2.1 != 0)
   (some (([]:jQ),([]:jR),false,1502,([]:jQ)))
   (some (r20.1,r20.2.1,true,0,r20.2.2.2))))
def kS (a0:jS) (a1:jQ) (a2:jR) (a3:jQ) (a4:Int):Option (jQ×jR×Bool×Int×jQ) :=
 (yq a0 a1 a2 a3).bind fun r4 =>
 cond (!r4)
 (some (([]:jQ),([]:jR),false,1500,([]:jQ)))
 ((sB a1 a2 a3 a4 true).bind fun r5 =>
  cond (!r5)
  (some (([]:jQ),([]:jR),false,1500,([]:jQ)))
  ((rg a0 a1 a2 a3 a4).bind fun r6 =>
   some (r6.1,r6.2.1,r6.2.2.1,r6.2.2.2.1,r6.2.2.2.2)))
def tP (a0:jS) (a1:jQ) (a2:jR) (a3:jQ) (a4:Int):Option (jQ×jR×Bool×Int×jQ) :=
 (jX a0 a1 a2 a3).bind fun r16 =>
 cond (!r16)
 (some (([]:jQ),([]:jR),false,1500,([]:jQ)))
 ((tK a1 a2 a3 a4).bind fun r17 =>
  cond (!r17)
  (some (([]:jQ),([]:jR),false,1500,([]:jQ)))
  ((gx a1 a4).bind fun e18 =>
   cond (!e18.1)
   (some (([]:jQ),([]:jR),false,1500,([]:jQ)))
   ((gx a1 a4).bind fun e19 =>
    (gx e19.2 0).bind fun e20 =>
    cond (e20 != 0)
    (some (([]:jQ),([]:jR),false,1500,([]:jQ)))
    ((gx a1 a4).bind fun e21 =>
     (vM e21.2 (some 1) none).bind fun y22 =>
     (zQ a0 y22).bind fun r23 =>
     (inR 0 (af r23)).bind fun k24 =>
     (r23[k24]?).bind fun x25 =>
     (inR 1 (af r23)).bind fun k26 =>
     (r23[k26]?).bind fun x27 =>
     (ua a0 x25 x27).bind fun r28 =>
     cond (!r28.2.1)
     (some (([]:jQ),([]:jR),false,1502,([]:jQ)))
     (cond (!r28.1)
      (some (([]:jQ),([]:jR),false,0,([]:jQ)))
      ((u5 a1 a4).bind fun r29 =>
       (kF a0 r28.2.2 r29 a2 a3).bind fun r30 =>
       cond (!r30.2.2.1)
       (some (([]:jQ),([]:jR),false,1502,([]:jQ)))
       (some (r30.1,r30.2.1,true,0,r30.2.2.2))))))))
inductive RT (t u:Tm):Tm->Tm->Prop
 | here:RT t u t u
 | arg (c:Nat) (l r:List Tm) {a b:Tm}:RT t u a b->RT t u (.f c (l++a::r)) (.f c (l++b::r))
theorem KW:(ts:List Tm)->(p:Nat)->p<(za ts).length->∃ l a r,ts=l++a::r∧(za l).length<=p∧p<(za l).length+a.codes.length
 | [],p,h=>by simp [za] at h
 | t::ts,p,h=>by
  simp only[za,am] at h;by_cases hp:p<t.codes.length
  ·exact ⟨[],t,ts,rfl,bI _,by simpa[za] using hp⟩
  ·obtain⟨l,a,r,rfl,h1,h2⟩:=KW ts (p - t.codes.length) (by omega)
   exact ⟨t::l,a,r,rfl,by simp only[za,am]; omega,by simp only[za,am]; omega⟩
theorem HW {a0:List zg} {N:Nat} {l r:List Tm} {a:Tm} (h:okR a0 N (l++a::r)):a.ok a0 N:=vI.1 h a (by simp)
theorem H9 {a0:List zg}:∀(n:Nat) (a:Tm) (p:Nat),a.size<=n->a.ok a0 24->p<a.codes.length->∃ t:Tm,t.ok a0 24∧(∃ x y,a.codes=x++t.codes++y∧x.length=p∧∀ u:Tm,∃ b,RT t u a b∧b.codes=x++u.codes++y)
 | 0,a,p,h,_,_=>by have:=a.size_pos; omega
 | n+1,a,0,_,ho,_=>⟨a,ho,[],[],by simp,rfl,fun u=>⟨u,.here,by simp⟩⟩
 | n+1,.v m,p+1,_,_,h=>by simp [Tm.codes] at h
 | n+1,.f c as,p+1,hn,ho,h=>by
  simp only[Tm.codes,ak] at h;obtain⟨l,a,r,rfl,h1,h2⟩:=KW as p (by omega)
  simp only[Tm.size,Jw,xK] at hn;obtain⟨t,h3,x,y,h4,h5,h6⟩:=H9 n a (p - (za l).length) (by omega) (HW ho.2) (by omega)
  refine ⟨t,h3,(c:Int)::za l++x,y++za r,?_,?_,fun u => ?_⟩
  ·simp only[Tm.codes,uV,za,h4]; simp
  ·simp only[List.cons_append,ak,am]; omega
  ·obtain⟨b,g1,g2⟩:=h6 u;refine ⟨.f c (l++b::r),.arg c l r g1,?_⟩;simp only[Tm.codes,uV,za,g2]; simp
def RR (t u:Tm) (ts us:List Tm):Prop:=∃ l a b r,ts=l++a::r∧us=l++b::r∧RT t u a b
theorem Tv {a0:List zg} {ts:List Tm} {p:Nat} (ho:okR a0 24 ts) (h:p<(za ts).length):∃ t:Tm,t.ok a0 24∧∃ x y,za ts=x++t.codes++y∧x.length=p∧∀ u:Tm,∃ us,RR t u ts us∧za us=x++u.codes++y:=by
 obtain⟨l,a,r,rfl,h1,h2⟩:=KW ts p h;obtain⟨t,h3,x,y,h4,h5,h6⟩:=H9 a.size a (p - (za l).length) (aF _) (HW ho) (by omega)
 refine ⟨t,h3,za l++x,y++za r,by simp only[uV,za,h4]; simp,by simp only[am]; omega,fun u => ?_⟩
 obtain⟨b,g1,g2⟩:=h6 u;exact ⟨l++b::r,⟨l,a,b,r,rfl,rfl,g1⟩,by simp only[uV,za,g2]; simp⟩
theorem RT.ok {a0:List zg} {N:Nat} {t u a b:Tm} (h:RT t u a b) (hu:u.ok a0 N) (ha:a.ok a0 N):b.ok a0 N:=by
 induction h with
 | here=>exact hu
 | arg c l r h ih =>
  refine ⟨by have:=ha.1; simpa using this,vI.2 fun w hw => ?_⟩
  have h2:=vI.1 ha.2;rcases aJ.1 hw with hw | hw
  ·exact h2 w (bN _ hw)
  ·rcases aD.1 hw with rfl | hw
   ·exact ih (h2 _ (by simp))
   ·exact h2 w (by simp [hw])
theorem RR.ok {a0:List zg} {N:Nat} {t u:Tm} {ts us:List Tm} (h:RR t u ts us) (hu:u.ok a0 N) (ha:okR a0 N ts):okR a0 N us:=by
 obtain⟨l,a,b,r,rfl,rfl,h⟩:=h;refine vI.2 fun w hw => ?_;have h2:=vI.1 ha;rcases aJ.1 hw with hw | hw
 ·exact h2 w (bN _ hw)
 ·rcases aD.1 hw with rfl | hw
  ·exact h.ok hu (h2 _ (by simp))
  ·exact h2 w (by simp [hw])
theorem RR.len {t u:Tm} {ts us:List Tm} (h:RR t u ts us):us.length=ts.length:=by
 obtain⟨l,a,b,r,rfl,rfl,h⟩:=h;simp
theorem UO {a0:List zg} {t:Tm} (ht:t.ok a0 24) (x y:List Int):sk a0 1 ((x++t.codes++y).drop x.length)=some t.codes.length:=by
 rw[aU,ep];exact Ap y (t.sk_codes ht)
theorem Xa {a0:List zg} (hs:SignOk a0) {t:Tm} (ht:t.ok a0 24) (x y:List Int) (hl:(x++t.codes++y).length<=1000):wu a0 (x++t.codes++y) (x.length:Int)=some (((x.length+t.codes.length:Nat):Int),true):=by
 rw[jJ hs _ (by omega),UO ht]
theorem za0 {a0:List zg} (hs:SignOk a0) {t:Tm} (ht:t.ok a0 24) (x y:List Int) (hl:(x++t.codes++y).length<=1000):Xd a0 (x++t.codes++y) (x.length:Int)=some ((x.length+t.codes.length:Nat):Int):=by
 rw[K7 hs _ (by omega) _ (by simp only[am]; omega),UO ht]
 rfl
theorem Cl (x z y:List Int):vM (x++z++y) (some (x.length:Int)) (some ((x.length+z.length:Nat):Int))=some z:=by
 show slc (x++z++y) (x.length:Int) ((x.length+z.length:Nat):Int)=_;unfold slc;rw[decide_eq_true (show (0:Int)<=(x.length:Int) by omega),decide_eq_true (show (x.length:Int)<=((x.length+z.length:Nat):Int) by omega),decide_eq_true (show ((x.length+z.length:Nat):Int)<=(((x++z++y).length:Nat):Int) by simp only[am]; omega)]
 simp only[cond_true,bl];have e:(x++z++y).take (x.length+z.length)=x++z:=by rw[show x.length+z.length=(x++z).length by simp,List.take_left]
 rw[e,ep]
theorem I5 (x z y:List Int):vM (x++z++y) none (some (x.length:Int))=some x:=by
 rw[Im _ (by simp only[am]; omega)]
 simp
theorem EK (x z y:List Int):vM (x++z++y) (some ((x.length+z.length:Nat):Int)) none=some y:=by
 rw[Ez _ (by simp only[am]; omega)]
 rw[show x.length+z.length=(x++z).length by simp,ep]
theorem jD {a0:List zg} (hb:uP a0=true) {t:Tm} (ht:t.ok a0 24) (hl:t.codes.length<=48):v8 a0 t.codes=some true:=by
 have h:=yK (a0:=a0) [t] ⟨ht,trivial⟩;have e:za [t]=t.codes:=by simp [za]
 rw[e] at h;unfold v8;rw[ru,aa];unfold vW;rw[hb,decide_eq_true hl];simp only[Bool.and_self,cond_true,h];rfl
theorem K1 (a0:List zg) (xs:List Int):∃ b,v5 a0 xs=some b:=⟨_,uB a0 xs⟩
theorem Rx {a0:List zg} {a b:List Int} {k:Int} (h:Vb a0 a b=some (k,0)):k=0∨k=1∨k=2∨k=3:=by
 unfold Vb at h;simp only[ah] at h;obtain⟨r,-,h⟩:=h;cases r with
 | true=>injection h with h; injection h with h; exact .inr (.inl h.symm)
 | false =>
  simp only[cond_false,ah] at h;obtain⟨r,-,h⟩:=h;cases r with
  | true=>injection h with h; injection h with h; exact .inr (.inr (.inl h.symm))
  | false =>
   simp only[cond_false,ah] at h;obtain⟨r,-,h⟩:=h;cases r with
   | true=>injection h with h; injection h with h; exact .inl h.symm
   | false=>injection h with h; injection h with h; exact .inr (.inr (.inr h.symm))
theorem ki {a0:List zg} (hb:uP a0=true) {t u:Tm} (ht:t.ok a0 24) (hu:u.ok a0 24) (hlt:t.codes.length<=48) (hlu:u.codes.length<=48):∃ k,tQ a0 t.codes u.codes=some k∧xV a0 t.codes u.codes=some (k,0)∧Vb a0 t.codes u.codes=some (k,0)∧(k=0∨k=1∨k=2∨k=3):=by
 obtain⟨k,h1,h2⟩:=It (xS hb) ht hu (by omega) (by omega)
 refine ⟨k,h1,?_,h2,Rx h2⟩;rw[← h2];obtain⟨b1,e1⟩:=K1 a0 t.codes;obtain⟨b2,e2⟩:=K1 a0 u.codes;unfold xV;rw[jD hb ht hlt,jD hb hu hlu,e1,e2];cases b1<;>cases b2<;>rfl
theorem Gx (a0:List zg) (L:List zc) (T:List jI) (C:List zc) (L':List zc) (T':List jI) (C':List zc) :
  su a0 L T C L' T' C'=(vV a0 L T C L' T' C').bind fun r=>some (r.2.2.1,r.1,r.2.1,r.2.2.2):=by
 have half:∀(n:Int),((qH a0 L' T' C').bind fun r17 =>
   cond (decide (((af r17.2:Nat):Int)>0))
   ((inR (ag .i64 (((af r17.2:Nat):Int) - 1)) (af r17.2)).bind fun k18 =>
    (r17.2[k18]?).bind fun x19 =>
    cond (decide ((ag .i64 (x19+n))>23))
    (some (false,([]:jQ),([]:jR),([]:jQ)))
    ((zH L' T' C' n).bind fun r20=>some (true,r20.1,r20.2.1,r20.2.2)))
   ((zH L' T' C' n).bind fun r21=>some (true,r21.1,r21.2.1,r21.2.2))) =
  ((qH a0 L' T' C').bind fun r17 =>
   cond (decide (((af r17.2:Nat):Int)>0))
   ((inR (ag .i64 (((af r17.2:Nat):Int) - 1)) (af r17.2)).bind fun k18 =>
    (r17.2[k18]?).bind fun x19 =>
    cond (decide ((ag .i64 (x19+n))>23))
    (some (([]:jQ),([]:jR),false,([]:jQ)))
    ((zH L' T' C' n).bind fun r20=>some (r20.1,r20.2.1,true,r20.2.2)))
   ((zH L' T' C' n).bind fun r21=>some (r21.1,r21.2.1,true,r21.2.2))).bind fun r=>some (r.2.2.1,r.1,r.2.1,r.2.2.2):=by
  intro n;cases qH a0 L' T' C' with
  | none=>rfl
  | some r17 =>
   simp only[aa];have fin:((zH L' T' C' n).bind fun r20=>some (true,r20.1,r20.2.1,r20.2.2))=((zH L' T' C' n).bind fun r20=>some (r20.1,r20.2.1,true,r20.2.2)).bind fun r=>some (r.2.2.1,r.1,r.2.1,r.2.2.2):=by
    cases zH L' T' C' n<;>rfl
   cases decide (((af r17.2:Nat):Int)>0) with
   | false=>exact fin
   | true =>
    simp only[cond_true];cases inR (ag .i64 (((af r17.2:Nat):Int) - 1)) (af r17.2) with
    | none=>rfl
    | some k18 =>
     simp only[aa];cases r17.2[k18]? with
     | none=>rfl
     | some x19 =>
      simp only[aa];cases decide (ag .i64 (x19+n)>23) with
      | true=>rfl
      | false=>exact fin
 unfold su vV;cases qH a0 L T C with
 | none=>rfl
 | some r14 =>
  simp only[aa];cases decide (((af r14.2:Nat):Int)>0) with
  | false=>exact half 0
  | true =>
   simp only[cond_true];cases inR (ag .i64 (((af r14.2:Nat):Int) - 1)) (af r14.2) with
   | none=>rfl
   | some k15 =>
    simp only[aa];cases r14.2[k15]? with
    | none=>rfl
    | some x16=>exact half _
theorem KS:(es:List zc)->(i:Nat)->zv (-1) es i=es
 | [],_=>rfl
 | e::es,i=>by
  unfold zv;rw[show ((i:Int) != -1)=true from by simp,cond_true,KS es (i+1)]
theorem I9 {L:List zc} {i:Int} (h:z5 L i=true):(zv i L 0).length+1=L.length:=by
 unfold z5 at h;simp only[ax,decide_eq_true_eq] at h;obtain⟨k,rfl⟩:∃ k:Nat,i=(k:Int):=⟨i.toNat,by omega⟩
 rw[Yq k L 0 (by omega) (by omega)]
 simp; omega
theorem R3 {side:Int} (hside:side=0∨side=1) (s0 s1:Tm):∃(ks kt:Nat) (fr to:Tm),inR side 2=some ks∧inR (ag .i64 (1 - side)) 2=some kt∧([s0.codes,s1.codes])[ks]? = some fr.codes∧([s0.codes,s1.codes])[kt]? = some to.codes ∧
  ((side=0∧fr=s0∧to=s1)∨(side=1∧fr=s1∧to=s0))∧decide (side<0)=false∧decide (side>1)=false:=by
 rcases hside with rfl | rfl
 ·exact ⟨0,1,s0,s1,rfl,rfl,rfl,rfl,.inl ⟨rfl,rfl,rfl⟩,rfl,rfl⟩
 ·exact ⟨1,0,s1,s0,rfl,rfl,rfl,rfl,.inr ⟨rfl,rfl,rfl⟩,rfl,rfl⟩
def PSpec (a0:List zg) (L:List zc) (T:List jI) (C:List zc) (i:Int) (fr to:Tm) (L':List zc) (T':List jI) (C':List zc) (j:Int) (n':Bool) (A':List Int) (at':Nat) (o:Option Vf):Prop :=
 (∃ v,A'[at']? = some v∧v<0∧o=vN 0) ∨
 ∃(v:Int) (b c:Nat) (us:List Tm),A'[at']? = some v∧0<=v∧b<=24∧TopV (yg L T C) (b:Int)∧A'=(c:Int)::za us∧okR a0 24 us ∧
  ((o=vN 1501∧∃ x,ZM (yg L' T' C') x∧23<x+(b:Int)) ∨
   ((∀ x,ZM (yg L' T' C') x->x+(b:Int)<=23)∧∃(t:Tm) (x y:List Int),t.ok a0 24∧za (us.map (Tm.up b))=x++t.codes++y∧at'=x.length+1∧okR a0 24 (us.map (Tm.up b))∧(∀ u:Tm,∃ ws,RR t u (us.map (Tm.up b)) ws∧za ws=x++u.codes++y) ∧
    ((o=vN 0∧∀ θ,¬ Sol θ ([fr].zip [t])) ∨
    ∃ σ,Mgu σ ([fr].zip [t])∧(∀ x,x<24->(σ x).ok a0 24) ∧
     ((o=vN 1502∧(qT σ (aK 24)=false∨48<(fr.sub σ).codes.length∨48<(to.sub σ).codes.length)) ∨
      (qT σ (aK 24)=true∧(fr.sub σ).codes.length<=48∧(to.sub σ).codes.length<=48∧∃ k,xV a0 (fr.sub σ).codes (to.sub σ).codes=some (k,0) ∧
       ((o=vN 0∧(k=0∨k=1)) ∨
       (o=ZE a0 σ (zv i L 0++(ju (b:Int) L').set j.toNat (n',(c:Int)::(x++to.codes++y))) (IE b T T') (IM b C C') 1502∧(k=2∨k=3))))))))
theorem qV (t:Tm):t.codes=za [t]:=by simp [za]
theorem LY {α:Type} {x y:α}:{xs:List α}->{i:Nat}->y∈xs.set i x->y∈xs∨y=x
 | [],i,h=>by simp at h
 | z::zs,0,h=>by
  rcases aD.1 h with h | h
  ·exact .inr h
  ·exact .inl (ai _ h)
 | z::zs,i+1,h=>by
  rcases aD.1 h with h | h
  ·exact .inl (h▸aj ..)
  ·rcases LY h with h | h
   ·exact .inl (ai _ h)
   ·exact .inr h
theorem IQ {a0:List zg} {A:List Int} (h:qN a0 A=true) (h0:gx A 0=some 0):∃ s0 s1:Tm,A=0::za [s0,s1]∧s0.ok a0 24∧s1.ok a0 24∧(za [s0,s1]).length<=48:=by
 obtain⟨c,ts,e,rfl,ho,he,-,hlen,hl48,hb⟩:=xP h;rw[yc,aB] at h0;injection h0 with h0;obtain rfl:c=0:=by omega
 rw[(xS hb).eq] at he;injection he with he;subst he
 match ts,hlen,ho,hl48 with
 | [],hlen,_,_=>exact absurd hlen (by decide)
 | [_],hlen,_,_=>exact absurd hlen (by show ¬(((1:Nat):Int)=(2:Int)); decide)
 | _::_::_::_,hlen,_,_=>simp only[ak] at hlen; exact absurd hlen (by show ¬(_=(2:Int)); omega)
 | [s0,s1],_,ho,hl48=>exact ⟨s0,s1,rfl,ho.1,ho.2.1,hl48⟩
theorem Ik {a0:List zg} (hs:SignOk a0) {s0 s1:Tm} (h0:s0.ok a0 24) (h1:s1.ok a0 24) (hl:(za [s0,s1]).length<=48):u7 a0 (0::za [s0,s1])=some [s0.codes,s1.codes]∧zQ a0 (za [s0,s1])=some [s0.codes,s1.codes]:=by
 have hc:=yK (a0:=a0) [s0,s1] ⟨h0,h1,trivial⟩;refine ⟨?_,wZ hs (by omega) hc⟩
 unfold u7;rw[wB,aa,ur hs (by omega) hc]
 rfl
theorem Ah {σ:Sb} (t:Tm) (h:∀ c∈t.codes,-24<=c):onB (tn σ) t.codes=(t.sub σ).codes:=by
 rw[CL h,Tm.codes_sub];rfl
theorem L4 {a0:List zg} {L:List zc} {T:List jI} {C:List zc} {L':List zc} {T':List jI} {C':List zc} (h:xD a0 L T C=true) (h':xD a0 L' T' C'=true) {i j:Int} {n':Bool} {A A':List Int}
  (hi:gx L i=some (false,A)) (h0:gx A 0=some 0) (hj:gx L' j=some (n',A')) {side:Int} (hside:side=0∨side=1) {at':Nat} (h1:1<=at') (h2:at'<A'.length) :
  ∃ s0 s1 fr to:Tm,A=0::za [s0,s1]∧s0.ok a0 24∧s1.ok a0 24∧((side=0∧fr=s0∧to=s1)∨(side=1∧fr=s1∧to=s0))∧∃ o,jV a0 L T C i side L' T' C' j (at':Int)=o∧qt a0 L T C i side L' T' C' j (at':Int)=o∧PSpec a0 L T C i fr to L' T' C' j n' A' at' o:=by
 obtain⟨hsb,l1,l2,l3,l4,l5,l6,-⟩:=zn h;obtain⟨-,l1',l2',l3',l4',l5',l6',-⟩:=zn h';have hs:=xS hsb;obtain⟨s0,s1,rfl,ok0,ok1,hA48⟩:=IQ (aC.1 l4 _ (rL hi)) h0;obtain⟨c,us,e',rfl,ho',he',-,hlen',hl48',-⟩:=xP (aC.1 l4' (n',A') (rL hj));obtain⟨ks,kt,fr,to,e1,e2,e3,e4,hft,hsd1,hsd2⟩:=R3 hside s0 s1;refine ⟨s0,s1,fr,to,rfl,ok0,ok1,hft,?_⟩;obtain⟨sd1,sd2⟩:=Ik hs ok0 ok1 hA48;have hcd:=jm hs h;have hcd':=jm hs h';have hcA:Cds (0::za [s0,s1]):=hcd _ (yE (rL hi));have hs0:s0.codes.length+s1.codes.length<=48:=by simpa[za] using hA48
 have hfr:fr.ok a0 24∧fr.codes.length<=48∧∀ c∈fr.codes,-24<=c∧c<=1000000:=by
  rcases hft with ⟨-,rfl,rfl⟩ | ⟨-,rfl,rfl⟩
  ·exact ⟨ok0,by omega,fun c hc=>hcA.2 c (by simp [za,hc])⟩
  ·exact ⟨ok1,by omega,fun c hc=>hcA.2 c (by simp [za,hc])⟩
 have hto:to.ok a0 24∧to.codes.length<=48∧∀ c∈to.codes,-24<=c∧c<=1000000:=by
  rcases hft with ⟨-,rfl,rfl⟩ | ⟨-,rfl,rfl⟩
  ·exact ⟨ok1,by omega,fun c hc=>hcA.2 c (by simp [za,hc])⟩
  ·exact ⟨ok0,by omega,fun c hc=>hcA.2 c (by simp [za,hc])⟩
 obtain⟨hjp,hjl,hjm⟩:0<=j∧j<L'.length∧L'[j.toNat]? = some (n',(c:Int)::za us):=by
  have hj0:=hj;unfold gx at hj0;by_cases hn:0<=j
  ·rw[decide_eq_true hn,cond_true] at hj0;have:=(au.1 hj0).1;exact ⟨hn,by omega,hj0⟩
  ·rw[decide_eq_false hn] at hj0; cases hj0
 have hpi:z5 L i=true:=by
  unfold gx at hi;by_cases hn:0<=i
  ·rw[decide_eq_true hn,cond_true] at hi;have:=(au.1 hi).1;unfold z5;simp only[ax,decide_eq_true_eq];omega
  ·rw[decide_eq_false hn] at hi; cases hi
 have hpj:z5 L' j=true:=by
  unfold z5;simp only[ax,decide_eq_true_eq];omega
 obtain⟨v,hv⟩:∃ v,((c:Int)::za us)[at']? = some v:=⟨_,al h2⟩;have hvat:gx ((c:Int)::za us) (at':Int)=some v:=by rw[yH]; exact hv
 -- the reference's guards
 have href:qt a0 L T C i side L' T' C' j (at':Int)=(cond (decide (v<0)) (vN 0)
   ((jl L T C L' T' C').bind fun r37 =>
          cond (!r37.2.2.1)
          (vN 1501)
           ((gx r37.1 j).bind fun e45 =>
           (Xd a0 e45.2 (at':Int)).bind fun r46 =>
           (vM e45.2 (some (at':Int)) (some r46)).bind fun y47 =>
           (ua a0 fr.codes y47).bind fun r48 =>
           cond (!r48.2.1)
           (vN 1502)
           (cond (!r48.1)
            (vN 0)
            ((tt r48.2.2 fr.codes).bind fun r49 =>
             (tt r48.2.2 to.codes).bind fun r50 =>
             cond (decide (((af r49:Nat):Int)>48))
             (vN 1502)
             (cond (decide (((af r50:Nat):Int)>48))
              (vN 1502)
              ((tQ a0 r49 r50).bind fun r51 =>
               cond (r51==0)
               (vN 0)
               (cond (r51==1)
                (vN 0)
                ((u5 L i).bind fun r52 =>
                 cond (yp (af r52+af r37.1) 32)
                 ((gx r37.1 j).bind fun e53 =>
                  (Yt e45.2 (at':Int) r46 to.codes).bind fun r54 =>
                  (inR (ag .i64 ((ag .i64 (((af L:Nat):Int) - 1))+j)) (af (r52++r37.1))).bind fun k55 =>
                  ((r52++r37.1)[k55]?).bind fun x56 =>
                  (WS (bP (r52++r37.1) k55 (e53.1,r54)) L T C r37.1 r37.2.1 r37.2.2.2).bind fun r57 =>
                  (kF a0 r48.2.2 r57.1 r57.2.1 r57.2.2).bind fun r58 =>
                  cond (!r58.2.2.1)
                  (vN 1502)
                  (some (r58.1,r58.2.1,true,(0:Int),r58.2.2.2)))
                 (none)))))))))):=by
  unfold qt rh;rw[zL,h,aa,zL,h',aa,rq,hpi,rq,hpj];simp only[ay,cond_false,aa,cond_true,hi,h0,bu,beq_self_eq_true,hsd1,hsd2,hj,hvat];rw[decide_eq_false (show ¬((at':Int)<1) by omega),cond_false,decide_eq_false (show ¬((at':Int)≥((af ((c:Int)::za us):Nat):Int)) by omega),cond_false]
  cases decide (v<0) with
  | true=>rfl
  | false =>
   simp only[cond_false,wB,aa,sd2,ak,bb,aQ,gH,e1,e2,e3,e4];rfl
 rw[href];unfold jV;rw[hj,aa];simp only[hvat,aa];by_cases hv0:v<0
 ·rw[decide_eq_true hv0];exact ⟨vN 0,rfl,rfl,.inl ⟨v,hv,hv0,rfl⟩⟩
 ·rw[decide_eq_false hv0,cond_false,cond_false];obtain⟨b,hb,htop,hap⟩:=apart_spec hs h h';have fin:∀{o1 o2:Option Vf} {o:Option Vf},o1=o->o2=o->PSpec a0 L T C i fr to L' T' C' j n' ((c:Int)::za us) at' o->∃ o,o1=o∧o2=o∧PSpec a0 L T C i fr to L' T' C' j n' ((c:Int)::za us) at' o:=fun h1 h2 h3=>⟨_,h1,h2,h3⟩;have mk:=fun {o:Option Vf} (hq:_)=>show PSpec a0 L T C i fr to L' T' C' j n' ((c:Int)::za us) at' o from .inr ⟨v,b,c,us,hv,by omega,hb,htop,rfl,ho',hq⟩
  rcases hap with ⟨hap,hfar⟩ | ⟨hap,hnear⟩
  ·rcases VG hs h h' hb htop with ⟨ap,-⟩ | ⟨ap,hn2⟩
   ·rw[Gx,hap,ap];exact fin rfl rfl (mk (.inl ⟨rfl,hfar⟩))
   ·obtain⟨x,hx,hfar⟩:=hfar;have:=hn2 x hx; omega
  ·rcases VG hs h h' hb htop with ⟨ap,x,hx,hfar⟩ | ⟨ap,-⟩
   ·have:=hnear x hx; omega
   ·rw[Gx,hap,ap];simp only[aa,ay,cond_false];have hj2:gx (ju (b:Int) L') j=some (n',(c:Int)::za (us.map (Tm.up b))):=by
     have:=Ua (fun l:zc=>(l.1,l.2.map (upC (b:Int)))) hj;rw[Ec] at this;exact this
    have hvar:∀ k:Nat,Zm k us->k+b<24:=fun k hk=>by
     have:=hnear (k:Int) ⟨_,yE (rL hj),by
      obtain⟨c0,h1,h2,h3⟩:=kN.2 ⟨k,rfl,hk⟩;exact ⟨c0,ai _ h1,h2,h3⟩⟩
     omega
    have hou:=LD ho' hvar;have hlu:(za (us.map (Tm.up b))).length=(za us).length:=by rw[← IV,aP]
    obtain⟨p,rfl⟩:∃ p,at'=p+1:=⟨at' - 1,by omega⟩
    rw[ak] at h2;obtain⟨t,ht,x,y,e5,e6,hrep⟩:=Tv hou (p:=p) (by omega)
    subst e6;have hlx:x.length+t.codes.length+y.length<=48:=by
     have:=congrArg af e5;simp only[am] at this;omega
    have mk2:=fun {o:Option Vf} (hq:_)=>mk (o:=o) (.inr ⟨hnear,t,x,y,ht,e5,rfl,hou,hrep,hq⟩);have e7:(c:Int)::za (us.map (Tm.up b))=((c:Int)::x)++t.codes++y:=by rw[e5]; simp
    have e8:((x.length+1:Nat):Int)=((((c:Int)::x).length:Nat):Int):=by simp
    have hl1:(((c:Int)::x)++t.codes++y).length<=1000:=by simp only[am,ak]; omega
    have hjn:inR j (ju (b:Int) L').length=some j.toNat:=by
     obtain⟨k,rfl⟩:=dy hjp;exact yN (by simp [ju]; omega)
    have hjd:(ju (b:Int) L')[j.toNat]? = some (n',(c:Int)::za (us.map (Tm.up b))):=by
     have h3:=hj2;unfold gx at h3;rwa [decide_eq_true hjp,cond_true] at h3
    rw[hi,aa,hj2,aa];simp only[sd1,aa,ak,bb,aQ,gH,e1,e2,e3,e4,hjn,hjd];rw[e8,e7,Xa hs ht _ _ hl1,za0 hs ht _ _ hl1];simp only[aa,Cl];rw[qV fr,qV t];rcases Zf hs (xs:=za [fr]) (ys:=za [t]) rfl rfl ⟨hfr.1,trivial⟩ ⟨ht,trivial⟩ hsb (by rw[← qV]; omega) (by rw[← qV]; omega) with ⟨hu,hno⟩ | ⟨-,σ,hm,hok,hu⟩
    ·rcases u4 hs (ts:=[fr]) (us:=[t]) ⟨hfr.1,trivial⟩ ⟨ht,trivial⟩ (by rw[← qV]; omega) (by rw[← qV]; omega) with ⟨tg,-⟩ | ⟨-,σ',hm',tg⟩
     ·rw[hu,tg];exact fin rfl rfl (mk2 (.inl ⟨rfl,hno.resolve_left fun h=>h rfl⟩))
     ·exact absurd hm'.sol (hno.resolve_left (fun h=>h rfl) σ')
    ·rcases u4 hs (ts:=[fr]) (us:=[t]) ⟨hfr.1,trivial⟩ ⟨ht,trivial⟩ (by rw[← qV]; omega) (by rw[← qV]; omega) with ⟨tg,hno⟩ | ⟨-,σ',hm',tg⟩
     ·exact absurd hm.sol (hno.resolve_left (fun h=>h rfl) σ)
     ·have:=hm.unique hm';subst this;rw[hu,tg];have mk3:=fun {o:Option Vf} (hq:_)=>mk2 (o:=o) (.inr ⟨σ,hm,hok,hq⟩);cases hsh:qT σ (aK 24) with
      | false=>exact fin rfl rfl (mk3 (.inl ⟨rfl,.inl hsh⟩))
      | true =>
       simp only[cond_true,aa,show ((0:Int) != 0)=false from rfl,cond_false,ay]
       rw[← qV fr,← qV t];have nfr:tV fr.codes:=⟨by omega,fun c hc=>by have:=hfr.2.2 c hc; omega⟩
       have nto:tV to.codes:=⟨by omega,fun c hc=>by have:=hto.2.2 c hc; omega⟩
       rw[kC (Q9 hsh) nfr.1 nfr.2,BE (Q9 hsh) nfr,kC (Q9 hsh) nto.1 nto.2,BE (Q9 hsh) nto,Ah fr fun c hc=>(hfr.2.2 c hc).1,Ah to fun c hc=>(hto.2.2 c hc).1];simp only[aa];have okf:(fr.sub σ).ok a0 24:=Tm.ok_sub fr hfr.1 fun x hx=>hok x (Tm.ok_has fr hfr.1 hx);have okt:(to.sub σ).ok a0 24:=Tm.ok_sub to hto.1 fun x hx=>hok x (Tm.ok_has to hto.1 hx);by_cases g1:48<(fr.sub σ).codes.length
       ·rw[decide_eq_true (show ((af (fr.sub σ).codes:Nat):Int)>48 by omega)]
        exact fin rfl rfl (mk3 (.inl ⟨rfl,.inr (.inl g1)⟩))
       ·rw[decide_eq_false (show ¬((af (fr.sub σ).codes:Nat):Int)>48 by omega),cond_false,cond_false]
        by_cases g2:48<(to.sub σ).codes.length
        ·rw[decide_eq_true (show ((af (to.sub σ).codes:Nat):Int)>48 by omega)]
         exact fin rfl rfl (mk3 (.inl ⟨rfl,.inr (.inr g2)⟩))
        ·rw[decide_eq_false (show ¬((af (to.sub σ).codes:Nat):Int)>48 by omega),cond_false,cond_false]
         obtain⟨k,w1,w2,-,w4⟩:=ki hsb okf okt (by omega) (by omega)
         unfold XZ;rw[w1,w2];simp only[aa];have mk4:=fun {o:Option Vf} (hq:_)=>mk3 (o:=o) (.inr ⟨hsh,by omega,by omega,k,w2,hq⟩)
         by_cases hk:k=0∨k=1
         ·refine fin (o:=vN 0) ?_ ?_ (mk4 (.inl ⟨rfl,hk⟩))
          ·rcases hk with rfl | rfl<;>rfl
          ·rcases hk with rfl | rfl<;>rfl
         ·have hk2:k=2∨k=3:=by omega
          have hb1:(cond (k != 2) (some (k != 3)) (some false):Option Bool)=some false:=by rcases hk2 with rfl | rfl<;>rfl
          rw[hb1,aa,cond_false,show (k==0)=false by simp; omega,show (k==1)=false by simp; omega,cond_false,cond_false]
          unfold Y9 Yt;have hlto:to.codes.length<=48:=hto.2.1;have hul:(ju (b:Int) L').length=L'.length:=by simp [ju]
          have hucl:(ju (b:Int) C').length=C'.length:=by simp [ju]
          have hwl:=I9 hpi;rw[Xa hs ht _ _ hl1];simp only[aa,I5,EK];rw[CG (by simp only[ak]; omega),Ql hpi (by omega),zk (by first | omega | (simp only[ak,bb]; omega)),cond_true,zk (by first | omega | (simp only[am,ak,bb]; omega)),cond_true,zk (by first | omega | (simp only[am,ak,bb]; omega)),cond_true]
          simp only[aa];rw[zk (by first | omega | (simp only[am,ak,bb,aP]; omega)),cond_true]
          have w5:inR (ag .i64 ((ag .i64 (((af L:Nat):Int) - 1))+j)) (af (zv i L 0++ju (b:Int) L'))=some ((zv i L 0).length+j.toNat):=by
           rw[show ag .i64 (((af L:Nat):Int) - 1)=(((zv i L 0).length:Nat):Int) by rw[zp]<;>omega,show ag .i64 ((((zv i L 0).length:Nat):Int)+j)=(((zv i L 0).length+j.toNat:Nat):Int) by rw[zp]<;>omega]
           exact yN (by rw[am]; omega)
          have w6:(zv i L 0++ju (b:Int) L')[(zv i L 0).length+j.toNat]? = some (n',(c:Int)::za (us.map (Tm.up b))):=by
           rw[List.getElem?_append_right (by omega),show (zv i L 0).length+j.toNat - (zv i L 0).length=j.toNat by omega]
           exact hjd
          rw[w5,aa,w6,aa,List.set_append_right _ _ (by omega),show (zv i L 0).length+j.toNat - (zv i L 0).length=j.toNat by omega]
          have e9:(((([]:List Int)++(c:Int)::x))++to.codes)++y=(c:Int)::(x++to.codes++y):=by simp
          have e10:(((c:Int)::x)++to.codes)++y=(c:Int)::(x++to.codes++y):=by simp
          rw[e9,e10];have hul2:((ju (b:Int) L').set j.toNat (n',(c:Int)::(x++to.codes++y))).length=L'.length:=by rw[cg]; exact hul
          unfold WS;rw[vC i (-1) (by omega) (by omega) (by omega) (by omega) (by simp; omega) (by omega),aa,KS,
           zk (by first | omega | (simp only[am,ak,bb,aP]; omega)),cond_true,zk (by first | omega | (simp only[aP]; omega)),cond_true,zk (by first | omega | (simp only[am,ak,bb,aP]; omega)),cond_true,zk (by first | omega | (simp only[am,ak,bb,aP]; omega)),cond_true,aa]
          have hup:∀ r∈yg L' T' C',Cds (r.map (upC (b:Int))):=fun r hr=>SJ (hcd' r hr) fun x hx=>hnear x ⟨r,hr,hx⟩;have hupl:∀ ls:List zc,(∀ l∈ls,l.2∈yg L' T' C')->∀ l∈ju (b:Int) ls,Cds l.2:=fun ls hls l hl=>by
           obtain⟨l0,h0,rfl⟩:=aY.1 hl;exact hup _ (hls l0 h0)
          have hA2:Cds ((c:Int)::za (us.map (Tm.up b))):=hupl L' (fun l hl=>yE hl) _ (rL hj2);have hnew:Cds ((c:Int)::(x++to.codes++y)):=by
           refine ⟨by simp only[ak,am]; omega,fun d hd => ?_⟩
           rcases aD.1 hd with rfl | hd
           ·exact hA2.2 _ (aj ..)
           ·rcases aJ.1 hd with hd | hd
            ·rcases aJ.1 hd with hd | hd
             ·exact hA2.2 d (by rw[e5]; simp [hd])
             ·exact hto.2.2 d hd
            ·exact hA2.2 d (by rw[e5]; simp [hd])
          have cL:∀ l∈zv i L 0++(ju (b:Int) L').set j.toNat (n',(c:Int)::(x++to.codes++y)),Cds l.2:=fun l hl=>by
           rcases aJ.1 hl with hl | hl
           ·exact hcd _ (yE (v7 L 0 hl))
           ·rcases LY hl with hl | rfl
            ·exact hupl L' (fun l hl=>yE hl) l hl
            ·exact hnew
          have cT:∀ r∈IE b T T',Cds r:=fun r hr=>by
           unfold IE at hr;rcases aJ.1 hr with hr | hr
           ·exact hcd _ (qn hr)
           ·obtain⟨r0,h0,rfl⟩:=aY.1 hr;exact hup _ (qn h0)
          have cC:∀ l∈IM b C C',Cds l.2:=fun l hl=>by
           unfold IM at hl;rcases aJ.1 hl with hl | hl
           ·exact hcd _ (qC hl)
           ·exact hupl C' (fun l hl=>qC hl) l hl
          have nL:(zv i L 0++(ju (b:Int) L').set j.toNat (n',(c:Int)::(x++to.codes++y))).length<=100:=by rw[am]; omega
          have nT:(IE b T T').length<=100:=by unfold IE; rw[am,aP]; omega
          have nC:(IM b C C').length<=100:=by unfold IM; rw[am]; omega
          refine fin ?_ (KA (a0:=a0) hs hsh cL cT cC (by omega) (by omega) (by omega) 1502) (mk4 (.inr ⟨rfl,hk2⟩))
          simp only;rw[show T++T'.map (c5 (upC (b:Int)))=IE b T T' from rfl,show C++ju (b:Int) C'=IM b C C' from rfl,D0 hsh cL cT cC (by omega) (by omega) (by omega),aa,qO,aa]
          unfold ZE;cases xD a0 (ug σ (zv i L 0++(ju (b:Int) L').set j.toNat (n',(c:Int)::(x++to.codes++y)))) ((IE b T T').map (tG σ)) (ug σ (IM b C C')) with
          | true=>rfl
          | false=>rfl
theorem PSpec.okR {a0:List zg} {L:List zc} {T:List jI} {C:List zc} {i:Int} {fr to:Tm} {L':List zc} {T':List jI} {C':List zc} {j:Int} {n':Bool} {A':List Int} {at':Nat} {o:Option Vf} (h:PSpec a0 L T C i fr to L' T' C' j n' A' at' o):OkR a0 o:=by
 rcases h with ⟨_,_,_,h⟩ | ⟨_,_,_,_,_,_,_,_,_,_,⟨h,_⟩ | ⟨_,_,_,_,_,_,_,_,_,⟨h,_⟩ | ⟨_,_,_,⟨h,_⟩ | ⟨_,_,_,_,_,⟨h,_⟩ | ⟨h,_⟩⟩⟩⟩⟩
 ·exact qU h
 ·exact qU h
 ·exact qU h
 ·exact qU h
 ·exact qU h
 ·rw[h]; exact Q5
def eqB (L:List zc) (i:Int) (neg:Bool):Bool:=z5 L i&&(match gx L i with
 | some l=>(gx l.2 0==some 0)&&(l.1==neg)
 | none=>false)
theorem Eh {L:List zc} {i:Int} {neg:Bool} (h:eqB L i neg=true):∃ A,gx L i=some (neg,A)∧gx A 0=some 0:=by
 unfold eqB at h;cases hp:z5 L i with
 | false=>rw[hp] at h; cases h
 | true =>
  rw[hp,aN] at h;cases hg:gx L i with
  | none=>rw[hg] at h; cases h
  | some l =>
   rw[hg] at h;simp only[ax,beq_iff_eq] at h;exact ⟨l.2,by rw[← h.2],h.1⟩
theorem NM {L:List zc} {i:Int} {n neg:Bool} {A:List Int} (h:gx L i=some (n,A)) (hp:z5 L i=true):eqB L i neg=((gx A 0==some 0)&&(n==neg)):=by
 unfold eqB;rw[hp,h,aN]
theorem Wi {a0:List zg} {A:List Int} (h:qN a0 A=true):∃ c:Nat,gx A 0=some (c:Int):=by
 obtain⟨c,ts,e,rfl,-⟩:=xP h;exact ⟨c,by rw[yc]; rfl⟩
theorem YP {a0:List zg} {L:List zc} (hL:∀ l∈L,qN a0 l.2=true) (T:List jI) (C:List zc) (i:Int) (neg:Bool):sB L T C i neg=some (eqB L i neg):=by
 unfold sB;by_cases h0:i≥0
 ·rw[decide_eq_true h0,cond_true];by_cases h1:i<((af L:Nat):Int)
  ·have hp:z5 L i=true:=by unfold z5; simp only[ax,decide_eq_true_eq]; exact ⟨h0,h1⟩
   obtain⟨⟨n,A⟩,hg⟩:=uh hp;obtain⟨c,hc⟩:=Wi (hL _ (rL hg));rw[decide_eq_true h1,cond_true,hg,aa,hc,aa,aa,NM hg hp,hc];by_cases e:(c:Int)=0
   ·rw[e]; rfl
   ·rw[show ((c:Int)==0)=false by simpa using e,show (some (c:Int)==some 0)=false by simpa using e]; rfl
  ·have hp:z5 L i=false:=by unfold z5; rw[decide_eq_false h1,cz]
   rw[decide_eq_false h1,cond_false];unfold eqB;rw[hp]; rfl
 ·have hp:z5 L i=false:=by unfold z5; rw[decide_eq_false h0,bj]
  rw[decide_eq_false h0,cond_false];unfold eqB;rw[hp]; rfl
theorem vt {a0:List zg} {L:List zc} (hL:∀ l∈L,qN a0 l.2=true) (T:List jI) (C:List zc) (i:Int):rh L T C i=some (eqB L i false):=by
 unfold rh;rw[rq,aa];cases hp:z5 L i with
 | false=>unfold eqB; rw[hp]; rfl
 | true =>
  obtain⟨⟨n,A⟩,hg⟩:=uh hp;obtain⟨c,hc⟩:=Wi (hL _ (rL hg));rw[cond_true,hg,aa,aa,hc,aa,NM hg hp,hc];have e:(some (c:Int)==some 0)=((c:Int)==0):=rfl;rw[e];cases n<;>cases (c:Int)==0<;>rfl
theorem zg3 (o:Option Vf):(o.bind fun r=>some (r.1,r.2.1,r.2.2.1,r.2.2.2.1,r.2.2.2.2))=o:=by cases o<;>rfl
theorem O7 (a0:List zg) (L:List zc) (T:List jI) (C:List zc) (i side:Int) (L':List zc) (T':List jI) (C':List zc) (j at':Int) :
  qt a0 L T C i side L' T' C' j at'=QZ a0 L T C i side L' T' C' j at'∧OkR a0 (QZ a0 L T C i side L' T' C' j at'):=by
 have bad:∀{o o':Option Vf} {k:Int},o=vN k->o'=vN k->o=o'∧OkR a0 o':=fun h h'=>⟨h.trans h'.symm,qU h'⟩;have key:xD a0 L T C=true->xD a0 L' T' C'=true->eqB L i false=true->(side=0∨side=1)->0<=j->j<L'.length->1<=at'->(∀ l,gx L' j=some l->at'<l.2.length)->qt a0 L T C i side L' T' C' j at'=jV a0 L T C i side L' T' C' j at'∧OkR a0 (jV a0 L T C i side L' T' C' j at'):=by
  intro h h' he hsd hj0 hj1 ha hal;obtain⟨A,g1,g2⟩:=Eh he;obtain⟨⟨n',A'⟩,g3,-⟩:=JZ hj0 hj1;obtain⟨k,rfl⟩:=dy (show 0<=at' by omega)
  obtain⟨s0,s1,fr,to,-,-,-,-,o,o1,o2,o3⟩:=L4 h h' g1 g2 g3 hsd (show 1<=k by omega) (by have:=hal _ g3; exact Int.ofNat_lt.1 this)
  rw[o1,o2];exact ⟨rfl,o3.okR⟩
 unfold QZ;rw[zD,aa];cases h:xD a0 L T C with
 | false=>unfold qt; rw[zL,h]; exact bad (k:=1500) rfl rfl
 | true =>
  rw[ay,cond_false,zD,aa];cases h':xD a0 L' T' C' with
  | false=>unfold qt; rw[zL,h,aa,zL,h']; exact bad (k:=1500) rfl rfl
  | true =>
   have hL:∀ l∈L,qN a0 l.2=true:=fun l hl=>aC.1 (zn h).2.2.2.2.1 l hl;rw[ay,cond_false,YP hL,aa];cases he:eqB L i false with
   | false=>unfold qt; rw[zL,h,aa,zL,h',aa,vt hL,he]; exact bad (k:=1500) rfl rfl
   | true =>
    rw[ay,cond_false];have refl:∀{b:Bool},(decide (side<0)||decide (side>1))=b->qt a0 L T C i side L' T' C' j at'=cond b (vN 1500) (qt a0 L T C i side L' T' C' j at'):=by
     intro b hb;cases b with
     | false=>rfl
     | true =>
      unfold qt;rw[zL,h,aa,zL,h',aa,vt hL,he];simp only[aa,ay,cond_false];cases h1:decide (side<0) with
      | true=>rfl
      | false=>rw[h1,cZ] at hb; rw[hb]; rfl
    have ref2:(side=0∨side=1)->∀{o:Option Vf},o=cond (decide (j<0)) (vN 1500) (cond (decide (j≥((af L':Nat):Int))) (vN 1500) (cond (decide (at'<1)) (vN 1500) ((gx L' j).bind fun e11=>cond (decide (at'≥((af e11.2:Nat):Int))) (vN 1500) ((jV a0 L T C i side L' T' C' j at').bind fun r12=>some (r12.1,r12.2.1,r12.2.2.1,r12.2.2.2.1,r12.2.2.2.2))))) ->
      qt a0 L T C i side L' T' C' j at'=o∧OkR a0 o:=by
     intro hsd o ho;have hsd1:decide (side<0)=false:=by rcases hsd with rfl | rfl<;>rfl
     have hsd2:decide (side>1)=false:=by rcases hsd with rfl | rfl<;>rfl
     have step:qt a0 L T C i side L' T' C' j at'=cond (!z5 L' j) (vN 1500) (cond (decide (at'<1)) (vN 1500) ((gx L' j).bind fun e=>cond (decide (at'≥((af e.2:Nat):Int))) (vN 1500) (qt a0 L T C i side L' T' C' j at'))):=by
      cases hp:z5 L' j with
      | false=>unfold qt; rw[zL,h,aa,zL,h',aa,vt hL,he,rq,hp,hsd1,hsd2]; rfl
      | true =>
       rw[ay,cond_false];cases h1:decide (at'<1) with
       | true=>unfold qt; rw[zL,h,aa,zL,h',aa,vt hL,he,rq,hp,hsd1,hsd2,h1]; rfl
       | false =>
        obtain⟨l,hg⟩:=uh hp;rw[cond_false,hg,aa];cases h2:decide (at'≥((af l.2:Nat):Int)) with
        | true =>
         rw[cond_true];unfold qt;rw[zL,h,aa,zL,h',aa,vt hL,he,rq,hp,hsd1,hsd2,h1,hg];simp only[aa,ay,cond_false,h2];rfl
        | false=>rfl
     rw[ho];by_cases j0:j<0
     ·have hp:z5 L' j=false:=by unfold z5; rw[decide_eq_false (show ¬ j≥0 by omega),bj]
      rw[decide_eq_true j0];refine bad (k:=1500) ?_ rfl;rw[step,hp]; rfl
     ·rw[decide_eq_false j0,cond_false];by_cases j1:j≥((af L':Nat):Int)
      ·have hp:z5 L' j=false:=by unfold z5; rw[decide_eq_false (show ¬ j<((af L':Nat):Int) by omega),cz]
       rw[decide_eq_true j1];refine bad (k:=1500) ?_ rfl;rw[step,hp]; rfl
      ·have hp:z5 L' j=true:=by unfold z5; simp only[ax,decide_eq_true_eq]; omega
       rw[decide_eq_false j1,cond_false];by_cases a1:at'<1
       ·rw[decide_eq_true a1];refine bad (k:=1500) ?_ rfl;rw[step,hp,decide_eq_true a1]; rfl
       ·obtain⟨l,hg⟩:=uh hp;rw[decide_eq_false a1,cond_false,hg,aa];by_cases a2:at'≥((af l.2:Nat):Int)
        ·rw[decide_eq_true a2];refine bad (k:=1500) ?_ rfl;rw[step,hp,decide_eq_false a1,hg,aa,decide_eq_true a2]; rfl
        ·rw[decide_eq_false a2,cond_false,zg3];exact key h h' he hsd (by omega) (by omega) (by omega) fun l2 hl2=>by
          rw[hg] at hl2; injection hl2 with hl2; subst hl2; omega
    by_cases s0:side=0
    ·rw[show (side != 0)=false by simp [s0],cond_false]
     exact ref2 (.inl s0) rfl
    ·rw[show (side != 0)=true by simp [s0],cond_true]
     by_cases s1:side=1
     ·rw[show (side != 1)=false by simp [s1],cond_false]
      exact ref2 (.inr s1) rfl
     ·rw[show (side != 1)=true by simp [s1],cond_true]
      refine bad (k:=1500) ?_ rfl;rw[refl (b:=true) (by simp only[bR,decide_eq_true_eq]; omega)]
      rfl
theorem AL {a0:List zg} {L:List zc} {T:List jI} {C:List zc} (h:xD a0 L T C=true) {i:Int} (he:eqB L i true=true) :
  ∃ A s0 s1,gx L i=some (true,A)∧A=0::za [s0,s1]∧s0.ok a0 24∧s1.ok a0 24∧∃ o,rg a0 L T C i=o∧tP a0 L T C i=o ∧
   ((∃ k,o=vN k)∨∃ σ,Mgu σ ([s0].zip [s1])∧(∀ x,x<24->(σ x).ok a0 24)∧o=ZE a0 σ (zv i L 0) T C 1502):=by
 obtain⟨A,hi,h0⟩:=Eh he;obtain⟨hsb,l1,l2,l3,l4,l5,l6,-⟩:=zn h;have hs:=xS hsb;obtain⟨s0,s1,rfl,ok0,ok1,hA48⟩:=IQ (aC.1 l4 _ (rL hi)) h0;obtain⟨sd1,sd2⟩:=Ik hs ok0 ok1 hA48;have hcd:=jm hs h;have hs0:s0.codes.length+s1.codes.length<=48:=by simpa[za] using hA48
 refine ⟨_,s0,s1,hi,rfl,ok0,ok1,?_⟩;have hpi:z5 L i=true:=by
  unfold eqB at he;cases hp:z5 L i with
  | true=>rfl
  | false=>rw[hp] at he; cases he
 have fin:∀{o1 o2:Option Vf} {o:Option Vf} {P:Option Vf->Prop},o1=o->o2=o->P o->∃ o,o1=o∧o2=o∧P o:=fun h1 h2 h3=>⟨_,h1,h2,h3⟩;unfold rg tP;rw[zL,h,rq,hpi,hi];simp only[aa,ay,cond_false,h0,bne_self_eq_false,wB,sd1,sd2,show inR 0 ([s0.codes,s1.codes]).length=some 0 from rfl,show inR 1 ([s0.codes,s1.codes]).length=some 1 from rfl,aB,List.getElem?_cons_succ]
 rw[qV s0,qV s1];rcases Zf hs (xs:=za [s0]) (ys:=za [s1]) rfl rfl ⟨ok0,trivial⟩ ⟨ok1,trivial⟩ hsb (by rw[← qV]; omega) (by rw[← qV]; omega) with ⟨hu,hno⟩ | ⟨-,σ,hm,hok,hu⟩
 ·rcases u4 hs (ts:=[s0]) (us:=[s1]) ⟨ok0,trivial⟩ ⟨ok1,trivial⟩ (by rw[← qV]; omega) (by rw[← qV]; omega) with ⟨tg,-⟩ | ⟨-,σ',hm',tg⟩
  ·rw[hu,tg];exact fin (o:=vN 0) rfl rfl (.inl ⟨_,rfl⟩)
  ·exact absurd hm'.sol (hno.resolve_left (fun h=>h rfl) σ')
 ·rcases u4 hs (ts:=[s0]) (us:=[s1]) ⟨ok0,trivial⟩ ⟨ok1,trivial⟩ (by rw[← qV]; omega) (by rw[← qV]; omega) with ⟨tg,hno⟩ | ⟨-,σ',hm',tg⟩
  ·exact absurd hm.sol (hno.resolve_left (fun h=>h rfl) σ)
  ·have:=hm.unique hm';subst this;rw[hu,tg];cases hsh:qT σ (aK 24) with
   | false=>exact fin (o:=vN 1502) rfl rfl (.inl ⟨_,rfl⟩)
   | true =>
    simp only[cond_true,aa,show ((0:Int) != 0)=false from rfl,cond_false,ay]
    have hwl:=tF i L 0;have cW:∀ l∈zv i L 0,Cds l.2:=fun l hl=>hcd _ (yE (v7 L 0 hl));have cT:∀ r∈T,Cds r:=fun r hr=>hcd _ (qn hr);have cC:∀ l∈C,Cds l.2:=fun l hl=>hcd _ (qC hl);rw[Ql hpi (by omega),aa,vC i (-1) (by omega) (by omega) (by omega) (by simp) (by simp) (by simp),aa]
    simp only[bG,zv];refine fin ?_ (KA (a0:=a0) hs hsh cW cT cC (by omega) (by omega) (by omega) 1502) (.inr ⟨σ,hm,hok,rfl⟩)
    rw[D0 hsh cW cT cC (by omega) (by omega) (by omega),aa,qO,aa]
    unfold ZE;cases xD a0 (ug σ (zv i L 0)) (T.map (tG σ)) (ug σ C) with
    | true=>rfl
    | false=>rfl
theorem FZ {a0:List zg} {L:List zc} {T:List jI} {C:List zc} (h:xD a0 L T C=true) {i:Int} (he:eqB L i true=true):tP a0 L T C i=rg a0 L T C i∧OkR a0 (rg a0 L T C i):=by
 obtain⟨A,s0,s1,-,-,-,-,o,o1,o2,o3⟩:=AL h he;rw[o1,o2];refine ⟨rfl,?_⟩;rcases o3 with ⟨k,h⟩ | ⟨σ,-,-,h⟩
 ·exact qU h
 ·rw[h]; exact Q5
theorem Cm (a0:List zg) (L:List zc) (T:List jI) (C:List zc) (i:Int):tP a0 L T C i=kS a0 L T C i∧OkR a0 (kS a0 L T C i):=by
 have bad:∀{o o':Option Vf} {k:Int},o=vN k->o'=vN k->o=o'∧OkR a0 o':=fun h h'=>⟨h.trans h'.symm,qU h'⟩;unfold kS;rw[zD,aa];cases h:xD a0 L T C with
 | false=>unfold tP; rw[zL,h]; exact bad (k:=1500) rfl rfl
 | true =>
  have hL:∀ l∈L,qN a0 l.2=true:=fun l hl=>aC.1 (zn h).2.2.2.2.1 l hl;rw[ay,cond_false,YP hL,aa];cases he:eqB L i true with
  | true =>
   rw[ay,cond_false,zg3];exact FZ h he
  | false =>
   refine bad (k:=1500) ?_ rfl;unfold tP;rw[zL,h,aa,rq,aa];cases hp:z5 L i with
   | false=>rfl
   | true =>
    obtain⟨⟨n,A⟩,hg⟩:=uh hp;obtain⟨c,hc⟩:=Wi (hL _ (rL hg));rw[NM hg hp,hc] at he;rw[hg,ay,cond_false,cond_false,aa];cases n with
    | false=>rfl
    | true =>
     simp only[aa,hc,ay,cond_false];have hcc:(c:Int)≠0:=fun e=>by rw[e] at he; exact absurd he (by decide)
     rw[show ((c:Int) != 0)=true by simpa using hcc]
     rfl
section
variable {a0:List zg} {L:List zc} (hL:∀ l∈L,qN a0 l.2=true) (T:List jI) (C:List zc)
include hL
end
section
variable (a0:List zg) (L:List zc) (T:List jI) (C:List zc) (a b:Int) (L':List zc) (T':List jI) (C':List zc)
def zfg (j:Int):Nat:=match gx L' j with
 | some l=>l.2.length
 | none=>0
variable {a0 L T C a b L' T' C'} (h:xD a0 L T C=true) (h':xD a0 L' T' C'=true)
include h h'
end
structure Inv (P:qa->Prop) (n:Nat) (q:Int×List qa):Prop where
 low:0<=q.1
 cnt:q.1<=(n:Int)
 len:q.2.length<=n
 all:∀ s∈q.2,P s
theorem Inv.more {P:qa->Prop} {n m:Nat} {q:Int×List qa} (h:Inv P n q) (hm:n<=m):Inv P m q:=⟨h.low,by have:=h.cnt; omega,by have:=h.len; omega,h.all⟩
theorem EN {P:qa->Prop} {n:Nat} {sig:List zg} {c r a i s b j t:Int} {xL:List zc} {xT:List jI} {xC:List zc} {ok:Bool} {err:Int} {st:List qa} (hm:ok=true->err=0->xD sig xL xT xC=true) (hP:ok=true->err=0->P (r,a,i,s,b,j,t,xL,xT,xC)) (h:Inv P n (c,st)) (hn:n<=100000) :
  ∃ q,x5 sig c r a i s b j t xL xT xC ok err st=some q∧Inv P (n+1) q:=by
 obtain⟨h1,h2,h3,h4⟩:=h;simp only at h1 h2 h3 h4;unfold x5;by_cases he:err=0
 ·rw[show (err != 0)=false from by simp [he],cond_false]
  have keep:Inv P (n+1) (c,st):=⟨h1,by simp only; omega,by simp only; omega,h4⟩
  cases ok with
  | false=>exact ⟨_,rfl,keep⟩
  | true =>
   rw[cond_true,N4 (hm rfl he),aa];cases Bf sig xL with
   | true=>exact ⟨_,rfl,keep⟩
   | false =>
    rw[bu,cond_true,zk (show (af st+([(r,a,i,s,b,j,t,xL,xT,xC)]:List qa).length)*128<=140737488351232 by simp; omega),cond_true]
    refine ⟨_,rfl,h1,by simp only; omega,by simp; omega,fun s hs => ?_⟩
    rcases aJ.1 hs with hs | hs
    ·exact h4 s hs
    ·rw[bq.1 hs]; exact hP rfl he
 ·rw[show (err != 0)=true from by simp [he],cond_true]
  have w:ag .i64 (c+1)=c+1:=by rw[zp]<;>omega
  rw[w];exact ⟨_,rfl,by simp only; omega,by simp only; omega,by simp only; omega,h4⟩
section
variable {a0:List zg} {L:List zc} {T:List jI} {C:List zc} {a b:Int} {L':List zc} {T':List jI} {C':List zc} (h:xD a0 L T C=true) (h':xD a0 L' T' C'=true)
 {P:qa->Prop} (hP:∀(i side j:Int) (at':Nat) (r:Vf),eqB L i false=true->(side=0∨side=1)->0<=j->j<L'.length->1<=at'->at'<zfg L' j->QZ a0 L T C i side L' T' C' j (at':Int)=some r->r.2.2.1=true->r.2.2.2.1=0->xD a0 r.1 r.2.1 r.2.2.2.2=true->G0 r.1 r.2.1 r.2.2.2.2->P (3,a,i,side,b,j,(at':Int),r.1,r.2.1,r.2.2.2.2))
include h h' hP
end
section
variable (a0:List zg) (L:List zc) (T:List jI) (C:List zc) (a:Int)
variable {a0 L T C a} (h:xD a0 L T C=true)
include h
end
theorem Aj {m:Int} {nums:List Int} {env:Nat->Int}:(ts:List Tm)->BX m nums env ts=ts.map (IY m nums env)
 | []=>rfl
 | t::ts=>by rw[BX,Aj ts]; rfl
theorem RT.val {m:Int} {nums:List Int} {env:Nat->Int} {t u a b:Tm} (h:RT t u a b) (hv:IY m nums env t=IY m nums env u):IY m nums env a=IY m nums env b:=by
 induction h with
 | here=>exact hv
 | arg c l r h ih=>simp only[IY,Aj,dk,aM,ih]
theorem RR.val {m:Int} {nums:List Int} {env:Nat->Int} {t u:Tm} {ts us:List Tm} (h:RR t u ts us) (hv:IY m nums env t=IY m nums env u):BX m nums env ts=BX m nums env us:=by
 obtain⟨l,a,b,r,rfl,rfl,h⟩:=h;simp only[Aj,dk,aM,h.val hv]
section
variable {m:Nat} (hm:0<m) (hm3:m<=3) {nums:List Int} (hn:Da nums) {a0:List zg} (hs:SignOk a0)
include hm hm3 hn hs
end
theorem Rise.ext:{xs ys:List Int}->Rise xs->Rise ys->(∀ x,x∈xs↔x∈ys)->xs=ys
 | [],[],_,_,_=>rfl
 | [],y::ys,_,_,h=>nomatch (h y).2 (aj ..)
 | x::xs,[],_,_,h=>nomatch (h x).1 (aj ..)
 | x::xs,y::ys,hx,hy,h=>by
  have hx:=cy.1 hx;have hy:=cy.1 hy;have e:x=y:=by
   rcases aD.1 ((h x).1 (aj ..)) with h1 | h1
   ·exact h1
   ·rcases aD.1 ((h y).2 (aj ..)) with h2 | h2
    ·exact h2.symm
    ·have:=hx.1 y h2;have:=hy.1 x h1;omega
  subst e;rw[Rise.ext hx.2 hy.2 fun z => ?_];constructor
  ·intro hz;rcases aD.1 ((h z).1 (ai _ hz)) with h1 | h1
   ·have:=hx.1 z hz; omega
   ·exact h1
  ·intro hz;rcases aD.1 ((h z).2 (ai _ hz)) with h1 | h1
   ·have:=hy.1 z hz; omega
   ·exact h1
theorem Rise.bound {n:Nat}:{xs:List Int}->{a:Int}->Rise xs->(∀ x∈xs,a<=x∧x<a+n)->xs.length<=n
 | [],_,_,_=>bI _
 | x::xs,a,h,hb=>by
  have h:=cy.1 h;have h0:=hb x (aj ..);have:xs.length<=n - 1:=Rise.bound (n:=n - 1) (a:=a+1) h.2 fun y hy=>by
   have:=h.1 y hy;have:=hb y (ai _ hy);omega
  rw[ak];omega
def Ext (sg sg':List zg):Prop:=∃ l,sg'=sg++l∧∀ e∈l,e.2.1=2∧e.2.2.2=1
theorem Ext.refl (sg:List zg):Ext sg sg:=⟨[],by simp,fun e h=>nomatch h⟩
theorem Ext.trans {a b c:List zg} (h:Ext a b) (h':Ext b c):Ext a c:=by
 obtain⟨l,rfl,hl⟩:=h;obtain⟨m,rfl,hm⟩:=h';exact ⟨l++m,by rw[aU],fun e he=>(aJ.1 he).elim (hl e) (hm e)⟩
theorem Ext.get {a b:List zg} (h:Ext a b) {i:Nat} {e:zg} (he:a[i]? = some e):b[i]? = some e:=by
 obtain⟨l,rfl,-⟩:=h;rw[List.getElem?_append_left (au.1 he).1,he]
theorem Hf {a b:List zg} (h:Ext a b) {x:Int} {k:Nat} (hk:uX a x=some k):uX b x=some k:=by
 unfold uX at hk ⊢;cases hx:decide (x<0) with
 | true=>rw[hx] at hk; exact hk
 | false =>
  rw[hx] at hk;simp only[cond_false] at hk ⊢;cases he:a[x.toNat]? with
  | none=>rw[he] at hk; cases hk
  | some e=>rw[he] at hk; rw[h.get he]; exact hk
mutual
theorem zbY {a b:List zg} (h:Ext a b) {N:Nat}:(t:Tm)->t.ok a N->t.ok b N
 | .v _,ht=>ht
 | .f _ as,ht=>⟨Hf h ht.1,Em h as ht.2⟩
theorem Em {a b:List zg} (h:Ext a b) {N:Nat}:(ts:List Tm)->okR a N ts->okR b N ts
 | [],_=>trivial
 | t::ts,ht=>⟨zbY h t ht.1,Em h ts ht.2⟩
end
def JU (σ:Sb) (v:Nat) (t:Tm):Sb:=fun x=>if x=v then t else σ x
theorem Rw {sg:List zg} {L:List zc} {T:List jI} {C:List zc} (h:xD sg L T C=true):vK L T C=some (L,T,C):=by
 obtain⟨h0,h1,h2,h3,h4,h5,h6,h7⟩:=zn h;have hl:=qX h4;have hr:∀ r∈T,r.length<=1000:=fun r hr=>(jm (xS h0) h r (qn hr)).1;have hc:=qX h6;exact (AK (by omega) (fun l hl'=>aH (hl l hl').1 (by decide)) (by omega) (fun r hr'=>aH (hr r hr') (by decide)) (by omega) fun l hl'=>aH (hc l hl').1 (by decide)).1
def sX:Option jS :=
 some ([(([61]:Str),0,2,1),(([97]:Str),1,0,1),(([98]:Str),1,0,2),(([102]:Str),1,1,1),(([103]:Str),1,2,3),(([112]:Str),0,1,1),(([114]:Str),0,2,2)]:List zg)
def Zp:Option jT :=
 some ([(0,(-1),0,0,(-1),0,0,([(false,([5,1]:List Int))]:List zc),([]:jR),([]:jQ)),(0,(-1),0,0,(-1),0,0,([(true,([5,(-1)]:List Int))]:List zc),([([(-1)]:List Int)]:List jI),([]:jQ)),(1,0,0,0,1,0,0,([]:jQ),([([1]:List Int)]:List jI),([]:jQ))]:List jU)
def vm (a0:Int) (a1:Int) (a2:Int):Option Bool :=
 cond (decide (a0≥a1))
 (some (decide (a0<=a2)))
 (some false)
def sq (a0:Int) (a1:Int) (a2:Int) (a3:Int) (a4:Int) (a5:Int) (a6:Int) (a7:jQ) (a8:jR) (a9:jQ):Option Bool :=
 (vm a0 0 7).bind fun r8 =>
 cond r8
 ((vm a1 (-1) 199).bind fun r9 =>
  cond r9
  ((vm a4 (-1) 199).bind fun r10 =>
   cond r10
   ((vm a2 0 4).bind fun r11 =>
    cond r11
    ((vm a5 0 4).bind fun r12 =>
     cond r12
     ((vm a3 0 1).bind fun r13 =>
      cond r13
      ((vm a6 0 48).bind fun r14 =>
       some r14)
      (some false))
     (some false))
    (some false))
   (some false))
  (some false))
 (some false)
def V7 (a0:jS) (a1:Int) (a2:Int) (a3:Int) (a4:Int) (a5:Int) (a6:Int) (a7:Int) (a8:jQ) (a9:jR) (a10:jQ):Option Bool :=
 (sq a1 a2 a3 a4 a5 a6 a7 a8 a9 a10).bind fun r3 =>
 cond r3
 ((yq a0 a8 a9 a10).bind fun r4 =>
  some r4)
 (some false)
def t7 (a0:Int) (a1:Int) (a2:Int) (a3:Int) (a4:Int) (a5:Int) (a6:Int) (a7:jQ) (a8:jR) (a9:jQ) (a10:jS):Option Bool :=
 (V7 a10 a0 a1 a2 a3 a4 a5 a6 a7 a8 a9).bind fun r2 =>
 some (!r2)
def yY (rec:(jT×Int×Int×jS)->Option (Unit⊕Int)) (x:(jT×Int×Int×jS)):Option (Unit⊕Int) :=
 cond (decide (x.2.2.1<x.2.1))
 ((gx x.1 x.2.2.1).bind fun e3 =>
  (t7 e3.1 e3.2.1 e3.2.2.1 e3.2.2.2.1 e3.2.2.2.2.1 e3.2.2.2.2.2.1 e3.2.2.2.2.2.2.1 e3.2.2.2.2.2.2.2.1 e3.2.2.2.2.2.2.2.2.1 e3.2.2.2.2.2.2.2.2.2 x.2.2.2).bind fun r4 =>
  cond r4
  (some (aE x.2.2.1))
  (rec (x.1,x.2.1,(ag .i64 (x.2.2.1+1)),x.2.2.2)))
 (some (aT ()))
def tB (a0:jT) (a1:jS):Option Int :=
 ((lp yY ze) (a0,((af a0:Nat):Int),0,a1)).bind fun r8 =>
 zR r8
 (fun z9=>some (-1))
 (fun z10=>some z10)
def uK (a0:jT) (a1:jS):Option Bool :=
 (tB a0 a1).bind fun r2 =>
 some (decide (r2≥0))
def tU (a0:jS) (a1:jT):Option Bool :=
 (YH a0).bind fun r3 =>
 cond r3
 (cond (decide (((af a1:Nat):Int)<=200))
  ((uK a1 a0).bind fun r4 =>
   some (!r4))
  (some false))
 (some false)
def Yz (a0:Int) (a1:Int) (a2:Int) (a3:Int) (a4:Int) (a5:Int) (a6:Int) (a7:jQ) (a8:jR) (a9:jQ):Option (Int×Int×Int×Int×Int×Int×Int) :=
 cond (a0==0)
 (some (a0,(-1),0,0,(-1),0,0))
 (cond (a0==1)
  (some (a0,a1,a2,0,a4,a5,0))
  (cond (a0==2)
   (some (a0,a1,a2,0,(-1),a5,0))
   (cond (a0==3)
    (some (a0,a1,a2,a3,a4,a5,a6))
    (cond (a0==4)
     (cond (a0==4)
      (some (a0,a1,a2,0,(-1),0,0))
      (cond (a0==5)
       (cond (a0==5)
        (some (a0,a1,0,0,a4,0,0))
        (some (a0,a1,0,0,(-1),0,0)))
       (cond (a0==6)
        (some (a0,a1,0,0,a4,0,0))
        (some (a0,a1,0,0,(-1),0,0)))))
     (cond (a0==7)
      (some (a0,a1,a2,0,(-1),0,0))
      (cond (a0==5)
       (cond (a0==5)
        (some (a0,a1,0,0,a4,0,0))
        (some (a0,a1,0,0,(-1),0,0)))
       (cond (a0==6)
        (some (a0,a1,0,0,a4,0,0))
        (some (a0,a1,0,0,(-1),0,0)))))))))
def vE (a0:Int) (a1:Int) (a2:Int) (a3:Int) (a4:Int) (a5:Int) (a6:Int) (a7:jQ) (a8:jR) (a9:jQ) (a10:Int) (a11:Int) (a12:Int) (a13:Int) (a14:Int) (a15:Int) (a16:Int) (a17:jQ) (a18:jR) (a19:jQ):Option Bool :=
 cond (a0==a10)
 (cond (a1==a11)
  (cond (a2==a12)
   (cond (a3==a13)
    (cond (a4==a14)
     (cond (a5==a15)
      (some (a6==a16))
      (some false))
     (some false))
    (some false))
   (some false))
  (some false))
 (some false)
def wX (rec:(jQ×Int×Int×jQ×jR×jQ)->Option (jQ×jR×jQ)) (x:(jQ×Int×Int×jQ×jR×jQ)):Option (jQ×jR×jQ) :=
 cond (decide (x.2.2.1<x.2.1))
 ((gx x.1 x.2.2.1).bind fun e19 =>
  (zC e19.2).bind fun r20 =>
  cond (yp (af x.2.2.2.2.2+af ([(e19.1,r20)]:List zc)) 32)
  (rec (x.1,x.2.1,(ag .i64 (x.2.2.1+1)),x.2.2.2.1,x.2.2.2.2.1,(x.2.2.2.2.2++([(e19.1,r20)]:List zc))))
  (none))
 (some (x.2.2.2.1,x.2.2.2.2.1,x.2.2.2.2.2))
def wU (rec:(jR×Int×Int×jQ×jR×jQ×jQ×jR)->Option (jQ×jR)) (x:(jR×Int×Int×jQ×jR×jQ×jQ×jR)):Option (jQ×jR) :=
 cond (decide (x.2.2.1<x.2.1))
 ((gx x.1 x.2.2.1).bind fun e12 =>
  (zC e12).bind fun r13 =>
  cond (yp (af x.2.2.2.2.2.2.2+af ([r13]:List jI)) 24)
  (rec (x.1,x.2.1,(ag .i64 (x.2.2.1+1)),x.2.2.2.1,x.2.2.2.2.1,x.2.2.2.2.2.1,x.2.2.2.2.2.2.1,(x.2.2.2.2.2.2.2++([r13]:List jI))))
  (none))
 (some (x.2.2.2.2.2.2.1,x.2.2.2.2.2.2.2))
def wQ (rec:(jQ×Int×Int×jQ×jR×jQ×jQ)->Option jQ) (x:(jQ×Int×Int×jQ×jR×jQ×jQ)):Option jQ :=
 cond (decide (x.2.2.1<x.2.1))
 ((gx x.1 x.2.2.1).bind fun e5 =>
  (zC e5.2).bind fun r6 =>
  cond (yp (af x.2.2.2.2.2.2+af ([(e5.1,r6)]:List zc)) 32)
  (rec (x.1,x.2.1,(ag .i64 (x.2.2.1+1)),x.2.2.2.1,x.2.2.2.2.1,x.2.2.2.2.2.1,(x.2.2.2.2.2.2++([(e5.1,r6)]:List zc))))
  (none))
 (some x.2.2.2.2.2.2)
def Yl (a0:jQ) (a1:jR) (a2:jQ):Option (jQ×jR×jQ) :=
 ((lp wQ ze) (a0,((af a0:Nat):Int),0,a0,a1,a2,([]:jQ))).bind fun r22 =>
 ((lp wU ze) (a1,((af a1:Nat):Int),0,a0,a1,a2,r22,([]:jR))).bind fun r23 =>
 ((lp wX ze) (a2,((af a2:Nat):Int),0,r23.1,r23.2,([]:jQ))).bind fun r24 =>
 some (r24.1,r24.2.1,r24.2.2)
def tE (a0:jQ) (a1:jR) (a2:jQ):Option (jQ×jR×jQ) :=
 (Yl a0 a1 a2).bind fun r2 =>
 some (r2.1,r2.2.1,r2.2.2)
def jk (a0:jQ) (a1:jR) (a2:jQ):Option Bool :=
 cond (((af a0:Nat):Int)==1)
 (cond (((af a1:Nat):Int)==0)
  (some (((af a2:Nat):Int)==0))
  (some false))
 (some false)
def wa (rec:((Option jI)×jI×Int×Int)->Option (Unit⊕Bool)) (x:((Option jI)×jI×Int×Int)):Option (Unit⊕Bool) :=
 cond (decide (x.2.2.2<x.2.2.1))
 ((gx (bH x.1 []) x.2.2.2).bind fun e3 =>
  (gx x.2.1 x.2.2.2).bind fun e4 =>
  cond (e3 != e4)
  (some (aE false))
  (rec (x.1,x.2.1,x.2.2.1,(ag .i64 (x.2.2.2+1)))))
 (some (aT ()))
def vi (a0:(Option jI)) (a1:jI):Option Bool :=
 cond (((af (bH a0 []):Nat):Int) != ((af a1:Nat):Int))
 (some false)
 (((lp wa ze) (a0,a1,((af (bH a0 []):Nat):Int),0)).bind fun r8 =>
  zR r8
  (fun z9=>some true)
  (fun z10=>some z10))
def q6 (rec:(jS×jI×Int×jI×Int×Int×(List (Option jI)))->Option ((Int×(List (Option jI)))⊕(Bool×(List (Option jI))))) (x:(jS×jI×Int×jI×Int×Int×(List (Option jI)))):Option ((Int×(List (Option jI)))⊕(Bool×(List (Option jI)))) :=
 cond (decide (x.2.2.2.2.2.1<x.2.2.2.2.1))
 ((gx x.2.2.2.1 x.2.2.2.2.2.1).bind fun e17 =>
  cond (decide (x.2.2.1≥((af x.2.1:Nat):Int)))
  (some (aE (false,x.2.2.2.2.2.2)))
  (cond (decide (e17≥0))
   ((gx x.2.1 x.2.2.1).bind fun e18 =>
    cond (e18 != e17)
    (some (aE (false,x.2.2.2.2.2.2)))
    (rec (x.1,x.2.1,(ag .i64 (x.2.2.1+1)),x.2.2.2.1,x.2.2.2.2.1,(ag .i64 (x.2.2.2.2.2.1+1)),x.2.2.2.2.2.2)))
   ((wu x.1 x.2.1 x.2.2.1).bind fun r19 =>
    cond (!r19.2)
    (some (aE (false,x.2.2.2.2.2.2)))
    ((vM x.2.1 (some x.2.2.1) (some r19.1)).bind fun y20 =>
     (zP e17).bind fun r21 =>
     (inR r21 24).bind fun k22 =>
     (x.2.2.2.2.2.2[k22]?).bind fun x23 =>
     cond (ck x23)
     ((inR r21 24).bind fun k24 =>
      (x.2.2.2.2.2.2[k24]?).bind fun x25 =>
      (nn y20).bind fun p26 =>
      (inR r21 24).bind fun k27 =>
      ((bP x.2.2.2.2.2.2 k24 (some p26))[k27]?).bind fun x28 =>
      (vi x28 y20).bind fun r29 =>
      cond (!r29)
      (some (aE (false,(bP x.2.2.2.2.2.2 k24 (some p26)))))
      (rec (x.1,x.2.1,r19.1,x.2.2.2.1,x.2.2.2.2.1,(ag .i64 (x.2.2.2.2.2.1+1)),(bP x.2.2.2.2.2.2 k24 (some p26)))))
     ((inR r21 24).bind fun k30 =>
      (x.2.2.2.2.2.2[k30]?).bind fun x31 =>
      (vi x31 y20).bind fun r32 =>
      cond (!r32)
      (some (aE (false,x.2.2.2.2.2.2)))
      (rec (x.1,x.2.1,r19.1,x.2.2.2.1,x.2.2.2.2.1,(ag .i64 (x.2.2.2.2.2.1+1)),x.2.2.2.2.2.2)))))))
 (some (aT (x.2.2.1,x.2.2.2.2.2.2)))
def qQ (a0:jS) (a1:jI) (a2:jI) (a3:(List (Option jI))):Option (Bool×(List (Option jI))) :=
 ((lp q6 ze) (a0,a2,0,a1,((af a1:Nat):Int),0,a3)).bind fun r36 =>
 zR r36
 (fun z37=>cond (aA (af a3) (af z37.2)&&true)
  (some ((z37.1==((af a2:Nat):Int)),z37.2))
  (none))
 (fun z38=>cond (aA (af a3) (af z38.2)&&true)
  (some (z38.1,z38.2))
  (none))
def xM (a0:Bool) (a1:jI) (a2:Bool) (a3:jI) (a4:jS):Option Bool :=
 cond (!(a0==a2))
 ((qQ a4 a3 a1 (az 24 (none:(Option jI)))).bind fun r2 =>
  some r2.1)
 (some false)
def yW (rec:(jQ×Int×Int×Bool×jI×jS)->Option (Unit⊕Int)) (x:(jQ×Int×Int×Bool×jI×jS)):Option (Unit⊕Int) :=
 cond (decide (x.2.2.1<x.2.1))
 ((gx x.1 x.2.2.1).bind fun e3 =>
  (xM e3.1 e3.2 x.2.2.2.1 x.2.2.2.2.1 x.2.2.2.2.2).bind fun r4 =>
  cond r4
  (some (aE x.2.2.1))
  (rec (x.1,x.2.1,(ag .i64 (x.2.2.1+1)),x.2.2.2.1,x.2.2.2.2.1,x.2.2.2.2.2)))
 (some (aT ()))
def tA (a0:jQ) (a1:Bool) (a2:jI) (a3:jS):Option Int :=
 ((lp yW ze) (a0,((af a0:Nat):Int),0,a1,a2,a3)).bind fun r8 =>
 zR r8
 (fun z9=>some (-1))
 (fun z10=>some z10)
def yk (rec:(Int×Int×jQ×Bool×jI×jS)->Option (Int×jQ)) (x:(Int×Int×jQ×Bool×jI×jS)):Option (Int×jQ) :=
 cond (decide (x.2.1<((af x.2.2.1:Nat):Int)))
 ((inR x.2.1 (af x.2.2.1)).bind fun k12 =>
  (x.2.2.1[k12]?).bind fun x13 =>
  (xM x13.1 x13.2 x.2.2.2.1 x.2.2.2.2.1 x.2.2.2.2.2).bind fun r14 =>
  cond (!r14)
  ((inR x.1 (af x.2.2.1)).bind fun k15 =>
   (x.2.2.1[k15]?).bind fun x16 =>
   rec ((ag .i64 (x.1+1)),(ag .i64 (x.2.1+1)),(bP x.2.2.1 k15 (x13.1,x13.2)),x.2.2.2.1,x.2.2.2.2.1,x.2.2.2.2.2))
  (rec (x.1,(ag .i64 (x.2.1+1)),x.2.2.1,x.2.2.2.1,x.2.2.2.2.1,x.2.2.2.2.2)))
 (some (x.1,x.2.2.1))
def vX (a0:jQ) (a1:Bool) (a2:jI) (a3:jS):Option jQ :=
 (tA a0 a1 a2 a3).bind fun r19 =>
 cond (r19==(-1))
 (some a0)
 (((lp yk ze) (r19,(ag .i64 (r19+1)),a0,a1,a2,a3)).bind fun r20 =>
  cond (decide (0<=r20.1))
  (cond (decide (r20.1<=((af r20.2:Nat):Int)))
   (cond (decide (((af r20.2:Nat):Int)<=((af r20.2:Nat):Int)))
    ((vM (BY (false,([]:jI)) r20.2 (0+bc r20.1) (bc ((af r20.2:Nat):Int) - bc r20.1)) none (some r20.1)).bind fun y21 =>
     some y21)
    (none))
   (none))
  (none))
def Ka (a0:jS) (a1:Bool) (a2:jI) (a3:jQ) (a4:jR) (a5:jQ):Option (jQ×jR×Int×Int×jQ) :=
 (sY a0 a1 a2).bind fun r6 =>
 cond (!r6)
 (some (([]:jQ),([]:jR),0,1600,([]:jQ)))
 ((yq a0 a3 a4 a5).bind fun r7 =>
  cond (!r7)
  (some (([]:jQ),([]:jR),0,1600,([]:jQ)))
  ((tE a3 a4 a5).bind fun r8 =>
   (vX r8.1 a1 a2 a0).bind fun r9 =>
   (xi a0 r9 r8.2.1 r8.2.2).bind fun r10 =>
   some (r10.1,r10.2.1,(ag .i64 (((af a3:Nat):Int) - ((af r9:Nat):Int))),0,r10.2.2.2)))
def rF (a0:jS) (a1:jI) (a2:jI):Option Bool :=
 (xV a0 a1 a2).bind fun r2 =>
 cond (r2.2==0)
 (some (r2.1==2))
 (some false)
def rE (rec:(jS×jR×Int×Int)->Option (Unit⊕(Bool×Int×jI×jI))) (x:(jS×jR×Int×Int)):Option (Unit⊕(Bool×Int×jI×jI)) :=
 cond (decide (x.2.2.2<x.2.2.1))
 ((gx x.2.1 x.2.2.2).bind fun e15 =>
  (gx x.2.1 (ag .i64 (1 - x.2.2.2))).bind fun e16 =>
  (rF x.1 e15 e16).bind fun r17 =>
  cond r17
  ((gx x.2.1 x.2.2.2).bind fun e18 =>
   (zC e18).bind fun r19 =>
   (gx x.2.1 (ag .i64 (1 - x.2.2.2))).bind fun e20 =>
   (zC e20).bind fun r21 =>
   some (aE (true,0,r19,r21)))
  (rec (x.1,x.2.1,x.2.2.1,(ag .i64 (x.2.2.2+1)))))
 (some (aT ()))
def Wd (a0:jS) (a1:jQ) (a2:jR) (a3:jQ):Option (Bool×Int×jI×jI) :=
 (yq a0 a1 a2 a3).bind fun r25 =>
 cond (!r25)
 (some (false,1600,([]:jI),([]:jI)))
 ((jk a1 a2 a3).bind fun r26 =>
  cond (!r26)
  (some (false,0,([]:jI),([]:jI)))
  ((gx a1 0).bind fun e27 =>
   cond e27.1
   (some (false,0,([]:jI),([]:jI)))
   ((gx a1 0).bind fun e28 =>
    (gx e28.2 0).bind fun e29 =>
    cond (e29 != 0)
    (some (false,0,([]:jI),([]:jI)))
    ((gx a1 0).bind fun e30 =>
     (u7 a0 e30.2).bind fun r31 =>
     ((lp rE ze) (a0,r31,((af r31:Nat):Int),0)).bind fun r32 =>
     zR r32
     (fun z33=>some (false,0,([]:jI),([]:jI)))
     (fun z34=>some (z34.1,z34.2.1,z34.2.2.1,z34.2.2.2))))))
def uT (a0:jS) (a1:jI) (a2:jI):Option Bool :=
 (v8 a0 a1).bind fun r4 =>
 cond r4
 ((v8 a0 a2).bind fun r5 =>
  cond r5
  ((rF a0 a1 a2).bind fun r6 =>
   some r6)
  (some false))
 (some false)
def q7 (rec:(Int×(List (Option jI))×(List (Int×jI)))->Option ((List (Option jI))×(List (Int×jI)))) (x:(Int×(List (Option jI))×(List (Int×jI)))):Option ((List (Option jI))×(List (Int×jI))) :=
 cond (decide (x.1<24))
 ((inR x.1 24).bind fun k10 =>
  (x.2.1[k10]?).bind fun x11 =>
  cond (!(ck x11))
  (cond (decide (((af (bH x11 []):Nat):Int)>1))
   ((zC (bH x11 [])).bind fun r12 =>
    cond (yp (af x.2.2+af ([(x.1,r12)]:List (Int×jI))) 32)
    (rec ((ag .i64 (x.1+1)),x.2.1,(x.2.2++([(x.1,r12)]:List (Int×jI)))))
    (none))
   ((gx (bH x11 []) 0).bind fun e13 =>
    (zP x.1).bind fun r14 =>
    cond (e13 != r14)
    ((zC (bH x11 [])).bind fun r15 =>
     cond (yp (af x.2.2+af ([(x.1,r15)]:List (Int×jI))) 32)
     (rec ((ag .i64 (x.1+1)),x.2.1,(x.2.2++([(x.1,r15)]:List (Int×jI)))))
     (none))
    (rec ((ag .i64 (x.1+1)),x.2.1,x.2.2))))
  (rec ((ag .i64 (x.1+1)),x.2.1,x.2.2)))
 (some (x.2.1,x.2.2))
def ub (a0:(List (Option jI))):Option ((List (Int×jI))×(List (Option jI))) :=
 ((lp q7 ze) (0,a0,([]:(List (Int×jI))))).bind fun r17 =>
 cond (aA (af a0) (af r17.1)&&true)
 (some (r17.2,r17.1))
 (none)
def zJ (rec:(jS×jI×Int×Int×jI×jI)->Option (jI×Int×Bool)) (x:(jS×jI×Int×Int×jI×jI)):Option (jI×Int×Bool) :=
 cond (x.2.2.2.1==((af x.2.1:Nat):Int))
 (some (x.2.1,x.2.2.1,true))
 ((wu x.1 x.2.1 x.2.2.2.1).bind fun r12 =>
  (vM x.2.1 (some x.2.2.2.1) (some r12.1)).bind fun y13 =>
  (qQ x.1 x.2.2.2.2.1 y13 (az 24 (none:(Option jI)))).bind fun r14 =>
  cond (!r14.1)
  (rec (x.1,x.2.1,x.2.2.1,(ag .i64 (x.2.2.2.1+1)),x.2.2.2.2.1,x.2.2.2.2.2))
  (cond (x.2.2.1==100)
   (some (([]:jI),0,false))
   ((vM x.2.1 none (some x.2.2.2.1)).bind fun y15 =>
    (ub r14.2).bind fun r16 =>
    (Yr r16.1 x.2.2.2.2.2).bind fun r17 =>
    (vM x.2.1 (some r12.1) none).bind fun y18 =>
    (vD ([y15,r17,y18]:List jI)).bind fun r19 =>
    cond (decide (((af r19:Nat):Int)>48))
    (some (([]:jI),0,false))
    (rec (x.1,r19,(ag .i64 (x.2.2.1+1)),0,x.2.2.2.2.1,x.2.2.2.2.2)))))
def jW (a0:jS) (a1:jI) (a2:jI) (a3:jI):Option (jI×Int×Bool) :=
 (zC a3).bind fun r25 =>
 cond (0==((af r25:Nat):Int))
 (some (r25,0,true))
 ((wu a0 r25 0).bind fun r26 =>
  cond (decide (0<=r26.1))
  (cond (decide (r26.1<=((af r25:Nat):Int)))
   ((qQ a0 a1 (ew (bc r26.1 - bc 0) (eu 0 r25)) (az 24 (none:(Option jI)))).bind fun r27 =>
    cond (!r27.1)
    ((((lp zJ ze) (a0,r25,0,1,a1,a2))).bind fun r28 =>
     some (r28.1,r28.2.1,r28.2.2))
    (cond (decide (0<=0))
     (cond (decide (0<=((af r25:Nat):Int)))
      ((ub r27.2).bind fun r29 =>
       (Yr r29.1 a2).bind fun r30 =>
       cond (decide (0<=r26.1))
       (cond (decide (r26.1<=((af r25:Nat):Int)))
        (cond (decide (((af r25:Nat):Int)<=((af r25:Nat):Int)))
         ((vD ([(ew (bc 0 - bc 0) (eu 0 r25)),r30,(ew (bc ((af r25:Nat):Int) - bc r26.1) (eu (0+bc r26.1) r25))]:List jI)).bind fun r31 =>
          cond (decide (((af r31:Nat):Int)>48))
          (some (([]:jI),0,false))
          ((((lp zJ ze) (a0,r31,1,0,a1,a2))).bind fun r32 =>
           some (r32.1,r32.2.1,r32.2.2)))
         (none))
        (none))
       (none))
      (none))
     (none)))
   (none))
  (none))
def vj (rec:(jS×Int×Int×Int×jI×jI×jR×jQ×jQ)->Option ((Int×jR×jQ×jQ)⊕(Int×Int))) (x:(jS×Int×Int×Int×jI×jI×jR×jQ×jQ)):Option ((Int×jR×jQ×jQ)⊕(Int×Int)) :=
 cond (decide (x.2.2.2.1<x.2.2.1))
 ((inR x.2.2.2.1 (af x.2.2.2.2.2.2.2.2)).bind fun k18 =>
  (x.2.2.2.2.2.2.2.2[k18]?).bind fun x19 =>
  (vM x19.2 (some 1) none).bind fun y20 =>
  (jW x.1 x.2.2.2.2.1 x.2.2.2.2.2.1 y20).bind fun r21 =>
  cond (!r21.2.2)
  (some (aE (0,1601)))
  ((gx x19.2 0).bind fun e22 =>
   cond (yp (af ([e22]:List Int)+af r21.1) 8)
   ((inR x.2.2.2.1 (af x.2.2.2.2.2.2.2.2)).bind fun k23 =>
    (x.2.2.2.2.2.2.2.2[k23]?).bind fun x24 =>
    rec (x.1,(ag .i64 (x.2.1+r21.2.1)),x.2.2.1,(ag .i64 (x.2.2.2.1+1)),x.2.2.2.2.1,x.2.2.2.2.2.1,x.2.2.2.2.2.2.1,x.2.2.2.2.2.2.2.1,(bP x.2.2.2.2.2.2.2.2 k23 (x24.1,(([e22]:List Int)++r21.1)))))
   (none)))
 (some (aT (x.2.1,x.2.2.2.2.2.2.1,x.2.2.2.2.2.2.2.1,x.2.2.2.2.2.2.2.2)))
def ZN (a0:jS) (a1:jI) (a2:jI) (a3:jQ) (a4:jR) (a5:jQ):Option (jQ×jR×Int×Int×jQ) :=
 (uT a0 a1 a2).bind fun r29 =>
 cond (!r29)
 (some (([]:jQ),([]:jR),0,1600,([]:jQ)))
 ((yq a0 a3 a4 a5).bind fun r30 =>
  cond (!r30)
  (some (([]:jQ),([]:jR),0,1600,([]:jQ)))
  ((tE a3 a4 a5).bind fun r31 =>
   ((lp vj ze) (a0,0,((af r31.1:Nat):Int),0,a1,a2,r31.2.1,r31.2.2,r31.1)).bind fun r32 =>
   zR r32
   (fun z33=>(xi a0 z33.2.2.2 z33.2.1 z33.2.2.1).bind fun r34 =>
    cond (r34.2.2.1 != 0)
    (some (([]:jQ),([]:jR),0,1601,([]:jQ)))
    (some (r34.1,r34.2.1,z33.1,0,r34.2.2.2)))
   (fun z35=>some (([]:jQ),([]:jR),z35.1,z35.2,([]:jQ)))))
def sx (a0:jS) (a1:Int) (a2:jQ) (a3:jR) (a4:jQ) (a5:jQ) (a6:jR) (a7:jQ):Option (jQ×jR×Bool×jQ) :=
 cond (a1==6)
 ((jk a5 a6 a7).bind fun r6 =>
  cond (!r6)
  (some (([]:jQ),([]:jR),false,([]:jQ)))
  ((gx a5 0).bind fun e7 =>
   (Ka a0 e7.1 e7.2 a2 a3 a4).bind fun r8 =>
   cond (r8.2.2.2.1==0)
   (some (r8.1,r8.2.1,(decide (r8.2.2.1>0)),r8.2.2.2.2))
   (some (r8.1,r8.2.1,false,r8.2.2.2.2))))
 ((Wd a0 a5 a6 a7).bind fun r9 =>
  cond (!r9.1)
  (some (([]:jQ),([]:jR),false,([]:jQ)))
  ((ZN a0 r9.2.2.1 r9.2.2.2 a2 a3 a4).bind fun r10 =>
   cond (r10.2.2.2.1==0)
   (some (r10.1,r10.2.1,(decide (r10.2.2.1>0)),r10.2.2.2.2))
   (some (r10.1,r10.2.1,false,r10.2.2.2.2))))
def wh (a0:jS) (a1:Int) (a2:Int) (a3:Int) (a4:Int) (a5:Int) (a6:Int) (a7:Int) (a8:jQ) (a9:jR) (a10:jQ) (a11:jQ) (a12:jR) (a13:jQ) (a14:jQ) (a15:jR) (a16:jQ):Option (jQ×jR×Bool×jQ) :=
 cond (a1==1)
 ((sP a0 a11 a12 a13 a3 a14 a15 a16 a6).bind fun r11 =>
  cond r11.2.2.1
  (some (r11.1,r11.2.1,(r11.2.2.2.1==0),r11.2.2.2.2))
  (some (r11.1,r11.2.1,false,r11.2.2.2.2)))
 (cond (a1==2)
  ((wd a0 a11 a12 a13 a3 a6).bind fun r12 =>
   cond r12.2.2.1
   (some (r12.1,r12.2.1,(r12.2.2.2.1==0),r12.2.2.2.2))
   (some (r12.1,r12.2.1,false,r12.2.2.2.2)))
  (cond (a1==3)
   ((QZ a0 a11 a12 a13 a3 a4 a14 a15 a16 a6 a7).bind fun r13 =>
    cond r13.2.2.1
    (some (r13.1,r13.2.1,(r13.2.2.2.1==0),r13.2.2.2.2))
    (some (r13.1,r13.2.1,false,r13.2.2.2.2)))
   (cond (a1==4)
    ((kS a0 a11 a12 a13 a3).bind fun r14 =>
     cond r14.2.2.1
     (some (r14.1,r14.2.1,(r14.2.2.2.1==0),r14.2.2.2.2))
     (some (r14.1,r14.2.1,false,r14.2.2.2.2)))
    (cond (a1==5)
     (cond (a1==5)
      ((sx a0 a1 a11 a12 a13 a14 a15 a16).bind fun r15 =>
       some (r15.1,r15.2.1,r15.2.2.1,r15.2.2.2))
      (cond (a1==7)
       (cond (decide (a3<((af a11:Nat):Int)))
        ((gx a11 a3).bind fun e16 =>
         cond e16.1
         ((vT a0 a11 a12 a13 a3).bind fun r17 =>
          cond e16.1
          (some (r17.1,r17.2.1,(r17.2.2.1==0),r17.2.2.2))
          (some (r17.1,r17.2.1,false,r17.2.2.2)))
         (cond e16.1
          (some (([]:jQ),([]:jR),true,([]:jQ)))
          (some (([]:jQ),([]:jR),false,([]:jQ)))))
        (some (([]:jQ),([]:jR),false,([]:jQ))))
       (some (([]:jQ),([]:jR),false,([]:jQ)))))
     (cond (a1==6)
      ((sx a0 a1 a11 a12 a13 a14 a15 a16).bind fun r18 =>
       some (r18.1,r18.2.1,r18.2.2.1,r18.2.2.2))
      (cond (a1==7)
       (cond (decide (a3<((af a11:Nat):Int)))
        ((gx a11 a3).bind fun e19 =>
         cond e19.1
         ((vT a0 a11 a12 a13 a3).bind fun r20 =>
          cond e19.1
          (some (r20.1,r20.2.1,(r20.2.2.1==0),r20.2.2.2))
          (some (r20.1,r20.2.1,false,r20.2.2.2)))
         (cond e19.1
          (some (([]:jQ),([]:jR),true,([]:jQ)))
          (some (([]:jQ),([]:jR),false,([]:jQ)))))
        (some (([]:jQ),([]:jR),false,([]:jQ))))
       (some (([]:jQ),([]:jR),false,([]:jQ)))))))))
def kB (a0:jS) (a1:jT) (a2:Int):Option (jQ×jR×Bool×jQ) :=
 (gx a1 a2).bind fun e25 =>
 (Yz e25.1 e25.2.1 e25.2.2.1 e25.2.2.2.1 e25.2.2.2.2.1 e25.2.2.2.2.2.1 e25.2.2.2.2.2.2.1 e25.2.2.2.2.2.2.2.1 e25.2.2.2.2.2.2.2.2.1 e25.2.2.2.2.2.2.2.2.2).bind fun r26 =>
 (vE r26.1 r26.2.1 r26.2.2.1 r26.2.2.2.1 r26.2.2.2.2.1 r26.2.2.2.2.2.1 r26.2.2.2.2.2.2 ([]:jQ) ([]:jR) ([]:jQ) e25.1 e25.2.1 e25.2.2.1 e25.2.2.2.1 e25.2.2.2.2.1 e25.2.2.2.2.2.1 e25.2.2.2.2.2.2.1 e25.2.2.2.2.2.2.2.1 e25.2.2.2.2.2.2.2.2.1 e25.2.2.2.2.2.2.2.2.2).bind fun r27 =>
 cond (!r27)
 (some (([]:jQ),([]:jR),false,([]:jQ)))
 (cond (e25.1==0)
  ((tE e25.2.2.2.2.2.2.2.1 e25.2.2.2.2.2.2.2.2.1 e25.2.2.2.2.2.2.2.2.2).bind fun r28 =>
   some (r28.1,r28.2.1,true,r28.2.2))
  (cond (decide (e25.2.1<0))
   (some (([]:jQ),([]:jR),false,([]:jQ)))
   (cond (decide (e25.2.1≥a2))
    (some (([]:jQ),([]:jR),false,([]:jQ)))
    (cond (e25.1==1)
     (cond (e25.1==1)
      (cond (decide (e25.2.2.2.2.1<0))
       (some (([]:jQ),([]:jR),false,([]:jQ)))
       (cond (decide (e25.2.2.2.2.1≥a2))
        (some (([]:jQ),([]:jR),false,([]:jQ)))
        ((gx a1 e25.2.2.2.2.1).bind fun e29 =>
         (gx a1 e25.2.1).bind fun e30 =>
         (wh a0 e25.1 e25.2.1 e25.2.2.1 e25.2.2.2.1 e25.2.2.2.2.1 e25.2.2.2.2.2.1 e25.2.2.2.2.2.2.1 e25.2.2.2.2.2.2.2.1 e25.2.2.2.2.2.2.2.2.1 e25.2.2.2.2.2.2.2.2.2 e30.2.2.2.2.2.2.2.1 e30.2.2.2.2.2.2.2.2.1 e30.2.2.2.2.2.2.2.2.2 e29.2.2.2.2.2.2.2.1 e29.2.2.2.2.2.2.2.2.1 e29.2.2.2.2.2.2.2.2.2).bind fun r31 =>
         cond (!r31.2.2.1)
         (some (([]:jQ),([]:jR),false,([]:jQ)))
         (some (r31.1,r31.2.1,true,r31.2.2.2)))))
      ((gx a1 e25.2.1).bind fun e32 =>
       (wh a0 e25.1 e25.2.1 e25.2.2.1 e25.2.2.2.1 e25.2.2.2.2.1 e25.2.2.2.2.2.1 e25.2.2.2.2.2.2.1 e25.2.2.2.2.2.2.2.1 e25.2.2.2.2.2.2.2.2.1 e25.2.2.2.2.2.2.2.2.2 e32.2.2.2.2.2.2.2.1 e32.2.2.2.2.2.2.2.2.1 e32.2.2.2.2.2.2.2.2.2 ([]:jQ) ([]:jR) ([]:jQ)).bind fun r33 =>
       cond (!r33.2.2.1)
       (some (([]:jQ),([]:jR),false,([]:jQ)))
       (some (r33.1,r33.2.1,true,r33.2.2.2))))
     (cond (e25.1==3)
      (cond (e25.1==3)
       (cond (decide (e25.2.2.2.2.1<0))
        (some (([]:jQ),([]:jR),false,([]:jQ)))
        (cond (decide (e25.2.2.2.2.1≥a2))
         (some (([]:jQ),([]:jR),false,([]:jQ)))
         ((gx a1 e25.2.2.2.2.1).bind fun e34 =>
          (gx a1 e25.2.1).bind fun e35 =>
          (wh a0 e25.1 e25.2.1 e25.2.2.1 e25.2.2.2.1 e25.2.2.2.2.1 e25.2.2.2.2.2.1 e25.2.2.2.2.2.2.1 e25.2.2.2.2.2.2.2.1 e25.2.2.2.2.2.2.2.2.1 e25.2.2.2.2.2.2.2.2.2 e35.2.2.2.2.2.2.2.1 e35.2.2.2.2.2.2.2.2.1 e35.2.2.2.2.2.2.2.2.2 e34.2.2.2.2.2.2.2.1 e34.2.2.2.2.2.2.2.2.1 e34.2.2.2.2.2.2.2.2.2).bind fun r36 =>
          cond (!r36.2.2.1)
          (some (([]:jQ),([]:jR),false,([]:jQ)))
          (some (r36.1,r36.2.1,true,r36.2.2.2)))))
       ((gx a1 e25.2.1).bind fun e37 =>
        (wh a0 e25.1 e25.2.1 e25.2.2.1 e25.2.2.2.1 e25.2.2.2.2.1 e25.2.2.2.2.2.1 e25.2.2.2.2.2.2.1 e25.2.2.2.2.2.2.2.1 e25.2.2.2.2.2.2.2.2.1 e25.2.2.2.2.2.2.2.2.2 e37.2.2.2.2.2.2.2.1 e37.2.2.2.2.2.2.2.2.1 e37.2.2.2.2.2.2.2.2.2 ([]:jQ) ([]:jR) ([]:jQ)).bind fun r38 =>
        cond (!r38.2.2.1)
        (some (([]:jQ),([]:jR),false,([]:jQ)))
        (some (r38.1,r38.2.1,true,r38.2.2.2))))
      (cond (e25.1==5)
       (cond (e25.1==5)
        (cond (decide (e25.2.2.2.2.1<0))
         (some (([]:jQ),([]:jR),false,([]:jQ)))
         (cond (decide (e25.2.2.2.2.1≥a2))
          (some (([]:jQ),([]:jR),false,([]:jQ)))
          ((gx a1 e25.2.2.2.2.1).bind fun e39 =>
           (gx a1 e25.2.1).bind fun e40 =>
           (wh a0 e25.1 e25.2.1 e25.2.2.1 e25.2.2.2.1 e25.2.2.2.2.1 e25.2.2.2.2.2.1 e25.2.2.2.2.2.2.1 e25.2.2.2.2.2.2.2.1 e25.2.2.2.2.2.2.2.2.1 e25.2.2.2.2.2.2.2.2.2 e40.2.2.2.2.2.2.2.1 e40.2.2.2.2.2.2.2.2.1 e40.2.2.2.2.2.2.2.2.2 e39.2.2.2.2.2.2.2.1 e39.2.2.2.2.2.2.2.2.1 e39.2.2.2.2.2.2.2.2.2).bind fun r41 =>
           cond (!r41.2.2.1)
           (some (([]:jQ),([]:jR),false,([]:jQ)))
           (some (r41.1,r41.2.1,true,r41.2.2.2)))))
        ((gx a1 e25.2.1).bind fun e42 =>
         (wh a0 e25.1 e25.2.1 e25.2.2.1 e25.2.2.2.1 e25.2.2.2.2.1 e25.2.2.2.2.2.1 e25.2.2.2.2.2.2.1 e25.2.2.2.2.2.2.2.1 e25.2.2.2.2.2.2.2.2.1 e25.2.2.2.2.2.2.2.2.2 e42.2.2.2.2.2.2.2.1 e42.2.2.2.2.2.2.2.2.1 e42.2.2.2.2.2.2.2.2.2 ([]:jQ) ([]:jR) ([]:jQ)).bind fun r43 =>
         cond (!r43.2.2.1)
         (some (([]:jQ),([]:jR),false,([]:jQ)))
         (some (r43.1,r43.2.1,true,r43.2.2.2))))
       (cond (e25.1==6)
        (cond (decide (e25.2.2.2.2.1<0))
         (some (([]:jQ),([]:jR),false,([]:jQ)))
         (cond (decide (e25.2.2.2.2.1≥a2))
          (some (([]:jQ),([]:jR),false,([]:jQ)))
          ((gx a1 e25.2.2.2.2.1).bind fun e44 =>
           (gx a1 e25.2.1).bind fun e45 =>
           (wh a0 e25.1 e25.2.1 e25.2.2.1 e25.2.2.2.1 e25.2.2.2.2.1 e25.2.2.2.2.2.1 e25.2.2.2.2.2.2.1 e25.2.2.2.2.2.2.2.1 e25.2.2.2.2.2.2.2.2.1 e25.2.2.2.2.2.2.2.2.2 e45.2.2.2.2.2.2.2.1 e45.2.2.2.2.2.2.2.2.1 e45.2.2.2.2.2.2.2.2.2 e44.2.2.2.2.2.2.2.1 e44.2.2.2.2.2.2.2.2.1 e44.2.2.2.2.2.2.2.2.2).bind fun r46 =>
           cond (!r46.2.2.1)
           (some (([]:jQ),([]:jR),false,([]:jQ)))
           (some (r46.1,r46.2.1,true,r46.2.2.2)))))
        ((gx a1 e25.2.1).bind fun e47 =>
         (wh a0 e25.1 e25.2.1 e25.2.2.1 e25.2.2.2.1 e25.2.2.2.2.1 e25.2.2.2.2.2.1 e25.2.2.2.2.2.2.1 e25.2.2.2.2.2.2.2.1 e25.2.2.2.2.2.2.2.2.1 e25.2.2.2.2.2.2.2.2.2 e47.2.2.2.2.2.2.2.1 e47.2.2.2.2.2.2.2.2.1 e47.2.2.2.2.2.2.2.2.2 ([]:jQ) ([]:jR) ([]:jQ)).bind fun r48 =>
         cond (!r48.2.2.1)
         (some (([]:jQ),([]:jR),false,([]:jQ)))
         (some (r48.1,r48.2.1,true,r48.2.2.2))))))))))
def WV (a0:jS) (a1:jT) (a2:Int):Option (jQ×jR×Bool×Int×jQ) :=
 (tU a0 a1).bind fun r3 =>
 cond (!r3)
 (some (([]:jQ),([]:jR),false,1800,([]:jQ)))
 (cond (decide (a2<0))
  (some (([]:jQ),([]:jR),false,1800,([]:jQ)))
  (cond (decide (a2≥((af a1:Nat):Int)))
   (some (([]:jQ),([]:jR),false,1800,([]:jQ)))
   ((kB a0 a1 a2).bind fun r4 =>
    some (r4.1,r4.2.1,r4.2.2.1,0,r4.2.2.2))))
def q8 (rec:(jQ×jQ×Int×Int)->Option (Unit⊕Bool)) (x:(jQ×jQ×Int×Int)):Option (Unit⊕Bool) :=
 cond (decide (x.2.2.2<x.2.2.1))
 ((gx x.2.1 x.2.2.2).bind fun e4 =>
  (gx x.1 x.2.2.2).bind fun e5 =>
  (Q3 e4.1 e4.2 e5.1 e5.2).bind fun r6 =>
  cond (!r6)
  (some (aE false))
  (rec (x.1,x.2.1,x.2.2.1,(ag .i64 (x.2.2.2+1)))))
 (some (aT ()))
def uj (a0:jQ) (a1:jQ):Option Bool :=
 cond (((af a0:Nat):Int) != ((af a1:Nat):Int))
 (some false)
 (((lp q8 ze) (a1,a0,((af a0:Nat):Int),0)).bind fun r10 =>
  zR r10
  (fun z11=>some true)
  (fun z12=>some z12))
def qv (rec:(jR×jR×Int×Int)->Option (Unit⊕Bool)) (x:(jR×jR×Int×Int)):Option (Unit⊕Bool) :=
 cond (decide (x.2.2.2<x.2.2.1))
 ((gx x.2.1 x.2.2.2).bind fun e4 =>
  (gx x.1 x.2.2.2).bind fun e5 =>
  (yb e4 e5).bind fun r6 =>
  cond (!r6)
  (some (aE false))
  (rec (x.1,x.2.1,x.2.2.1,(ag .i64 (x.2.2.2+1)))))
 (some (aT ()))
def uI (a0:jR) (a1:jR):Option Bool :=
 cond (((af a0:Nat):Int) != ((af a1:Nat):Int))
 (some false)
 (((lp qv ze) (a1,a0,((af a0:Nat):Int),0)).bind fun r10 =>
  zR r10
  (fun z11=>some true)
  (fun z12=>some z12))
def Yg (a0:jQ) (a1:jR) (a2:jQ) (a3:jQ) (a4:jR) (a5:jQ):Option Bool :=
 (uj a0 a3).bind fun r4 =>
 cond r4
 ((uI a1 a4).bind fun r5 =>
  cond r5
  ((uj a2 a5).bind fun r6 =>
   some r6)
  (some false))
 (some false)
def x9 (rec:(jS×jT×Int×Int)->Option (Unit⊕(Int×Int))) (x:(jS×jT×Int×Int)):Option (Unit⊕(Int×Int)) :=
 cond (decide (x.2.2.2<x.2.2.1))
 ((kB x.1 x.2.1 x.2.2.2).bind fun r5 =>
  cond (!r5.2.2.1)
  (some (aE (x.2.2.2,0)))
  ((gx x.2.1 x.2.2.2).bind fun e6 =>
   (Yg r5.1 r5.2.1 r5.2.2.2 e6.2.2.2.2.2.2.2.1 e6.2.2.2.2.2.2.2.2.1 e6.2.2.2.2.2.2.2.2.2).bind fun r7 =>
   cond (!r7)
   (some (aE (x.2.2.2,0)))
   (rec (x.1,x.2.1,x.2.2.1,(ag .i64 (x.2.2.2+1))))))
 (some (aT ()))
def wj (a0:jS) (a1:jT):Option (Int×Int) :=
 (tU a0 a1).bind fun r11 =>
 cond (!r11)
 (some (0,1800))
 (((lp x9 ze) (a0,a1,((af a1:Nat):Int),0)).bind fun r12 =>
  zR r12
  (fun z13=>some ((-1),0))
  (fun z14=>some (z14.1,z14.2)))
def ZK (rec:(Int×Int×jI)->Option jI) (x:(Int×Int×jI)):Option jI :=
 cond (decide (x.1<x.2.1))
 ((inR x.2.1 (af x.2.2)).bind fun k17 =>
  (x.2.2[k17]?).bind fun x18 =>
  (inR x.1 (af x.2.2)).bind fun k19 =>
  (x.2.2[k19]?).bind fun x20 =>
  (inR x.1 (af x.2.2)).bind fun k21 =>
  (x.2.2[k21]?).bind fun x22 =>
  (inR x.2.1 (af (bP x.2.2 k21 x18))).bind fun k23 =>
  ((bP x.2.2 k21 x18)[k23]?).bind fun x24 =>
  rec ((ag .i64 (x.1+1)),(ag .i64 (x.2.1 - 1)),(bP (bP x.2.2 k21 x18) k23 x20)))
 (some x.2.2)
def rp (a0:jI):Option jI :=
 ((lp ZK ze) (0,(ag .i64 (((af a0:Nat):Int) - 1)),a0)).bind fun r26 =>
 cond (!(List.isEmpty a0)&&true)
 (cond (aA (af a0) (af r26)&&true)
  (some r26)
  (none))
 (none)
def WG (rec:(jT×Int×jI×Int×Int×(List Bool))->Option (List Bool)) (x:(jT×Int×jI×Int×Int×(List Bool))):Option (List Bool) :=
 cond (decide (x.2.2.2.2.1<x.2.2.2.1))
 ((gx x.2.2.1 x.2.2.2.2.1).bind fun e22 =>
  cond (decide (e22≥0))
  (cond (decide (e22<x.2.1))
   ((inR e22 (af x.2.2.2.2.2)).bind fun k23 =>
    (x.2.2.2.2.2[k23]?).bind fun x24 =>
    rec (x.1,x.2.1,x.2.2.1,x.2.2.2.1,(ag .i64 (x.2.2.2.2.1+1)),(bP x.2.2.2.2.2 k23 true)))
   (rec (x.1,x.2.1,x.2.2.1,x.2.2.2.1,(ag .i64 (x.2.2.2.2.1+1)),x.2.2.2.2.2)))
  (rec (x.1,x.2.1,x.2.2.1,x.2.2.2.1,(ag .i64 (x.2.2.2.2.1+1)),x.2.2.2.2.2)))
 (some x.2.2.2.2.2)
def Wx (rec:(jT×Int×jI×Int×Int×(List Bool))->Option (List Bool)) (x:(jT×Int×jI×Int×Int×(List Bool))):Option (List Bool) :=
 cond (decide (x.2.2.2.2.1<x.2.2.2.1))
 ((gx x.2.2.1 x.2.2.2.2.1).bind fun e11 =>
  cond (decide (e11≥0))
  (cond (decide (e11<x.2.1))
   ((inR e11 (af x.2.2.2.2.2)).bind fun k12 =>
    (x.2.2.2.2.2[k12]?).bind fun x13 =>
    rec (x.1,x.2.1,x.2.2.1,x.2.2.2.1,(ag .i64 (x.2.2.2.2.1+1)),(bP x.2.2.2.2.2 k12 true)))
   (rec (x.1,x.2.1,x.2.2.1,x.2.2.2.1,(ag .i64 (x.2.2.2.2.1+1)),x.2.2.2.2.2)))
  (rec (x.1,x.2.1,x.2.2.1,x.2.2.2.1,(ag .i64 (x.2.2.2.2.1+1)),x.2.2.2.2.2)))
 (some x.2.2.2.2.2)
def Ye (rec:(jT×Int×(List Bool)×jI)->Option (Int×jI)) (x:(jT×Int×(List Bool)×jI)):Option (Int×jI) :=
 (inR x.2.1 (af x.2.2.1)).bind fun k28 =>
 (x.2.2.1[k28]?).bind fun x29 =>
 cond x29
 (cond (yp (af x.2.2.2+af ([x.2.1]:List Int)) 8)
  ((gx x.1 x.2.1).bind fun e30 =>
   (gx x.1 x.2.1).bind fun e31 =>
   ((lp WG ze) (x.1,x.2.1,([e30.2.1,e31.2.2.2.2.1]:List Int),((af ([e30.2.1,e31.2.2.2.2.1]:List Int):Nat):Int),0,x.2.2.1)).bind fun r32 =>
   cond (decide ((ag .i64 (x.2.1 - 1))≥0))
   (rec (x.1,(ag .i64 (x.2.1 - 1)),r32,(x.2.2.2++([x.2.1]:List Int))))
   ((rp (x.2.2.2++([x.2.1]:List Int))).bind fun r33 =>
    some (0,r33)))
  (none))
 (cond (decide ((ag .i64 (x.2.1 - 1))≥0))
  (rec (x.1,(ag .i64 (x.2.1 - 1)),x.2.2.1,x.2.2.2))
  ((rp x.2.2.2).bind fun r34 =>
   some (0,r34)))
def GT (a0:jS) (a1:jT) (a2:Int):Option (Int×jI) :=
 (tU a0 a1).bind fun r39 =>
 cond (!r39)
 (some (1800,([]:jI)))
 (cond (decide (a2<0))
  (some (1800,([]:jI)))
  (cond (decide (a2≥((af a1:Nat):Int)))
   (some (1800,([]:jI)))
   (cond (eqI (ag .i64 (a2+1)) (ag .i64 (a2+1)))
    (cond (Rq (ag .i64 (a2+1)))
     (cond (yp (bc (ag .i64 (a2+1))) 1)
      ((inR a2 (af (az (bc (ag .i64 (a2+1))) false))).bind fun k40 =>
       ((az (bc (ag .i64 (a2+1))) false)[k40]?).bind fun x41 =>
       (inR a2 (af (bP (az (bc (ag .i64 (a2+1))) false) k40 true))).bind fun k42 =>
       ((bP (az (bc (ag .i64 (a2+1))) false) k40 true)[k42]?).bind fun x43 =>
       cond x43
       (cond (yp (af ([a2]:List Int)) 8)
        ((gx a1 a2).bind fun e44 =>
         (gx a1 a2).bind fun e45 =>
         ((lp Wx ze) (a1,a2,([e44.2.1,e45.2.2.2.2.1]:List Int),((af ([e44.2.1,e45.2.2.2.2.1]:List Int):Nat):Int),0,(bP (az (bc (ag .i64 (a2+1))) false) k40 true))).bind fun r46 =>
         cond (decide ((ag .i64 (a2 - 1))≥0))
         ((((lp Ye ze) (a1,(ag .i64 (a2 - 1)),r46,([a2]:List Int)))).bind fun r47 =>
          some (r47.1,r47.2))
         ((rp ([a2]:List Int)).bind fun r48 =>
          some (0,r48)))
        (none))
       (cond (decide ((ag .i64 (a2 - 1))≥0))
        ((((lp Ye ze) (a1,(ag .i64 (a2 - 1)),(bP (az (bc (ag .i64 (a2+1))) false) k40 true),([]:jI)))).bind fun r49 =>
         some (r49.1,r49.2))
        (none)))
      (none))
     (none))
    (none))))
def XB:Option Bool :=
 (sX).bind fun r25 =>
 (Zp).bind fun r26 =>
 (WV r25 r26 2).bind fun r27 =>
 (sX).bind fun r28 =>
 (Zp).bind fun r29 =>
 (wj r28 r29).bind fun r30 =>
 (sX).bind fun r31 =>
 (Zp).bind fun r32 =>
 (GT r31 r32 2).bind fun r33 =>
 (Zp).bind fun r34 =>
 (inR 2 (af r34)).bind fun k35 =>
 (r34[k35]?).bind fun x36 =>
 (sX).bind fun r37 =>
 (wj r37 (bP r34 k35 (x36.1,x36.2.1,x36.2.2.1,x36.2.2.2.1,x36.2.2.2.2.1,x36.2.2.2.2.2.1,x36.2.2.2.2.2.2.1,([]:jQ),([]:jR),([]:jQ)))).bind fun r38 =>
 (sX).bind fun r39 =>
 (Zp).bind fun r40 =>
 (WV r39 r40 3).bind fun r41 =>
 cond r27.2.2.1
 ((tp r27.2.2.2.1).bind fun r42 =>
  cond (r42==0)
  ((vu r27.1 r27.2.1 r27.2.2.2.2 ([]:jQ) ([([1]:List Int)]:List jI) ([]:jQ)).bind fun r43 =>
   cond r43
   (cond (r30.1==(-1))
    ((tp r30.2).bind fun r44 =>
     cond (r44==0)
     ((va r33.2 ([0,1,2]:List Int)).bind fun r45 =>
      cond r45
      ((tp r33.1).bind fun r46 =>
       cond (r46==0)
       (cond (r38.1==2)
        ((tp r38.2).bind fun r47 =>
         cond (r47==0)
         ((tp r41.2.2.2.1).bind fun r48 =>
          some (r48==1800))
         (some false))
        (some false))
       (some false))
      (some false))
     (some false))
    (some false))
   (some false))
  (some false))
 (some false)
def wg (rec:(jT×Int×jT)->Option jT) (x:(jT×Int×jT)):Option jT :=
 cond (decide (x.2.1<((af x.1:Nat):Int)))
 ((gx x.1 x.2.1).bind fun e5 =>
  (vK e5.2.2.2.2.2.2.2.1 e5.2.2.2.2.2.2.2.2.1 e5.2.2.2.2.2.2.2.2.2).bind fun r6 =>
  cond (yp (af x.2.2+af ([(e5.1,e5.2.1,e5.2.2.1,e5.2.2.2.1,e5.2.2.2.2.1,e5.2.2.2.2.2.1,e5.2.2.2.2.2.2.1,r6.1,r6.2.1,r6.2.2)]:List jU)) 128)
  (rec (x.1,(ag .i64 (x.2.1+1)),(x.2.2++([(e5.1,e5.2.1,e5.2.2.1,e5.2.2.2.1,e5.2.2.2.2.1,e5.2.2.2.2.2.1,e5.2.2.2.2.2.2.1,r6.1,r6.2.1,r6.2.2)]:List jU))))
  (none))
 (some x.2.2)
def ri (a0:jT):Option jT :=
 ((lp wg ze) (a0,0,([]:jT))).bind fun r8 =>
 some r8
def xJ (a0:jS) (a1:jT) (a2:Int) (a3:Int):Option Bool :=
 (XB).bind fun r14 =>
 cond (!r14)
 (some false)
 ((wj a0 a1).bind fun r15 =>
  (tp r15.2).bind fun r16 =>
  cond (r16 != 0)
  (some true)
  (cond (r15.1 != (-1))
   (some true)
   (cond (((af a1:Nat):Int)==0)
    (some true)
    (cond (decide (((af a1:Nat):Int)>20))
     (some true)
     (cond (decide ((ag .u64 ((af a1:Nat):Int))=0))
      (none)
      (cond (decide ((ag .u64 ((af a1:Nat):Int))=0))
       (none)
       ((gx a1 (ag .i64 (dx (ag .u64 a2) (ag .u64 ((af a1:Nat):Int))))).bind fun e17 =>
        (gx a1 (ag .i64 (dx (ag .u64 a3) (ag .u64 ((af a1:Nat):Int))))).bind fun e18 =>
        (Yp a0 e17.2.2.2.2.2.2.2.1 e17.2.2.2.2.2.2.2.2.1 e17.2.2.2.2.2.2.2.2.2 (ag .i64 (dx (ag .u64 a2) (ag .u64 ((af a1:Nat):Int)))) e18.2.2.2.2.2.2.2.1 e18.2.2.2.2.2.2.2.2.1 e18.2.2.2.2.2.2.2.2.2 (ag .i64 (dx (ag .u64 a3) (ag .u64 ((af a1:Nat):Int))))).bind fun r19 =>
        (gx a1 (ag .i64 (dx (ag .u64 a2) (ag .u64 ((af a1:Nat):Int))))).bind fun e20 =>
        (ZI a0 e20.2.2.2.2.2.2.2.1 e20.2.2.2.2.2.2.2.2.1 e20.2.2.2.2.2.2.2.2.2 (ag .i64 (dx (ag .u64 a2) (ag .u64 ((af a1:Nat):Int))))).bind fun r21 =>
        (ri a1).bind fun r22 =>
        cond (yp (af r22+af r19.2.2) 128)
        (cond (yp (af (r22++r19.2.2)+af r21.2.2) 128)
         ((wj a0 ((r22++r19.2.2)++r21.2.2)).bind fun r23 =>
          (tp r19.2.1).bind fun r24 =>
          cond (r24==0)
          ((tp r21.2.1).bind fun r25 =>
           cond (r25==0)
           ((tp r23.2).bind fun r26 =>
            cond (r26==0)
            (some (r23.1==(-1)))
            (some false))
           (some false))
          (some false))
         (none))
        (none))))))))
def zG (s3:jS):List jU->Nat->Option (Unit⊕Int)
 | [],i=>some (aT ())
 | e::es,i =>
  (t7 e.1 e.2.1 e.2.2.1 e.2.2.2.1 e.2.2.2.2.1 e.2.2.2.2.2.1 e.2.2.2.2.2.2.1 e.2.2.2.2.2.2.2.1 e.2.2.2.2.2.2.2.2.1 e.2.2.2.2.2.2.2.2.2 s3).bind fun r4 =>
  cond r4
  (some (aE (i:Int)))
  (zG s3 es (i+1))
theorem ka (s0:jT) (s3:jS) (hl:af s0<=maxLen):lp yY ze (s0,((af s0:Nat):Int),0,s3)=zG s3 s0 0:=tw yY (fun i=>(s0,((af s0:Nat):Int),i,s3)) (fun es i=>zG s3 es i) hl (fun r i h=>by unfold yY zG; simp only[h,cond_false]) (fun r i e es h g w k=>by unfold yY zG; simp only[h,cond_true,g,aa,w,k])
def yG (s3:jQ) (s4:jR):List zc->jQ->Option (jQ×jR×jQ)
 | [],s5=>some (s3,s4,s5)
 | e::es,s5 =>
  (zC e.2).bind fun r20 =>
  cond (yp (af s5+af ([(e.1,r20)]:List zc)) 32)
  (yG s3 s4 es (s5++([(e.1,r20)]:List zc)))
  (none)
theorem ZR (s0:jQ) (s3:jQ) (s4:jR) (s5:jQ) (hl:af s0<=maxLen):lp wX ze (s0,((af s0:Nat):Int),0,s3,s4,s5)=yG s3 s4 s0 s5:=xR wX (fun i s5=>(s0,((af s0:Nat):Int),i,s3,s4,s5)) (fun es i s5=>yG s3 s4 es s5) hl (fun r i s5 h=>by unfold wX yG; simp only[h,cond_false]) (fun r i s5 e es h g w k=>by unfold wX yG; simp only[h,cond_true,g,aa,w,k]) s5
def yD (s6:jQ):List jI->jR->Option (jQ×jR)
 | [],s7=>some (s6,s7)
 | e::es,s7 =>
  (zC e).bind fun r13 =>
  cond (yp (af s7+af ([r13]:List jI)) 24)
  (yD s6 es (s7++([r13]:List jI)))
  (none)
theorem Yu (s0:jR) (s3:jQ) (s4:jR) (s5:jQ) (s6:jQ) (s7:jR) (hl:af s0<=maxLen):lp wU ze (s0,((af s0:Nat):Int),0,s3,s4,s5,s6,s7)=yD s6 s0 s7:=xR wU (fun i s7=>(s0,((af s0:Nat):Int),i,s3,s4,s5,s6,s7)) (fun es i s7=>yD s6 es s7) hl (fun r i s7 h=>by unfold wU yD; simp only[h,cond_false]) (fun r i s7 e es h g w k=>by unfold wU yD; simp only[h,cond_true,g,aa,w,k]) s7
def yy:List zc->jQ->Option jQ
 | [],s6=>some s6
 | e::es,s6 =>
  (zC e.2).bind fun r6 =>
  cond (yp (af s6+af ([(e.1,r6)]:List zc)) 32)
  (yy es (s6++([(e.1,r6)]:List zc)))
  (none)
theorem Ys (s0:jQ) (s3:jQ) (s4:jR) (s5:jQ) (s6:jQ) (hl:af s0<=maxLen):lp wQ ze (s0,((af s0:Nat):Int),0,s3,s4,s5,s6)=yy s0 s6:=xR wQ (fun i s6=>(s0,((af s0:Nat):Int),i,s3,s4,s5,s6)) (fun es i s6=>yy es s6) hl (fun r i s6 h=>by unfold wQ yy; simp only[h,cond_false]) (fun r i s6 e es h g w k=>by unfold wQ yy; simp only[h,cond_true,g,aa,w,k]) s6
def zh (s0:jS) (s1:jI):List Int->Int->(List (Option jI))->Option ((Int×(List (Option jI)))⊕(Bool×(List (Option jI))))
 | [],s2,s6=>some (aT (s2,s6))
 | e::es,s2,s6 =>
  cond (decide (s2≥((af s1:Nat):Int)))
  (some (aE (false,s6)))
  (cond (decide (e≥0))
   ((gx s1 s2).bind fun e18 =>
    cond (e18 != e)
    (some (aE (false,s6)))
    (zh s0 s1 es (ag .i64 (s2+1)) s6))
   ((wu s0 s1 s2).bind fun r19 =>
    cond (!r19.2)
    (some (aE (false,s6)))
    ((vM s1 (some s2) (some r19.1)).bind fun y20 =>
     (zP e).bind fun r21 =>
     (inR r21 24).bind fun k22 =>
     (s6[k22]?).bind fun x23 =>
     cond (ck x23)
     ((inR r21 24).bind fun k24 =>
      (s6[k24]?).bind fun x25 =>
      (nn y20).bind fun p26 =>
      (inR r21 24).bind fun k27 =>
      ((bP s6 k24 (some p26))[k27]?).bind fun x28 =>
      (vi x28 y20).bind fun r29 =>
      cond (!r29)
      (some (aE (false,(bP s6 k24 (some p26)))))
      (zh s0 s1 es r19.1 (bP s6 k24 (some p26))))
     ((inR r21 24).bind fun k30 =>
      (s6[k30]?).bind fun x31 =>
      (vi x31 y20).bind fun r32 =>
      cond (!r32)
      (some (aE (false,s6)))
      (zh s0 s1 es r19.1 s6)))))
theorem u9 (s0:jS) (s1:jI) (s3:jI) (s2:Int) (s6:(List (Option jI))) (hl:af s3<=maxLen):lp q6 ze (s0,s1,s2,s3,((af s3:Nat):Int),0,s6)=zh s0 s1 s3 s2 s6:=zbd q6 (fun i s2 s6=>(s0,s1,s2,s3,((af s3:Nat):Int),i,s6)) (fun es i s2 s6=>zh s0 s1 es s2 s6) hl (fun r i s2 s6 h=>by unfold q6 zh; simp only[h,cond_false]) (fun r i s2 s6 e es h g w k=>by unfold q6 zh; simp only[h,cond_true,g,aa,w,k]) s2 s6
def zI (s3:Bool) (s4:jI) (s5:jS):List zc->Nat->Option (Unit⊕Int)
 | [],i=>some (aT ())
 | e::es,i =>
  (xM e.1 e.2 s3 s4 s5).bind fun r4 =>
  cond r4
  (some (aE (i:Int)))
  (zI s3 s4 s5 es (i+1))
theorem kf (s0:jQ) (s3:Bool) (s4:jI) (s5:jS) (hl:af s0<=maxLen):lp yW ze (s0,((af s0:Nat):Int),0,s3,s4,s5)=zI s3 s4 s5 s0 0:=tw yW (fun i=>(s0,((af s0:Nat):Int),i,s3,s4,s5)) (fun es i=>zI s3 s4 s5 es i) hl (fun r i h=>by unfold yW zI; simp only[h,cond_false]) (fun r i e es h g w k=>by unfold yW zI; simp only[h,cond_true,g,aa,w,k])
def yl (s0:jQ):List zc->Nat->Option (Unit⊕Bool)
 | [],i=>some (aT ())
 | e::es,i =>
  (gx s0 (i:Int)).bind fun e5 =>
  (Q3 e.1 e.2 e5.1 e5.2).bind fun r6 =>
  cond (!r6)
  (some (aE false))
  (yl s0 es (i+1))
theorem jA (s0:jQ) (s1:jQ) (hl:af s1<=maxLen):lp q8 ze (s0,s1,((af s1:Nat):Int),0)=yl s0 s1 0:=tw q8 (fun i=>(s0,s1,((af s1:Nat):Int),i)) (fun es i=>yl s0 es i) hl (fun r i h=>by unfold q8 yl; simp only[h,cond_false]) (fun r i e es h g w k=>by unfold q8 yl; simp only[h,cond_true,g,aa,w,k])
def zY (s0:jR):List jI->Nat->Option (Unit⊕Bool)
 | [],i=>some (aT ())
 | e::es,i =>
  (gx s0 (i:Int)).bind fun e5 =>
  (yb e e5).bind fun r6 =>
  cond (!r6)
  (some (aE false))
  (zY s0 es (i+1))
theorem kx (s0:jR) (s1:jR) (hl:af s1<=maxLen):lp qv ze (s0,s1,((af s1:Nat):Int),0)=zY s0 s1 0:=tw qv (fun i=>(s0,s1,((af s1:Nat):Int),i)) (fun es i=>zY s0 es i) hl (fun r i h=>by unfold qv zY; simp only[h,cond_false]) (fun r i e es h g w k=>by unfold qv zY; simp only[h,cond_true,g,aa,w,k])
def yO:List jU->jT->Option jT
 | [],s2=>some s2
 | e::es,s2 =>
  (vK e.2.2.2.2.2.2.2.1 e.2.2.2.2.2.2.2.2.1 e.2.2.2.2.2.2.2.2.2).bind fun r6 =>
  cond (yp (af s2+af ([(e.1,e.2.1,e.2.2.1,e.2.2.2.1,e.2.2.2.2.1,e.2.2.2.2.2.1,e.2.2.2.2.2.2.1,r6.1,r6.2.1,r6.2.2)]:List jU)) 128)
  (yO es (s2++([(e.1,e.2.1,e.2.2.1,e.2.2.2.1,e.2.2.2.2.1,e.2.2.2.2.2.1,e.2.2.2.2.2.2.1,r6.1,r6.2.1,r6.2.2)]:List jU)))
  (none)
theorem ZH (s0:jT) (s2:jT) (hl:af s0<=maxLen):lp wg ze (s0,0,s2)=yO s0 s2:=xR wg (fun i s2=>(s0,i,s2)) (fun es i s2=>yO es s2) hl (fun r i s2 h=>by unfold wg yO; simp only[h,cond_false]) (fun r i s2 e es h g w k=>by unfold wg yO; simp only[h,cond_true,g,aa,w,k]) s2
end Go.Abs.Q
