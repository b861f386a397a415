import Derived.Test.YtjapmbbledbnfaaGreatDoorQb
/-
  What the functions make of plain values, and what the law says of that.
-/
open Bool renaming and_eq_true -> ap, and_false -> cj, eq_iff_iff -> eg, false_and -> bl, false_or -> cV, not_false -> bM, not_true -> aH, or_eq_true -> bO, true_and -> aU
open Go.IntKind renaming wrap -> ah
open Int renaming le_refl -> dP, toNat -> bP
open List renaming all_eq_true -> aK, any_cons -> d8, any_eq_true -> dg, getElem?_cons_zero -> ay, getElem?_eq_getElem -> al, getElem?_eq_some_iff -> aq, length -> aa, length_cons -> au, map_cons -> aM, mem_append -> aW, mem_cons_of_mem -> ai, mem_cons_self -> am, mem_iff_getElem -> dy, mem_of_getElem? -> aO, set -> cJ
open Nat renaming le_refl -> aE, le_trans -> aF, lt_of_le_of_lt -> cZ, zero_add -> aL
open Ne renaming symm -> db
open Option renaming bind_some -> af, getD_some -> bm
namespace Go.Abs.Q
open Go Go.Abs
theorem Cg {a0:List zl} (hs:SignOk a0) {a b:List Int} {c d:Int} {ts us:List Tm} (ha:HF a0 a c ts) (hb:HF a0 b d us) (har:c=d->ts.length=us.length) (hne:a≠b):∃ r,Yu a0 a b=some r∧qT a0 a b=some r:=by
 have la:=ha.len;obtain⟨r,z,h1,h2,h3⟩:=NL hs a.length a b c d ts us (aE _) ha hb har hne zd zd (by unfold zd; omega) (by unfold zd; omega)
 refine ⟨r,h1,?_⟩;unfold qT;rw[h2,af,← h3];cases z<;>rfl
def FP (a0:List zl) (a b:List Int):Option (Int×Int) :=
 (zZ a b).bind fun r34=>cond r34 (some (1,0)) ((qT a0 a b).bind fun r35=>cond r35 (some (2,0)) ((qT a0 b a).bind fun r36=>cond r36 (some (0,0)) (some (3,0))))
theorem M3 {a0:List zl} (hs:SignOk a0) {a b:List Int} {c d:Int} {ts us:List Tm} (ha:HF a0 a c ts) (hb:HF a0 b d us) (har:c=d->ts.length=us.length):∃ k,rq a0 a b=some k∧FP a0 a b=some (k,0):=by
 have la:=ha.len;unfold rq FP;rw[ks (by omega),af,xK (by unfold maxLen; omega),af]
 by_cases he:a=b
 ·rw[decide_eq_true he]; exact ⟨1,rfl,rfl⟩
 ·rw[decide_eq_false he,cond_false,cond_false];obtain⟨r,h1,h2⟩:=Cg hs ha hb har he;rw[h1,h2,af,af];cases r with
  | true=>exact ⟨2,rfl,rfl⟩
  | false =>
   obtain⟨r',g1,g2⟩:=Cg hs hb ha (fun h=>(har h.symm).symm) (db he);rw[cond_false,cond_false,g1,g2,af,af];cases r' with
   | true=>exact ⟨0,rfl,rfl⟩
   | false=>exact ⟨3,rfl,rfl⟩
theorem Q9 (a0:List zl) (xs:List Int):∃ b,tR a0 xs=some b:=by
 unfold tR;rw[sP,af];cases wA a0 xs with
 | none=>exact ⟨_,rfl⟩
 | some ps=>exact ⟨_,rfl⟩
theorem Ou {a0:List zl} {a b:List Int} (ha:qI a0 a=true) (hb:qI a0 b=true):∃ c ts d us,HF a0 a c ts∧HF a0 b d us∧(c=d->ts.length=us.length):=by
 obtain⟨c,ts,e,rfl,ho,he,-,hl,h48,-⟩:=rA ha;obtain⟨d,us,e',rfl,ho',he',-,hl',h48',-⟩:=rA hb;refine ⟨c,ts,d,us,⟨rfl,ho,by simp only[au]; omega,by omega,fun _=>⟨e,by rw[qJ,he]⟩⟩,⟨rfl,ho',by simp only[au]; omega,by omega,fun _=>⟨e',by rw[qJ,he']⟩⟩,fun h => ?_⟩
 have:c=d:=by omega
 rw[this,he'] at he;injection he with he;rw[he] at hl';omega
theorem Ki {a0:List zl} (hs:SignOk a0) {a b:List Int} (ha:qI a0 a=true) (hb:qI a0 b=true):∃ k,rq a0 a b=some k∧vN a0 a b=some (k,0):=by
 obtain⟨c,ts,d,us,h1,h2,h3⟩:=Ou ha hb;obtain⟨k,g1,g2⟩:=M3 hs h1 h2 h3;refine ⟨k,g1,?_⟩;rw[← g2];obtain⟨b1,e1⟩:=Q9 a0 a;obtain⟨b2,e2⟩:=Q9 a0 b;unfold vN;rw[e1,af,e2,uL,ha,uL,hb];cases b1<;>cases b2<;>rfl
theorem XW (a0:List zl) (n:Bool) (r:List Int):kr a0 n r=some (qI a0 r):=by
 unfold kr;rw[uL];rfl
theorem Hg {a0:List zl} (hs:SignOk a0) {l k:zg} (hl:qI a0 l.2=true) (hk:qI a0 k.2=true):∃ w,tN a0 l.1 l.2 k.1 k.2=some w∧kg a0 l.1 l.2 k.1 k.2=some (w,0):=by
 obtain⟨w,h1,h2⟩:=Ki hs hl hk;unfold tN kg;rw[h1,af,XW,hl,af,aH,cond_false,XW,hk,af,aH,cond_false,h2,af];simp only;cases w != 1 with
 | true=>exact ⟨w,rfl,rfl⟩
 | false =>
  rw[cond_false,cond_false];cases l.1==k.1 with
  | true=>exact ⟨w,rfl,rfl⟩
  | false =>
   rw[cond_false,cond_false];cases l.1 with
   | true=>exact ⟨2,rfl,rfl⟩
   | false=>exact ⟨0,rfl,rfl⟩
def Gs (a0:List zl) (l k:zg):Bool:=(tN a0 l.1 l.2 k.1 k.2).getD 0==2
def WV (a0:List zl) (L:List zg) (k:zg):Bool:=L.any fun l=>Gs a0 l k
theorem Jv {a0:List zl} (hs:SignOk a0) {k:zg} (hk:qI a0 k.2=true):(es:List zg)->(i:Nat)->(∀ l∈es,qI a0 l.2=true)->∃ z,zI a0 k.1 k.2 es i=some z∧yt z (fun _=>decide ((-1:Int)≥0)) (fun j=>decide (j≥0))=es.any fun l=>Gs a0 l k
 | [],i,_=>⟨.inl (),rfl,rfl⟩
 | e::es,i,h=>by
  obtain⟨w,h1,h2⟩:=Hg hs (h e (am ..)) hk;obtain⟨z,g1,g2⟩:=Jv hs hk es (i+1) fun l hl=>h l (ai _ hl);unfold zI rH;have ho:Gs a0 e k=(w==2):=by unfold Gs; rw[h1]; rfl
  rw[h2,af,af,d8,ho];simp only;cases w==2 with
  | true =>
   refine ⟨.inr (i:Int),rfl,?_⟩;show decide ((i:Int)≥0)=_;rw[decide_eq_true (show (i:Int)≥0 by omega)]
   rfl
  | false=>exact ⟨z,g1,g2⟩
theorem JA {a0:List zl} (hs:SignOk a0) {L:List zg} {k:zg} (hL:∀ l∈L,qI a0 l.2=true) (hk:qI a0 k.2=true) (hl:L.length<=1000):qx L a0 k.1 k.2=some (WV a0 L k):=by
 unfold qx vU;obtain⟨z,g1,g2⟩:=Jv hs hk L 0 hL;rw[tE _ _ _ _ (by unfold maxLen; omega),g1,af]
 unfold WV;rw[← g2];cases z<;>rfl
theorem FB {a0:List zl} (hs:SignOk a0) {L:List zg} {i:Int} {k:zg} (hi:gx L i=some k) (hk:qI a0 k.2=true):(es:List zg)->(∀ l∈es,qI a0 l.2=true)->xy a0 L i es=some (cond (es.any fun l=>Gs a0 l k) (.inr false) (.inl ()))
 | [],_=>rfl
 | e::es,h=>by
  obtain⟨w,h1,h2⟩:=Hg hs (h e (am ..)) hk;unfold xy;have ho:Gs a0 e k=(w==2):=by unfold Gs; rw[h1]; rfl
  rw[hi,af,h1,af,d8,ho,FB hs hi hk es fun l hl=>h l (ai _ hl)];cases w==2<;>rfl
theorem Uj {a0:List zl} (hs:SignOk a0) {L:List zg} {i:Int} {k:zg} (hi:gx L i=some k) (hL:∀ l∈L,qI a0 l.2=true) (hl:L.length<=1000):Xp a0 L i=some (!WV a0 L k):=by
 unfold Xp WV;rw[YG _ _ _ (by unfold maxLen; omega),FB hs hi (hL k (KZ hi)) L hL,af]
 cases L.any fun l=>Gs a0 l k<;>rfl
def qi (a0:List zl) (L:List zg):List zg->Nat->List Int
 | [],_=>[]
 | e::es,i=>cond (WV a0 L e) (qi a0 L es (i+1)) ((i:Int)::qi a0 L es (i+1))
theorem GX {a0:List zl} (hs:SignOk a0) {L:List zg} (hL:∀ l∈L,qI a0 l.2=true) (hl:L.length<=1000):(es:List zg)->(i:Nat)->(out:List Int)->(∀ l∈es,l∈L)->out.length+es.length<=100000->qh L a0 es i out=some (out++qi a0 L es i)
 | [],i,out,_,_=>by simp [qh,qi]
 | e::es,i,out,h,hlen=>by
  simp only[au] at hlen;unfold qh qi;rw[JA hs hL (hL e (h e (am ..))) hl,af];cases WV a0 L e with
  | true=>rw[aH,cond_false,cond_true,GX hs hL hl es (i+1) out (fun l hl=>h l (ai _ hl)) (by omega)]
  | false =>
   rw[bM,cond_true,cond_false,zy (by simp; omega),cond_true,GX hs hL hl es (i+1) _ (fun l hl=>h l (ai _ hl)) (by simp; omega)]
   simp
theorem Jl {a0:List zl}:(es:List zg)->(i:Nat)->(∀ l∈es,qI a0 l.2=true)->zH a0 es i=some (.inl ())
 | [],i,_=>rfl
 | e::es,i,h=>by
  unfold zH rT;rw[XW,h e (am ..),af,af,aH,cond_false];exact Jl es (i+1) fun l hl=>h l (ai _ hl)
theorem TZ {a0:List zl} (hb:uf a0=true) {L:List zg} (hL:∀ l∈L,qI a0 l.2=true) (hl:L.length<=1000):Zr a0 L=some (0,qi a0 L L 0):=by
 have hs:=tD hb;unfold Zr wH vV;rw[Yd,hb,af,aH,cond_false,tC _ _ (by unfold maxLen; omega),Jl L 0 hL,af,YB _ _ _ _ (by unfold maxLen; omega),GX hs hL hl L 0 [] (fun _ h=>h) (by simp; omega)]
 rfl
def ZG (l e:zg):Bool:=(l.1 != e.1)&&decide (l.2=e.2)
theorem K8 (l e:zg):ZG l e=ZG e l:=by
 unfold ZG;rw[eg];simp only[ap,decide_eq_true_iff,bne_iff_ne];exact ⟨fun h=>⟨db h.1,h.2.symm⟩,fun h=>⟨db h.1,h.2.symm⟩⟩
theorem WH (e:zg):(es:List zg)->(i:Nat)->(∀ l∈es,l.2.length<=1000)->e.2.length<=1000->∃ z,zG e.1 e.2 es i=some z∧yt z (fun _=>decide ((-1:Int)≥0)) (fun j=>decide (j≥0))=es.any fun l=>ZG l e
 | [],i,_,_=>⟨.inl (),rfl,rfl⟩
 | l::es,i,h,he=>by
  obtain⟨z,g1,g2⟩:=WH e es (i+1) (fun l hl=>h l (ai _ hl)) he;unfold zG wW;rw[d8];have hc:ZG l e=(!(e.1==l.1)&&decide (e.2=l.2)):=by rw[K8]; rfl
  cases hb : !(e.1==l.1) with
  | false =>
   rw[hb] at hc;rw[cond_false,af,cond_false,hc,bl,cV];exact ⟨z,g1,g2⟩
  | true =>
   rw[hb] at hc;rw[cond_true,xK (by unfold maxLen; omega),af,af,hc,aU]
   cases decide (e.2=l.2) with
   | true =>
    refine ⟨.inr (i:Int),rfl,?_⟩;show decide ((i:Int)≥0)=_;rw[decide_eq_true (show (i:Int)≥0 by omega)]
    rfl
   | false=>exact ⟨z,g1,g2⟩
theorem JF {L:List zg} {e:zg} (h:∀ l∈L,l.2.length<=1000) (he:e.2.length<=1000) (hl:L.length<=1000):qp L e.1 e.2=some (L.any fun l=>ZG l e):=by
 unfold qp v7;obtain⟨z,g1,g2⟩:=WH e L 0 h he;rw[tu _ _ _ (by unfold maxLen; omega),g1,af,← g2]
 cases z<;>rfl
theorem Su {a0:List zl} {L:List zg} {T:List jI} {C:List zg} {i:Nat} {e:zg} (hi:L[i]? = some e) (h:∀ l∈L,l.2.length<=1000) (hl:L.length<=1000):∀(m j k:Nat),i - j=m->j<=i->m<k ->
  lp y0 k (a0,(i:Int),e.2,(j:Int),L,T,C)=some (cond (((L.take i).drop j).any fun l=>ZG l e) (.inr true) (.inl ())):=by
 have hil:=(aq.1 hi).1;intro m
 induction m with
 | zero =>
  intro j k hm hj hk;obtain⟨k,rfl⟩:∃ k',k=k'+1:=⟨k - 1,by omega⟩
  rw[zK];generalize lp y0 k=rec;unfold y0;have:j=i:=by omega
  subst this;rw[decide_eq_false (show ¬(j:Int)<(j:Int) by omega),cond_false,List.drop_of_length_le (by simp; omega)]
  rfl
 | succ m ih =>
  intro j k hm hj hk;obtain⟨k,rfl⟩:∃ k',k=k'+1:=⟨k - 1,by omega⟩
  rw[zK];have key:=ih (j+1) k (by omega) (by omega) (by omega)
  generalize lp y0 k=rec at key ⊢;unfold y0;have w1:ah .i64 ((j:Int)+1)=((j+1:Nat):Int):=by rw[zC]<;>omega
  obtain⟨l,hlj⟩:∃ l,L[j]? = some l:=⟨_,al (by omega)⟩
  have hlm:=h l (aO hlj);have hd:(L.take i).drop j=l::(L.take i).drop (j+1):=by
   rw[List.drop_eq_getElem_cons (by simp; omega)]
   congr 1
   rw[List.getElem_take];exact (aq.1 hlj).2
  simp only[decide_eq_true (show (j:Int)<(i:Int) by omega),cond_true,qJ,hlj,hi,af,w1]
  rw[hd,d8,key];have hc:ZG l e=(!(l.1==e.1)&&decide (l.2=e.2)):=rfl;cases hb : !(l.1==e.1) with
  | false =>
   rw[hb] at hc;rw[cond_false,hc,bl,cV]
  | true =>
   rw[hb] at hc;rw[cond_true,ks (by omega),af,hc,aU]
   cases decide (l.2=e.2)<;>rfl
def Vj (a0:List zl) (e:zg):Bool:=(xQ a0 e.1 e.2).getD false
theorem GG {a0:List zl} (hs:SignOk a0) {e:zg} (h:qI a0 e.2=true):xQ a0 e.1 e.2=some (Vj a0 e)∧∀ X Y:Option (Unit⊕Bool),
  (cond (!e.1) ((gx e.2 0).bind fun e30=>cond (e30==0) ((vJ e.2 (some 1) none).bind fun y31=>(zD a0 y31).bind fun r32=>(inR 0 (aa r32)).bind fun k33=>(r32[k33]?).bind fun x34=>(inR 1 (aa r32)).bind fun k35=>(r32[k35]?).bind fun x36=>(qX x34 x36).bind fun r37=>cond r37 X Y) Y) Y)=cond (Vj a0 e) X Y:=by
 obtain⟨n,r⟩:=e;obtain⟨c,ts,q,hr,ho,hq,-,hl,h48,-⟩:=rA h;have hr:r=(c:Int)::zc ts:=hr;subst hr;unfold Vj xQ;cases n with
 | true=>exact ⟨rfl,fun X Y=>rfl⟩
 | false =>
  simp only[cond_false,bM,cond_true,y5,ay,af];by_cases hc:c=0
  ·subst hc;have h2:ts.length=2:=by
    rw[hs.eq] at hq;injection hq with hq;subst hq;have:((ts.length:Nat):Int)=2:=hl;omega
   obtain⟨t1,t2,rfl⟩:∃ t1 t2,ts=[t1,t2]:=by
    match ts,h2 with
    | [t1,t2],_=>exact ⟨t1,t2,rfl⟩
   have hcut:=yp [t1,t2] ho;have l1:t1.codes.length<=1000:=by
    have h9:t1.codes.length<=(zc [t1,t2]).length:=tA (am ..);exact aF h9 (aF h48 (by decide))
   have e8:=wn hs (a1:=zc [t1,t2]) (aF h48 (by decide)) hcut
   have e9:=xq hs (a1:=zc [t1,t2]) (aF h48 (by decide)) hcut
   have s8:vJ (((0:Nat):Int)::zc [t1,t2]) (some 1) none=some (zc [t1,t2]):=v8 _ _;rw[aM,aM,List.map_nil] at e8 e9;generalize zc [t1,t2]=row at e8 e9 s8 ⊢;generalize t1.codes=p1 at l1 e8 e9;generalize t2.codes=p2 at e8 e9;have q1:zZ p1 p2=some (decide (p1=p2)):=xK (aF l1 (by decide))
   have q2:qX p1 p2=some (decide (p1=p2)):=ks (aF l1 (by decide))
   have i0:inR 0 (aa [p1,p2])=some 0:=rfl;have i1:inR 1 (aa [p1,p2])=some 1:=rfl;have g0:[p1,p2][0]? = some p1:=rfl;have g1:[p1,p2][1]? = some p2:=rfl;rw[show ((((0:Nat):Int)) != 0)=false from rfl,cond_false,show ((((0:Nat):Int))==0)=true from rfl]
   simp only[s8,af,e8,e9,cond_true,i0,i1,g0,g1,q1,q2,bm,implies_true,and_self]
  ·rw[show ((c:Int) != 0)=true from by simp [hc],show ((c:Int)==0)=false from by simp [hc]]
   simp only[cond_true,cond_false,bm,implies_true,and_self]
def Gg (a0:List zl) (L:List zg):Bool:=L.any fun e=>Vj a0 e||L.any fun l=>ZG l e
theorem VJ {a0:List zl} (hs:SignOk a0) {L:List zg} (hL:∀ l∈L,l.2.length<=1000) (hl:L.length<=1000):(es:List zg)->(∀ l∈es,qI a0 l.2=true)->yh a0 L es=some (cond (es.any fun e=>Vj a0 e||L.any fun l=>ZG l e) (.inr (true,0)) (.inl ()))
 | [],_=>rfl
 | e::es,h=>by
  have he:=h e (am ..);have hel:=jo he;unfold yh;rw[(GG hs he).1,af,JF hL (by omega) hl,d8,VJ hs hL hl es fun l hl=>h l (ai _ hl)]
  cases Vj a0 e with
  | true=>rfl
  | false =>
   rw[cond_false,af,cV];cases L.any fun l=>ZG l e<;>rfl
theorem Vz {a0:List zl} {L:List zg} {T:List jI} {C:List zg} (h:sx a0 L T C=true):wz a0 L T C=some (Gg a0 L,0):=by
 have hs:=tD (qw h).1;obtain⟨l1,-,-,-⟩:=I1 hs h;obtain⟨-,-,-,-,l4,-,-,-⟩:=qw h;have hA:∀ l∈L,qI a0 l.2=true:=fun l hl=>aK.1 l4 l hl;unfold wz;rw[wS,h,af,aH,cond_false,rj _ _ _ _ _ (by unfold maxLen; omega),VJ hs (fun l hl=>by have:=jo (hA l hl); omega) (by omega) L hA,af]
 unfold Gg;cases L.any fun e=>Vj a0 e||L.any fun l=>ZG l e<;>rfl
def Ie (a0:List zl) (L:List zg):List zg->Nat->Bool
 | [],_=>false
 | e::es,i=>Vj a0 e||((L.take i).any (fun l=>ZG l e)||Ie a0 L es (i+1))
theorem Hh {a0:List zl} (hs:SignOk a0) {L:List zg} {T:List jI} {C:List zg} (hA:∀ l∈L,qI a0 l.2=true) (hl:L.length<=1000):(es:List zg)->(i:Nat)->L.drop i=es->yU a0 L T C es i=some (cond (Ie a0 L es i) (.inr true) (.inl ()))
 | [],i,_=>rfl
 | e::es,i,hd=>by
  have hg:=zv hd;have hi:=yk hd;have he:=hA e (aO hg);unfold yU Ie;rw[(GG hs he).2];cases Vj a0 e with
  | true=>rfl
  | false =>
   have:=Su (a0:=a0) (T:=T) (C:=C) hg (fun l hl=>by have:=jo (hA l hl); omega) hl i 0 zd rfl (by omega) (by unfold zd; omega)
   rw[show ((0:Nat):Int)=0 from rfl,List.drop_zero] at this
   rw[cond_false,this,af,cV];cases (L.take i).any fun l=>ZG l e with
   | true=>rfl
   | false =>
    rw[cV];exact Hh hs hA hl es (i+1) (zm hd)
theorem GF {a0:List zl} {L:List zg}:(es:List zg)->(i:Nat)->(Ie a0 L es i=true↔∃(k:Nat) (e:zg),es[k]? = some e∧(Vj a0 e=true∨∃ l∈L.take (i+k),ZG l e=true))
 | [],i=>by simp [Ie]
 | e::es,i=>by
  unfold Ie;rw[bO,bO,dg,GF es (i+1)];constructor
  ·rintro (h | h | ⟨k,e',h1,h2⟩)
   ·exact ⟨0,e,rfl,.inl h⟩
   ·exact ⟨0,e,rfl,.inr h⟩
   ·exact ⟨k+1,e',by simpa using h1,by rw[show i+(k+1)=i+1+k from by omega]; exact h2⟩
  ·rintro⟨k,e',h1,h2⟩;cases k with
   | zero =>
    have:e=e':=by simpa using h1
    subst this;rcases h2 with h2 | h2
    ·exact .inl h2
    ·exact .inr (.inl h2)
   | succ k=>exact .inr (.inr ⟨k,e',by simpa using h1,by rw[show i+1+k=i+(k+1) from by omega]; exact h2⟩)
theorem EC {a0:List zl} {L:List zg}:Ie a0 L L 0=Gg a0 L:=by
 rw[eg,GF];unfold Gg;rw[dg];constructor
 ·rintro⟨k,e,h1,h2⟩;refine ⟨e,aO h1,?_⟩;rw[bO];rcases h2 with h2 | ⟨l,h2,h3⟩
  ·exact .inl h2
  ·exact .inr (dg.2 ⟨l,List.mem_of_mem_take h2,h3⟩)
 ·rintro⟨e,he,h⟩;obtain⟨k,hk,hke⟩:=dy.1 he;have hg:L[k]? = some e:=by rw[al hk,hke]
  rcases bO _ _ |>.mp h with h | h
  ·exact ⟨k,e,hg,.inl h⟩
  ·obtain⟨l,hl,hc⟩:=dg.1 h;obtain⟨j,hj,hjl⟩:=dy.1 hl;have hgj:L[j]? = some l:=by rw[al hj,hjl]
   have mem:∀{a b:Nat} {x:zg},L[a]? = some x->a<b->x∈L.take b:=fun {a b x} hx hab=>aO (i:=a) (by rw[List.getElem?_take,if_pos hab]; exact hx)
   rcases Nat.lt_trichotomy j k with hjk | hjk | hjk
   ·exact ⟨k,e,hg,.inr ⟨l,by rw[aL]; exact mem hgj hjk,hc⟩⟩
   ·exfalso;rw[hjk,hg] at hgj;injection hgj with hgj;rw[hgj] at hc;simp [ZG] at hc
   ·exact ⟨j,l,hgj,.inr ⟨e,by rw[aL]; exact mem hg hjk,by rw[K8]; exact hc⟩⟩
theorem FJ {a0:List zl} {L:List zg} {T:List jI} {C:List zg} (h:sx a0 L T C=true):Qb a0 L T C=some (Gg a0 L):=by
 have hs:=tD (qw h).1;obtain⟨l1,-,-,-⟩:=I1 hs h;obtain⟨-,-,-,-,l4,-,-,-⟩:=qw h;have hA:∀ l∈L,qI a0 l.2=true:=fun l hl=>aK.1 l4 l hl;unfold Qb;rw[Yo _ _ _ _ (by unfold maxLen; omega),Hh hs hA (by omega) L 0 rfl,af,EC]
 cases Gg a0 L<;>rfl
theorem Km (a0:List zl) (L:List zg) (T:List jI) (C:List zg):∃ t,wz a0 L T C=some t:=by
 cases h:sx a0 L T C with
 | true=>exact ⟨_,Vz h⟩
 | false =>
  refine ⟨(false,800),?_⟩;unfold wz;rw[wS,h];rfl
theorem Oj (sig:List zl) (r a i s b j t:Int) (o1:List zg) (o2:List jI) (o3:List zg) (xL:List zg) (xT:List jI) (xC:List zg) (ok:Bool) (err left:Int) (steps:List (Int×Int×Int×Int×Int×Int×Int×List zg×List jI×List zg)) (h:ok=true->err=0->sx sig xL xT xC=true) :
  qC r a i s b j t o1 o2 o3 xL xT xC ok err sig left steps=(wI sig left r a i s b j t xL xT xC ok err steps).map fun q=>(sig,q.1,q.2):=by
 unfold qC wI;by_cases he:err=0
 ·rw[show (err != 0)=false from by simp [he],cond_false,cond_false]
  cases ok with
  | false =>
   obtain⟨q,hq⟩:=Km sig xL xT xC;rw[hq];rfl
  | true =>
   have hm:=h rfl he;rw[Vz hm,af,FJ hm,aH,cond_false,cond_true,af];simp only;cases Gg sig xL with
   | true=>rfl
   | false =>
    rw[cond_false,bM,cond_true];generalize y9 _ 128=q;cases q<;>rfl
 ·rw[show (err != 0)=true from by simp [he]]
  rfl
def kO (L:List zg) (T:List jI) (C:List zg):Prop:=yr L T C L T C=some true
theorem Br:kO [] [] []:=by
 unfold kO;exact w7 (by simp) (by simp) (by simp) (by simp) (by simp) (by simp)
theorem Ny {a0:List zl} {L:List zg} {T:List jI} {C:List zg} (h:sx a0 L T C=true):sx a0 (tV L T C).1 (tV L T C).2.1 (tV L T C).2.2=true:=by
 obtain⟨Lt,Tt,Ct,rfl,rfl,rfl,hL,hT,hC⟩:=MH h;obtain⟨L1,T1,C1,ρ,e,-,-,-,hm,-⟩:=I4 h hL hT hC;rw[e];exact hm
def OkR (a0:List zl) (o:Option A1):Prop:=∃ r,o=some r∧kO r.1 r.2.1 r.2.2.2.2∧(r.2.2.1=true->r.2.2.2.1=0->sx a0 r.1 r.2.1 r.2.2.2.2=true)
theorem Kt {a0:List zl} {o:Option A1} {k:Int} (h:o=Gv k):OkR a0 o:=⟨_,h,Br,fun h=>by cases h⟩
theorem Am {a0:List zl} {σ:Sb} {L:List zg} {T:List jI} {C:List zg} {k:Int}:OkR a0 (Ke a0 σ L T C k):=by
 unfold Ke;cases hm:sx a0 (vI σ L) (T.map (uv σ)) (vI σ C) with
 | true=>exact ⟨_,rfl,Ak hm,fun _ _=>Ny hm⟩
 | false=>exact Kt rfl
theorem IQ {L:List zg} {T:List jI} {C:List zg} (h1:L.length<=1048576) (h1m:∀ l∈L,l.2.length<=1048576) (h2:T.length<=1048576) (h2m:∀ l∈T,l.length<=1048576) (h3:C.length<=1048576) (h3m:∀ l∈C,l.2.length<=1048576) :
  xO L T C=some (L,T,C)∧kO L T C:=by
 refine ⟨?_,?_⟩
 ·unfold xO;rw[kH (fun l hl=>aF (h1m l hl) (by decide)) (aF h1 (by decide)),Xl (fun l hl=>aF (h2m l hl) (by decide)) (aF h2 (by decide)),kH (fun l hl=>aF (h3m l hl) (by decide)) (aF h3 (by decide))]
  rfl
 ·have hM:1048576<=maxLen:=by decide
  exact w7 (aF h1 hM) (fun e he=>aF (h1m e he) hM) (aF h2 hM) (fun e he=>aF (h2m e he) hM) (aF h3 hM) (fun e he=>aF (h3m e he) hM)
theorem TS {L:List zg} {T:List jI} {C:List zg} (h1:Go.Abs.wt (.sl Yt) L<=1048576) (h2:Go.Abs.wt (.sl (.one (.sl (.one (.int .i64))))) T<=1048576) (h3:Go.Abs.wt (.sl Yt) C<=1048576):xO L T C=some (L,T,C)∧kO L T C:=by
 obtain⟨l1,m1⟩:=L8 h1;obtain⟨l2,m2⟩:=Uh h2;obtain⟨l3,m3⟩:=L8 h3;exact IQ l1 m1 l2 m2 l3 m3
abbrev tS:=Int×Int×Int×Int×Int×Int×Int×List zg×List jI×List zg
theorem jZ {a0:List zl} {L:List zg}:(es:List zg)->(i:Nat)->(qi a0 L es i).length<=es.length
 | [],_=>aE _
 | e::es,i=>by
  have:=jZ es (i+1) (a0:=a0) (L:=L);unfold qi;cases WV a0 L e<;>simp<;>omega
section
variable {a0:List zl} {L:List zg} {T:List jI} {C:List zg} (hmay:sx a0 L T C=true)
include hmay
end
def JR (s:tS):Prop:=kO s.2.2.2.2.2.2.2.1 s.2.2.2.2.2.2.2.2.1 s.2.2.2.2.2.2.2.2.2
theorem Kz {s:tS} (h:JR s) :
  uc s.1 s.2.1 s.2.2.1 s.2.2.2.1 s.2.2.2.2.1 s.2.2.2.2.2.1 s.2.2.2.2.2.2.1 s.2.2.2.2.2.2.2.1 s.2.2.2.2.2.2.2.2.1 s.2.2.2.2.2.2.2.2.2 s.1 s.2.1 s.2.2.1 s.2.2.2.1 s.2.2.2.2.1 s.2.2.2.2.2.1 s.2.2.2.2.2.2.1 s.2.2.2.2.2.2.2.1 s.2.2.2.2.2.2.2.2.1 s.2.2.2.2.2.2.2.2.2=some true:=by
 unfold JR kO at h;unfold uc;simp only[beq_self_eq_true,cond_true,h,af]
theorem Xa (xs:List tS) (hg:∀ s∈xs,JR s):(es:List tS)->(i:Nat)->xs.drop i=es->yi xs es i=some (.inl ())
 | [],_,_=>rfl
 | e::es,i,h=>by
  have hi:=yk h;have he:=zv h;unfold yi;rw[qJ,he,af,Kz (hg e (aO he)),af,aH,cond_false];exact Xa xs hg es (i+1) (zm h)
theorem ZK {xs:List tS} (hg:∀ s∈xs,JR s) (hl:xs.length<=maxLen):wr xs xs=some true:=by
 unfold wr;rw[show (((aa xs:Nat):Int) != ((aa xs:Nat):Int))=false from by simp,cond_false,sV _ _ hl,Xa xs hg xs 0 rfl]
 rfl
section
variable {a0:List zl} {L:List zg} {T:List jI} {C:List zg} (hmay:sx a0 L T C=true)
include hmay
end
def we (a0:jQ) (_a1:jR) (_a2:jQ) (a3:Int) (a4:Bool):Option Bool :=
 cond (decide (a3≥0))
 (cond (decide (a3<((aa a0:Nat):Int)))
  ((gx a0 a3).bind fun e4 =>
   (gx e4.2 0).bind fun e5 =>
   cond (e5==0)
   ((gx a0 a3).bind fun e6 =>
    some (e6.1==a4))
   (some false))
  (some false))
 (some false)
def jg (a0:jS) (a1:jQ) (a2:jR) (a3:jQ) (a4:jQ) (a5:jR) (a6:jQ):Option (Bool×jQ×jR×jQ) :=
 (rN a0 a1 a2 a3).bind fun r14 =>
 cond (decide (((aa r14.2:Nat):Int)>0))
 ((inR (ah .i64 (((aa r14.2:Nat):Int) - 1)) (aa r14.2)).bind fun k15 =>
  (r14.2[k15]?).bind fun x16 =>
  (rN a0 a4 a5 a6).bind fun r17 =>
  cond (decide (((aa r17.2:Nat):Int)>0))
  ((inR (ah .i64 (((aa r17.2:Nat):Int) - 1)) (aa r17.2)).bind fun k18 =>
   (r17.2[k18]?).bind fun x19 =>
   cond (decide ((ah .i64 (x19+(ah .i64 (x16+1))))>23))
   (some (false,([]:jQ),([]:jR),([]:jQ)))
   ((u4 a4 a5 a6 (ah .i64 (x16+1))).bind fun r20 =>
    some (true,r20.1,r20.2.1,r20.2.2)))
  ((u4 a4 a5 a6 (ah .i64 (x16+1))).bind fun r21 =>
   some (true,r21.1,r21.2.1,r21.2.2)))
 ((rN a0 a4 a5 a6).bind fun r22 =>
  cond (decide (((aa r22.2:Nat):Int)>0))
  ((inR (ah .i64 (((aa r22.2:Nat):Int) - 1)) (aa r22.2)).bind fun k23 =>
   (r22.2[k23]?).bind fun x24 =>
   cond (decide ((ah .i64 (x24+0))>23))
   (some (false,([]:jQ),([]:jR),([]:jQ)))
   ((u4 a4 a5 a6 0).bind fun r25 =>
    some (true,r25.1,r25.2.1,r25.2.2)))
  ((u4 a4 a5 a6 0).bind fun r26 =>
   some (true,r26.1,r26.2.1,r26.2.2)))
def ub (a0:jS) (a1:jI):Option jR :=
 (vJ a1 (some 1) none).bind fun y3 =>
 (x9 a0 y3).bind fun r4 =>
 some r4
def W6 (a0:jS) (a1:jI) (a2:jI):Option Bool :=
 (vN a0 a1 a2).bind fun r2 =>
 cond (r2.1 != 2)
 (some (r2.1 != 3))
 (some false)
def QS (a0:jS) (a1:jI) (a2:Int) (a3:jI):Option jI :=
 (uW a0 a1 a2).bind fun r5 =>
 (vJ a1 none (some a2)).bind fun y6 =>
 (vJ a1 (some r5.1) none).bind fun y7 =>
 (jG ([y6,a3,y7]:List jI)).bind fun r8 =>
 some r8
def YO (a0:jS) (a1:jQ) (a2:jR) (a3:jQ) (a4:Int) (a5:Int) (a6:jQ) (a7:jR) (a8:jQ) (a9:Int) (a10:Int):Option (jQ×jR×Bool×Int×jQ) :=
 (gx a6 a9).bind fun e28 =>
 (gx e28.2 a10).bind fun e29 =>
 cond (decide (e29<0))
 (some (([]:jQ),([]:jR),false,0,([]:jQ)))
 ((jg a0 a1 a2 a3 a6 a7 a8).bind fun r30 =>
  cond (!r30.1)
  (some (([]:jQ),([]:jR),false,1501,([]:jQ)))
  ((gx a1 a4).bind fun e31 =>
   (ub a0 e31.2).bind fun r32 =>
   (inR a9 (aa r30.2.1)).bind fun k33 =>
   (r30.2.1[k33]?).bind fun x34 =>
   (uW a0 x34.2 a10).bind fun r35 =>
   (inR a5 (aa r32)).bind fun k36 =>
   (r32[k36]?).bind fun x37 =>
   (vJ x34.2 (some a10) (some r35.1)).bind fun y38 =>
   (uy a0 x37 y38).bind fun r39 =>
   cond (r39.2.1 != 0)
   (some (([]:jQ),([]:jR),false,1502,([]:jQ)))
   (cond (!r39.1)
    (some (([]:jQ),([]:jR),false,0,([]:jQ)))
    ((inR a5 (aa r32)).bind fun k40 =>
     (r32[k40]?).bind fun x41 =>
     (Qt r39.2.2 x41).bind fun r42 =>
     (inR (ah .i64 (1 - a5)) (aa r32)).bind fun k43 =>
     (r32[k43]?).bind fun x44 =>
     (Qt r39.2.2 x44).bind fun r45 =>
     cond (decide (((aa r42:Nat):Int)>48))
     (some (([]:jQ),([]:jR),false,1502,([]:jQ)))
     (cond (decide (((aa r45:Nat):Int)>48))
      (some (([]:jQ),([]:jR),false,1502,([]:jQ)))
      ((W6 a0 r42 r45).bind fun r46 =>
       cond r46
       (some (([]:jQ),([]:jR),false,0,([]:jQ)))
       ((inR (ah .i64 (1 - a5)) (aa r32)).bind fun k47 =>
        (r32[k47]?).bind fun x48 =>
        (QS a0 x34.2 a10 x48).bind fun r49 =>
        (inR a9 (aa r30.2.1)).bind fun k50 =>
        (r30.2.1[k50]?).bind fun x51 =>
        (u9 a1 a2 a3 a4 (cJ r30.2.1 k50 (x51.1,r49)) r30.2.2.1 r30.2.2.2 (-1)).bind fun r52 =>
        (sZ r39.2.2 r52.2.1 r52.1 r52.2.2).bind fun r53 =>
        (vT a0 r53.1 r53.2.1 r53.2.2).bind fun r54 =>
        cond (r54.2.2.1 != 0)
        (some (([]:jQ),([]:jR),false,1502,([]:jQ)))
        (some (r54.1,r54.2.1,true,0,r54.2.2.2)))))))))
def Xv (a0:jS) (a1:jQ) (a2:jR) (a3:jQ) (a4:Int) (a5:Int) (a6:jQ) (a7:jR) (a8:jQ) (a9:Int) (a10:Int):Option (jQ×jR×Bool×Int×jQ) :=
 (xf a0 a1 a2 a3).bind fun r8 =>
 cond (!r8)
 (some (([]:jQ),([]:jR),false,1500,([]:jQ)))
 ((xf a0 a6 a7 a8).bind fun r9 =>
  cond (!r9)
  (some (([]:jQ),([]:jR),false,1500,([]:jQ)))
  ((we a1 a2 a3 a4 false).bind fun r10 =>
   cond (!r10)
   (some (([]:jQ),([]:jR),false,1500,([]:jQ)))
   (cond (a5 != 0)
    (cond (a5 != 1)
     (some (([]:jQ),([]:jR),false,1500,([]:jQ)))
     (cond (decide (a9<0))
      (some (([]:jQ),([]:jR),false,1500,([]:jQ)))
      (cond (decide (a9≥((aa a6:Nat):Int)))
       (some (([]:jQ),([]:jR),false,1500,([]:jQ)))
       (cond (decide (a10<1))
        (some (([]:jQ),([]:jR),false,1500,([]:jQ)))
        ((gx a6 a9).bind fun e11 =>
         cond (decide (a10≥((aa e11.2:Nat):Int)))
         (some (([]:jQ),([]:jR),false,1500,([]:jQ)))
         ((YO a0 a1 a2 a3 a4 a5 a6 a7 a8 a9 a10).bind fun r12 =>
          some (r12.1,r12.2.1,r12.2.2.1,r12.2.2.2.1,r12.2.2.2.2)))))))
    (cond (decide (a9<0))
     (some (([]:jQ),([]:jR),false,1500,([]:jQ)))
     (cond (decide (a9≥((aa a6:Nat):Int)))
      (some (([]:jQ),([]:jR),false,1500,([]:jQ)))
      (cond (decide (a10<1))
       (some (([]:jQ),([]:jR),false,1500,([]:jQ)))
       ((gx a6 a9).bind fun e13 =>
        cond (decide (a10≥((aa e13.2:Nat):Int)))
        (some (([]:jQ),([]:jR),false,1500,([]:jQ)))
        ((YO a0 a1 a2 a3 a4 a5 a6 a7 a8 a9 a10).bind fun r14 =>
         some (r14.1,r14.2.1,r14.2.2.1,r14.2.2.2.1,r14.2.2.2.2)))))))))
def ur:Option jS :=
 some ([(([61]:Str),0,2,1),(([97]:Str),1,0,1),(([98]:Str),1,0,2),(([102]:Str),1,1,1),(([103]:Str),1,2,3),(([112]:Str),0,1,1),(([114]:Str),0,2,2)]:List zl)
def xz (a0:jS) (a1:jQ) (a2:jR) (a3:jQ) (a4:Int):Option (jQ×jR×Bool×Int×jQ) :=
 (gx a1 a4).bind fun e11 =>
 (ub a0 e11.2).bind fun r12 =>
 (inR 0 (aa r12)).bind fun k13 =>
 (r12[k13]?).bind fun x14 =>
 (inR 1 (aa r12)).bind fun k15 =>
 (r12[k15]?).bind fun x16 =>
 (uy a0 x14 x16).bind fun r17 =>
 cond (r17.2.1 != 0)
 (some (([]:jQ),([]:jR),false,1502,([]:jQ)))
 (cond (!r17.1)
  (some (([]:jQ),([]:jR),false,0,([]:jQ)))
  ((u9 a1 a2 a3 a4 ([]:jQ) ([]:jR) ([]:jQ) (-1)).bind fun r18 =>
   (sZ r17.2.2 r18.2.1 r18.1 r18.2.2).bind fun r19 =>
   (vT a0 r19.1 r19.2.1 r19.2.2).bind fun r20 =>
   cond (r20.2.2.1 != 0)
   (some (([]:jQ),([]:jR),false,1502,([]:jQ)))
   (some (r20.1,r20.2.1,true,0,r20.2.2.2))))
def vh (a0:jS) (a1:jQ) (a2:jR) (a3:jQ) (a4:Int):Option (jQ×jR×Bool×Int×jQ) :=
 (xf a0 a1 a2 a3).bind fun r4 =>
 cond (!r4)
 (some (([]:jQ),([]:jR),false,1500,([]:jQ)))
 ((we a1 a2 a3 a4 true).bind fun r5 =>
  cond (!r5)
  (some (([]:jQ),([]:jR),false,1500,([]:jQ)))
  ((xz a0 a1 a2 a3 a4).bind fun r6 =>
   some (r6.1,r6.2.1,r6.2.2.1,r6.2.2.2.1,r6.2.2.2.2)))
def Z7 (a0:Int) (a1:jQ) (a2:jR) (a3:jQ):Option Bool :=
 (we a1 a2 a3 a0 false).bind fun r2 =>
 some (!r2)
def u5 (rec:(jI×Int×Int×jQ×jR×jQ)->Option (Unit⊕Int)) (x:(jI×Int×Int×jQ×jR×jQ)):Option (Unit⊕Int) :=
 cond (decide (x.2.2.1<x.2.1))
 ((gx x.1 x.2.2.1).bind fun e3 =>
  (Z7 e3 x.2.2.2.1 x.2.2.2.2.1 x.2.2.2.2.2).bind fun r4 =>
  cond r4
  (some (Sum.inr x.2.2.1))
  (rec (x.1,x.2.1,(ah .i64 (x.2.2.1+1)),x.2.2.2.1,x.2.2.2.2.1,x.2.2.2.2.2)))
 (some (Sum.inl ()))
def su (a0:jI) (a1:jQ) (a2:jR) (a3:jQ):Option Int :=
 ((lp u5 zd) (a0,((aa a0:Nat):Int),0,a1,a2,a3)).bind fun r8 =>
 yt r8
 (fun _z9=>some (-1))
 (fun z10=>some z10)
def um (rec:(Int×Int×jI×jQ×jR×jQ)->Option (Int×jI)) (x:(Int×Int×jI×jQ×jR×jQ)):Option (Int×jI) :=
 cond (decide (x.2.1<((aa x.2.2.1:Nat):Int)))
 ((inR x.2.1 (aa x.2.2.1)).bind fun k12 =>
  (x.2.2.1[k12]?).bind fun x13 =>
  (Z7 x13 x.2.2.2.1 x.2.2.2.2.1 x.2.2.2.2.2).bind fun r14 =>
  cond (!r14)
  ((inR x.1 (aa x.2.2.1)).bind fun k15 =>
   (x.2.2.1[k15]?).bind fun _x16 =>
   rec ((ah .i64 (x.1+1)),(ah .i64 (x.2.1+1)),(cJ x.2.2.1 k15 x13),x.2.2.2.1,x.2.2.2.2.1,x.2.2.2.2.2))
  (rec (x.1,(ah .i64 (x.2.1+1)),x.2.2.1,x.2.2.2.1,x.2.2.2.2.1,x.2.2.2.2.2)))
 (some (x.1,x.2.2.1))
def tQ (a0:jI) (a1:jQ) (a2:jR) (a3:jQ):Option jI :=
 (su a0 a1 a2 a3).bind fun r19 =>
 cond (r19==(-1))
 (some a0)
 (((lp um zd) (r19,(ah .i64 (r19+1)),a0,a1,a2,a3)).bind fun r20 =>
  cond (decide (0<=r20.1))
  (cond (decide (r20.1<=((aa r20.2:Nat):Int)))
   (cond (decide (((aa r20.2:Nat):Int)<=((aa r20.2:Nat):Int)))
    ((vJ (clr r20.2 (0+bP r20.1) (bP ((aa r20.2:Nat):Int) - bP r20.1)) none (some r20.1)).bind fun y21 =>
     some y21)
    (none))
   (none))
  (none))
def WR (rec:(jS×Int×Int×jI×Int×Int×Int×Int×jI×Int×Int×Int×jI×Int×Int×jQ×jR×jQ×jQ×jR×jQ×jS×Int×jT)->Option (jS×Int×jT)) (x:(jS×Int×Int×jI×Int×Int×Int×Int×jI×Int×Int×Int×jI×Int×Int×jQ×jR×jQ×jQ×jR×jQ×jS×Int×jT)):Option (jS×Int×jT) :=
 (gx x.2.2.2.2.2.2.2.2.2.2.2.2.2.2.2.2.2.2.1 x.2.2.2.2.2.2.1).bind fun e17 =>
 cond (decide (x.2.2.2.2.2.2.2.1<((aa e17.2:Nat):Int)))
 ((YO x.1 x.2.2.2.2.2.2.2.2.2.2.2.2.2.2.2.1 x.2.2.2.2.2.2.2.2.2.2.2.2.2.2.2.2.1 x.2.2.2.2.2.2.2.2.2.2.2.2.2.2.2.2.2.1 x.2.2.2.2.1 x.2.2.2.2.2.1 x.2.2.2.2.2.2.2.2.2.2.2.2.2.2.2.2.2.2.1 x.2.2.2.2.2.2.2.2.2.2.2.2.2.2.2.2.2.2.2.1 x.2.2.2.2.2.2.2.2.2.2.2.2.2.2.2.2.2.2.2.2.1 x.2.2.2.2.2.2.1 x.2.2.2.2.2.2.2.1).bind fun r18 =>
  (qC 3 x.2.1 x.2.2.2.2.1 x.2.2.2.2.2.1 x.2.2.1 x.2.2.2.2.2.2.1 x.2.2.2.2.2.2.2.1 ([]:jQ) ([]:jR) ([]:jQ) r18.1 r18.2.1 r18.2.2.2.2 r18.2.2.1 r18.2.2.2.1 x.2.2.2.2.2.2.2.2.2.2.2.2.2.2.2.2.2.2.2.2.2.1 x.2.2.2.2.2.2.2.2.2.2.2.2.2.2.2.2.2.2.2.2.2.2.1 x.2.2.2.2.2.2.2.2.2.2.2.2.2.2.2.2.2.2.2.2.2.2.2).bind fun r19 =>
  rec (x.1,x.2.1,x.2.2.1,x.2.2.2.1,x.2.2.2.2.1,x.2.2.2.2.2.1,x.2.2.2.2.2.2.1,(ah .i64 (x.2.2.2.2.2.2.2.1+1)),x.2.2.2.2.2.2.2.2.1,x.2.2.2.2.2.2.2.2.2.1,x.2.2.2.2.2.2.2.2.2.2.1,x.2.2.2.2.2.2.2.2.2.2.2.1,x.2.2.2.2.2.2.2.2.2.2.2.2.1,x.2.2.2.2.2.2.2.2.2.2.2.2.2.1,x.2.2.2.2.2.2.2.2.2.2.2.2.2.2.1,x.2.2.2.2.2.2.2.2.2.2.2.2.2.2.2.1,x.2.2.2.2.2.2.2.2.2.2.2.2.2.2.2.2.1,x.2.2.2.2.2.2.2.2.2.2.2.2.2.2.2.2.2.1,x.2.2.2.2.2.2.2.2.2.2.2.2.2.2.2.2.2.2.1,x.2.2.2.2.2.2.2.2.2.2.2.2.2.2.2.2.2.2.2.1,x.2.2.2.2.2.2.2.2.2.2.2.2.2.2.2.2.2.2.2.2.1,r19.1,r19.2.1,r19.2.2))
 (some (x.2.2.2.2.2.2.2.2.2.2.2.2.2.2.2.2.2.2.2.2.2.1,x.2.2.2.2.2.2.2.2.2.2.2.2.2.2.2.2.2.2.2.2.2.2.1,x.2.2.2.2.2.2.2.2.2.2.2.2.2.2.2.2.2.2.2.2.2.2.2))
def WP (rec:(jS×Int×Int×jI×Int×Int×jI×Int×Int×Int×jI×Int×Int×jQ×jR×jQ×jQ×jR×jQ×jS×Int×jT)->Option (jS×Int×jT)) (x:(jS×Int×Int×jI×Int×Int×jI×Int×Int×Int×jI×Int×Int×jQ×jR×jQ×jQ×jR×jQ×jS×Int×jT)):Option (jS×Int×jT) :=
 cond (decide (x.2.2.2.2.2.2.2.2.2.2.2.2.1<x.2.2.2.2.2.2.2.2.2.2.2.1))
 ((gx x.2.2.2.2.2.2.2.2.2.2.1 x.2.2.2.2.2.2.2.2.2.2.2.2.1).bind fun e26 =>
  (gx x.2.2.2.2.2.2.2.2.2.2.2.2.2.2.2.2.1 e26).bind fun e27 =>
  cond (decide (1<((aa e27.2:Nat):Int)))
  ((YO x.1 x.2.2.2.2.2.2.2.2.2.2.2.2.2.1 x.2.2.2.2.2.2.2.2.2.2.2.2.2.2.1 x.2.2.2.2.2.2.2.2.2.2.2.2.2.2.2.1 x.2.2.2.2.1 x.2.2.2.2.2.1 x.2.2.2.2.2.2.2.2.2.2.2.2.2.2.2.2.1 x.2.2.2.2.2.2.2.2.2.2.2.2.2.2.2.2.2.1 x.2.2.2.2.2.2.2.2.2.2.2.2.2.2.2.2.2.2.1 e26 1).bind fun r28 =>
   (qC 3 x.2.1 x.2.2.2.2.1 x.2.2.2.2.2.1 x.2.2.1 e26 1 ([]:jQ) ([]:jR) ([]:jQ) r28.1 r28.2.1 r28.2.2.2.2 r28.2.2.1 r28.2.2.2.1 x.2.2.2.2.2.2.2.2.2.2.2.2.2.2.2.2.2.2.2.1 x.2.2.2.2.2.2.2.2.2.2.2.2.2.2.2.2.2.2.2.2.1 x.2.2.2.2.2.2.2.2.2.2.2.2.2.2.2.2.2.2.2.2.2).bind fun r29 =>
   (((lp WR zd) (x.1,x.2.1,x.2.2.1,x.2.2.2.1,x.2.2.2.2.1,x.2.2.2.2.2.1,e26,2,x.2.2.2.2.2.2.1,x.2.2.2.2.2.2.2.1,x.2.2.2.2.2.2.2.2.1,x.2.2.2.2.2.2.2.2.2.1,x.2.2.2.2.2.2.2.2.2.2.1,x.2.2.2.2.2.2.2.2.2.2.2.1,x.2.2.2.2.2.2.2.2.2.2.2.2.1,x.2.2.2.2.2.2.2.2.2.2.2.2.2.1,x.2.2.2.2.2.2.2.2.2.2.2.2.2.2.1,x.2.2.2.2.2.2.2.2.2.2.2.2.2.2.2.1,x.2.2.2.2.2.2.2.2.2.2.2.2.2.2.2.2.1,x.2.2.2.2.2.2.2.2.2.2.2.2.2.2.2.2.2.1,x.2.2.2.2.2.2.2.2.2.2.2.2.2.2.2.2.2.2.1,r29.1,r29.2.1,r29.2.2))).bind fun r30 =>
   rec (x.1,x.2.1,x.2.2.1,x.2.2.2.1,x.2.2.2.2.1,x.2.2.2.2.2.1,x.2.2.2.2.2.2.1,x.2.2.2.2.2.2.2.1,x.2.2.2.2.2.2.2.2.1,x.2.2.2.2.2.2.2.2.2.1,x.2.2.2.2.2.2.2.2.2.2.1,x.2.2.2.2.2.2.2.2.2.2.2.1,(ah .i64 (x.2.2.2.2.2.2.2.2.2.2.2.2.1+1)),x.2.2.2.2.2.2.2.2.2.2.2.2.2.1,x.2.2.2.2.2.2.2.2.2.2.2.2.2.2.1,x.2.2.2.2.2.2.2.2.2.2.2.2.2.2.2.1,x.2.2.2.2.2.2.2.2.2.2.2.2.2.2.2.2.1,x.2.2.2.2.2.2.2.2.2.2.2.2.2.2.2.2.2.1,x.2.2.2.2.2.2.2.2.2.2.2.2.2.2.2.2.2.2.1,r30.1,r30.2.1,r30.2.2))
  (rec (x.1,x.2.1,x.2.2.1,x.2.2.2.1,x.2.2.2.2.1,x.2.2.2.2.2.1,x.2.2.2.2.2.2.1,x.2.2.2.2.2.2.2.1,x.2.2.2.2.2.2.2.2.1,x.2.2.2.2.2.2.2.2.2.1,x.2.2.2.2.2.2.2.2.2.2.1,x.2.2.2.2.2.2.2.2.2.2.2.1,(ah .i64 (x.2.2.2.2.2.2.2.2.2.2.2.2.1+1)),x.2.2.2.2.2.2.2.2.2.2.2.2.2.1,x.2.2.2.2.2.2.2.2.2.2.2.2.2.2.1,x.2.2.2.2.2.2.2.2.2.2.2.2.2.2.2.1,x.2.2.2.2.2.2.2.2.2.2.2.2.2.2.2.2.1,x.2.2.2.2.2.2.2.2.2.2.2.2.2.2.2.2.2.1,x.2.2.2.2.2.2.2.2.2.2.2.2.2.2.2.2.2.2.1,x.2.2.2.2.2.2.2.2.2.2.2.2.2.2.2.2.2.2.2.1,x.2.2.2.2.2.2.2.2.2.2.2.2.2.2.2.2.2.2.2.2.1,x.2.2.2.2.2.2.2.2.2.2.2.2.2.2.2.2.2.2.2.2.2)))
 (some (x.2.2.2.2.2.2.2.2.2.2.2.2.2.2.2.2.2.2.2.1,x.2.2.2.2.2.2.2.2.2.2.2.2.2.2.2.2.2.2.2.2.1,x.2.2.2.2.2.2.2.2.2.2.2.2.2.2.2.2.2.2.2.2.2))
def WG (rec:(jS×Int×Int×jI×Int×jI×Int×Int×Int×jQ×jR×jQ×jQ×jR×jQ×jS×Int×jT)->Option (jS×Int×jT)) (x:(jS×Int×Int×jI×Int×jI×Int×Int×Int×jQ×jR×jQ×jQ×jR×jQ×jS×Int×jT)):Option (jS×Int×jT) :=
 cond (decide (x.2.2.2.2.2.2.2.2.1<2))
 (((lp WP zd) (x.1,x.2.1,x.2.2.1,x.2.2.2.1,x.2.2.2.2.1,x.2.2.2.2.2.2.2.2.1,x.2.2.2.2.2.1,x.2.2.2.2.2.2.1,x.2.2.2.2.2.2.2.1,x.2.2.2.2.2.2.2.2.1,x.2.2.2.1,((aa x.2.2.2.1:Nat):Int),0,x.2.2.2.2.2.2.2.2.2.1,x.2.2.2.2.2.2.2.2.2.2.1,x.2.2.2.2.2.2.2.2.2.2.2.1,x.2.2.2.2.2.2.2.2.2.2.2.2.1,x.2.2.2.2.2.2.2.2.2.2.2.2.2.1,x.2.2.2.2.2.2.2.2.2.2.2.2.2.2.1,x.2.2.2.2.2.2.2.2.2.2.2.2.2.2.2.1,x.2.2.2.2.2.2.2.2.2.2.2.2.2.2.2.2.1,x.2.2.2.2.2.2.2.2.2.2.2.2.2.2.2.2.2)).bind fun r33 =>
  rec (x.1,x.2.1,x.2.2.1,x.2.2.2.1,x.2.2.2.2.1,x.2.2.2.2.2.1,x.2.2.2.2.2.2.1,x.2.2.2.2.2.2.2.1,(ah .i64 (x.2.2.2.2.2.2.2.2.1+1)),x.2.2.2.2.2.2.2.2.2.1,x.2.2.2.2.2.2.2.2.2.2.1,x.2.2.2.2.2.2.2.2.2.2.2.1,x.2.2.2.2.2.2.2.2.2.2.2.2.1,x.2.2.2.2.2.2.2.2.2.2.2.2.2.1,x.2.2.2.2.2.2.2.2.2.2.2.2.2.2.1,r33.1,r33.2.1,r33.2.2))
 (some (x.2.2.2.2.2.2.2.2.2.2.2.2.2.2.2.1,x.2.2.2.2.2.2.2.2.2.2.2.2.2.2.2.2.1,x.2.2.2.2.2.2.2.2.2.2.2.2.2.2.2.2.2))
def Wn (rec:(jS×Int×Int×jI×jI×Int×Int×jQ×jR×jQ×jQ×jR×jQ×jS×Int×jT)->Option (jS×Int×jT)) (x:(jS×Int×Int×jI×jI×Int×Int×jQ×jR×jQ×jQ×jR×jQ×jS×Int×jT)):Option (jS×Int×jT) :=
 cond (decide (x.2.2.2.2.2.2.1<x.2.2.2.2.2.1))
 ((gx x.2.2.2.2.1 x.2.2.2.2.2.2.1).bind fun e37 =>
  ((lp WG zd) (x.1,x.2.1,x.2.2.1,x.2.2.2.1,e37,x.2.2.2.2.1,x.2.2.2.2.2.1,x.2.2.2.2.2.2.1,0,x.2.2.2.2.2.2.2.1,x.2.2.2.2.2.2.2.2.1,x.2.2.2.2.2.2.2.2.2.1,x.2.2.2.2.2.2.2.2.2.2.1,x.2.2.2.2.2.2.2.2.2.2.2.1,x.2.2.2.2.2.2.2.2.2.2.2.2.1,x.2.2.2.2.2.2.2.2.2.2.2.2.2.1,x.2.2.2.2.2.2.2.2.2.2.2.2.2.2.1,x.2.2.2.2.2.2.2.2.2.2.2.2.2.2.2)).bind fun r38 =>
  rec (x.1,x.2.1,x.2.2.1,x.2.2.2.1,x.2.2.2.2.1,x.2.2.2.2.2.1,(ah .i64 (x.2.2.2.2.2.2.1+1)),x.2.2.2.2.2.2.2.1,x.2.2.2.2.2.2.2.2.1,x.2.2.2.2.2.2.2.2.2.1,x.2.2.2.2.2.2.2.2.2.2.1,x.2.2.2.2.2.2.2.2.2.2.2.1,x.2.2.2.2.2.2.2.2.2.2.2.2.1,r38.1,r38.2.1,r38.2.2))
 (some (x.2.2.2.2.2.2.2.2.2.2.2.2.2.1,x.2.2.2.2.2.2.2.2.2.2.2.2.2.2.1,x.2.2.2.2.2.2.2.2.2.2.2.2.2.2.2))
def DO (a0:jS) (a1:jQ) (a2:jR) (a3:jQ) (a4:Int) (a5:jQ) (a6:jR) (a7:jQ) (a8:Int):Option (Int×Int×jT) :=
 (xf a0 a1 a2 a3).bind fun r40 =>
 cond (!r40)
 (some (0,1500,([]:jT)))
 ((xf a0 a5 a6 a7).bind fun r41 =>
  cond (!r41)
  (some (0,1500,([]:jT)))
  ((Zr a0 a1).bind fun r42 =>
   (Zr a0 a5).bind fun r43 =>
   (tQ r42.2 a1 a2 a3).bind fun r44 =>
   ((lp Wn zd) (a0,a4,a8,r43.2,r44,((aa r44:Nat):Int),0,a1,a2,a3,a5,a6,a7,a0,0,([]:jT))).bind fun r45 =>
   some (r45.2.1,0,r45.2.2)))
def ZZ:Option Bool :=
 (ur).bind fun r19 =>
 (Xv r19 ([(false,([0,3,(-1),1]:List Int))]:List zg) ([]:jR) ([]:jQ) 0 0 ([(false,([5,3,2]:List Int))]:List zg) ([([(-1)]:List Int)]:List jI) ([]:jQ) 0 1).bind fun r20 =>
 (ur).bind fun r21 =>
 (Xv r21 ([(false,([0,3,(-1),1]:List Int))]:List zg) ([]:jR) ([]:jQ) 0 1 ([(false,([5,3,2]:List Int))]:List zg) ([([(-1)]:List Int)]:List jI) ([]:jQ) 0 2).bind fun r22 =>
 (ur).bind fun r23 =>
 (vh r23 ([(true,([0,(-1),2]:List Int))]:List zg) ([([(-1)]:List Int)]:List jI) ([]:jQ) 0).bind fun r24 =>
 (ur).bind fun r25 =>
 (DO r25 ([(false,([0,3,(-1),1]:List Int))]:List zg) ([]:jR) ([]:jQ) 1 ([(false,([5,3,2]:List Int))]:List zg) ([([(-1)]:List Int)]:List jI) ([]:jQ) 2).bind fun r26 =>
 (ur).bind fun r27 =>
 (vh r27 ([(false,([0,3,(-1),1]:List Int))]:List zg) ([]:jR) ([]:jQ) 0).bind fun r28 =>
 cond r20.2.2.1
 ((tB r20.2.2.2.1).bind fun r29 =>
  cond (r29==0)
  ((yr r20.1 r20.2.1 r20.2.2.2.2 ([(false,([5,1]:List Int))]:List zg) ([([(-1)]:List Int)]:List jI) ([]:jQ)).bind fun r30 =>
   cond r30
   (cond (!r22.2.2.1)
    ((tB r22.2.2.2.1).bind fun r31 =>
     cond (r31==0)
     (cond r24.2.2.1
      ((tB r24.2.2.2.1).bind fun r32 =>
       cond (r32==0)
       ((yr r24.1 r24.2.1 r24.2.2.2.2 ([]:jQ) ([([2]:List Int)]:List jI) ([]:jQ)).bind fun r33 =>
        cond r33
        ((tB r26.2.1).bind fun r34 =>
         cond (r34==0)
         (cond (r26.1==0)
          ((wr r26.2.2 ([(3,1,0,0,2,0,1,([(false,([5,1]:List Int))]:List zg),([([(-1)]:List Int)]:List jI),([]:jQ))]:List jU)).bind fun r35 =>
           cond r35
           ((tB r28.2.2.2.1).bind fun r36 =>
            some (r36==1500))
           (some false))
          (some false))
         (some false))
        (some false))
       (some false))
      (some false))
     (some false))
    (some false))
   (some false))
  (some false))
 (some false)
def xp (a0:jS) (a1:jQ) (a2:jR) (a3:jQ) (a4:Int):Option (jQ×jR×Bool×Int×jQ) :=
 (ZA a0 a1 a2 a3).bind fun r16 =>
 cond (!r16)
 (some (([]:jQ),([]:jR),false,1500,([]:jQ)))
 ((rI a1 a2 a3 a4).bind fun r17 =>
  cond (!r17)
  (some (([]:jQ),([]:jR),false,1500,([]:jQ)))
  ((gx a1 a4).bind fun e18 =>
   cond (!e18.1)
   (some (([]:jQ),([]:jR),false,1500,([]:jQ)))
   ((gx a1 a4).bind fun e19 =>
    (gx e19.2 0).bind fun e20 =>
    cond (e20 != 0)
    (some (([]:jQ),([]:jR),false,1500,([]:jQ)))
    ((gx a1 a4).bind fun e21 =>
     (vJ e21.2 (some 1) none).bind fun y22 =>
     (zD a0 y22).bind fun r23 =>
     (inR 0 (aa r23)).bind fun k24 =>
     (r23[k24]?).bind fun x25 =>
     (inR 1 (aa r23)).bind fun k26 =>
     (r23[k26]?).bind fun x27 =>
     (vM a0 x25 x27).bind fun r28 =>
     cond (!r28.2.1)
     (some (([]:jQ),([]:jR),false,1502,([]:jQ)))
     (cond (!r28.1)
      (some (([]:jQ),([]:jR),false,0,([]:jQ)))
      ((tx a1 a4).bind fun r29 =>
       (Zz a0 r28.2.2 r29 a2 a3).bind fun r30 =>
       cond (!r30.2.2.1)
       (some (([]:jQ),([]:jR),false,1502,([]:jQ)))
       (some (r30.1,r30.2.1,true,0,r30.2.2.2))))))))
def qF (rec:(jS×Int×jI×Int×Int×jQ×jR×jQ×jS×Int×jT)->Option (jS×Int×jT)) (x:(jS×Int×jI×Int×Int×jQ×jR×jQ×jS×Int×jT)):Option (jS×Int×jT) :=
 cond (decide (x.2.2.2.2.1<x.2.2.2.1))
 ((gx x.2.2.1 x.2.2.2.2.1).bind fun e15 =>
  (we x.2.2.2.2.2.1 x.2.2.2.2.2.2.1 x.2.2.2.2.2.2.2.1 e15 true).bind fun r16 =>
  cond r16
  ((xz x.1 x.2.2.2.2.2.1 x.2.2.2.2.2.2.1 x.2.2.2.2.2.2.2.1 e15).bind fun r17 =>
   (qC 4 x.2.1 e15 0 (-1) 0 0 ([]:jQ) ([]:jR) ([]:jQ) r17.1 r17.2.1 r17.2.2.2.2 r17.2.2.1 r17.2.2.2.1 x.2.2.2.2.2.2.2.2.1 x.2.2.2.2.2.2.2.2.2.1 x.2.2.2.2.2.2.2.2.2.2).bind fun r18 =>
   rec (x.1,x.2.1,x.2.2.1,x.2.2.2.1,(ah .i64 (x.2.2.2.2.1+1)),x.2.2.2.2.2.1,x.2.2.2.2.2.2.1,x.2.2.2.2.2.2.2.1,r18.1,r18.2.1,r18.2.2))
  (rec (x.1,x.2.1,x.2.2.1,x.2.2.2.1,(ah .i64 (x.2.2.2.2.1+1)),x.2.2.2.2.2.1,x.2.2.2.2.2.2.1,x.2.2.2.2.2.2.2.1,x.2.2.2.2.2.2.2.2.1,x.2.2.2.2.2.2.2.2.2.1,x.2.2.2.2.2.2.2.2.2.2)))
 (some (x.2.2.2.2.2.2.2.2.1,x.2.2.2.2.2.2.2.2.2.1,x.2.2.2.2.2.2.2.2.2.2))
def qM (a0:jS) (a1:jQ) (a2:jR) (a3:jQ) (a4:Int):Option (Int×Int×jT) :=
 (xf a0 a1 a2 a3).bind fun r20 =>
 cond (!r20)
 (some (0,1500,([]:jT)))
 ((Zr a0 a1).bind fun r21 =>
  ((lp qF zd) (a0,a4,r21.2,((aa r21.2:Nat):Int),0,a1,a2,a3,a0,0,([]:jT))).bind fun r22 =>
  some (r22.2.1,0,r22.2.2))
def qd (rec:(jS×Int×Int×Int×jQ×jR×jQ×jT)->Option (Int×jT)) (x:(jS×Int×Int×Int×jQ×jR×jQ×jT)):Option (Int×jT) :=
 cond (decide (x.2.2.2.1<((aa x.2.2.2.2.1:Nat):Int)))
 ((gx x.2.2.2.2.1 x.2.2.2.1).bind fun e14 =>
  cond e14.1
  ((gx x.2.2.2.2.1 x.2.2.2.1).bind fun e15 =>
   (gx e15.2 0).bind fun e16 =>
   cond (e16==0)
   ((Xp x.1 x.2.2.2.2.1 x.2.2.2.1).bind fun r17 =>
    cond r17
    ((xp x.1 x.2.2.2.2.1 x.2.2.2.2.2.1 x.2.2.2.2.2.2.1 x.2.2.2.1).bind fun r18 =>
     (wI x.1 x.2.2.1 4 x.2.1 x.2.2.2.1 0 (-1) 0 0 r18.1 r18.2.1 r18.2.2.2.2 r18.2.2.1 r18.2.2.2.1 x.2.2.2.2.2.2.2).bind fun r19 =>
     rec (x.1,x.2.1,r19.1,(ah .i64 (x.2.2.2.1+1)),x.2.2.2.2.1,x.2.2.2.2.2.1,x.2.2.2.2.2.2.1,r19.2))
    (rec (x.1,x.2.1,x.2.2.1,(ah .i64 (x.2.2.2.1+1)),x.2.2.2.2.1,x.2.2.2.2.2.1,x.2.2.2.2.2.2.1,x.2.2.2.2.2.2.2)))
   (rec (x.1,x.2.1,x.2.2.1,(ah .i64 (x.2.2.2.1+1)),x.2.2.2.2.1,x.2.2.2.2.2.1,x.2.2.2.2.2.2.1,x.2.2.2.2.2.2.2)))
  (rec (x.1,x.2.1,x.2.2.1,(ah .i64 (x.2.2.2.1+1)),x.2.2.2.2.1,x.2.2.2.2.2.1,x.2.2.2.2.2.2.1,x.2.2.2.2.2.2.2)))
 (some (x.2.2.1,x.2.2.2.2.2.2.2))
def xw (a0:jS) (a1:jQ) (a2:jR) (a3:jQ) (a4:Int):Option (Int×Int×jT) :=
 (ZA a0 a1 a2 a3).bind fun r21 =>
 cond (!r21)
 (some (0,1500,([]:jT)))
 (((lp qd zd) (a0,a4,0,0,a1,a2,a3,([]:jT))).bind fun r22 =>
  some (r22.1,0,r22.2))
def yn (a0:jS) (a1:jQ) (a2:jR) (a3:jQ) (a4:Int) (a5:Int):Option Bool :=
 (xO a1 a2 a3).bind fun r12 =>
 (vh a0 a1 a2 a3 a4).bind fun r13 =>
 (xp a0 a1 a2 a3 a4).bind fun r14 =>
 (qM a0 a1 a2 a3 a5).bind fun r15 =>
 (xw a0 a1 a2 a3 a5).bind fun r16 =>
 (yr r13.1 r13.2.1 r13.2.2.2.2 r14.1 r14.2.1 r14.2.2.2.2).bind fun r17 =>
 cond (!r17)
 (some false)
 (cond (!(r13.2.2.1==r14.2.2.1))
  (some false)
  ((tB r13.2.2.2.1).bind fun r18 =>
   cond (r18 != r14.2.2.2.1)
   (some false)
   ((wr r15.2.2 r16.2.2).bind fun r19 =>
    cond (!r19)
    (some false)
    (cond (r15.1 != r16.1)
     (some false)
     ((tB r15.2.1).bind fun r20 =>
      cond (r20 != r16.2.1)
      (some false)
      ((yr a1 a2 a3 r12.1 r12.2.1 r12.2.2).bind fun r21 =>
       cond r21
       ((ZZ).bind fun r22 =>
        some r22)
       (some false)))))))
inductive RT (t u:Tm):Tm->Tm->Prop
 | here:RT t u t u
 | arg (c:Nat) (l r:List Tm) {a b:Tm}:RT t u a b->RT t u (.f c (l++a::r)) (.f c (l++b::r))
theorem RT.ok {a0:List zl} {N:Nat} {t u a b:Tm} (h:RT t u a b) (hu:u.ok a0 N) (ha:a.ok a0 N):b.ok a0 N:=by
 induction h with
 | here=>exact hu
 | arg c l r h ih =>
  refine ⟨by have:=ha.1; simpa using this,vZ.2 fun w hw => ?_⟩
  have h2:=vZ.1 ha.2;rcases aW.1 hw with hw | hw
  ·exact h2 w (List.mem_append_left _ hw)
  ·rcases List.mem_cons.1 hw with rfl | hw
   ·exact ih (h2 _ (by simp))
   ·exact h2 w (by simp [hw])
theorem uT (t:Tm):t.codes=zc [t]:=by simp [zc]
theorem MQ {a0:List zl} {A:List Int} (h:qI a0 A=true) (h0:gx A 0=some 0):∃ s0 s1:Tm,A=0::zc [s0,s1]∧s0.ok a0 24∧s1.ok a0 24∧(zc [s0,s1]).length<=48:=by
 obtain⟨c,ts,e,rfl,ho,he,-,hlen,hl48,hb⟩:=rA h;rw[y5,ay] at h0;injection h0 with h0;obtain rfl:c=0:=by omega
 rw[(tD hb).eq] at he;injection he with he;subst he
 match ts,hlen,ho,hl48 with
 | [],hlen,_,_=>exact absurd hlen (by decide)
 | [_],hlen,_,_=>exact absurd hlen (by show ¬(((1:Nat):Int)=(2:Int)); decide)
 | _::_::_::_,hlen,_,_=>simp only[au] at hlen; exact absurd hlen (by show ¬(_=(2:Int)); omega)
 | [s0,s1],_,ho,hl48=>exact ⟨s0,s1,rfl,ho.1,ho.2.1,hl48⟩
theorem M5 {a0:List zl} (hs:SignOk a0) {s0 s1:Tm} (h0:s0.ok a0 24) (h1:s1.ok a0 24) (hl:(zc [s0,s1]).length<=48):ub a0 (0::zc [s0,s1])=some [s0.codes,s1.codes]∧zD a0 (zc [s0,s1])=some [s0.codes,s1.codes]:=by
 have hc:=yp (a0:=a0) [s0,s1] ⟨h0,h1,trivial⟩;refine ⟨?_,xq hs (by omega) hc⟩
 unfold ub;rw[v8,af,wn hs (by omega) hc]
 rfl
def eqB (L:List zg) (i:Int) (neg:Bool):Bool:=vr L i&&(match gx L i with
 | some l=>(gx l.2 0==some 0)&&(l.1==neg)
 | none=>false)
theorem MN {L:List zg} {i:Int} {neg:Bool} (h:eqB L i neg=true):∃ A,gx L i=some (neg,A)∧gx A 0=some 0:=by
 unfold eqB at h;cases hp:vr L i with
 | false=>rw[hp] at h; cases h
 | true =>
  rw[hp,aU] at h;cases hg:gx L i with
  | none=>rw[hg] at h; cases h
  | some l =>
   rw[hg] at h;simp only[ap,beq_iff_eq] at h;exact ⟨l.2,by rw[← h.2],h.1⟩
theorem Lo {L:List zg} {i:Int} {n neg:Bool} {A:List Int} (h:gx L i=some (n,A)) (hp:vr L i=true):eqB L i neg=((gx A 0==some 0)&&(n==neg)):=by
 unfold eqB;rw[hp,h,aU]
theorem XR {a0:List zl} {A:List Int} (h:qI a0 A=true):∃ c:Nat,gx A 0=some (c:Int):=by
 obtain⟨c,ts,e,rfl,-⟩:=rA h;exact ⟨c,by rw[y5]; rfl⟩
theorem kF {a0:List zl} {L:List zg} (hL:∀ l∈L,qI a0 l.2=true) (T:List jI) (C:List zg) (i:Int) (neg:Bool):we L T C i neg=some (eqB L i neg):=by
 unfold we;by_cases h0:i≥0
 ·rw[decide_eq_true h0,cond_true];by_cases h1:i<((aa L:Nat):Int)
  ·have hp:vr L i=true:=by unfold vr; simp only[ap,decide_eq_true_eq]; exact ⟨h0,h1⟩
   obtain⟨⟨n,A⟩,hg⟩:=Jk hp;obtain⟨c,hc⟩:=XR (hL _ (KZ hg));rw[decide_eq_true h1,cond_true,hg,af,hc,af,af,Lo hg hp,hc];by_cases e:(c:Int)=0
   ·rw[e]; rfl
   ·rw[show ((c:Int)==0)=false by simpa using e,show (some (c:Int)==some 0)=false by simpa using e]; rfl
  ·have hp:vr L i=false:=by unfold vr; rw[decide_eq_false h1,cj]
   rw[decide_eq_false h1,cond_false];unfold eqB;rw[hp]; rfl
 ·have hp:vr L i=false:=by unfold vr; rw[decide_eq_false h0,bl]
  rw[decide_eq_false h0,cond_false];unfold eqB;rw[hp]; rfl
theorem zfy (o:Option A1):(o.bind fun r=>some (r.1,r.2.1,r.2.2.1,r.2.2.2.1,r.2.2.2.2))=o:=by cases o<;>rfl
theorem G1 {a0:List zl} {L:List zg} {T:List jI} {C:List zg} (h:sx a0 L T C=true) {i:Int} (he:eqB L i true=true) :
  ∃ A s0 s1,gx L i=some (true,A)∧A=0::zc [s0,s1]∧s0.ok a0 24∧s1.ok a0 24∧∃ o,xz a0 L T C i=o∧xp a0 L T C i=o ∧
   ((∃ k,o=Gv k)∨∃ σ,Mgu σ ([s0].zip [s1])∧(∀ x,x<24->(σ x).ok a0 24)∧o=Ke a0 σ (qH i L 0) T C 1502):=by
 obtain⟨A,hi,h0⟩:=MN he;obtain⟨hsb,l1,l2,l3,l4,l5,l6,-⟩:=qw h;have hs:=tD hsb;obtain⟨s0,s1,rfl,ok0,ok1,hA48⟩:=MQ (aK.1 l4 _ (KZ hi)) h0;obtain⟨sd1,sd2⟩:=M5 hs ok0 ok1 hA48;have hcd:=Fz hs h;have hs0:s0.codes.length+s1.codes.length<=48:=by simpa[zc] using hA48
 refine ⟨_,s0,s1,hi,rfl,ok0,ok1,?_⟩;have hpi:vr L i=true:=by
  unfold eqB at he;cases hp:vr L i with
  | true=>rfl
  | false=>rw[hp] at he; cases he
 have fin:∀{o1 o2:Option A1} {o:Option A1} {P:Option A1->Prop},o1=o->o2=o->P o->∃ o,o1=o∧o2=o∧P o:=fun h1 h2 h3=>⟨_,h1,h2,h3⟩;unfold xz xp;rw[uK,h,Dv,hpi,hi];simp only[af,aH,cond_false,h0,bne_self_eq_false,v8,sd1,sd2,show inR 0 ([s0.codes,s1.codes]).length=some 0 from rfl,show inR 1 ([s0.codes,s1.codes]).length=some 1 from rfl,ay,List.getElem?_cons_succ]
 rw[uT s0,uT s1];rcases AP hs (xs:=zc [s0]) (ys:=zc [s1]) rfl rfl ⟨ok0,trivial⟩ ⟨ok1,trivial⟩ hsb (by rw[← uT]; omega) (by rw[← uT]; omega) with ⟨hu,hno⟩ | ⟨-,σ,hm,hok,hu⟩
 ·rcases YX hs (ts:=[s0]) (us:=[s1]) ⟨ok0,trivial⟩ ⟨ok1,trivial⟩ (by rw[← uT]; omega) (by rw[← uT]; omega) with ⟨tg,-⟩ | ⟨-,σ',hm',tg⟩
  ·rw[hu,tg];exact fin (o:=Gv 0) rfl rfl (.inl ⟨_,rfl⟩)
  ·exact absurd hm'.sol (hno.resolve_left (fun h=>h rfl) σ')
 ·rcases YX hs (ts:=[s0]) (us:=[s1]) ⟨ok0,trivial⟩ ⟨ok1,trivial⟩ (by rw[← uT]; omega) (by rw[← uT]; omega) with ⟨tg,hno⟩ | ⟨-,σ',hm',tg⟩
  ·exact absurd hm.sol (hno.resolve_left (fun h=>h rfl) σ)
  ·have:=hm.unique hm';subst this;rw[hu,tg];cases hsh:xR σ (List.range 24) with
   | false=>exact fin (o:=Gv 1502) rfl rfl (.inl ⟨_,rfl⟩)
   | true =>
    simp only[cond_true,af,show ((0:Int) != 0)=false from rfl,cond_false,aH]
    have hwl:=Z5 i L 0;have cW:∀ l∈qH i L 0,Cds l.2:=fun l hl=>hcd _ (jC (Ya L 0 hl));have cT:∀ r∈T,Cds r:=fun r hr=>hcd _ (j9 hr);have cC:∀ l∈C,Cds l.2:=fun l hl=>hcd _ (ki hl);rw[JZ hpi (by omega),af,W7 i (-1) (by omega) (by omega) (by omega) (by simp) (by simp) (by simp),af]
    simp only[List.append_nil,qH];refine fin ?_ (Fr (a0:=a0) hs hsh cW cT cC (by omega) (by omega) (by omega) 1502) (.inr ⟨σ,hm,hok,rfl⟩)
    rw[zc7 hsh cW cT cC (by omega) (by omega) (by omega),af,Xi,af]
    unfold Ke;cases sx a0 (vI σ (qH i L 0)) (T.map (uv σ)) (vI σ C) with
    | true=>rfl
    | false=>rfl
theorem Zk {a0:List zl} {L:List zg} {T:List jI} {C:List zg} (h:sx a0 L T C=true) {i:Int} (he:eqB L i true=true):xp a0 L T C i=xz a0 L T C i∧OkR a0 (xz a0 L T C i):=by
 obtain⟨A,s0,s1,-,-,-,-,o,o1,o2,o3⟩:=G1 h he;rw[o1,o2];refine ⟨rfl,?_⟩;rcases o3 with ⟨k,h⟩ | ⟨σ,-,-,h⟩
 ·exact Kt h
 ·rw[h]; exact Am
theorem IJ (a0:List zl) (L:List zg) (T:List jI) (C:List zg) (i:Int):xp a0 L T C i=vh a0 L T C i∧OkR a0 (vh a0 L T C i):=by
 have bad:∀{o o':Option A1} {k:Int},o=Gv k->o'=Gv k->o=o'∧OkR a0 o':=fun h h'=>⟨h.trans h'.symm,Kt h'⟩;unfold vh;rw[wS,af];cases h:sx a0 L T C with
 | false=>unfold xp; rw[uK,h]; exact bad (k:=1500) rfl rfl
 | true =>
  have hL:∀ l∈L,qI a0 l.2=true:=fun l hl=>aK.1 (qw h).2.2.2.2.1 l hl;rw[aH,cond_false,kF hL,af];cases he:eqB L i true with
  | true =>
   rw[aH,cond_false,zfy];exact Zk h he
  | false =>
   refine bad (k:=1500) ?_ rfl;unfold xp;rw[uK,h,af,Dv,af];cases hp:vr L i with
   | false=>rfl
   | true =>
    obtain⟨⟨n,A⟩,hg⟩:=Jk hp;obtain⟨c,hc⟩:=XR (hL _ (KZ hg));rw[Lo hg hp,hc] at he;rw[hg,aH,cond_false,cond_false,af];cases n with
    | false=>rfl
    | true =>
     simp only[af,hc,aH,cond_false];have hcc:(c:Int)≠0:=fun e=>by rw[e] at he; exact absurd he (by decide)
     rw[show ((c:Int) != 0)=true by simpa using hcc]
     rfl
section
variable {a0:List zl} {L:List zg} (hL:∀ l∈L,qI a0 l.2=true) (T:List jI) (C:List zg)
include hL
end
section
variable (a0:List zl) (L:List zg) (T:List jI) (C:List zg) (a b:Int) (L':List zg) (T':List jI) (C':List zg)
def zcP (j:Int):Nat:=match gx L' j with
 | some l=>l.2.length
 | none=>0
variable {a0 L T C a b L' T' C'} (h:sx a0 L T C=true) (h':sx a0 L' T' C'=true)
include h h'
omit h h' in
theorem Li {α β γ:Type} (o:Option α) (g:α->β) (k:β->Option γ):(o.map g).bind k=o.bind fun x=>k (g x):=by cases o<;>rfl
omit h h' in
theorem Th {α β γ:Type} (o:Option α) (g:β->γ) (k:α->Option β):(o.bind k).map g=o.bind fun x=>(k x).map g:=by cases o<;>rfl
end
structure Inv (P:tS->Prop) (n:Nat) (q:Int×List tS):Prop where
 low:0<=q.1
 cnt:q.1<=(n:Int)
 len:q.2.length<=n
 all:∀ s∈q.2,P s
theorem Inv.more {P:tS->Prop} {n m:Nat} {q:Int×List tS} (h:Inv P n q) (hm:n<=m):Inv P m q:=⟨h.low,by have:=h.cnt; omega,by have:=h.len; omega,h.all⟩
theorem Ot {P:tS->Prop} {n:Nat} {sig:List zl} {c r a i s b j t:Int} {xL:List zg} {xT:List jI} {xC:List zg} {ok:Bool} {err:Int} {st:List tS} (hm:ok=true->err=0->sx sig xL xT xC=true) (hP:ok=true->err=0->P (r,a,i,s,b,j,t,xL,xT,xC)) (h:Inv P n (c,st)) (hn:n<=100000) :
  ∃ q,wI sig c r a i s b j t xL xT xC ok err st=some q∧Inv P (n+1) q:=by
 obtain⟨h1,h2,h3,h4⟩:=h;simp only at h1 h2 h3 h4;unfold wI;by_cases he:err=0
 ·rw[show (err != 0)=false from by simp [he],cond_false]
  have keep:Inv P (n+1) (c,st):=⟨h1,by simp only; omega,by simp only; omega,h4⟩
  cases ok with
  | false=>exact ⟨_,rfl,keep⟩
  | true =>
   rw[cond_true,FJ (hm rfl he),af];cases Gg sig xL with
   | true=>exact ⟨_,rfl,keep⟩
   | false =>
    rw[bM,cond_true,zy (show (aa st+([(r,a,i,s,b,j,t,xL,xT,xC)]:List tS).length)*128<=140737488351232 by simp; omega),cond_true]
    refine ⟨_,rfl,h1,by simp only; omega,by simp; omega,fun s hs => ?_⟩
    rcases aW.1 hs with hs | hs
    ·exact h4 s hs
    ·rw[List.mem_singleton.1 hs]; exact hP rfl he
 ·rw[show (err != 0)=true from by simp [he],cond_true]
  have w:ah .i64 (c+1)=c+1:=by rw[zC]<;>omega
  rw[w];exact ⟨_,rfl,by simp only; omega,by simp only; omega,by simp only; omega,h4⟩
section
variable {a0:List zl} {L:List zg} {T:List jI} {C:List zg} {a b:Int} {L':List zg} {T':List jI} {C':List zg} (h:sx a0 L T C=true) (h':sx a0 L' T' C'=true)
 {P:tS->Prop} (hP:∀(i side j:Int) (at':Nat) (r:A1),eqB L i false=true->(side=0∨side=1)->0<=j->j<L'.length->1<=at'->at'<zcP L' j->Xv a0 L T C i side L' T' C' j (at':Int)=some r->r.2.2.1=true->r.2.2.2.1=0->sx a0 r.1 r.2.1 r.2.2.2.2=true->kO r.1 r.2.1 r.2.2.2.2->P (3,a,i,side,b,j,(at':Int),r.1,r.2.1,r.2.2.2.2))
include h h' hP
end
theorem Ve:ZZ=some true:=by kernel_rfl
section
variable (a0:List zl) (L:List zg) (T:List jI) (C:List zg) (a:Int)
def NO (i c:Int) (st:List tS):Option (Int×List tS) :=
 (xz a0 L T C i).bind fun r=>wI a0 c 4 a i 0 (-1) 0 0 r.1 r.2.1 r.2.2.2.2 r.2.2.1 r.2.2.2.1 st
def rGo:List Int->Int->List tS->Option (Int×List tS)
 | [],c,st=>some (c,st)
 | i::is,c,st=>cond (eqB L i true) ((NO a0 L T C a i c st).bind fun q=>rGo is q.1 q.2) (rGo is c st)
variable {a0 L T C a} (h:sx a0 L T C=true)
include h
theorem R9 {is:List Int} (hil:is.length<=1000):(es:List Int)->(n k:Nat)->is.drop n=es->es.length<k->(c:Int)->(st:List tS) ->
  lp qF k (a0,a,is,((aa is:Nat):Int),(n:Int),L,T,C,a0,c,st)=(rGo a0 L T C a es c st).map fun q=>(a0,q.1,q.2)
 | _,_,0,_,hk,_,_=>by omega
 | [],n,k+1,hn,hk,c,st=>by
  rw[zK];generalize lp qF k=rec;unfold qF;simp only[sr (wc hn),cond_false];rfl
 | i::es,n,k+1,hn,hk,c,st=>by
  have hlt:=yk hn;have hL:∀ l∈L,qI a0 l.2=true:=fun l hl=>aK.1 (qw h).2.2.2.2.1 l hl;have ih:=R9 hil es (n+1) k (zm hn) (by simpa using hk)
  rw[zK];generalize lp qF k=rec at ih ⊢;unfold qF rGo;simp only[kv hlt,cond_true,qJ,zv hn,af,jm hlt (show is.length<=maxLen by unfold maxLen; omega),kF hL]
  cases he:eqB L i true with
  | false=>rw[cond_false,cond_false]; exact ih c st
  | true =>
   obtain⟨r,e1,-,e3⟩:=(Zk h he).2;rw[cond_true,cond_true];unfold NO;rw[e1,af,af,Oj a0 4 a i 0 (-1) 0 0 [] [] [] _ _ _ _ _ c st e3,Li,Th]
   congr 1
   funext q
   exact ih q.1 q.2
theorem zc8:(es:List zg)->(n k:Nat)->L.drop n=es->es.length<k->(c:Int)->(st:List tS) ->
  lp qd k (a0,a,c,(n:Int),L,T,C,st)=rGo a0 L T C a (qi a0 L es n) c st
 | _,_,0,_,hk,_,_=>by omega
 | [],n,k+1,hn,hk,c,st=>by
  rw[zK];generalize lp qd k=rec;unfold qd;simp only[sr (wc hn),cond_false];rfl
 | l::es,n,k+1,hn,hk,c,st=>by
  have hlt:=yk hn;obtain⟨hsb,l1,-,-,l4,-⟩:=qw h;have hs:=tD hsb;have hL:∀ l∈L,qI a0 l.2=true:=fun l hl=>aK.1 l4 l hl;have hg:gx L (n:Int)=some l:=by rw[qJ]; exact zv hn
  have htop:=Uj hs hg hL (by omega)
  have hp:vr L (n:Int)=true:=by unfold vr; simp only[ap,decide_eq_true_eq]; omega
  obtain⟨A,hA⟩:∃ A,l=(l.1,A):=⟨l.2,rfl⟩;have he:=Lo (neg:=true) (show gx L (n:Int)=some (l.1,l.2) from hg) hp
  obtain⟨c0,hc⟩:=XR (hL _ (KZ hg));rw[hc] at he;have ih:=zc8 es (n+1) k (zm hn) (by simpa using hk)
  rw[zK];generalize lp qd k=rec at ih ⊢;unfold qd;rw[show qi a0 L (l::es) n=cond (WV a0 L l) (qi a0 L es (n+1)) ((n:Int)::qi a0 L es (n+1)) from rfl]
  simp only[kv hlt,cond_true,jm hlt (show L.length<=maxLen by unfold maxLen; omega),hg,af,hc,htop]
  have skip:eqB L (n:Int) true=false->rec (a0,a,c,((n+1:Nat):Int),L,T,C,st)=rGo a0 L T C a (cond (WV a0 L l) (qi a0 L es (n+1)) ((n:Int)::qi a0 L es (n+1))) c st:=fun g=>by
   rw[ih c st];cases WV a0 L l with
   | true=>rfl
   | false =>
    rw[cond_false];show _=cond (eqB L (n:Int) true) _ _;rw[g];rfl
  cases h1:l.1 with
  | false=>rw[cond_false]; exact skip (by rw[he,h1]; exact cj _)
  | true =>
   rw[cond_true];cases h2:(c0:Int)==0 with
   | false=>rw[cond_false]; exact skip (by rw[he,show (some (c0:Int)==some 0)=((c0:Int)==0) from rfl,h2]; rfl)
   | true =>
    have he:eqB L (n:Int) true=true:=by rw[he,show (some (c0:Int)==some 0)=((c0:Int)==0) from rfl,h2,h1]; rfl
    rw[cond_true];cases ho:WV a0 L l with
    | true=>rw[aH,cond_false,cond_true]; exact ih c st
    | false =>
     rw[bM,cond_true,cond_false,(Zk h he).1];show _=cond (eqB L (n:Int) true) _ _;rw[he,cond_true];unfold NO;rw[Option.bind_assoc]
     congr 1
     funext r
     congr 1
     funext q
     exact ih q.1 q.2
theorem XV:qM a0 L T C a=((rGo a0 L T C a (qi a0 L L 0) 0 []).map fun q=>(q.1,0,q.2))∧xw a0 L T C a=((rGo a0 L T C a (qi a0 L L 0) 0 []).map fun q=>(q.1,0,q.2)):=by
 obtain⟨hsb,l1,-,-,l4,-⟩:=qw h;have hL:∀ l∈L,qI a0 l.2=true:=fun l hl=>aK.1 l4 l hl;have hlen:=jZ (a0:=a0) (L:=L) L 0;constructor
 ·unfold qM;rw[wS,h,af,aH,cond_false,TZ hsb hL (by omega),af]
  have:=R9 (a:=a) h (is:=qi a0 L L 0) (by omega) (qi a0 L L 0) 0 zd rfl (cZ (show _<=5 by omega) (by decide)) 0 []
  rw[show ((0:Nat):Int)=0 from rfl] at this
  simp only;rw[this,Li];generalize rGo a0 L T C a (qi a0 L L 0) 0 []=o;cases o<;>rfl
 ·unfold xw;rw[uK,h,af,aH,cond_false];have:=zc8 (a:=a) h L 0 zd rfl (cZ (show _<=5 by omega) (by decide)) 0 []
  rw[show ((0:Nat):Int)=0 from rfl] at this
  rw[this];generalize rGo a0 L T C a (qi a0 L L 0) 0 []=o;cases o<;>rfl
theorem IU {P:tS->Prop} (hP:∀(i:Int) (r:A1),eqB L i true=true->xz a0 L T C i=some r->r.2.2.1=true->r.2.2.2.1=0->sx a0 r.1 r.2.1 r.2.2.2.2=true->kO r.1 r.2.1 r.2.2.2.2->P (4,a,i,0,-1,0,0,r.1,r.2.1,r.2.2.2.2)):(is:List Int)->(n:Nat)->n+is.length<=100000->(c:Int)->(st:List tS)->Inv P n (c,st) ->
  ∃ q,rGo a0 L T C a is c st=some q∧Inv P (n+is.length) q
 | [],_,_,_,_,hI=>⟨_,rfl,hI⟩
 | i::is,n,hn,c,st,hI=>by
  simp only[au] at hn ⊢;unfold rGo;cases he:eqB L i true with
  | false =>
   obtain⟨q,e1,e2⟩:=IU hP is n (by omega) c st hI
   exact ⟨q,e1,e2.more (by omega)⟩
  | true =>
   obtain⟨r,e1,e2,e3⟩:=(Zk h he).2;obtain⟨q,e4,e5⟩:=Ot (sig:=a0) (c:=c) (r:=4) (a:=a) (i:=i) (s:=0) (b := -1) (j:=0) (t:=0) (xL:=r.1) (xT:=r.2.1) (xC:=r.2.2.2.2) (ok:=r.2.2.1) (err:=r.2.2.2.1) (st:=st) (P:=P) (n:=n) e3 (fun g1 g2=>hP i r he e1 g1 g2 (e3 g1 g2) e2) hI (by omega)
   obtain⟨p,e6,e7⟩:=IU hP is (n+1) (by omega) q.1 q.2 e5
   refine ⟨p,?_,e7.more (by omega)⟩
   unfold NO;rw[cond_true,e1,af,e4,af,e6]
theorem J7 {P:tS->Prop} (hP:∀(i:Int) (r:A1),eqB L i true=true->xz a0 L T C i=some r->r.2.2.1=true->r.2.2.2.1=0->sx a0 r.1 r.2.1 r.2.2.2.2=true->kO r.1 r.2.1 r.2.2.2.2->P (4,a,i,0,-1,0,0,r.1,r.2.1,r.2.2.2.2)) :
  ∃ q:Int×List tS,qM a0 L T C a=some (q.1,0,q.2)∧Inv P 5 q:=by
 have l1:=(qw h).2.1;have hlen:=jZ (a0:=a0) (L:=L) L 0;obtain⟨q,e1,e2⟩:=IU (a:=a) h hP (qi a0 L L 0) 0 (by omega) 0 [] ⟨dP 0,dP 0,aE 0,fun _ h=>(nomatch h)⟩
 refine ⟨q,?_,e2.more (by omega)⟩
 rw[(XV h).1,e1];rfl
end
theorem Js {a0:List zl} {L:List zg} {T:List jI} {C:List zg} {a:Int} (h:sx a0 L T C=false):qM a0 L T C a=some (0,1500,[])∧xw a0 L T C a=some (0,1500,[]):=by
 unfold qM xw;rw[wS,uK,h];exact ⟨rfl,rfl⟩
theorem I6 (a0:List zl) (L:List zg) (T:List jI) (C:List zg) (a:Int):xw a0 L T C a=qM a0 L T C a∧∃ r,qM a0 L T C a=some r∧wr r.2.2 r.2.2=some true:=by
 cases h:sx a0 L T C with
 | false =>
  obtain⟨e1,e2⟩:=Js (a:=a) h;exact ⟨e2.trans e1.symm,_,e1,ZK (by simp) (by simp)⟩
 | true =>
  obtain⟨q,e1,e2⟩:=J7 (a:=a) (P:=JR) h fun _ _ _ _ _ _ _ hs=>hs;obtain⟨e3,e4⟩:=XV (a:=a) h;exact ⟨e4.trans e3.symm,_,e1,ZK e2.all (by have:=e2.len; unfold maxLen; show q.2.length<=_; omega)⟩
theorem rP (a0:List zl) (L:List zg) (T:List jI) (C:List zg) (i a:Int) (hc:xO L T C=some (L,T,C)∧kO L T C):yn a0 L T C i a=some true:=by
 unfold yn;have hnum:∀ k:Int,tB k=some k:=fun k=>rfl;obtain⟨e1,r,e2,e3,-⟩:=IJ a0 L T C i;obtain⟨e4,s,e5,e6⟩:=I6 a0 L T C a;have hs:=hc.2;unfold kO at hs e3;rw[hc.1,af,e1,e2,af,af,e4,e5,af,af,e3,af];simp only[aH,cond_false,beq_self_eq_true,hnum,af,bne_self_eq_false,hs,cond_true,e6,Ve]
theorem Qa (x:List zl×List zg×List jI×List zg×Int×Int) (h:wtL [.sl GN,.sl Yt,.sl (.one (.sl (.one (.int .i64)))),.sl Yt,.int .i64,.int .i64] x<=1048576):yn x.1 x.2.1 x.2.2.1 x.2.2.2.1 x.2.2.2.2.1 x.2.2.2.2.2=some true:=by
 have h:Go.Abs.wt (.sl GN) x.1+(Go.Abs.wt (.sl Yt) x.2.1+(Go.Abs.wt (.sl (.one (.sl (.one (.int .i64))))) x.2.2.1+(Go.Abs.wt (.sl Yt) x.2.2.2.1+(Go.Abs.wt (.int .i64) x.2.2.2.2.1+Go.Abs.wt (.int .i64) x.2.2.2.2.2))))<=1048576:=h;exact rP _ _ _ _ _ _ (TS (by omega) (by omega) (by omega))
theorem Cf {m:Int} {nums:List Int} {env:Nat->Int}:(ts:List Tm)->Bc m nums env ts=ts.map (GO m nums env)
 | []=>rfl
 | t::ts=>by rw[Bc,Cf ts]; rfl
theorem RT.val {m:Int} {nums:List Int} {env:Nat->Int} {t u a b:Tm} (h:RT t u a b) (hv:GO m nums env t=GO m nums env u):GO m nums env a=GO m nums env b:=by
 induction h with
 | here=>exact hv
 | arg c l r h ih=>simp only[GO,Cf,List.map_append,aM,ih]
section
variable {m:Nat} (hm:0<m) (hm3:m<=3) {nums:List Int} (hn:GA nums) {a0:List zl} (hs:SignOk a0)
include hm hm3 hn hs
end
end Go.Abs.Q
