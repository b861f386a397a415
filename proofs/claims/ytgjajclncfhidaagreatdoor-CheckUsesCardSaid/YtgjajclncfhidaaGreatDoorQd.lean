import Derived.Test.YtgjajclncfhidaaGreatDoorQc
/-
  What the functions make of plain values, and what the law says of that.
-/
open Bool renaming and_eq_true -> ay, decide_and -> dh, not_true -> az, or_eq_false_iff -> cN, true_and -> aO
open Go.IntKind renaming wrap -> ag
open Int renaming eq_ofNat_of_zero_le -> de, tmod -> ez, toNat_natCast -> bh
open List renaming all_eq_true -> aH, append_assoc -> aU, append_nil -> bG, drop_zero -> bP, getElem?_append_right -> bu, getElem?_cons_zero -> aB, getElem?_eq_getElem -> am, getElem?_eq_some_iff -> au, getElem?_set_ne -> cd, getElem?_set_self -> bH, length -> aa, length_append -> al, length_cons -> ak, length_eq_zero_iff -> bS, length_nil -> bc, length_pos_iff -> cR, length_reverse -> di, length_set -> bX, length_singleton -> aD, mem_append -> aI, mem_cons -> aC, mem_cons_of_mem -> ai, mem_cons_self -> aj, mem_iff_getElem? -> cr, mem_of_getElem? -> aP, mem_reverse -> fj, mem_singleton -> ba, nil_append -> bj, pairwise_singleton -> fh, replicate -> ax
open List.cons renaming inj -> gI
open Nat renaming le_refl -> aE, le_trans -> aV, lt_of_le_of_lt -> co, sub_self -> dA, zero_add -> aR, zero_le -> bK
open Nat.succ renaming inj -> gQ
open Option renaming bind_some -> af
open Option.some renaming inj -> eA
open Prod.mk renaming injEq -> aK
namespace Go.Abs.Q
open Go Go.Abs
def LRw (a0:List zh) (l rr:Tm) (e e':zc) (m:Nat):Prop:=∃(c:Nat) (us ws:List Tm),e.2=(c:Int)::za us∧okR a0 24 us∧e'=(e.1,(c:Int)::za ws)∧Rew a0 l rr us 0 (za ws,(m:Int),true)
inductive LRws (a0:List zh) (l rr:Tm):List zc->List zc->Nat->Prop
 | nil:LRws a0 l rr [] [] 0
 | cons (e e':zc) (es es':List zc) (m k:Nat):LRw a0 l rr e e' m->LRws a0 l rr es es' k->LRws a0 l rr (e::es) (e'::es') (m+k)
theorem Hl {a0:List zh} {l rr:Tm} {us:List Tm} {n:Nat} {res:List Int×Int×Bool} (h:Rew a0 l rr us n res) (hn:n<=100) (hul:(za us).length<=48):res=([],0,false)∨∃(ws:List Tm) (m:Nat),res=(za ws,(m:Int),true)∧n<=m∧m<=100∧(za ws).length<=48:=by
 induction h with
 | stop us n _=>exact .inr ⟨us,n,rfl,aE _,hn,hul⟩
 | full=>exact .inl rfl
 | next us ws n σ res _ h2 h3 _ _ _ _ ih =>
  rcases ih (by omega) h3 with h | ⟨vs,m,h,h4,h5⟩
  ·exact .inl h
  ·exact .inr ⟨vs,m,h,by omega,h5⟩
theorem NC {a0:List zh} {l rr:Tm} (hl:l.ok a0 24) (hr:rr.ok a0 24) (hll:l.codes.length<=48) (hrl:rr.codes.length<=48):vW a0 l.codes rr.codes=some false∨vW a0 l.codes rr.codes=some true∨ug a0=false:=by
 cases hb:ug a0 with
 | false=>exact .inr (.inr rfl)
 | true =>
  obtain⟨k,-,h1,-⟩:=sY hb hl hr hll hrl;unfold vW sq;rw[kG hb hl hll,kG hb hr hrl,h1];simp only[af,cond_true,beq_self_eq_true];cases k==2
  ·exact .inl rfl
  ·exact .inr (.inl rfl)
section
variable {a0:List zh} (hs:SignOk a0) {l rr:Tm} (hl:l.ok a0 24) (hr:rr.ok a0 24) (hll:l.codes.length<=48) (hrl:rr.codes.length<=48)
include hs hl hr hll hrl
theorem Wf (T:List jI) (C:List zc):(es done:List zc)->(k all:Nat)->es.length<k->(∀ e∈es,ua a0 e.2=true)->all+100*es.length<=100000->done.length+es.length<=1000 ->
  ∃ r,lp wv k (a0,(all:Int),((done.length+es.length:Nat):Int),((done.length:Nat):Int),l.codes,rr.codes,T,C,done++es)=some r ∧
   (r = .inr (0,1601)∨∃ es' m,LRws a0 l rr es es' m∧r = .inl (((all+m:Nat):Int),T,C,done++es'))
 | _,_,0,_,h,_,_,_=>by omega
 | [],done,k+1,all,_,_,_,_=>by
  rw[zx];generalize lp wv k=rec;unfold wv;simp only;rw[decide_eq_false (show ¬(((done.length:Nat):Int)<((done.length+([]:List zc).length:Nat):Int)) by simp),cond_false]
  exact ⟨_,rfl,.inr ⟨[],0,.nil,rfl⟩⟩
 | e::es,done,k+1,all,hk,ha,hal,hdl=>by
  rw[ak] at hk hal hdl;have he:=ha e (aj ..);obtain⟨c,us,-,hc,ho,-,-,-,h48,-⟩:=vM he;obtain⟨res,hrew⟩:=He hs hl hr hrl 100 0 rfl (bK _) us ho h48;have hrw:=CC hs hl hr hll hrl h48 hrew;have ih:=fun (e':zc) (m:Nat) (hm:m<=100)=>Wf T C es (done++[e']) k (all+m) (by omega) (fun x hx=>ha x (ai _ hx)) (by omega) (by rw[al,aD]; omega)
  rw[zx];generalize lp wv k=rec at ih ⊢;unfold wv;simp only;rw[decide_eq_true (show ((done.length:Nat):Int)<((done.length+(e::es).length:Nat):Int) by rw[ak]; omega),cond_true,zO (by rw[al,ak]; omega),af,rP,af,hc,wE,af,hrw,af]
  rcases Hl hrew (bK _) h48 with rfl | ⟨ws,m,rfl,-,hm,hwl⟩
  ·exact ⟨_,rfl,.inl rfl⟩
  ·simp only[az,cond_false];rw[yh,aB,af,zm (by simp; omega),cond_true,af,rP,af,VC]
   obtain⟨r,g1,g2⟩:=ih (e.1,(c:Int)::za ws) m hm;rw[al,aD,aU,show done.length+1+es.length=done.length+(e::es).length by rw[ak]; omega] at g1
   have w1:ag .i64 ((all:Int)+(m:Int))=((all+m:Nat):Int):=by rw[zn]<;>omega
   have w2:ag .i64 (((done.length:Nat):Int)+1)=((done.length+1:Nat):Int):=by rw[zn]<;>omega
   refine ⟨r,by rw[w1,w2]; exact g1,g2.imp id ?_⟩
   rintro⟨es',k',g3,rfl⟩;refine ⟨(e.1,(c:Int)::za ws)::es',m+k',.cons _ _ _ _ _ _ ⟨c,us,ws,hc,ho,rfl,hrew⟩ g3,?_⟩;rw[aU,Nat.add_assoc];rfl
theorem WC {L:List zc} {T:List jI} {C:List zc} (h:wm a0 L T C=true) :
  ∃ r,Zk a0 l.codes rr.codes L T C=some r∧((∃ m k,(k=1600∨k=1601)∧r=([],[],m,k,[]))∨∃ L' m,LRws a0 l rr L L' m∧wm a0 L' T C=true∧r=((uV L' T C).1,(uV L' T C).2.1,(m:Int),0,(uV L' T C).2.2)):=by
 obtain⟨h0,h1,h2,h3,h4,-⟩:=zK h;unfold Zk;rcases NC hl hr hll hrl with h5 | h5 | h5
 ·rw[h5];exact ⟨_,rfl,.inl ⟨0,1600,.inl rfl,rfl⟩⟩
 ·rw[h5,af,yB,h];simp only[az,cond_false,af];rw[kU h,af];obtain⟨r,g1,g2⟩:=Wf hs hl hr hll hrl T C L [] zd 0 (co h1 (by decide)) (aH.1 h4) (by omega) (by simp; omega)
  rw[bc,aR,bj] at g1;rw[show (0:Int)=((0:Nat):Int) from rfl,g1,af]
  rcases g2 with rfl | ⟨L',m,g2,rfl⟩
  ·exact ⟨_,rfl,.inl ⟨0,1601,.inr rfl,rfl⟩⟩
  ·simp only[yl,bj,aR];rw[xk];cases hm:wm a0 L' T C with
   | false=>exact ⟨_,rfl,.inl ⟨0,1601,.inr rfl,rfl⟩⟩
   | true=>exact ⟨_,rfl,.inr ⟨L',m,g2,hm,rfl⟩⟩
 ·rw[h5] at h0; cases h0
end
theorem Hf (L:List zc) (T:List jI) (C:List zc):rV L T C=some (decide (L.length=1∧T=[]∧C=[])):=by
 unfold rV;by_cases h1:L.length=1
 ·rw[show (((aa L:Nat):Int)==1)=true from by rw[beq_iff_eq]; omega,cond_true]
  cases T with
  | nil =>
   cases C with
   | nil=>rw[decide_eq_true ⟨h1,rfl,rfl⟩]; rfl
   | cons _ _=>rw[decide_eq_false (by rintro⟨-,-,h⟩; cases h)]; rw[show (((aa ([]:List jI):Nat):Int)==0)=true from rfl,cond_true]; congr 1
  | cons _ _=>rw[decide_eq_false (by rintro⟨-,h,-⟩; cases h),show (((aa (_::_:List jI):Nat):Int)==0)=false from by rw[beq_eq_false_iff_ne,ak]; omega]; rfl
 ·rw[show (((aa L:Nat):Int)==1)=false from by rw[beq_eq_false_iff_ne]; omega,decide_eq_false (fun h=>h1 h.1)]; rfl
theorem KZ (a0:List zh) (L:List zc) (T:List jI) (C:List zc) (h:wm a0 L T C=true):∃ r,Q4 a0 L T C=some r∧(r.1=true->∃ s0 s1 l rr:Tm,L=[(false,0::za [s0,s1])]∧T=[]∧C=[]∧((l=s0∧rr=s1)∨(l=s1∧rr=s0))∧l.ok a0 24∧rr.ok a0 24∧l.codes.length<=48∧rr.codes.length<=48∧r=(true,0,l.codes,rr.codes)):=by
 obtain⟨h0,h1,h2,h3,h4,-⟩:=zK h;have hs:=v6 h0;unfold Q4;rw[yB,h,af,Hf];simp only[az,cond_false,af];by_cases hu:L.length=1∧T=[]∧C=[]
 ·rw[decide_eq_true hu];obtain⟨hu1,rfl,rfl⟩:=hu;obtain⟨⟨n,A⟩,rfl⟩:∃ e,L=[e]:=by
   match L,hu1 with
   | [e],_=>exact ⟨e,rfl⟩
  have hA:ua a0 A=true:=aH.1 h4 (n,A) (aj ..);simp only[az,cond_false,yh,aB,af];cases n with
  | true=>exact ⟨_,rfl,fun h=>nomatch h⟩
  | false =>
   simp only[cond_false];obtain⟨c,hc⟩:=Q6 hA;rw[yh] at hc;rw[hc,af];by_cases hc0:c=0
   ·subst hc0;obtain⟨s0,s1,rfl,o0,o1,hl⟩:=J1 hA (by rw[yh]; exact hc)
    have l0:s0.codes.length<=48:=aV (uz (aj ..)) hl;have l1:s1.codes.length<=48:=aV (uz (ai _ (aj ..))) hl;rw[show (((0:Nat):Int) != 0)=false from rfl,cond_false,(Gg hs o0 o1 hl).1,af]
    obtain⟨k0,-,m0,-⟩:=sY h0 o0 o1 l0 l1;obtain⟨k1,-,m1,-⟩:=sY h0 o1 o0 l1 l0;have e0:sq a0 s0.codes s1.codes=some (k0==2):=by unfold sq; rw[m0]; rfl
    have e1:sq a0 s1.codes s0.codes=some (k1==2):=by unfold sq; rw[m1]; rfl
    have hx:∃ r,lp t9 zd (a0,[s0.codes,s1.codes],((aa [s0.codes,s1.codes]:Nat):Int),0)=some r∧(r = .inl ()∨r = .inr (true,0,s0.codes,s1.codes)∨r = .inr (true,0,s1.codes,s0.codes)):=by
     rw[show zd=(zd - 3)+1+1+1 from rfl,zx,zx,zx]
     generalize lp t9 (zd - 3)=rec;have q0:zB s0.codes=some s0.codes:=zZ (by omega)
     have q1:zB s1.codes=some s1.codes:=zZ (by omega)
     generalize s0.codes=p0 at e0 e1 q0 q1 ⊢;generalize s1.codes=p1 at e0 e1 q0 q1 ⊢;unfold t9;simp only[show gx [p0,p1] 0=some p0 from rfl,show gx [p0,p1] (ag .i64 (1 - 0))=some p1 from rfl,show gx [p0,p1] (ag .i64 (0+1))=some p1 from rfl,show gx [p0,p1] (ag .i64 (1 - ag .i64 (0+1)))=some p0 from rfl,
      show decide ((0:Int)<((aa [p0,p1]:Nat):Int))=true from rfl,show decide (ag .i64 (0+1)<((aa [p0,p1]:Nat):Int))=true from rfl,show decide (ag .i64 (ag .i64 (0+1)+1)<((aa [p0,p1]:Nat):Int))=false from rfl,af,cond_true,cond_false,e0,e1,q0,q1]
     cases k0==2 with
     | true=>exact ⟨_,rfl,.inr (.inl rfl)⟩
     | false =>
      cases k1==2 with
      | true=>exact ⟨_,rfl,.inr (.inr rfl)⟩
      | false=>exact ⟨_,rfl,.inl rfl⟩
    obtain⟨r,g1,g2⟩:=hx;rw[g1,af];rcases g2 with rfl | rfl | rfl
    ·exact ⟨_,rfl,fun h=>nomatch h⟩
    ·exact ⟨_,rfl,fun _=>⟨s0,s1,s0,s1,rfl,trivial,trivial,.inl ⟨rfl,rfl⟩,o0,o1,l0,l1,rfl⟩⟩
    ·exact ⟨_,rfl,fun _=>⟨s0,s1,s1,s0,rfl,trivial,trivial,.inr ⟨rfl,rfl⟩,o1,o0,l1,l0,rfl⟩⟩
   ·rw[show (((c:Nat):Int) != 0)=true from by rw[bne_iff_ne]; omega]
    exact ⟨_,rfl,fun h=>nomatch h⟩
 ·rw[decide_eq_false hu];exact ⟨_,rfl,fun h=>nomatch h⟩
theorem Jk {a0:List zh} (rule:Int) {L:List zc} {T:List jI} {C:List zc} (h:wm a0 L T C=true) {L':List zc} {T':List jI} {C':List zc} (h':wm a0 L' T' C'=true) :
  ∃ r,u5 a0 rule L T C L' T' C'=some r∧(r.2.2.1=true->wm a0 r.1 r.2.1 r.2.2.2=true):=by
 unfold u5;cases rule==6 with
 | true =>
  simp only[cond_true];rw[Hf,af];by_cases hu:L'.length=1∧T'=[]∧C'=[]
  ·rw[decide_eq_true hu];obtain⟨⟨n,A⟩,rfl⟩:∃ e,L'=[e]:=by
    match L',hu.1 with
    | [e],_=>exact ⟨e,rfl⟩
   have hA:ua a0 A=true:=aH.1 (zK h').2.2.2.2.1 (n,A) (aj ..);simp only[az,cond_false,yh,aB,af];rw[Dk hA h,af];exact ⟨_,rfl,fun _=>WP (Jx h _)⟩
  ·rw[decide_eq_false hu];exact ⟨_,rfl,fun h=>nomatch h⟩
 | false =>
  simp only[cond_false];obtain⟨r,h1,h2⟩:=KZ a0 L' T' C' h';rw[h1,af];cases hr:r.1 with
  | false=>exact ⟨_,rfl,fun h=>nomatch h⟩
  | true =>
   obtain⟨s0,s1,l,rr,-,-,-,-,o0,o1,l0,l1,rfl⟩:=h2 hr;simp only[az,cond_false];obtain⟨q,g1,g2⟩:=WC (v6 (zK h).1) o0 o1 l0 l1 h;rw[g1,af];rcases g2 with ⟨m,k,hk,rfl⟩ | ⟨L2,m,g2,g3,rfl⟩
   ·simp only;rw[show (k==0)=false from by rw[beq_eq_false_iff_ne]; omega]
    exact ⟨_,rfl,fun h=>nomatch h⟩
   ·exact ⟨_,rfl,fun _=>WP g3⟩
def wiB (x lo hi:Int):Bool:=decide (lo<=x)&&decide (x<=hi)
theorem Fq (x lo hi:Int):wx x lo hi=some (wiB x lo hi):=by
 unfold wx wiB;cases h:decide (x≥lo) with
 | true=>rfl
 | false=>rfl
def DF (r a i s b j t:Int):Bool:=wiB r 0 7&&(wiB a (-1) 199&&(wiB b (-1) 199&&(wiB i 0 4&&(wiB j 0 4&&(wiB s 0 1&&wiB t 0 48)))))
theorem SJ (r a i s b j t:Int) (L:List zc) (T:List jI) (C:List zc):tc r a i s b j t L T C=some (DF r a i s b j t):=by
 unfold tc DF;simp only[Fq,af];cases wiB r 0 7<;>cases wiB a (-1) 199<;>cases wiB b (-1) 199<;>cases wiB i 0 4<;>cases wiB j 0 4<;>cases wiB s 0 1<;>rfl
def Q7 (a0:List zh) (x:wX):Bool:=DF x.1 x.2.1 x.2.2.1 x.2.2.2.1 x.2.2.2.2.1 x.2.2.2.2.2.1 x.2.2.2.2.2.2.1&&wm a0 x.2.2.2.2.2.2.2.1 x.2.2.2.2.2.2.2.2.1 x.2.2.2.2.2.2.2.2.2
theorem Dx (a0:List zh) (x:wX):WW a0 x.1 x.2.1 x.2.2.1 x.2.2.2.1 x.2.2.2.2.1 x.2.2.2.2.2.1 x.2.2.2.2.2.2.1 x.2.2.2.2.2.2.2.1 x.2.2.2.2.2.2.2.2.1 x.2.2.2.2.2.2.2.2.2=some (Q7 a0 x):=by
 unfold WW Q7;rw[SJ,af,yB];cases DF x.1 x.2.1 x.2.2.1 x.2.2.2.1 x.2.2.2.2.1 x.2.2.2.2.2.1 x.2.2.2.2.2.2.1<;>rfl
theorem Lj (a0:List zh):(es:List wX)->(i:Nat)->(es.all (Q7 a0)=true->zF a0 es i=some (.inl ()))∧(es.all (Q7 a0)=false->∃ j:Nat,zF a0 es i=some (.inr (j:Int)))
 | [],_=>⟨fun _=>rfl,(fun h=>nomatch h)⟩
 | e::es,i=>by
  obtain⟨h1,h2⟩:=Lj a0 es (i+1);unfold zF u9;rw[Dx,af,af,List.all_cons];cases Q7 a0 e with
  | true=>exact ⟨h1,h2⟩
  | false=>exact ⟨(fun h=>nomatch h),fun _=>⟨i,rfl⟩⟩
def Cr (a0:List zh) (log:List wX):Bool:=ug a0&&(decide (log.length<=200)&&log.all (Q7 a0))
theorem Vh (a0:List zh) (log:List wX):uO a0 log=some (Cr a0 log):=by
 unfold uO Cr;rw[QT,af];cases ug a0 with
 | false=>rfl
 | true =>
  simp only[cond_true,aO];by_cases hl:log.length<=200
  ·rw[decide_eq_true (show ((log.length:Nat):Int)<=200 by omega),decide_eq_true hl,cond_true,aO]
   unfold vN uM;rw[sI log a0 (aV hl (by decide))]
   obtain⟨h1,h2⟩:=Lj a0 log 0;cases ha:log.all (Q7 a0) with
   | true=>rw[h1 ha]; rfl
   | false =>
    obtain⟨j,hj⟩:=h2 ha;rw[hj];simp only[af,yl];rw[decide_eq_true (show (j:Int)≥0 by omega)]
    rfl
  ·rw[decide_eq_false (show ¬((log.length:Nat):Int)<=200 by omega),decide_eq_false hl]
   rfl
theorem sf {a0:List zh} {log:List wX} (h:Cr a0 log=true):ug a0=true∧log.length<=200∧∀ s∈log,Q7 a0 s=true:=by
 unfold Cr at h;rw[ay,ay] at h;exact ⟨h.1,of_decide_eq_true h.2.1,aH.1 h.2.2⟩
theorem W7 {a0:List zh} {x:wX} (h:Q7 a0 x=true):wm a0 x.2.2.2.2.2.2.2.1 x.2.2.2.2.2.2.2.2.1 x.2.2.2.2.2.2.2.2.2=true:=by
 unfold Q7 at h;exact ((ay _ _).mp h).2
def Vf (r a i s b j t:Int):Bool :=
 if r=0 then decide (a = -1∧i=0∧s=0∧b = -1∧j=0∧t=0)
 else if r=1 then decide (s=0∧t=0)
 else if r=2 then decide (s=0∧b = -1∧t=0)
 else if r=3 then true
 else if r=4 then decide (s=0∧b = -1∧j=0∧t=0)
 else if r=7 then decide (s=0∧b = -1∧j=0∧t=0)
 else if r=5 then decide (i=0∧s=0∧j=0∧t=0)
 else if r=6 then decide (i=0∧s=0∧j=0∧t=0)
 else decide (i=0∧s=0∧b = -1∧j=0∧t=0)
theorem qT (a0 a1 a2 a3 a4 a5 a6 b0 b1 b2 b3 b4 b5 b6:Int) (L:List zc) (T:List jI) (C:List zc) (L':List zc) (T':List jI) (C':List zc) :
  wP a0 a1 a2 a3 a4 a5 a6 L T C b0 b1 b2 b3 b4 b5 b6 L' T' C'=some ((a0==b0)&&((a1==b1)&&((a2==b2)&&((a3==b3)&&((a4==b4)&&((a5==b5)&&(a6==b6))))))):=by
 unfold wP;cases a0==b0<;>cases a1==b1<;>cases a2==b2<;>cases a3==b3<;>cases a4==b4<;>cases a5==b5<;>rfl
theorem No (r a i s b j t:Int) (L:List zc) (T:List jI) (C:List zc):∃ p,Zf r a i s b j t L T C=some p∧∀ L' T' C',wP p.1 p.2.1 p.2.2.1 p.2.2.2.1 p.2.2.2.2.1 p.2.2.2.2.2.1 p.2.2.2.2.2.2 [] [] [] r a i s b j t L' T' C'=some (Vf r a i s b j t):=by
 unfold Zf Vf;have q:∀ x y:Int,(x==y)=decide (y=x):=fun x y=>by
  by_cases h:x=y
  ·subst h; simp
  ·rw[beq_eq_false_iff_ne.2 h,decide_eq_false (fun e=>h e.symm)]
 have q':∀ x:Int,(x==x)=true:=fun x=>by simp
 by_cases h0:r=0
 ·rw[if_pos h0,show (r==0)=true from by simp [h0],cond_true]
  refine ⟨_,rfl,fun _ _ _ => ?_⟩;rw[qT,q',aO];simp only[q,dh]
 rw[if_neg h0,show (r==0)=false from by simp [h0],cond_false]
 by_cases h1:r=1
 ·rw[if_pos h1,show (r==1)=true from by simp [h1],cond_true]
  refine ⟨_,rfl,fun _ _ _ => ?_⟩;rw[qT];simp only[q',aO,q,dh]
 rw[if_neg h1,show (r==1)=false from by simp [h1],cond_false]
 by_cases h2:r=2
 ·rw[if_pos h2,show (r==2)=true from by simp [h2],cond_true]
  refine ⟨_,rfl,fun _ _ _ => ?_⟩;rw[qT];simp only[q',aO,q,dh]
 rw[if_neg h2,show (r==2)=false from by simp [h2],cond_false]
 by_cases h3:r=3
 ·rw[if_pos h3,show (r==3)=true from by simp [h3],cond_true]
  refine ⟨_,rfl,fun _ _ _ => ?_⟩;rw[qT];simp only[q',aO]
 rw[if_neg h3,show (r==3)=false from by simp [h3],cond_false]
 by_cases h4:r=4
 ·rw[if_pos h4,show (r==4)=true from by simp [h4],cond_true]
  refine ⟨_,rfl,fun _ _ _ => ?_⟩;rw[qT];simp only[q',aO,q,dh]
 rw[if_neg h4,show (r==4)=false from by simp [h4],cond_false]
 by_cases h7:r=7
 ·rw[if_pos h7,show (r==7)=true from by simp [h7],cond_true]
  refine ⟨_,rfl,fun _ _ _ => ?_⟩;rw[qT];simp only[q',aO,q,dh]
 rw[if_neg h7,show (r==7)=false from by simp [h7],cond_false]
 by_cases h5:r=5
 ·rw[if_pos h5,show (r==5)=true from by simp [h5],cond_true]
  refine ⟨_,rfl,fun _ _ _ => ?_⟩;rw[qT];simp only[q',aO,q,dh]
 rw[if_neg h5,show (r==5)=false from by simp [h5],cond_false]
 by_cases h6:r=6
 ·rw[if_pos h6,show (r==6)=true from by simp [h6],cond_true]
  refine ⟨_,rfl,fun _ _ _ => ?_⟩;rw[qT];simp only[q',aO,q,dh]
 rw[if_neg h6,show (r==6)=false from by simp [h6],cond_false]
 refine ⟨_,rfl,fun _ _ _ => ?_⟩;rw[qT];simp only[q',aO,q,dh]
theorem PL (ys:List zc):(es:List zc)->(i:Nat)->(∀ e∈es,e.2.length<=maxLen)->(ys.drop i).length=es.length->yf ys es i=some (cond (decide (es=ys.drop i)) (.inl ()) (.inr false))
 | [],i,_,h=>by
  rw[decide_eq_true (bS.1 h).symm];rfl
 | e::es,i,hm,h=>by
  match hd:ys.drop i,h with
  | y::rest,h =>
   have hy:ys[i]? = some y:=zr hd;have hr:ys.drop (i+1)=rest:=zj hd;have ih:=PL ys es (i+1) (fun x hx=>hm x (ai _ hx)) (by rw[hr]; exact gQ h)
   rw[hr] at ih;unfold yf;rw[yE,hy,af,VL (hm e (aj ..)),af,ih];by_cases h1:e=y
   ·subst h1;by_cases h2:es=rest
    ·subst h2; simp
    ·simp [h2]
   ·rw[decide_eq_false (fun h=>h1 h),decide_eq_false (fun h:e::es=y::rest=>h1 (gI h).1)];rfl
theorem G0 {xs ys:List zc} (hl:xs.length<=maxLen) (hm:∀ e∈xs,e.2.length<=maxLen):vp xs ys=some (decide (xs=ys)):=by
 unfold vp;by_cases h:xs.length=ys.length
 ·rw[show (((aa xs:Nat):Int) != ((aa ys:Nat):Int))=false from by rw[h]; simp,cond_false,kl ys xs hl,PL ys xs 0 hm h.symm,bP]
  cases decide (xs=ys)<;>rfl
 ·rw[show (((aa xs:Nat):Int) != ((aa ys:Nat):Int))=true from by rw[bne_iff_ne]; omega,decide_eq_false (fun e=>h (by rw[e]))]
  rfl
theorem L5 (ys:List jI):(es:List jI)->(i:Nat)->(∀ e∈es,e.length<=maxLen)->(ys.drop i).length=es.length->zT ys es i=some (cond (decide (es=ys.drop i)) (.inl ()) (.inr false))
 | [],i,_,h=>by
  rw[decide_eq_true (bS.1 h).symm];rfl
 | e::es,i,hm,h=>by
  match hd:ys.drop i,h with
  | y::rest,h =>
   have hy:ys[i]? = some y:=zr hd;have hr:ys.drop (i+1)=rest:=zj hd;have ih:=L5 ys es (i+1) (fun x hx=>hm x (ai _ hx)) (by rw[hr]; exact gQ h)
   rw[hr] at ih;unfold zT;rw[yE,hy,af,vU (hm e (aj ..)),af,ih];by_cases h1:e=y
   ·subst h1;by_cases h2:es=rest
    ·subst h2; simp
    ·simp [h2]
   ·rw[decide_eq_false (fun h=>h1 h),decide_eq_false (fun h:e::es=y::rest=>h1 (gI h).1)];rfl
theorem A7 {xs ys:List jI} (hl:xs.length<=maxLen) (hm:∀ e∈xs,e.length<=maxLen):vK xs ys=some (decide (xs=ys)):=by
 unfold vK;by_cases h:xs.length=ys.length
 ·rw[show (((aa xs:Nat):Int) != ((aa ys:Nat):Int))=false from by rw[h]; simp,cond_false,rd ys xs hl,L5 ys xs 0 hm h.symm,bP]
  cases decide (xs=ys)<;>rfl
 ·rw[show (((aa xs:Nat):Int) != ((aa ys:Nat):Int))=true from by rw[bne_iff_ne]; omega,decide_eq_false (fun e=>h (by rw[e]))]
  rfl
theorem Kz {a0:List zh} {L:List zc} {T:List jI} {C:List zc} (h:wm a0 L T C=true) (L':List zc) (T':List jI) (C':List zc):Zy L T C L' T' C'=some (decide ((L,T,C)=(L',T',C'))):=by
 obtain⟨-,h1,h2,h3,h4,h5,h6,-⟩:=zK h;have w:(1000:Nat)<=maxLen:=by decide
 unfold Zy;rw[G0 (aV h1 (by decide)) (fun e he=>aV (xP h4 e he).1 w),af,A7 (aV h2 (by decide)) (fun e he=>aV (jJ h5 e he).1 w),af,G0 (aV h3 (by decide)) (fun e he=>aV (xP h6 e he).1 w)]
 by_cases e1:L=L'<;>by_cases e2:T=T'<;>by_cases e3:C=C'<;>simp [e1,e2,e3]
theorem DC (a0:List zh) (L:List zc) (T:List jI) (C:List zc) (i:Int) (L':List zc) (T':List jI) (C':List zc) (j:Int):OkR a0 (kc a0 L T C i L' T' C' j):=by
 rw[KI];cases hmay:wm a0 L T C with
 | false=>exact qB (k:=1300) rfl
 | true =>
  cases hmay':wm a0 L' T' C' with
  | false=>exact qB (k:=1300) rfl
  | true =>
   rw[aO,aO];cases hpi:yk L i with
   | false=>exact qB (k:=1300) rfl
   | true =>
    rw[aO];cases hpj:yk L' j with
    | false=>exact qB (k:=1300) rfl
    | true =>
     rw[cond_true];have hs:=v6 (zK hmay).1;obtain⟨⟨n,A⟩,hi⟩:=uw hpi;obtain⟨⟨n',A'⟩,hj⟩:=uw hpj;rcases WJ hs hmay hmay' hi hj with ⟨-,r1⟩ | ⟨hnn,b,c,ts,us,hb,-,rfl,rfl,ho,ho',hll,⟨r1,-⟩ | ⟨hnear,⟨r1,-⟩ | ⟨σ,hmgu,hok,⟨-,r1⟩ | ⟨-,r1⟩⟩⟩⟩
     ·exact qB r1
     ·exact qB r1
     ·exact qB r1
     ·exact qB r1
     ·rw[r1];exact YQ
theorem FK (a0:List zh) (L:List zc) (T:List jI) (C:List zc) (i:Int):∃ r,va a0 L T C i=some r∧(r.2.2.1=0->wm a0 r.1 r.2.1 r.2.2.2=true):=by
 rw[WL];cases hmay:wm a0 L T C with
 | false=>exact ⟨_,rfl,fun h=>by cases h⟩
 | true =>
  rw[aO];cases hpi:yk L i with
  | false=>exact ⟨_,rfl,fun h=>by cases h⟩
  | true =>
   rw[cond_true];by_cases h3:C.length=3
   ·rw[decide_eq_true h3]; exact ⟨_,rfl,fun h=>by cases h⟩
   ·rw[decide_eq_false h3,cond_false];refine ⟨_,rfl,fun _ => ?_⟩;obtain⟨x,hi⟩:=uw hpi;obtain⟨-,-,-,n3,-⟩:=zK hmay;unfold gx at hi;by_cases h0:0<=i
    ·rw[decide_eq_true h0,cond_true] at hi;have hm2:=K0 hmay h0 hi (by omega)
     unfold Kg;rw[hi];exact WP hm2
    ·rw[decide_eq_false h0] at hi; cases hi
abbrev Cb:=List zc×List jI×Bool×List zc
abbrev zbU:=List zc×List jI×List zc
def LW (a0:List zh) (r i s j t:Int) (c d:zbU):Option Cb:=wI a0 r 0 i s 0 j t [] [] [] c.1 c.2.1 c.2.2 d.1 d.2.1 d.2.2
theorem Sf {a0:List zh} (r i s j t:Int) {c d:zbU} (hc:wm a0 c.1 c.2.1 c.2.2=true) (hd:wm a0 d.1 d.2.1 d.2.2=true∨(r≠5∧r≠6)) (hi:0<=i):∃ q,LW a0 r i s j t c d=some q∧(q.2.2.1=true->wm a0 q.1 q.2.1 q.2.2.2=true):=by
 have fin:∀{o:Option Vp},OkR a0 o->∃ q,(o.bind fun r11=>cond r11.2.2.1 (some (r11.1,r11.2.1,(r11.2.2.2.1==0),r11.2.2.2.2)) (some (r11.1,r11.2.1,false,r11.2.2.2.2)))=some q∧(q.2.2.1=true->wm a0 q.1 q.2.1 q.2.2.2=true):=by
  rintro o ⟨x,rfl,-,hx⟩;rw[af];cases hok:x.2.2.1 with
  | false=>exact ⟨_,rfl,fun h=>nomatch h⟩
  | true=>exact ⟨_,rfl,fun h=>hx hok (by simpa using h)⟩
 have asm:∃ q,(cond (decide (i<((aa c.1:Nat):Int)))
   ((gx c.1 i).bind fun e16 =>
    cond e16.1
    ((va a0 c.1 c.2.1 c.2.2 i).bind fun r17 =>
     cond e16.1
     (some (r17.1,r17.2.1,(r17.2.2.1==0),r17.2.2.2))
     (some (r17.1,r17.2.1,false,r17.2.2.2)))
    (cond e16.1
     (some (([]:jQ),([]:jR),true,([]:jQ)))
     (some (([]:jQ),([]:jR),false,([]:jQ)))))
   (some (([]:jQ),([]:jR),false,([]:jQ))))=some q∧(q.2.2.1=true->wm a0 q.1 q.2.1 q.2.2.2=true):=by
  by_cases hil:i<((aa c.1:Nat):Int)
  ·rw[decide_eq_true hil,cond_true];obtain⟨e,g1,-⟩:=Kx hi hil;rw[g1,af];cases e.1 with
   | false=>exact ⟨_,rfl,fun h=>nomatch h⟩
   | true =>
    obtain⟨x,g2,g3⟩:=FK a0 c.1 c.2.1 c.2.2 i;simp only[cond_true,g2,af];exact ⟨_,rfl,fun h=>g3 (by simpa using h)⟩
  ·rw[decide_eq_false hil];exact ⟨_,rfl,fun h=>nomatch h⟩
 unfold LW wI;cases h1:r==1 with
 | true=>exact fin (DC ..)
 | false =>
  cases h2:r==2 with
  | true=>exact fin (CQ ..)
  | false =>
   cases h3:r==3 with
   | true=>exact fin (HI ..).2
   | false =>
    cases h4:r==4 with
    | true=>exact fin (DB ..).2
    | false =>
     cases h5:r==5 with
     | true =>
      obtain⟨q,g1,g2⟩:=Jk r hc (hd.resolve_right fun h=>h.1 (by simpa using h5))
      simp only[cond_true,cond_false,g1,af];exact ⟨_,rfl,g2⟩
     | false =>
      cases h6:r==6 with
      | true =>
       obtain⟨q,g1,g2⟩:=Jk r hc (hd.resolve_right fun h=>h.2 (by simpa using h6))
       simp only[cond_true,cond_false,g1,af];exact ⟨_,rfl,g2⟩
      | false =>
       cases h7:r==7 with
       | true=>exact asm
       | false=>exact ⟨_,rfl,fun h=>nomatch h⟩
def W9 (x:wX):zbU:=(x.2.2.2.2.2.2.2.1,x.2.2.2.2.2.2.2.2.1,x.2.2.2.2.2.2.2.2.2)
def zcz:zbU:=([],[],[])
def Ix:Cb:=([],[],false,[])
def N9 (o:Option Cb):Option Cb:=o.bind fun r=>cond (!r.2.2.1) (some Ix) (some (r.1,r.2.1,true,r.2.2.2))
def Wg (x:wX):Bool:=Vf x.1 x.2.1 x.2.2.1 x.2.2.2.1 x.2.2.2.2.1 x.2.2.2.2.2.1 x.2.2.2.2.2.2.1
def TP (r:Int):Bool:=r==1||(r==3||(r==5||r==6))
def KE (a0:List zh) (x:wX) (k:Int) (g:Int->Option wX):Option Cb :=
 cond (!Wg x) (some Ix)
 (cond (x.1==0) ((uF x.2.2.2.2.2.2.2.1 x.2.2.2.2.2.2.2.2.1 x.2.2.2.2.2.2.2.2.2).bind fun r=>some (r.1,r.2.1,true,r.2.2))
  (cond (decide (x.2.1<0)) (some Ix)
   (cond (decide (x.2.1≥k)) (some Ix)
    (cond (TP x.1)
     (cond (decide (x.2.2.2.2.1<0)) (some Ix)
      (cond (decide (x.2.2.2.2.1≥k)) (some Ix)
       ((g x.2.2.2.2.1).bind fun sb=>(g x.2.1).bind fun sa=>N9 (LW a0 x.1 x.2.2.1 x.2.2.2.1 x.2.2.2.2.2.1 x.2.2.2.2.2.2.1 (W9 sa) (W9 sb)))))
     ((g x.2.1).bind fun sa=>N9 (LW a0 x.1 x.2.2.1 x.2.2.2.1 x.2.2.2.2.2.1 x.2.2.2.2.2.2.1 (W9 sa) zcz))))))
theorem Td (a0:List zh) (log:List wX) (k:Int):rx a0 log k=(gx log k).bind fun x=>KE a0 x k (gx log):=by
 unfold rx;cases gx log k with
 | none=>rfl
 | some x =>
  obtain⟨p,h1,h2⟩:=No x.1 x.2.1 x.2.2.1 x.2.2.2.1 x.2.2.2.2.1 x.2.2.2.2.2.1 x.2.2.2.2.2.2.1 x.2.2.2.2.2.2.2.1 x.2.2.2.2.2.2.2.2.1 x.2.2.2.2.2.2.2.2.2;simp only[af];rw[h1,af,h2,af];unfold KE;rw[show Wg x=Vf x.1 x.2.1 x.2.2.1 x.2.2.2.1 x.2.2.2.2.1 x.2.2.2.2.2.1 x.2.2.2.2.2.2.1 from rfl]
  cases Vf x.1 x.2.1 x.2.2.1 x.2.2.2.1 x.2.2.2.2.1 x.2.2.2.2.2.1 x.2.2.2.2.2.2.1 with
  | false=>rfl
  | true =>
   unfold TP;cases x.1==0 with
   | true=>rfl
   | false =>
    cases decide (x.2.1<0) with
    | true=>rfl
    | false =>
     cases decide (x.2.1≥k) with
     | true=>rfl
     | false =>
      cases x.1==1 with
      | true=>rfl
      | false =>
       cases x.1==3 with
       | true=>rfl
       | false =>
        cases x.1==5 with
        | true=>rfl
        | false =>
         cases x.1==6 with
         | true=>rfl
         | false=>rfl
def Dq (a0:List zh) (log:List wX) (k:Nat):Prop:=∃ x,log[k]? = some x∧KE a0 x (k:Int) (gx log)=some (x.2.2.2.2.2.2.2.1,x.2.2.2.2.2.2.2.2.1,true,x.2.2.2.2.2.2.2.2.2)
theorem Tn {a0:List zh} {log:List wX} (h:Cr a0 log=true) {k:Nat} {x:wX} (hk:log[k]? = some x):∃ q,KE a0 x (k:Int) (gx log)=some q∧(q.2.2.1=true->wm a0 q.1 q.2.1 q.2.2.2=true):=by
 obtain⟨hs,hl,hall⟩:=sf h;have hx:=hall x (aP hk);obtain⟨hkl,-⟩:=au.1 hk;have bad:∃ q,some Ix=some q∧(q.2.2.1=true->wm a0 q.1 q.2.1 q.2.2.2=true):=⟨_,rfl,fun h=>nomatch h⟩;unfold KE;cases Wg x with
 | false=>exact bad
 | true =>
  cases x.1==0 with
  | true =>
   have hm:=W7 hx;simp only[az,cond_true,cond_false];rw[kU hm];exact ⟨_,rfl,fun _=>hm⟩
  | false =>
   simp only[az,cond_false];by_cases ha:x.2.1<0
   ·rw[decide_eq_true ha]; exact bad
   rw[decide_eq_false ha,cond_false];by_cases hak:x.2.1≥(k:Int)
   ·rw[decide_eq_true hak]; exact bad
   rw[decide_eq_false hak,cond_false];obtain⟨sa,ga,gm,-⟩:=Kx (xs:=log) (i:=x.2.1) (by omega) (by omega)
   have hma:=W7 (hall sa gm);have fin:∀{d:zbU},(wm a0 d.1 d.2.1 d.2.2=true∨(x.1≠5∧x.1≠6))->∃ q,N9 (LW a0 x.1 x.2.2.1 x.2.2.2.1 x.2.2.2.2.2.1 x.2.2.2.2.2.2.1 (W9 sa) d)=some q∧(q.2.2.1=true->wm a0 q.1 q.2.1 q.2.2.2=true):=by
    intro d hd;have hi:0<=x.2.2.1:=by
     unfold Q7 DF wiB at hx;simp only[ay,decide_eq_true_eq] at hx;exact hx.1.2.2.2.1.1
    obtain⟨q,g1,g2⟩:=Sf (a0:=a0) x.1 x.2.2.1 x.2.2.2.1 x.2.2.2.2.2.1 x.2.2.2.2.2.2.1 (c:=W9 sa) (d:=d) hma hd hi;unfold N9;rw[g1,af];cases hq:q.2.2.1 with
    | false=>exact bad
    | true=>exact ⟨_,rfl,fun _=>g2 hq⟩
   cases ht:TP x.1 with
   | true =>
    rw[cond_true];by_cases hb:x.2.2.2.2.1<0
    ·rw[decide_eq_true hb]; exact bad
    rw[decide_eq_false hb,cond_false];by_cases hbk:x.2.2.2.2.1≥(k:Int)
    ·rw[decide_eq_true hbk]; exact bad
    rw[decide_eq_false hbk,cond_false];obtain⟨sb,gb,gmb,-⟩:=Kx (xs:=log) (i:=x.2.2.2.2.1) (by omega) (by omega)
    rw[gb,af,ga,af];exact fin (.inl (W7 (hall sb gmb)))
   | false =>
    rw[cond_false,ga,af];refine fin (.inr ?_);unfold TP at ht;simp only[cN,beq_eq_false_iff_ne] at ht;exact ⟨ht.2.2.1,ht.2.2.2⟩
theorem B6 {a0:List zh} {log:List wX} (h:Cr a0 log=true):(es:List wX)->(k i:Nat)->es.length<k->log.drop i=es ->
  (lp xw k (a0,log,((log.length:Nat):Int),(i:Int))=some (.inl ())∧∀ m,i<=m->m<log.length->Dq a0 log m) ∨
  ∃ m:Nat,i<=m∧m<log.length∧¬ Dq a0 log m∧lp xw k (a0,log,((log.length:Nat):Int),(i:Int))=some (.inr ((m:Int),0))
 | _,0,_,h,_=>by omega
 | [],k+1,i,_,hd=>by
  refine .inl ⟨?_,fun m h1 h2 => ?_⟩
  ·rw[zx];generalize lp xw k=rec;unfold xw;simp only[kz (xL hd),cond_false]
  ·have:=xL hd; omega
 | x::es,k+1,i,hk,hd=>by
  have hx:=zr hd;have hi:=qg hd;have hl:log.length<=maxLen:=aV (sf h).2.1 (by decide)
  obtain⟨q,g1,g2⟩:=Tn h hx;have e1:rx a0 log (i:Int)=some q:=by rw[Td,yE,hx]; exact g1
  have ih:=B6 h es k (i+1) (by rw[ak] at hk; omega) (zj hd)
  rw[zx];generalize lp xw k=rec at ih ⊢;unfold xw;simp only[ZD hi,cond_true,e1,af,yE,hx,jc hi hl];cases hq:q.2.2.1 with
  | false =>
   refine .inr ⟨i,aE _,hi,?_,rfl⟩;rintro⟨y,h1,h2⟩;rw[hx] at h1;cases h1
   rw[g1] at h2;rw[eA h2] at hq;cases hq
  | true =>
   rw[Kz (g2 hq),af];simp only[az,cond_false];by_cases he:(q.1,q.2.1,q.2.2.2)=(x.2.2.2.2.2.2.2.1,x.2.2.2.2.2.2.2.2.1,x.2.2.2.2.2.2.2.2.2)
   ·rw[decide_eq_true he];simp only[az,cond_false];refine ih.imp (fun h=>⟨h.1,fun m h1 h2 => ?_⟩) (fun ⟨m,h1,h2⟩=>⟨m,by omega,h2⟩)
    by_cases hm:m=i
    ·subst hm;refine ⟨x,hx,?_⟩;rw[g1];obtain⟨q1,q2,q3,q4⟩:=q;simp only[aK] at he hq;rw[he.1,he.2.1,he.2.2,hq]
    ·exact h.2 m (by omega) h2
   ·rw[decide_eq_false he];refine .inr ⟨i,aE _,hi,?_,rfl⟩;rintro⟨y,h1,h2⟩;rw[hx] at h1;cases h1
    rw[g1] at h2;apply he;rw[eA h2]
theorem Jl {a0:List zh} {log:List wX} (h:Cr a0 log=true):(xI a0 log=some (-1,0)∧∀ m,m<log.length->Dq a0 log m)∨∃ m:Nat,m<log.length∧¬ Dq a0 log m∧xI a0 log=some ((m:Int),0):=by
 unfold xI;rw[Vh,h,af];simp only[az,cond_false];rcases B6 h log zd 0 (co (sf h).2.1 (by decide)) rfl with ⟨g1,g2⟩ | ⟨m,g1,g2,g3,g4⟩
 ·refine .inl ⟨?_,fun m hm=>g2 m (bK _) hm⟩;rw[show (0:Int)=((0:Nat):Int) from rfl,g1]
  rfl
 ·refine .inr ⟨m,g2,g3,?_⟩;rw[show (0:Int)=((0:Nat):Int) from rfl,g4]
  rfl
theorem Ha {a0:List zh} {log:List wX} (h:Cr a0 log=false):xI a0 log=some (0,1800):=by
 unfold xI;rw[Vh,h];rfl
theorem KW:QM=some true:=by kernel_rfl
theorem Ja:(n:Nat)->(M A B:List Int)->(f:Nat)->M.length=n->M.length<f->A.length+M.length+B.length<=1000000->lp yz f ((A.length:Int),(A.length:Int)+(M.length:Int) - 1,A++M++B)=some (A++M.reverse++B)
 | n,M,A,B,0,_,h,_=>by omega
 | n,M,A,B,f+1,hn,hf,hl=>by
  rw[zx]
  match n,hn with
  | 0,hn =>
   obtain rfl:=bS.1 hn;generalize lp yz f=rec;unfold yz;simp only;rw[decide_eq_false (show ¬((A.length:Int)<(A.length:Int)+(([]:List Int).length:Int) - 1) by rw[bc]; omega)]
   rfl
  | 1,hn =>
   obtain⟨x,rfl⟩:=List.length_eq_one_iff.1 hn;generalize lp yz f=rec;unfold yz;simp only;rw[decide_eq_false (show ¬((A.length:Int)<(A.length:Int)+(([x]:List Int).length:Int) - 1) by rw[aD]; omega)]
   rfl
  | n+2,hn =>
   obtain⟨x,N,rfl⟩:∃ x N,M=x::N:=by
    cases M with
    | nil=>cases hn
    | cons x N=>exact ⟨x,N,rfl⟩
   obtain⟨P,y,rfl⟩:∃ P y,N=P++[y]:=by
    rcases List.eq_nil_or_concat N with rfl | ⟨P,y,rfl⟩
    ·simp at hn
    ·exact ⟨P,y,by simp⟩
   simp only[ak,al,bc] at hn hf hl;have ih:=Ja n P (A++[y]) ([x]++B) f (by omega) (by omega) (by simp; omega)
   generalize lp yz f=rec at ih ⊢;unfold yz;simp only;have e1:A++x::(P++[y])++B=A++x::(P++y::B):=by simp
   have e2:A++y::(P++y::B)=(A++y::P)++y::B:=by simp
   have e0:A++x::(P++y::B)=(A++x::P)++y::B:=by simp
   have w0:(A.length:Int)+((x::(P++[y])).length:Int) - 1=((A.length+P.length+1:Nat):Int):=by simp; omega
   have w1:ag .i64 ((A.length:Int)+1)=((A.length+1:Nat):Int):=by rw[zn]<;>omega
   have w2:ag .i64 (((A.length+P.length+1:Nat):Int) - 1)=((A.length+P.length:Nat):Int):=by rw[zn]<;>omega
   have l1:(A++x::(P++y::B)).length=A.length+P.length+B.length+2:=by simp; omega
   have l2:(A++y::(P++y::B)).length=A.length+P.length+B.length+2:=by simp; omega
   have g1:(A++x::(P++y::B))[A.length+P.length+1]? = some y:=by
    rw[e0,show A.length+P.length+1=(A++x::P).length by simp; omega,rP]
   have g2:(A++y::(P++y::B))[A.length+P.length+1]? = some y:=by
    rw[e2,show A.length+P.length+1=(A++y::P).length by simp; omega,rP]
   have s2:(A++y::(P++y::B)).set (A.length+P.length+1) x=(A++y::P)++x::B:=by
    rw[e2,show A.length+P.length+1=(A++y::P).length by simp; omega,VC]
   rw[e1,w0,decide_eq_true (show (A.length:Int)<((A.length+P.length+1:Nat):Int) by omega),cond_true,w1,w2]
   simp only[zO (show A.length+P.length+1<(A++x::(P++y::B)).length by omega),zO (show A.length<(A++x::(P++y::B)).length by omega),af,g1,rP,VC,zO (show A.length+P.length+1<(A++y::(P++y::B)).length by omega),g2,s2]
   rw[al,aD,show ((A.length+1:Nat):Int)+(P.length:Int) - 1=((A.length+P.length:Nat):Int) by omega] at ih
   rw[show A++y::P++x::B=A++[y]++P++([x]++B) by simp,ih]
   simp
theorem CW {xs:List Int} (h:xs≠[]) (hl:xs.length<=1000):xv xs=some xs.reverse:=by
 unfold xv;have:=Ja xs.length xs [] [] zd rfl (co hl (by decide)) (by simp; omega)
 rw[bG,bG,bj,bj] at this;have hp:0<xs.length:=cR.2 h;have w:ag .i64 (((aa xs:Nat):Int) - 1)=(([]:List Int).length:Int)+(xs.length:Int) - 1:=by
  rw[zn (by omega) (by omega),bc]; omega
 rw[w,show (0:Int)=(([]:List Int).length:Int) from rfl,this,af,di,Nat.beq_refl,show List.isEmpty xs=false from by cases xs with | nil=>cases h rfl | cons _ _=>rfl]
 rfl
theorem R1 {a0:List zh} {x:wX} {k:Int} {g:Int->Option wX} {q:Cb} (hx:Q7 a0 x=true) (h:KE a0 x k g=some q) (hq:q.2.2.1=true):(x.2.1 = -1∨(0<=x.2.1∧x.2.1<k))∧(x.2.2.2.2.1 = -1∨(0<=x.2.2.2.2.1∧x.2.2.2.2.1<k)):=by
 have bad:some Ix=some q->False:=fun h=>by rw[← eA h] at hq; cases hq
 unfold Q7 DF wiB at hx;simp only[ay,decide_eq_true_eq] at hx;unfold KE at h;cases hn:Wg x with
 | false=>rw[hn] at h; exact (bad h).elim
 | true =>
  rw[hn] at h;unfold Wg Vf at hn;cases h0:x.1==0 with
  | true =>
   rw[if_pos (by simpa using h0),decide_eq_true_eq] at hn
   exact ⟨.inl hn.1,.inl hn.2.2.2.1⟩
  | false =>
   rw[h0] at h;simp only[az,cond_false] at h;by_cases ha:x.2.1<0
   ·rw[decide_eq_true ha] at h; exact (bad h).elim
   rw[decide_eq_false ha,cond_false] at h;by_cases hak:x.2.1≥k
   ·rw[decide_eq_true hak] at h; exact (bad h).elim
   rw[decide_eq_false hak,cond_false] at h;refine ⟨.inr ⟨by omega,by omega⟩,?_⟩
   cases ht:TP x.1 with
   | true =>
    rw[ht,cond_true] at h;by_cases hb:x.2.2.2.2.1<0
    ·rw[decide_eq_true hb] at h; exact (bad h).elim
    rw[decide_eq_false hb,cond_false] at h;by_cases hbk:x.2.2.2.2.1≥k
    ·rw[decide_eq_true hbk] at h; exact (bad h).elim
    exact .inr ⟨by omega,by omega⟩
   | false =>
    left;unfold TP at ht;simp only[cN,beq_eq_false_iff_ne] at ht h0;rw[if_neg h0,if_neg ht.1,if_neg ht.2.1,if_neg ht.2.2.1,if_neg ht.2.2.2] at hn;by_cases h2:x.1=2
    ·rw[if_pos h2,decide_eq_true_eq] at hn; exact hn.2.1
    by_cases h4:x.1=4
    ·rw[if_neg h2,if_pos h4,decide_eq_true_eq] at hn; exact hn.2.1
    by_cases h7:x.1=7
    ·rw[if_neg h2,if_neg h4,if_pos h7,decide_eq_true_eq] at hn; exact hn.2.1
    rw[if_neg h2,if_neg h4,if_neg h7,decide_eq_true_eq] at hn;exact hn.2.2.1
theorem zdH (k:Int):(es:List Int)->(s:List Bool)->yT k es s=z5 k es s
 | [],_=>rfl
 | e::es,s=>by
  unfold yT z5;simp only[zdH k es]
theorem Hm (k:Nat):(es:List Int)->(s:List Bool)->k<=s.length->∃ s',z5 (k:Int) es s=some s'∧s'.length=s.length∧(∀ m:Nat,s[m]? = some true->s'[m]? = some true)∧∀ p:Nat,(p:Int)∈es->p<k->s'[p]? = some true
 | [],s,_=>⟨s,rfl,rfl,fun _ h=>h,fun _ h=>nomatch h⟩
 | e::es,s,hk=>by
  unfold z5;by_cases h0:e≥0
  ·rw[decide_eq_true h0,cond_true];obtain⟨e,rfl⟩:=de h0;by_cases h1:(e:Int)<(k:Int)
   ·rw[decide_eq_true h1,cond_true,zO (by omega),af]
    have hel:e<s.length:=by omega
    rw[am hel,af];obtain⟨s',g1,g2,g3,g4⟩:=Hm k es (s.set e true) (by rw[bX]; exact hk)
    refine ⟨s',g1,by rw[g2,bX],fun m hm=>g3 m ?_,fun p hp hpk => ?_⟩
    ·by_cases hme:e=m
     ·subst hme; rw[bH hel]
     ·rw[cd hme]; exact hm
    ·rcases aC.1 hp with hp | hp
     ·obtain rfl:p=e:=by omega
      exact g3 p (bH hel)
     ·exact g4 p hp hpk
   ·rw[decide_eq_false h1,cond_false];obtain⟨s',g1,g2,g3,g4⟩:=Hm k es s hk;refine ⟨s',g1,g2,g3,fun p hp hpk => ?_⟩;rcases aC.1 hp with hp | hp
    ·omega
    ·exact g4 p hp hpk
  ·rw[decide_eq_false h0,cond_false];obtain⟨s',g1,g2,g3,g4⟩:=Hm k es s hk;refine ⟨s',g1,g2,g3,fun p hp hpk => ?_⟩;rcases aC.1 hp with hp | hp
   ·omega
   ·exact g4 p hp hpk
def Par (x:wX) (p:Nat):Prop:=(p:Int)=x.2.1∨(p:Int)=x.2.2.2.2.1
structure UInv (log:List wX) (K m:Nat) (need:List Bool) (used:List Nat):Prop where
 len:need.length=K+1
 top:used.head? = some K
 dec:used.Pairwise (fun a b=>b<a)
 low:∀ u∈used,m<=u∧u<=K
 cnt:used.length+m<=K+1
 clo:∀ u∈used,∀ x,log[u]? = some x->∀ p,Par x p->p∈used∨(p<m∧need[p]? = some true)
theorem UInv.skip {log:List wX} {K m:Nat} {need:List Bool} {used:List Nat} (h:UInv log K (m+1) need used) (hm:need[m]? ≠ some true):UInv log K m need used:=by
 obtain⟨h1,h2,h3,h4,h5,h6⟩:=h;refine ⟨h1,h2,h3,fun u hu=>⟨by have:=h4 u hu; omega,(h4 u hu).2⟩,by omega,fun u hu x hx p hp => ?_⟩
 rcases h6 u hu x hx p hp with h | ⟨h,h'⟩
 ·exact .inl h
 ·by_cases hpm:p=m
  ·rw[hpm] at h'; exact (hm h').elim
  ·exact .inr ⟨by omega,h'⟩
theorem UInv.take {log:List wX} {K m:Nat} {need need':List Bool} {used:List Nat} {x:wX} (h:UInv log K (m+1) need used) (hx:log[m]? = some x) (hl:need'.length=need.length) (hk:∀ p:Nat,need[p]? = some true->need'[p]? = some true) (hp:∀ p:Nat,Par x p->p<m∧need'[p]? = some true):UInv log K m need' (used++[m]):=by
 obtain⟨h1,h2,h3,h4,h5,h6⟩:=h;have hne:used≠[]:=fun e=>by rw[e] at h2; cases h2
 have hK:m+1<=K:=by
  cases used with
  | nil=>cases hne rfl
  | cons u us =>
   have:=h4 u (aj ..);omega
 refine ⟨by omega,?_,?_,fun u hu => ?_,by rw[al,aD]; omega,fun u hu y hy p hpy => ?_⟩
 ·rw[List.head?_append,h2]; rfl
 ·rw[List.pairwise_append];refine ⟨h3,fh ..,fun a ha b hb => ?_⟩;rw[ba.1 hb];have:=h4 a ha;omega
 ·rcases aI.1 hu with hu | hu
  ·have:=h4 u hu; omega
  ·rw[ba.1 hu]; omega
 ·rcases aI.1 hu with hu | hu
  ·rcases h6 u hu y hy p hpy with h | ⟨h,h'⟩
   ·exact .inl (List.mem_append_left _ h)
   ·by_cases hpm:p=m
    ·exact .inl (List.mem_append_right _ (by rw[hpm]; exact ba.2 rfl))
    ·exact .inr ⟨by omega,hk p h'⟩
  ·rw[ba.1 hu,hx] at hy;cases hy
   exact .inr (hp p hpy)
def tA (xs:List Nat):List Int:=xs.map Int.ofNat
theorem jh (xs:List Nat):(tA xs).length=xs.length:=List.length_map ..
theorem Dc (xs:List Nat) (m:Nat):tA xs++[(m:Int)]=tA (xs++[m]):=by unfold tA; rw[List.map_append]; rfl
theorem Ld (xs:List Nat):(tA xs).reverse=tA xs.reverse:=by unfold tA; rw[List.map_reverse]
theorem Fu (x y:Int):[x,y].length<=maxLen:=show 2<=maxLen by decide
section
variable {a0:List zh} {log:List wX} (h:Cr a0 log=true) (hr:∀ m,m<log.length->Dq a0 log m)
include h hr
theorem Lx {m:Nat} {x:wX} (hx:log[m]? = some x):(x.2.1 = -1∨(0<=x.2.1∧x.2.1<(m:Int)))∧(x.2.2.2.2.1 = -1∨(0<=x.2.2.2.2.1∧x.2.2.2.2.1<(m:Int))):=by
 obtain⟨hm,-⟩:=au.1 hx;obtain⟨y,h1,h2⟩:=hr m hm;rw[hx] at h1;cases h1
 exact R1 ((sf h).2.2 x (aP hx)) h2 rfl
theorem Hy {m p:Nat} {x:wX} (hx:log[m]? = some x) (hp:Par x p):p<m:=by
 have:=Lx h hr hx;unfold Par at hp;omega
theorem E3 {K:Nat} (hK:K<log.length):(m f:Nat)->m<f->(need:List Bool)->(used:List Nat)->UInv log K (m+1) need used ->
  ∃ out nd,lp vi f (log,(m:Int),need,tA used)=some (0,tA out.reverse)∧UInv log K 0 nd out
 | _,0,h,_,_,_=>by omega
 | m,f+1,hf,need,used,hI=>by
  have hne:used≠[]:=fun e=>by have:=hI.top; rw[e] at this; cases this
  have hml:m<need.length:=by
   have:=hI.len;have:=hI.cnt;have:0<used.length:=cR.2 hne;omega
  have hK200:log.length<=200:=(sf h).2.1;have hu:used.length<=200:=by have:=hI.cnt; omega
  have hmK:m<K:=by
   have:=hI.cnt;have:0<used.length:=cR.2 hne;omega
  obtain⟨x,hx⟩:∃ x,log[m]? = some x:=⟨_,am (by omega)⟩
  obtain⟨need',g1,g2,g3,g4⟩:=Hm m [x.2.1,x.2.2.2.2.1] need (by omega)
  have hl1:lp w9 zd (log,(m:Int),[x.2.1,x.2.2.2.2.1],((aa [x.2.1,x.2.2.2.2.1]:Nat):Int),0,need)=some need':=by
   rw[Qd log m [x.2.1,x.2.2.2.2.1] need (Fu ..),zdH,g1]
  have rev:∀ us:List Nat,us≠[]->us.length<=300->xv (tA us)=some (tA us.reverse):=fun us h1 h2=>by
   rw[CW (fun e=>h1 (bS.1 (by rw[← jh,e]; rfl))) (by rw[jh]; omega),Ld]
  rw[zx];have ih:∀ m',m=m'+1->∀ need used,UInv log K (m'+1) need used->∃ out nd,lp vi f (log,(m':Int),need,tA used)=some (0,tA out.reverse)∧UInv log K 0 nd out:=fun m' he need used hI=>E3 hK m' f (by omega) need used hI
  generalize lp vi f=rec at ih ⊢;unfold vi;simp only[zO hml,af,yE,hx,hl1];have key:∀ need used,UInv log K m need used->used.length<=300->∃ out nd,(cond (decide (ag .i64 ((m:Int) - 1)≥0)) (rec (log,ag .i64 ((m:Int) - 1),need,tA used)) ((xv (tA used)).bind fun r33=>some (0,r33)))=some (0,tA out.reverse)∧UInv log K 0 nd out:=by
   intro need used hI hul;have hne:used≠[]:=fun e=>by have:=hI.top; rw[e] at this; cases this
   rw[zn (by omega) (by omega)]
   cases m with
   | zero =>
    rw[decide_eq_false (by omega),cond_false,rev used hne hul]
    exact ⟨used,need,rfl,hI⟩
   | succ m =>
    rw[decide_eq_true (by omega),cond_true,show ((m+1:Nat):Int) - 1=(m:Int) by omega]
    exact ih m rfl need used hI
  obtain⟨b,hb⟩:∃ b,need[m]? = some b:=⟨_,am hml⟩;rw[hb,af];cases b with
  | true =>
   simp only[cond_true];rw[zm (by rw[jh,aD]; omega),cond_true,Dc]
   exact key need' (used++[m]) (hI.take hx g2 g3 (fun p hp=>by
    have hpm:=Hy h hr hx hp;refine ⟨hpm,g4 p ?_ hpm⟩;rcases hp with hp | hp
    ·rw[hp]; exact aj ..
    ·rw[hp]; exact ai _ (aj ..))) (by rw[al,aD]; omega)
  | false =>
   simp only[cond_false];exact key need used (hI.skip (by rw[hb]; exact fun h=>nomatch h)) (by omega)
theorem LU {K:Nat} (hK:K<log.length):∃ out nd,jx a0 log (K:Int)=some (0,tA out.reverse)∧UInv log K 0 nd out:=by
 have hK200:log.length<=200:=(sf h).2.1;obtain⟨x,hx⟩:∃ x,log[K]? = some x:=⟨_,am hK⟩;have w1:ag .i64 ((K:Int)+1)=((K+1:Nat):Int):=by rw[zn]<;>omega
 obtain⟨need',g1,g2,g3,g4⟩:=Hm K [x.2.1,x.2.2.2.2.1] ((ax (K+1) false).set K true) (by simp)
 have hl1:lp ve zd (log,(K:Int),[x.2.1,x.2.2.2.2.1],((aa [x.2.1,x.2.2.2.2.1]:Nat):Int),0,(ax (K+1) false).set K true)=some need':=by
  rw[Y8 log K [x.2.1,x.2.2.2.2.1] ((ax (K+1) false).set K true) (Fu ..),g1]
 have hI:UInv log K K need' [K]:=by
  refine ⟨by rw[g2]; simp,rfl,fh ..,fun u hu=>by rw[ba.1 hu]; omega,by simp; omega,fun u hu y hy p hp => ?_⟩
  rw[ba.1 hu,hx] at hy;cases hy
  have hpm:=Hy h hr hx hp;refine .inr ⟨hpm,g4 p ?_ hpm⟩;rcases hp with hp | hp
  ·rw[hp]; exact aj ..
  ·rw[hp]; exact ai _ (aj ..)
 unfold jx;rw[Vh,h,af];simp only[az,cond_false];rw[decide_eq_false (show ¬((K:Int)<0) by omega),cond_false,decide_eq_false (show ¬((K:Int)≥((log.length:Nat):Int)) by omega),cond_false,w1,
  show eqI ((K+1:Nat):Int) ((K+1:Nat):Int)=true from VA.2 rfl,show BY ((K+1:Nat):Int)=true from by simp [BY]; omega,cond_true,cond_true,bh,zm (by omega),cond_true]
 simp only[zO (show K<(ax (K+1) false).length by simp),af,List.getElem?_replicate,if_pos (Nat.lt_succ_self K),zO (show K<((ax (K+1) false).set K true).length by simp),bH (show K<(ax (K+1) false).length by simp),cond_true,yE,hx,hl1]
 rw[zm (by simp),cond_true,zn (by omega) (by omega)]
 cases K with
 | zero =>
  rw[decide_eq_false (by omega),cond_false]
  exact ⟨[0],need',rfl,hI⟩
 | succ m =>
  rw[decide_eq_true (by omega),cond_true,show ((m+1:Nat):Int) - 1=(m:Int) by omega]
  obtain⟨out,nd,e1,e2⟩:=E3 h hr hK m zd (co (show m<=200 by omega) (by decide)) need' [m+1] hI
  exact ⟨out,nd,by rw[show ([((m+1:Nat):Int)]:List Int)=tA [m+1] from rfl,e1]; rfl,e2⟩
end
def Pt (ns:List Nat) (j:Nat) (p p':Int):Prop:=(p = -1∧p' = -1)∨∃ q q':Nat,p=(q:Int)∧p'=(q':Int)∧q'<j∧ns[q']? = some q
def YI (x:wX) (a b:Int):wX:=(x.1,a,x.2.2.1,x.2.2.2.1,b,x.2.2.2.2.2.1,x.2.2.2.2.2.2.1,x.2.2.2.2.2.2.2.1,x.2.2.2.2.2.2.2.2.1,x.2.2.2.2.2.2.2.2.2)
theorem Bl (x:wX) (a b:Int) (ha:x.2.1 = -1↔a = -1) (hb:x.2.2.2.2.1 = -1↔b = -1):Wg (YI x a b)=Wg x:=by
 unfold Wg YI Vf;simp only[ha,hb]
theorem ML {a0:List zh} (x:wX) {a b k k':Int} {g g':Int->Option wX}
  (ha:(x.2.1 = -1∧a = -1)∨(0<=x.2.1∧x.2.1<k∧0<=a∧a<k'∧∃ y y',g x.2.1=some y∧g' a=some y'∧W9 y'=W9 y))
  (hb:(x.2.2.2.2.1 = -1∧b = -1)∨(0<=x.2.2.2.2.1∧x.2.2.2.2.1<k∧0<=b∧b<k'∧∃ y y',g x.2.2.2.2.1=some y∧g' b=some y'∧W9 y'=W9 y)) :
  KE a0 (YI x a b) k' g'=KE a0 x k g:=by
 unfold KE;rw[Bl x a b (by rcases ha with h | h<;>omega) (by rcases hb with h | h<;>omega)]
 unfold YI;simp only;rcases ha with ⟨ha,ha'⟩ | ⟨a1,a2,a3,a4,y,y',a5,a6,a7⟩
 ·rw[ha,ha'];rfl
 ·rw[decide_eq_false (show ¬ x.2.1<0 by omega),decide_eq_false (show ¬ a<0 by omega),decide_eq_false (show ¬ x.2.1≥k by omega),decide_eq_false (show ¬ a≥k' by omega),a5,a6]
  rcases hb with ⟨hb,hb'⟩ | ⟨b1,b2,b3,b4,z,z',b5,b6,b7⟩
  ·rw[hb,hb'];simp only[af,a7];rfl
  ·rw[decide_eq_false (show ¬ x.2.2.2.2.1<0 by omega),decide_eq_false (show ¬ b<0 by omega),decide_eq_false (show ¬ x.2.2.2.2.1≥k by omega),decide_eq_false (show ¬ b≥k' by omega),b5,b6]
   simp only[af,a7,b7]
section
variable {a0:List zh} {log:List wX} (h:Cr a0 log=true) (hr:∀ m,m<log.length->Dq a0 log m)
 {ns:List Nat} (hp:ns.Pairwise (fun a b=>a<b)) (hlt:∀ u∈ns,u<log.length) (hclo:∀ u∈ns,∀ x,log[u]? = some x->∀ p,Par x p->p∈ns)
include h hr hp hlt hclo
omit h hr hlt hclo in
theorem R2 {i j u v:Nat} (h1:ns[i]? = some u) (h2:ns[j]? = some v) (hij:i<j):u<v:=by
 obtain⟨a1,a2⟩:=au.1 h1;obtain⟨b1,b2⟩:=au.1 h2;have:=List.pairwise_iff_getElem.1 hp i j a1 b1 hij;rw[a2,b2] at this;exact this
omit h hr hlt hclo in
theorem zai {i j u v:Nat} (h1:ns[i]? = some u) (h2:ns[j]? = some v) (huv:u<v):i<j:=by
 rcases Nat.lt_trichotomy i j with h | h | h
 ·exact h
 ·subst h; rw[h1] at h2; cases h2; omega
 ·have:=R2 hp h2 h1 h; omega
theorem UT {i u:Nat} {x:wX} (hu:ns[i]? = some u) (hx:log[u]? = some x) {p:Int} (hpx:p=x.2.1∨p=x.2.2.2.2.1):p = -1∨∃ q q':Nat,p=(q:Int)∧q<log.length∧q'<i∧ns[q']? = some q:=by
 have hpl:=Lx h hr hx;by_cases hp0:p = -1
 ·exact .inl hp0
 ·right;have h0:0<=p∧p<(u:Int):=by
   rcases hpx with rfl | rfl
   ·exact hpl.1.resolve_left hp0
   ·exact hpl.2.resolve_left hp0
  obtain⟨q,rfl⟩:=de h0.1;have hm:=hclo u (aP hu) x hx q hpx;obtain⟨q',hq'⟩:=cr.1 hm;exact ⟨q,q',rfl,hlt q hm,zai hp hq' hu (by omega),hq'⟩
theorem A1 (hns:ns.length<=1000):(es:List Nat)->(i:Nat)->ns.drop i=es->(at':List Int)->(acc:List wX)->at'.length=log.length->(∀ j u:Nat,j<i->ns[j]? = some u->at'[u]? = some (j:Int))->acc.length=i ->
  (∀ j:Nat,j<i->∃ u x a b,ns[j]? = some u∧log[u]? = some x∧acc[j]? = some (YI x a b)∧Pt ns j x.2.1 a∧Pt ns j x.2.2.2.2.1 b) ->
  ∃ acc',zo log (tA ns) (tA es) i at' acc=some (.inl acc')∧acc'.length=ns.length∧∀ j:Nat,j<ns.length->∃ u x a b,ns[j]? = some u∧log[u]? = some x∧acc'[j]? = some (YI x a b)∧Pt ns j x.2.1 a∧Pt ns j x.2.2.2.2.1 b
 | [],i,hd,at',acc,_,_,hal,hacc=>by
  have hi:=xL hd;refine ⟨acc,rfl,?_,fun j hj=>hacc j (by omega)⟩
  by_cases hi2:i=ns.length
  ·omega
  ·obtain⟨u,x,a,b,h1,-⟩:=hacc ns.length (by omega)
   rw[List.getElem?_eq_none (aE _)] at h1;cases h1
 | u::es,i,hd,at',acc,hatl,hat,hal,hacc=>by
  have hu:=zr hd;have hi:=qg hd;have hul:=hlt u (aP hu);obtain⟨x,hx⟩:∃ x,log[u]? = some x:=⟨_,am hul⟩;have pa:=UT h hr hp hlt hclo hu hx (p:=x.2.1) (.inl rfl);have pb:=UT h hr hp hlt hclo hu hx (p:=x.2.2.2.2.1) (.inr rfl);have ih:∀ a b,Pt ns i x.2.1 a->Pt ns i x.2.2.2.2.1 b->_:=fun a b ha hb=>A1 hns es (i+1) (zj hd) (at'.set u (i:Int)) (acc++[YI x a b]) (by rw[bX]; exact hatl)
   (fun j v hj hv=>by
    by_cases hji:j=i
    ·subst hji;rw[hu] at hv;cases hv
     exact bH (by omega)
    ·have:=R2 hp hv hu (by omega)
     rw[cd (by omega)]
     exact hat j v (by omega) hv)
   (by rw[al,aD,hal])
   (fun j hj=>by
    by_cases hji:j=i
    ·subst hji;exact ⟨u,x,a,b,hu,hx,by rw[← hal,bu (aE _),dA]; rfl,ha,hb⟩
    ·obtain⟨u',x',a',b',h1,h2,h3,h4⟩:=hacc j (by omega)
     exact ⟨u',x',a',b',h1,h2,by rw[List.getElem?_append_left (by omega)]; exact h3,h4⟩)
  have hroom:yb (aa acc+1) 128=true:=zm (by omega)
  show ∃ acc',zo log (tA ns) ((u:Int)::tA es) i at' acc=_∧_;unfold zo;rw[decide_eq_false (show ¬((u:Int)<0) by omega),cond_false,decide_eq_false (show ¬((u:Int)≥((log.length:Nat):Int)) by omega),cond_false]
  have c1:decide (x.2.1≥((log.length:Nat):Int))=false:=decide_eq_false (by rcases pa with h | ⟨q,q',h,h',-⟩<;>omega)
  have c2:decide (x.2.2.2.2.1≥((log.length:Nat):Int))=false:=decide_eq_false (by rcases pb with h | ⟨q,q',h,h',-⟩<;>omega)
  have hpre:∀ i',i=i'+1->∃ v:Nat,gx (tA ns) (ag .i64 ((i:Int) - 1))=some (v:Int)∧v<u:=by
   rintro i' rfl;obtain⟨v,hv⟩:∃ v,ns[i']? = some v:=⟨_,am (by omega)⟩
   refine ⟨v,?_,R2 hp hv hu (by omega)⟩
   rw[zn (by omega) (by omega),show ((i'+1:Nat):Int) - 1=(i':Int) by omega,yE]
   unfold tA;rw[List.getElem?_map,hv];rfl
  obtain⟨z,hz⟩:∃ z,at'[u]? = some z:=⟨_,am (by omega)⟩
  have hru:inR (u:Int) at'.length=some u:=zO (by omega)
  have ra:∀ q:Nat,q<log.length->inR (q:Int) at'.length=some q:=fun q hq=>zO (by omega)
  have ea:(decide (x.2.1≥0)=false∧Pt ns i x.2.1 x.2.1)∨∃ q q':Nat,decide (x.2.1≥0)=true∧inR x.2.1 at'.length=some q∧at'[q]? = some (q':Int)∧Pt ns i x.2.1 (q':Int):=by
   rcases pa with pa | ⟨q,q',pa,pa1,pa2,pa3⟩
   ·exact .inl ⟨decide_eq_false (by omega),.inl ⟨pa,pa⟩⟩
   ·exact .inr ⟨q,q',decide_eq_true (by omega),by rw[pa]; exact ra q pa1,hat q' q pa2 pa3,.inr ⟨q,q',pa,rfl,pa2,pa3⟩⟩
  have eb:(decide (x.2.2.2.2.1≥0)=false∧Pt ns i x.2.2.2.2.1 x.2.2.2.2.1)∨∃ q q':Nat,decide (x.2.2.2.2.1≥0)=true∧inR x.2.2.2.2.1 at'.length=some q∧at'[q]? = some (q':Int)∧Pt ns i x.2.2.2.2.1 (q':Int):=by
   rcases pb with pa | ⟨q,q',pa,pa1,pa2,pa3⟩
   ·exact .inl ⟨decide_eq_false (by omega),.inl ⟨pa,pa⟩⟩
   ·exact .inr ⟨q,q',decide_eq_true (by omega),by rw[pa]; exact ra q pa1,hat q' q pa2 pa3,.inr ⟨q,q',pa,rfl,pa2,pa3⟩⟩
  unfold YI at ih;by_cases hi0:i=0
  ·rw[decide_eq_false (show ¬((i:Int)>0) by omega),cond_false,yE,hx,af,c1,cond_false,c2,cond_false]
   rcases ea with ⟨a1,a2⟩ | ⟨q,q',a1,a3,a4,a2⟩
   ·rcases eb with ⟨b1,b2⟩ | ⟨w,w',b1,b3,b4,b2⟩
    ·simp only[a1,b1,cond_false,hru,hz,af,aD,hroom,cond_true];exact ih _ _ a2 b2
    ·simp only[a1,b1,b3,b4,cond_false,hru,hz,af,aD,hroom,cond_true];exact ih _ _ a2 b2
   ·rcases eb with ⟨b1,b2⟩ | ⟨w,w',b1,b3,b4,b2⟩
    ·simp only[a1,b1,a3,a4,cond_false,hru,hz,af,aD,hroom,cond_true];exact ih _ _ a2 b2
    ·simp only[a1,b1,a3,a4,b3,b4,hru,hz,af,aD,hroom,cond_true];exact ih _ _ a2 b2
  ·obtain⟨v,v1,v2⟩:=hpre (i - 1) (by omega)
   rw[decide_eq_true (show (i:Int)>0 by omega),cond_true,v1,af,decide_eq_false (show ¬((v:Int)≥(u:Int)) by omega),cond_false,yE,hx,af,c1,cond_false,c2,cond_false]
   rcases ea with ⟨a1,a2⟩ | ⟨q,q',a1,a3,a4,a2⟩
   ·rcases eb with ⟨b1,b2⟩ | ⟨w,w',b1,b3,b4,b2⟩
    ·simp only[a1,b1,cond_false,hru,hz,af,aD,hroom,cond_true];exact ih _ _ a2 b2
    ·simp only[a1,b1,b3,b4,cond_false,hru,hz,af,aD,hroom,cond_true];exact ih _ _ a2 b2
   ·rcases eb with ⟨b1,b2⟩ | ⟨w,w',b1,b3,b4,b2⟩
    ·simp only[a1,b1,a3,a4,cond_false,hru,hz,af,aD,hroom,cond_true];exact ih _ _ a2 b2
    ·simp only[a1,b1,a3,a4,b3,b4,hru,hz,af,aD,hroom,cond_true];exact ih _ _ a2 b2
omit hp hlt hclo in
theorem D2 (hn2:ns.length<=200) {acc:List wX} (hl:acc.length=ns.length) (ha:∀ j:Nat,j<ns.length->∃ u x a b,ns[j]? = some u∧log[u]? = some x∧acc[j]? = some (YI x a b)∧Pt ns j x.2.1 a∧Pt ns j x.2.2.2.2.1 b) :
  Cr a0 acc=true∧∀ m,m<acc.length->Dq a0 acc m:=by
 obtain⟨h1,h2,h3⟩:=sf h;have rng:∀{j:Nat} {p p':Int},j<ns.length->Pt ns j p p' -> -1<=p'∧p'<=199:=by
  rintro j p p' hj (⟨-,h⟩ | ⟨q,q',-,h,h',-⟩)<;>omega
 refine ⟨?_,fun m hm => ?_⟩
 ·unfold Cr;rw[h1,decide_eq_true (show acc.length<=200 by omega),aO,aO,aH]
  intro s hs;obtain⟨j,hj⟩:=cr.1 hs;have hjl:j<ns.length:=by rw[← hl]; exact (au.1 hj).1
  obtain⟨u,x,a,b,g1,g2,g3,g4,g5⟩:=ha j hjl;rw[hj] at g3;cases g3
  have hx:=h3 x (aP g2);have ra:=rng hjl g4;have rb:=rng hjl g5;unfold Q7 DF wiB at hx ⊢;unfold YI;simp only[ay,decide_eq_true_eq] at hx ⊢;exact ⟨⟨hx.1.1,⟨ra,rb,hx.1.2.2.2⟩⟩,hx.2⟩
 ·obtain⟨u,x,a,b,g1,g2,g3,g4,g5⟩:=ha m (by omega)
  have hul:=(au.1 g2).1;obtain⟨y,e1,e2⟩:=hr u hul;rw[g2] at e1;cases e1
  refine ⟨_,g3,?_⟩;have hpl:=Lx h hr g2;have one:∀{p p':Int},(p = -1∨(0<=p∧p<(u:Int)))->Pt ns m p p'->(p = -1∧p' = -1)∨(0<=p∧p<(u:Int)∧0<=p'∧p'<(m:Int)∧∃ y y',gx log p=some y∧gx acc p'=some y'∧W9 y'=W9 y):=by
   rintro p p' hp1 (h | ⟨q,q',rfl,rfl,q1,q2⟩)
   ·exact .inl h
   ·obtain⟨u',x',a',b',k1,k2,k3,-,-⟩:=ha q' (by omega)
    rw[q2] at k1;cases k1
    refine .inr ⟨by omega,by omega,by omega,by omega,x',YI x' a' b',by rw[yE]; exact k2,by rw[yE]; exact k3,rfl⟩
  rw[ML x (one hpl.1 g4) (one hpl.2 g5),e2];rfl
end
theorem Qa (a0:List zh) (log:List wX) (k:Int):xH a0 log k=some true:=by
 unfold xH;rw[KW,af];simp only[az,cond_false];cases h:Cr a0 log with
 | false=>rw[Ha h]; rfl
 | true =>
  rcases Jl h with ⟨g1,g2⟩ | ⟨m,-,-,g1⟩
  ·rw[g1,af];simp only[show uf 0=some 0 from rfl,af,show ((0:Int) != 0)=false from rfl,show ((-1:Int) != -1)=false from rfl,cond_false]
   have h200:=(sf h).2.1;by_cases h0:log.length=0
   ·rw[show (((aa log:Nat):Int)==0)=true from by rw[h0]; rfl]; rfl
   rw[show (((aa log:Nat):Int)==0)=false from by rw[beq_eq_false_iff_ne]; omega,cond_false,HQ (by omega) (by omega),decide_eq_false (show ¬((log.length:Nat):Int)=0 by omega),cond_false]
   have hk0:(0:Int)<=ag .u64 k:=(Ky k).1;have hr1:0<=ez (ag .u64 k) ((log.length:Nat):Int):=Int.tmod_nonneg _ hk0;have hr2:ez (ag .u64 k) ((log.length:Nat):Int)<((log.length:Nat):Int):=Int.tmod_lt_of_pos _ (by omega)
   obtain⟨K,hK⟩:=de hr1;rw[hK] at hr2 ⊢;rw[zn (n:=(K:Int)) (by omega) (by omega)]
   obtain⟨out,nd,e1,e2⟩:=LU h g2 (K:=K) (by omega)
   rw[e1,af];have hne:out≠[]:=fun e=>by have:=e2.top; rw[e] at this; cases this
   have hol:0<out.length:=cR.2 hne;have hcnt:=e2.cnt;obtain⟨ys,rfl⟩:∃ ys,out=K::ys:=by
    have:=e2.top;cases out with
    | nil=>cases this
    | cons y ys=>cases this; exact ⟨ys,rfl⟩
   have hlast:(tA (K::ys).reverse)[ys.length]? = some (K:Int):=by
    rw[List.reverse_cons,← Dc,bu (by rw[jh,di]; omega),jh,di,dA]
    rfl
   have hlen:(tA (K::ys).reverse).length=ys.length+1:=by rw[jh,di,ak]
   rw[ak] at hcnt;obtain⟨acc,r1,r2,r3⟩:=A1 h g2 (ns:=(K::ys).reverse) (List.pairwise_reverse.2 e2.dec) (fun u hu=>by have:=(e2.low u (fj.1 hu)).2; omega)
    (fun u hu x hx p hp=>by
     rcases e2.clo u (fj.1 hu) x hx p hp with h | ⟨h,-⟩
     ·exact fj.2 h
     ·omega) (by rw[di,ak]; omega) (K::ys).reverse 0 rfl (ax log.length 0) [] (by simp) (fun j u hj=>by omega) rfl (fun j hj=>by omega)
   obtain⟨q1,q2⟩:=D2 h g2 (ns:=(K::ys).reverse) (by rw[di,ak]; omega) r2 r3
   have fin:xI a0 acc=some (-1,0):=by
    rcases Jl q1 with ⟨z,-⟩ | ⟨m,z1,z2,-⟩
    ·exact z
    ·exact (z2 (q2 m z1)).elim
   simp only[show uf 0=some 0 from rfl,af,show ((0:Int) != 0)=false from rfl,cond_false,hlen]
   rw[show (((ys.length+1:Nat):Int)==0)=false from by rw[beq_eq_false_iff_ne]; omega,cond_false,zn (by omega) (by omega),show ((ys.length+1:Nat):Int) - 1=(ys.length:Int) by omega,zO (by omega),af,hlast,af,show ((K:Int) != (K:Int))=false from by simp,cond_false,
    show eqI ((log.length:Nat):Int) ((log.length:Nat):Int)=true from VA.2 rfl,show BY ((log.length:Nat):Int)=true from by simp [BY],cond_true,cond_true,bh,zm (by omega),cond_true,
    jb a0 log (tA (K::ys).reverse) (ax log.length 0) [] (by rw[hlen]; exact aV (show ys.length+1<=1000 by omega) (by decide)),r1,af]
   simp only[yl,fin,af,show uf 0=some 0 from rfl]
   rfl
  ·rw[g1,af];simp only[show uf 0=some 0 from rfl,af,show ((0:Int) != 0)=false from rfl,cond_false]
   rw[show ((m:Int) != -1)=true from by rw[bne_iff_ne]; omega]
   rfl
end Go.Abs.Q
