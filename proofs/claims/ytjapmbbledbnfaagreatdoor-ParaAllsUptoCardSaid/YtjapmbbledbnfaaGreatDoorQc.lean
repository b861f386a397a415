import Derived.Test.YtjapmbbledbnfaaGreatDoorQb
/-
  What the functions make of plain values, and what the law says of that.
-/
open Bool renaming and_eq_true -> aw, and_false -> co, eq_iff_iff -> et, false_and -> bn, false_or -> cU, not_false -> bJ, not_true -> aA, or_eq_true -> bO, true_and -> aY
open Go.IntKind renaming wrap -> ah
open Int renaming eq_ofNat_of_zero_le -> eW, le_refl -> d5, toNat -> bP, toNat_natCast -> bq, toNat_of_nonneg -> cz
open List renaming all_cons -> cd, all_eq_true -> aF, any_cons -> eo, any_eq_true -> dp, append_assoc -> bc, drop_eq_getElem_cons -> aX, drop_left -> eg, drop_zero -> bV, filter_cons_of_neg -> cX, filter_cons_of_pos -> dr, filter_eq_self -> fF, getD_eq_getElem?_getD -> aD, getElem?_cons_zero -> aC, getElem?_eq_getElem -> al, getElem?_eq_some_iff -> aq, getElem?_map -> br, length -> aa, length_append -> ax, length_cons -> aj, length_filter_le -> ei, length_map -> aO, length_nil -> bb, length_set -> ci, length_take -> cw, map -> cD, map_append -> dC, map_congr_left -> bS, map_cons -> aJ, mem_append -> aQ, mem_append_left -> bl, mem_cons -> aB, mem_cons_of_mem -> ai, mem_cons_self -> ak, mem_filter -> dB, mem_iff_getElem -> dH, mem_map -> aW, mem_of_getElem? -> aM, mem_range -> b9, range -> aR, replicate -> az, set -> cP, take_left' -> gm
open List.Pairwise renaming sublist -> gQ
open Nat renaming le_refl -> aE, le_trans -> aK, lt_of_le_of_lt -> bW, reduceAdd -> gG, zero_add -> aN
open Ne renaming symm -> dj
open Option renaming bind_assoc -> bz, bind_eq_some_iff -> ag, bind_some -> af, getD_some -> bp, map_some -> bD
open Sum renaming inl -> aU, inr -> aG
namespace Go.Abs.Q
open Go Go.Abs
theorem TopV.unique {rs:List jI} {m m':Int} (h:TopV rs m) (h':TopV rs m') (h0:0<=m) (h0':0<=m'):m=m':=by
 have a:m'<=m:=by
  rcases h'.2 with e | e
  ·omega
  ·have:=h.1 _ e; omega
 have b:m<=m':=by
  rcases h.2 with e | e
  ·omega
  ·have:=h'.1 _ e; omega
 omega
def upB (b:Nat) (vs:List Nat):List (Int×List Int):=vs.map fun v:Nat=>((v:Int),[-1 - (v:Int) - (b:Int)])
theorem Jm {b:Nat} (hb:b<=24):(vs:List Nat)->(bs:List (Int×List Int))->(∀ v∈vs,v<24)->bs.length+vs.length<=1000->y8 (b:Int) (vs.map fun v:Nat=>(v:Int)) bs=some (cond (vs.all fun v=>decide (v+b<=23)) (.inl (bs++upB b vs)) (.inr false))
 | [],bs,_,_=>by simp [y8,upB]
 | v::vs,bs,h,hl=>by
  have hv:=h v (ak ..);simp only[aj] at hl;rw[aJ];unfold y8;have w1:ah .i64 ((v:Int)+(b:Int))=(v:Int)+(b:Int):=by rw[zu]<;>omega
  have w2:ah .i64 ((-1) - (v:Int)) = -1 - (v:Int):=by rw[zu]<;>omega
  have w3:ah .i64 (-1 - (v:Int) - (b:Int)) = -1 - (v:Int) - (b:Int):=by rw[zu]<;>omega
  rw[w1,w2,w3,cd];by_cases hvb:v+b<=23
  ·rw[decide_eq_false (show ¬(v:Int)+(b:Int)>23 by omega),cond_false,zp (by simp; omega),cond_true,Jm hb vs _ (fun x hx=>h x (ai _ hx)) (by simp; omega),decide_eq_true hvb,aY]
   simp [upB]
  ·rw[decide_eq_true (show (v:Int)+(b:Int)>23 by omega),cond_true,decide_eq_false hvb]
   rfl
theorem Kp {α β:Type} (f:α->β):(r:List α)->(g:α->List β)->(∀ c∈r,g c=[f c])->r.flatMap g=r.map f
 | [],_,_=>rfl
 | c::r,g,h=>by rw[List.flatMap_cons,h c (ak ..),Kp f r g fun d hd=>h d (ai _ hd)]; rfl
theorem AX (b:Nat) (v:Nat):(vs:List Nat)->v∈vs->sW (upB b vs) (v:Int)=some [-1 - (v:Int) - (b:Int)]
 | [],h=>(nomatch h)
 | w::vs,h=>by
  have ih:=AX b v vs;unfold sW upB at ih ⊢;rw[aJ,List.find?_cons];by_cases hw:w=v
  ·subst hw;simp
  ·rw[show (((w:Nat):Int)==((v:Nat):Int))=false from by simp; omega]
   rcases aB.1 h with h | h
   ·exact absurd h.symm hw
   ·exact ih h
theorem Tl {b:Nat} {vs:List Nat} {r:List Int} (h:∀ x,Ft r x->0<=x∧x.toNat∈vs):onB (upB b vs) r=r.map (upC (b:Int)):=by
 unfold onB;refine Kp _ r _ fun c hc => ?_;unfold onC upC;by_cases h0:c<0
 ·obtain⟨h1,h2⟩:=h (-1 - c) ⟨c,hc,h0,rfl⟩;have:=AX b (-1 - c).toNat vs h2;rw[cz h1] at this;rw[decide_eq_false (show ¬ c≥0 by omega),cond_false,this,decide_eq_true h0,cond_true]
  show [_]=[_]
  congr 1
  omega
 ·rw[decide_eq_true (show c≥0 by omega),cond_true,decide_eq_false h0,cond_false]
theorem zdx (b:Nat) (vs:List Nat) (h:vs.length<=1000):BindsOk (upB b vs) where
 len:=by unfold upB; rw[aO]; exact h
 all:=fun q hq=>by
  obtain⟨v,-,rfl⟩:=aW.1 hq;exact ⟨by simp,by simp⟩
theorem Va {a0:List zj} (_hs:SignOk a0) {L:List zd} {T:List jI} {C:List zd} (h:tJ a0 L T C=true):L.length<=5∧T.length<=3∧C.length<=3∧zo (L.map (·.2))+zo T+zo (C.map (·.2))<=1000:=by
 obtain⟨-,h1,h2,h3,-,-,-,h7⟩:=zF h;exact ⟨h1,h2,h3,by omega⟩
theorem Wv {a0:List zj} (hs:SignOk a0) {L:List zd} {T:List jI} {C:List zd} {L':List zd} {T':List jI} {C':List zd} (h:tJ a0 L T C=true) (h':tJ a0 L' T' C'=true) {b:Nat} (hb:b<=24) (htop:TopV (yB L T C) (b:Int)) :
  (t5 L T C L' T' C'=some ([],[],false,[])∧∃ x,Zu (yB L' T' C') x∧23<x+(b:Int)) ∨
  (t5 L T C L' T' C'=some (ZI (b:Int) L',T'.map (cD (upC (b:Int))),true,ZI (b:Int) C')∧∀ x,Zu (yB L' T' C') x->x+(b:Int)<=23):=by
 obtain⟨l1,l2,l3,l4⟩:=Va hs h;obtain⟨m1,m2,m3,m4⟩:=Va hs h';have hcd:=JX hs h';have hwm:∀ x,x∈(YY L T C).map (fun v:Nat=>(v:Int))↔Zu (yB L T C) x:=fun x=>by
  constructor
  ·intro hx;obtain⟨v,hv,rfl⟩:=aW.1 hx;exact (Q6 (Xl v hv)).1 hv
  ·intro hx;have:=Zk h hx;obtain⟨v,rfl⟩:∃ v:Nat,x=(v:Int):=⟨x.toNat,by omega⟩
   exact List.mem_map_of_mem ((Q6 (by omega)).2 hx)
 have hrise:Rise ((YY L T C).map fun v:Nat=>(v:Int)):=by
  have h1:(YY L T C).Pairwise (· < ·):=gQ List.filter_sublist List.pairwise_lt_range;unfold Rise;rw[List.pairwise_map];exact h1.imp fun h=>by omega
 have hv':∀ x,Zu (yB L' T' C') x->0<=x∧x.toNat∈YY L' T' C':=fun x hx=>by
  have:=Zk h' hx;refine ⟨this.1,(Q6 (by omega)).2 ?_⟩
  rw[cz this.1]; exact hx
 have hvl:(YY L' T' C').length<=24:=by
  have:=Gd _ (aR 24) (VR L' T' C') fun v hv=>b9.2 (Xl v hv);simpa using this
 -- the last part, whatever the way to it
 have fin:∀ o:Option (List zd×List jI×Bool×List zd),o=((lp xj ze) ((b:Int),(YY L' T' C').map (fun v:Nat=>(v:Int)),0,L',T',C',([]:List (Int×List Int)))).bind (fun r27=>yA r27 (fun z28=>(tu z28 L' T' C').bind fun r29=>some (r29.1,r29.2.1,true,r29.2.2)) (fun z30=>some (([]:List zd),([]:List jI),z30,([]:List zd)))) ->
   (o=some ([],[],false,[])∧∃ x,Zu (yB L' T' C') x∧23<x+(b:Int))∨(o=some (ZI (b:Int) L',T'.map (cD (upC (b:Int))),true,ZI (b:Int) C')∧∀ x,Zu (yB L' T' C') x->x+(b:Int)<=23):=by
  intro o ho;rw[ho,Z1 _ _ _ _ _ _ (by rw[aO]; unfold maxLen; omega),Jm hb _ [] Xl (by simp; omega)]
  cases ha:(YY L' T' C').all fun v=>decide (v+b<=23) with
  | false =>
   refine .inl ⟨rfl,?_⟩;obtain⟨v,hv,hvb⟩:=List.all_eq_false.1 ha;have hvb:¬ v+b<=23:=by simpa using hvb
   exact ⟨(v:Int),(Q6 (Xl v hv)).1 hv,by omega⟩
  | true =>
   refine .inr ⟨?_,fun x hx => ?_⟩
   ·simp only[cond_true,af,tB,List.nil_append];rw[Bu (zdx b _ (by omega)) (fun l hl=>(hcd _ (x6 hl)).near) (fun l hl=>(hcd _ (uN hl)).near) (fun l hl=>(hcd _ (vQ hl)).near) (by omega) (by omega) (by omega),af]
    have eL:∀ ls:List zd,(∀ l∈ls,l.2∈yB L' T' C')->KC (upB b (YY L' T' C')) ls=ZI (b:Int) ls:=fun ls hls=>bS fun l hl=>by
     show (l.1,_)=(l.1,_);rw[Tl fun x hx=>hv' x ⟨_,hls l hl,hx⟩]
    have eT:Fy (upB b (YY L' T' C')) T'=T'.map (cD (upC (b:Int))):=bS fun l hl=>Tl fun x hx=>hv' x ⟨_,uN hl,hx⟩;rw[eL L' fun l hl=>x6 hl,eL C' fun l hl=>vQ hl,eT]
   ·obtain⟨h1,h2⟩:=hv' x hx;have:=aF.1 ha _ h2;have:x.toNat+b<=23:=by simpa using this
    omega
 unfold t5;rw[kH (by omega) (by omega) (by omega) (by omega),af]
 rcases Ov hrise hwm with ⟨h1,h2⟩ | ⟨x,h1,h2,h3⟩
 ·have e0:(b:Int)=0:=htop.unique h2 (by omega) (by omega)
  rw[h1];refine fin _ ?_;rw[e0,show decide (((aa ([]:List Int):Nat):Int)>0)=false from rfl,cond_false,kH (by omega) (by omega) (by omega) (by omega),af]
 ·have hx0:0<=x:=by
   have:=(hwm x).1 (aM h1);exact (Zk h this).1
  have hx24:=(Zk h ((hwm x).1 (aM h1))).2;have e0:(b:Int)=x+1:=htop.unique h3 (by omega) (by omega)
  refine fin _ ?_;have hl24:((YY L T C).map fun v:Nat=>(v:Int)).length<=24:=by
   have:=Gd _ (aR 24) (VR L T C) fun v hv=>b9.2 (Xl v hv);simpa using this
  generalize (YY L T C).map (fun v:Nat=>(v:Int))=ws at h1 h2 hl24 ⊢;have w1:ah .i64 (((aa ws:Nat):Int) - 1)=((ws.length - 1:Nat):Int):=by rw[zu]<;>omega
  have w2:ah .i64 (x+1)=(b:Int):=by rw[zu]<;>omega
  rw[decide_eq_true (show ((aa ws:Nat):Int)>0 by omega),cond_true,w1,qd (by omega),af,h1,af,kH (by omega) (by omega) (by omega) (by omega),af,w2]
theorem Aj {α:Type} (xs:List α) {i:Nat} (h:i<=xs.length):vU xs (some (i:Int)) none=some (xs.drop i):=by
 show slc xs (i:Int) (xs.length:Int)=some _;unfold slc;rw[decide_eq_true (show (0:Int)<=(i:Int) by omega),decide_eq_true (show (i:Int)<=(xs.length:Int) by omega),decide_eq_true (show (xs.length:Int)<=((xs.length:Nat):Int) by omega)]
 simp
theorem V7 {α:Type} (s:Nat):(es:List α)->(i:Nat)->s<i->zY (s:Int) es i=es
 | [],_,_=>rfl
 | e::es,i,h=>by
  show cond ((i:Int) != (s:Int)) (e::zY (s:Int) es (i+1)) (zY (s:Int) es (i+1))=_;rw[show ((i:Int) != (s:Int))=true from by simp; omega,cond_true,V7 s es (i+1) (by omega)]
theorem jL {α:Type} (s:Nat):(es:List α)->(i:Nat)->i<=s->s<i+es.length->zY (s:Int) es i=es.take (s - i)++es.drop (s - i+1)
 | [],i,h,h2=>by simp at h2; omega
 | e::es,i,h,h2=>by
  show cond ((i:Int) != (s:Int)) (e::zY (s:Int) es (i+1)) (zY (s:Int) es (i+1))=_;simp only[aj] at h2;by_cases he:i=s
  ·subst he;rw[show ((i:Int) != (i:Int))=false from by simp,cond_false,V7 i es (i+1) (by omega)]
   simp
  ·rw[show ((i:Int) != (s:Int))=true from by simp; omega,cond_true,jL s es (i+1) (by omega) (by omega)]
   rw[show s - i=(s - (i+1))+1 from by omega]
   rfl
theorem G2 {L:List zd} {i:Int} (h:xI L i=true) (hl:L.length<=1000):tC L i=some (zY i L 0):=by
 unfold xI at h;simp only[aw,decide_eq_true_eq] at h;obtain⟨k,rfl⟩:∃ k:Nat,i=(k:Int):=⟨i.toNat,by omega⟩
 have w1:ah .i64 ((k:Int)+1)=((k+1:Nat):Int):=by rw[zu]<;>omega
 unfold tC;rw[w1,Gb L (by omega),af,zp (by simp; omega),cond_true,Aj L (by omega),af,zp (by simp; omega),cond_true,jL k L 0 (by omega) (by omega)]
 simp
theorem RI {σ:Sb} (hsh:xJ σ (aR 24)=true) {L:List zd} {T:List jI} {C:List zd} (hL:∀ l∈L,Cds l.2) (hT:∀ r∈T,Cds r) (hC:∀ l∈C,Cds l.2) (h1:L.length<=1000) (h2:T.length<=1000) (h3:C.length<=1000) :
  tu (sB σ) L T C=some (uV σ L,T.map (tX σ),uV σ C):=by
 rw[Bu (YI hsh) (fun l hl=>(hL l hl).near) (fun r hr=>(hT r hr).near) (fun l hl=>(hC l hl).near) h1 h2 h3,
  W4 fun l hl c hc=>((hL l hl).2 c hc).1,W4 fun l hl c hc=>((hC l hl).2 c hc).1,Ck fun r hr c hc=>((hT r hr).2 c hc).1]
theorem HN {a0:List zj} {σ:Sb} (hs:SignOk a0) (hsh:xJ σ (aR 24)=true) {L:List zd} {T:List jI} {C:List zd} (hL:∀ l∈L,Cds l.2) (hT:∀ r∈T,Cds r) (hC:∀ l∈C,Cds l.2) (h1:L.length<=1000) (h2:T.length<=1000) (h3:C.length<=1000) (k:Int) :
  ((kU a0 (sB σ) L T C).bind fun r40=>cond (!r40.2.2.1) (tl k) (some (r40.1,r40.2.1,true,(0:Int),r40.2.2.2)))=Jb a0 σ L T C k:=by
 unfold kU Jb;rw[RI hsh hL hT hC h1 h2 h3,af];simp only;rw[zJ,af];cases hm:tJ a0 (uV σ L) (T.map (tX σ)) (uV σ C) with
 | false=>rfl
 | true =>
  obtain⟨l1,l2,l3,l4⟩:=Va hs hm;rw[aA,cond_false,zbu (JX hs hm) (by omega) (by omega) (by omega) l4]
  rfl
theorem YQ (L:List zd) (T:List jI) (C:List zd) (i:Int):rP L T C i=some (xI L i):=by
 unfold rP xI;by_cases h:i≥0
 ·rw[decide_eq_true h,cond_true,aY]
 ·rw[decide_eq_false h,cond_false,bn]
def vI (rec:(jS×jI×Int×Int)->Option Int) (x:(jS×jI×Int×Int)):Option Int :=
 cond (decide (x.2.2.2<((aa x.2.1:Nat):Int)))
 ((gx x.2.1 x.2.2.2).bind fun e4 =>
  cond (decide (e4<0))
  (rec (x.1,x.2.1,(ah .i64 (x.2.2.1+1)),(ah .i64 (x.2.2.2+1))))
  ((gx x.2.1 x.2.2.2).bind fun e5 =>
   (gx x.1 e5).bind fun e6 =>
   rec (x.1,x.2.1,(ah .i64 (x.2.2.1+e6.2.2.2)),(ah .i64 (x.2.2.2+1)))))
 (some x.2.2.1)
def ja (a0:jS) (a1:jI):Option Int :=
 ((lp vI ze) (a0,a1,0,0)).bind fun r8 =>
 some r8
def vV (rec:(jI×jI×Int×Int×Int)->Option Int) (x:(jI×jI×Int×Int×Int)):Option Int :=
 cond (decide (x.2.2.2.2<((aa x.2.1:Nat):Int)))
 ((gx x.2.1 x.2.2.2.2).bind fun e5 =>
  cond (e5==(ah .i64 ((-1) - x.2.2.1)))
  (rec (x.1,x.2.1,x.2.2.1,(ah .i64 (x.2.2.2.1 - 1)),(ah .i64 (x.2.2.2.2+1))))
  (rec (x.1,x.2.1,x.2.2.1,x.2.2.2.1,(ah .i64 (x.2.2.2.2+1)))))
 (some x.2.2.2.1)
def vJ (rec:(jI×jI×Int×Int×Int)->Option Int) (x:(jI×jI×Int×Int×Int)):Option Int :=
 cond (decide (x.2.2.2.2<((aa x.1:Nat):Int)))
 ((gx x.1 x.2.2.2.2).bind fun e2 =>
  cond (e2==(ah .i64 ((-1) - x.2.2.1)))
  (rec (x.1,x.2.1,x.2.2.1,(ah .i64 (x.2.2.2.1+1)),(ah .i64 (x.2.2.2.2+1))))
  (rec (x.1,x.2.1,x.2.2.1,x.2.2.2.1,(ah .i64 (x.2.2.2.2+1)))))
 (some x.2.2.2.1)
def wP (rec:(jI×jI×Int)->Option (Unit⊕Bool)) (x:(jI×jI×Int)):Option (Unit⊕Bool) :=
 cond (decide (x.2.2<=23))
 (((lp vJ ze) (x.1,x.2.1,x.2.2,0,0)).bind fun r7 =>
  ((lp vV ze) (x.1,x.2.1,x.2.2,r7,0)).bind fun r8 =>
  cond (decide (r8<0))
  (some (aG false))
  (rec (x.1,x.2.1,(ah .i64 (x.2.2+1)))))
 (some (aU ()))
def YS (a0:jI) (a1:jI):Option Bool :=
 ((lp wP ze) (a0,a1,0)).bind fun r12 =>
 yA r12
 (fun _z13=>some true)
 (fun z14=>some z14)
def uF (rf:((jS×jI×jI)->Option Bool)) (rec:(jS×jR×jR×Int)->Option (Unit⊕Bool)) (x:(jS×jR×jR×Int)):Option (Unit⊕Bool) :=
 cond (decide (x.2.2.2<((aa x.2.1:Nat):Int)))
 ((gx x.2.1 x.2.2.2).bind fun e20 =>
  (gx x.2.2.1 x.2.2.2).bind fun e21 =>
  (xA e20 e21).bind fun r22 =>
  cond (!r22)
  ((gx x.2.1 x.2.2.2).bind fun e23 =>
   (gx x.2.2.1 x.2.2.2).bind fun e24 =>
   (rf (x.1,e23,e24)).bind fun r25 =>
   some (aG r25))
  (rec (x.1,x.2.1,x.2.2.1,(ah .i64 (x.2.2.2+1)))))
 (some (aU ()))
def Ql (rf:((jS×jI×jI)->Option Bool)) (a0:jS) (a1:jI) (a2:jI):Option Bool :=
 (ja a0 a1).bind fun r29 =>
 (ja a0 a2).bind fun r30 =>
 (YS a1 a2).bind fun r31 =>
 cond (!r31)
 (some false)
 (cond (decide (r29<r30))
  (some false)
  (cond (decide (r29>r30))
   (cond (decide (r29>r30))
    (some true)
    ((gx a1 0).bind fun e32 =>
     (gx a2 0).bind fun e33 =>
     some (decide (e32>e33))))
   ((gx a1 0).bind fun e34 =>
    (gx a2 0).bind fun e35 =>
    cond (e34 != e35)
    (cond (decide (r29>r30))
     (some true)
     ((gx a1 0).bind fun e36 =>
      (gx a2 0).bind fun e37 =>
      some (decide (e36>e37))))
    ((vU a1 (some 1) none).bind fun y38 =>
     (zK a0 y38).bind fun r39 =>
     (vU a2 (some 1) none).bind fun y40 =>
     (zK a0 y40).bind fun r41 =>
     ((lp (uF rf) ze) (a0,r39,r41,0)).bind fun r42 =>
     yA r42
     (fun _z43=>some false)
     (fun z44=>some z44)))))
def WE (rf:((jS×jI×jI)->Option Bool)):((jS×jI×jI)->Option Bool) :=
 fun (x:(jS×jI×jI))=>Ql rf x.1 x.2.1 x.2.2
def WD:((jS×jI×jI)->Option Bool):=fun _=>none
def rJ (k:Nat):((jS×jI×jI)->Option Bool):=lpR WD WE k
def QO (a0:jS) (a1:jI) (a2:jI):Option Bool:=(rJ ze) (a0,a1,a2)
def vO (a0:jS) (a1:jI) (a2:jI):Option Int :=
 (xA a1 a2).bind fun r4 =>
 cond r4
 (some 1)
 ((QO a0 a1 a2).bind fun r5 =>
  cond r5
  (some 2)
  ((QO a0 a2 a1).bind fun r6 =>
   cond r6
   (some 0)
   (some 3)))
def rG (a0:jS) (a1:Bool) (a2:jI) (a3:Bool) (a4:jI):Option Int :=
 (vO a0 a2 a4).bind fun r2 =>
 cond (r2 != 1)
 (some r2)
 (cond (a1==a3)
  (some r2)
  (cond a1
   (some 2)
   (some 0)))
def tY (rec:(jS×jQ×Int×Int)->Option (Unit⊕Bool)) (x:(jS×jQ×Int×Int)):Option (Unit⊕Bool) :=
 cond (decide (x.2.2.2<((aa x.2.1:Nat):Int)))
 ((gx x.2.1 x.2.2.2).bind fun e4 =>
  (gx x.2.1 x.2.2.1).bind fun e5 =>
  (rG x.1 e4.1 e4.2 e5.1 e5.2).bind fun r6 =>
  cond (r6==2)
  (some (aG false))
  (rec (x.1,x.2.1,x.2.2.1,(ah .i64 (x.2.2.2+1)))))
 (some (aU ()))
def jB (a0:jS) (a1:jQ) (a2:Int):Option Bool :=
 ((lp tY ze) (a0,a1,a2,0)).bind fun r10 =>
 yA r10
 (fun _z11=>some true)
 (fun z12=>some z12)
def qy (rec:(jS×Int×jI×Int×jQ×jR×jQ)->Option (Unit⊕Bool)) (x:(jS×Int×jI×Int×jQ×jR×jQ)):Option (Unit⊕Bool) :=
 cond (decide (x.2.2.2.1<x.2.1))
 ((gx x.2.2.2.2.1 x.2.2.2.1).bind fun e15 =>
  (gx x.2.2.2.2.1 x.2.1).bind fun e16 =>
  cond (!(e15.1==e16.1))
  ((gx x.2.2.2.2.1 x.2.2.2.1).bind fun e17 =>
   (xA e17.2 x.2.2.1).bind fun r18 =>
   cond r18
   (some (aG true))
   (rec (x.1,x.2.1,x.2.2.1,(ah .i64 (x.2.2.2.1+1)),x.2.2.2.2.1,x.2.2.2.2.2.1,x.2.2.2.2.2.2)))
  (rec (x.1,x.2.1,x.2.2.1,(ah .i64 (x.2.2.2.1+1)),x.2.2.2.2.1,x.2.2.2.2.2.1,x.2.2.2.2.2.2)))
 (some (aU ()))
def uA (rec:(jS×Int×jQ×jR×jQ)->Option (Unit⊕Bool)) (x:(jS×Int×jQ×jR×jQ)):Option (Unit⊕Bool) :=
 cond (decide (x.2.1<((aa x.2.2.1:Nat):Int)))
 ((gx x.2.2.1 x.2.1).bind fun e28 =>
  (gx x.2.2.1 x.2.1).bind fun e29 =>
  cond (!e29.1)
  ((gx e28.2 0).bind fun e30 =>
   cond (e30==0)
   ((vU e28.2 (some 1) none).bind fun y31 =>
    (zK x.1 y31).bind fun r32 =>
    (inR 0 (aa r32)).bind fun k33 =>
    (r32[k33]?).bind fun x34 =>
    (inR 1 (aa r32)).bind fun k35 =>
    (r32[k35]?).bind fun x36 =>
    (xA x34 x36).bind fun r37 =>
    cond r37
    (some (aG true))
    (((lp qy ze) (x.1,x.2.1,e28.2,0,x.2.2.1,x.2.2.2.1,x.2.2.2.2)).bind fun r38 =>
     yA r38
     (fun _z39=>rec (x.1,(ah .i64 (x.2.1+1)),x.2.2.1,x.2.2.2.1,x.2.2.2.2))
     (fun z40=>some (aG z40))))
   (((lp qy ze) (x.1,x.2.1,e28.2,0,x.2.2.1,x.2.2.2.1,x.2.2.2.2)).bind fun r41 =>
    yA r41
    (fun _z42=>rec (x.1,(ah .i64 (x.2.1+1)),x.2.2.1,x.2.2.2.1,x.2.2.2.2))
    (fun z43=>some (aG z43))))
  (((lp qy ze) (x.1,x.2.1,e28.2,0,x.2.2.1,x.2.2.2.1,x.2.2.2.2)).bind fun r44 =>
   yA r44
   (fun _z45=>rec (x.1,(ah .i64 (x.2.1+1)),x.2.2.1,x.2.2.2.1,x.2.2.2.2))
   (fun z46=>some (aG z46))))
 (some (aU ()))
def Xk (a0:jS) (a1:jQ) (a2:jR) (a3:jQ):Option Bool :=
 ((lp uA ze) (a0,0,a1,a2,a3)).bind fun r50 =>
 yA r50
 (fun _z51=>some false)
 (fun z52=>some z52)
def vA (a0:jS) (a1:Int) (a2:Int) (a3:Int) (a4:Int) (a5:Int) (a6:Int) (a7:Int) (a8:Int) (a9:jQ) (a10:jR) (a11:jQ) (a12:Bool) (a13:Int) (a14:jT):Option (Int×jT) :=
 cond (a13 != 0)
 (some ((ah .i64 (a1+1)),a14))
 (cond a12
  ((Xk a0 a9 a10 a11).bind fun r2 =>
   cond (!r2)
   (cond (yM (aa a14+aa ([(a2,a3,a4,a5,a6,a7,a8,a9,a10,a11)]:List jU)) 128)
    (some (a1,(a14++([(a2,a3,a4,a5,a6,a7,a8,a9,a10,a11)]:List jU))))
    (none))
   (some (a1,a14)))
  (some (a1,a14)))
def qx (s0:jS):List Int->Int->Option Int
 | [],s2=>some s2
 | e::es,s2 =>
  cond (decide (e<0))
  (qx s0 es (ah .i64 (s2+1)))
  ((gx s0 e).bind fun e6 =>
   qx s0 es (ah .i64 (s2+e6.2.2.2)))
theorem YW (s0:jS) (s1:jI) (s2:Int) (hl:aa s1<=maxLen):lp vI ze (s0,s1,s2,0)=qx s0 s1 s2:=xG vI (fun i s2=>(s0,s1,s2,i)) (fun es i s2=>qx s0 es s2) hl (fun r i s2 h=>by unfold vI qx; simp only[h,cond_false]) (fun r i s2 e es h g w k=>by unfold vI qx; simp only[h,cond_true,g,af,w,k]) s2
def yN (s2:Int):List Int->Int->Option Int
 | [],s3=>some s3
 | e::es,s3 =>
  cond (e==(ah .i64 ((-1) - s2)))
  (yN s2 es (ah .i64 (s3 - 1)))
  (yN s2 es s3)
theorem YX (s0:jI) (s1:jI) (s2:Int) (s3:Int) (hl:aa s1<=maxLen):lp vV ze (s0,s1,s2,s3,0)=yN s2 s1 s3:=xG vV (fun i s3=>(s0,s1,s2,s3,i)) (fun es i s3=>yN s2 es s3) hl (fun r i s3 h=>by unfold vV yN; simp only[h,cond_false]) (fun r i s3 e es h g w k=>by unfold vV yN; simp only[h,cond_true,g,af,w,k]) s3
def yO (s2:Int):List Int->Int->Option Int
 | [],s3=>some s3
 | e::es,s3 =>
  cond (e==(ah .i64 ((-1) - s2)))
  (yO s2 es (ah .i64 (s3+1)))
  (yO s2 es s3)
theorem YV (s0:jI) (s1:jI) (s2:Int) (s3:Int) (hl:aa s0<=maxLen):lp vJ ze (s0,s1,s2,s3,0)=yO s2 s0 s3:=xG vJ (fun i s3=>(s0,s1,s2,s3,i)) (fun es i s3=>yO s2 es s3) hl (fun r i s3 h=>by unfold vJ yO; simp only[h,cond_false]) (fun r i s3 e es h g w k=>by unfold vJ yO; simp only[h,cond_true,g,af,w,k]) s3
def xv (rf:((jS×jI×jI)->Option Bool)) (s0:jS) (s2:jR):List jI->Nat->Option (Unit⊕Bool)
 | [],_i=>some (aU ())
 | e::es,i =>
  (gx s2 (i:Int)).bind fun e21 =>
  (xA e e21).bind fun r22 =>
  cond (!r22)
  ((gx s2 (i:Int)).bind fun e24 =>
   (rf (s0,e,e24)).bind fun r25 =>
   some (aG r25))
  (xv rf s0 s2 es (i+1))
theorem Qq (rf:((jS×jI×jI)->Option Bool)) (s0:jS) (s1:jR) (s2:jR) (hl:aa s1<=maxLen):lp (uF rf) ze (s0,s1,s2,0)=xv rf s0 s2 s1 0:=tW (uF rf) (fun i=>(s0,s1,s2,i)) (fun es i=>xv rf s0 s2 es i) hl (fun r i h=>by unfold uF xv; simp only[h,cond_false]) (fun r i e es h g w k=>by unfold uF xv; simp only[h,cond_true,g,af,w,k])
def wq (s0:jS) (s1:jQ) (s2:Int):List zd->Option (Unit⊕Bool)
 | []=>some (aU ())
 | e::es =>
  (gx s1 s2).bind fun e5 =>
  (rG s0 e.1 e.2 e5.1 e5.2).bind fun r6 =>
  cond (r6==2)
  (some (aG false))
  (wq s0 s1 s2 es)
theorem Q4 (s0:jS) (s1:jQ) (s2:Int) (hl:aa s1<=maxLen):lp tY ze (s0,s1,s2,0)=wq s0 s1 s2 s1:=tW tY (fun i=>(s0,s1,s2,i)) (fun es i=>wq s0 s1 s2 es) hl (fun r i h=>by unfold tY wq; simp only[h,cond_false]) (fun r i e es h g w k=>by unfold tY wq; simp only[h,cond_true,g,af,w,k])
def qj (s0:jS) (s2:jQ) (s3:jR) (s4:jQ):List zd->Nat->Option (Unit⊕Bool)
 | [],_i=>some (aU ())
 | e::es,i =>
  cond (!e.1)
  ((gx e.2 0).bind fun e30 =>
   cond (e30==0)
   ((vU e.2 (some 1) none).bind fun y31 =>
    (zK s0 y31).bind fun r32 =>
    (inR 0 (aa r32)).bind fun k33 =>
    (r32[k33]?).bind fun x34 =>
    (inR 1 (aa r32)).bind fun k35 =>
    (r32[k35]?).bind fun x36 =>
    (xA x34 x36).bind fun r37 =>
    cond r37
    (some (aG true))
    (((lp qy ze) (s0,(i:Int),e.2,0,s2,s3,s4)).bind fun r38 =>
     yA r38
     (fun _z39=>qj s0 s2 s3 s4 es (i+1))
     (fun z40=>some (aG z40))))
   (((lp qy ze) (s0,(i:Int),e.2,0,s2,s3,s4)).bind fun r41 =>
    yA r41
    (fun _z42=>qj s0 s2 s3 s4 es (i+1))
    (fun z43=>some (aG z43))))
  (((lp qy ze) (s0,(i:Int),e.2,0,s2,s3,s4)).bind fun r44 =>
   yA r44
   (fun _z45=>qj s0 s2 s3 s4 es (i+1))
   (fun z46=>some (aG z46)))
theorem Qt (s0:jS) (s2:jQ) (s3:jR) (s4:jQ) (hl:aa s2<=maxLen):lp uA ze (s0,0,s2,s3,s4)=qj s0 s2 s3 s4 s2 0:=tW uA (fun i=>(s0,i,s2,s3,s4)) (fun es i=>qj s0 s2 s3 s4 es i) hl (fun r i h=>by unfold uA qj; simp only[h,cond_false]) (fun r i e es h g w k=>by unfold uA qj; simp only[h,cond_true,g,af,w,k])
theorem JT (a0:List zj):(es:List Int)->(s:Int)->qx a0 es s=qf a0 es s
 | [],_=>rfl
 | e::es,s=>by
  unfold qx qf;rw[JT a0 es]
  congr 1
  congr 1
  funext e6
  exact JT a0 es _
theorem Cf (a0:List zj) {r:List Int} (h:r.length<=1000000):ja a0 r=j4 a0 r:=by
 unfold ja j4;rw[YW _ _ _ (by unfold maxLen; omega),km _ _ _ (by unfold maxLen; omega),JT]
def QW (r:List Int) (v:Nat):Nat:=r.count (-1 - (v:Int))
theorem Lc (r:List Int) (v:Nat):QW r v<=r.length:=List.count_le_length
theorem Xv (c:Int) (r:List Int) (v:Nat):QW (c::r) v=QW r v+cond (c == -1 - (v:Int)) 1 0:=by
 unfold QW;rw[List.count_cons];cases c == -1 - (v:Int)<;>rfl
theorem GJ {v:Nat} (hv:v<24):(es:List Int)->(s:Int) -> -1000000000<=s->s+es.length<=1000000000->yO (v:Int) es s=some (s+(QW es v:Int))
 | [],s,_,_=>by simp [yO,QW]
 | e::es,s,h0,h1=>by
  simp only[aj] at h1;unfold yO;have w1:ah .i64 ((-1) - (v:Int)) = -1 - (v:Int):=by rw[zu]<;>omega
  have w2:ah .i64 (s+1)=s+1:=by rw[zu]<;>omega
  rw[w1,w2,Xv];cases e == -1 - (v:Int) with
  | true=>rw[cond_true,cond_true,GJ hv es _ (by omega) (by omega)]; congr 1; omega
  | false=>rw[cond_false,cond_false,GJ hv es _ (by omega) (by omega)]; congr 1
theorem Gz {v:Nat} (hv:v<24):(es:List Int)->(s:Int) -> -1000000000<=s - es.length->s<=1000000000->yN (v:Int) es s=some (s - (QW es v:Int))
 | [],s,_,_=>by simp [yN,QW]
 | e::es,s,h0,h1=>by
  simp only[aj] at h0;unfold yN;have w1:ah .i64 ((-1) - (v:Int)) = -1 - (v:Int):=by rw[zu]<;>omega
  have w2:ah .i64 (s - 1)=s - 1:=by rw[zu]<;>omega
  rw[w1,w2,Xv];cases e == -1 - (v:Int) with
  | true=>rw[cond_true,cond_true,Gz hv es _ (by omega) (by omega)]; congr 1; omega
  | false=>rw[cond_false,cond_false,Gz hv es _ (by omega) (by omega)]; congr 1
def Xe (a b:List Int) (vs:List Nat):Bool:=vs.all fun v=>decide (QW b v<=QW a v)
theorem PA {a b:List Int} (ha:a.length<=1000000) (hb:b.length<=1000000):∀(m v k:Nat),24 - v=m->v<=24->m<k->lp wP k (a,b,(v:Int))=some (cond (Xe a b ((aR 24).drop v)) (.inl ()) (.inr false)):=by
 intro m
 induction m with
 | zero =>
  intro v k hm hv hk;obtain⟨k,rfl⟩:∃ k',k=k'+1:=⟨k - 1,by omega⟩
  rw[zr];generalize lp wP k=rec;unfold wP;have:v=24:=by omega
  subst this;rw[show (aR 24).drop 24=[] from rfl]
  rfl
 | succ m ih =>
  intro v k hm hv hk;obtain⟨k,rfl⟩:∃ k',k=k'+1:=⟨k - 1,by omega⟩
  rw[zr];have key:=ih (v+1) k (by omega) (by omega) (by omega)
  generalize lp wP k=rec at key ⊢;unfold wP;have w1:ah .i64 ((v:Int)+1)=((v+1:Nat):Int):=by rw[zu]<;>omega
  have hdr:(aR 24).drop v=v::(aR 24).drop (v+1):=by
   rw[aX (by simp; omega)]
   simp
  have hca:=Lc a v;have hcb:=Lc b v;simp only[decide_eq_true (show (v:Int)<=23 by omega),cond_true,w1]
  rw[YV _ _ _ _ (by unfold maxLen; omega),GJ (by omega) a 0 (by omega) (by omega),af,YX _ _ _ _ (by unfold maxLen; omega),Gz (by omega) b _ (by omega) (by omega),af,key,hdr]
  unfold Xe;rw[cd];by_cases hc:QW b v<=QW a v
  ·rw[decide_eq_false (show ¬(0+(QW a v:Int) - (QW b v:Int)<0) by omega),cond_false,decide_eq_true hc,aY]
  ·rw[decide_eq_true (show 0+(QW a v:Int) - (QW b v:Int)<0 by omega),cond_true,decide_eq_false hc,bn,cond_false]
theorem PD {a b:List Int} (ha:a.length<=1000000) (hb:b.length<=1000000):YS a b=some (Xe a b (aR 24)):=by
 unfold YS;have:=PA ha hb 24 0 ze rfl (by omega) (by unfold ze; omega)
 rw[show ((0:Nat):Int)=0 from rfl,bV] at this
 rw[this];cases Xe a b (aR 24)<;>rfl
theorem JV:(es:List Int)->(xs:List Int)->(∀ c∈es,-24<=c)->xs.length=24->(∀ v,v<24->0<=xs.getD v 0∧xs.getD v 0+es.length<=1000000000)->∃ ys,yX es xs=some ys∧ys.length=24∧∀ v,v<24->ys.getD v 0=xs.getD v 0+(QW es v:Int)
 | [],xs,_,hl,_=>⟨xs,rfl,hl,fun v _=>by simp [QW]⟩
 | c::es,xs,hc,hl,hb=>by
  have hc0:=hc c (ak ..);simp only[aj] at hb;unfold yX;by_cases h0:c<0
  ·obtain⟨u,rfl⟩:∃ u:Nat,c = -1 - (u:Int):=⟨(-1 - c).toNat,by omega⟩
   have hu:u<24:=by omega
   have hbu:=hb u hu;have hg:xs[u]? = some (xs.getD u 0):=by
    rw[aD,al (by omega)]
    rfl
   have w1:ah .i64 (xs.getD u 0+1)=xs.getD u 0+1:=by rw[zu]<;>omega
   rw[decide_eq_true h0,cond_true,we (by omega) (by omega),af,show -1 - (-1 - (u:Int))=(u:Int) from by omega,qd hu,af,hg,af,af,hg,af,w1]
   obtain⟨ys,g1,g2,g3⟩:=JV es (xs.set u (xs.getD u 0+1)) (fun d hd=>hc d (ai _ hd)) (by rw[ci]; exact hl) (fun v hv=>by
    rw[sw (by omega)]
    have:=hb v hv;split<;>omega)
   refine ⟨ys,g1,g2,fun v hv => ?_⟩;rw[g3 v hv,sw (by omega),Xv]
   by_cases hvu:v=u
   ·subst hvu;rw[if_pos rfl,show ((-1 - (v:Int)) == -1 - (v:Int))=true from by simp,cond_true]
    omega
   ·rw[if_neg hvu,show ((-1 - (u:Int)) == -1 - (v:Int))=false from by simp; omega,cond_false]
    omega
  ·rw[decide_eq_false h0,cond_false];obtain⟨ys,g1,g2,g3⟩:=JV es xs (fun d hd=>hc d (ai _ hd)) hl (fun v hv=>by have:=hb v hv; omega)
   refine ⟨ys,g1,g2,fun v hv => ?_⟩;rw[g3 v hv,Xv,show (c == -1 - (v:Int))=false from by simp; omega,cond_false]
   omega
theorem Ao {r:List Int} (hl:r.length<=1000000) (hc:∀ c∈r,-24<=c):∃ ys,rO r=some ys∧ys.length=24∧∀ v,v<24->ys.getD v 0=(QW r v:Int):=by
 have hz:∀ v,(az 24 (0:Int)).getD v 0=0:=fun v=>by
  rw[aD,List.getElem?_replicate];split<;>rfl
 obtain⟨ys,g1,g2,g3⟩:=JV r (az 24 (0:Int)) hc (by simp) (fun v _=>by rw[hz]; omega)
 refine ⟨ys,?_,g2,fun v hv=>by rw[g3 v hv,hz]; omega⟩
 unfold rO;rw[ZV _ _ (by unfold maxLen; omega),g1,af,g2]
 rfl
theorem Fn {a b xs ys:List Int} (hx:xs.length=24) (hy:ys.length=24) (gx:∀ v,v<24->xs.getD v 0=(QW a v:Int)) (gy:∀ v,v<24->ys.getD v 0=(QW b v:Int)):∀(m v k:Nat),24 - v=m->v<=24->m<k->lp xF k ((v:Int),xs,ys)=some (cond (Xe a b ((aR 24).drop v)) (.inl ()) (.inr false)):=by
 intro m
 induction m with
 | zero =>
  intro v k hm hv hk;obtain⟨k,rfl⟩:∃ k',k=k'+1:=⟨k - 1,by omega⟩
  rw[zr];generalize lp xF k=rec;unfold xF;have:v=24:=by omega
  subst this;rw[show (aR 24).drop 24=[] from rfl]
  rfl
 | succ m ih =>
  intro v k hm hv hk;obtain⟨k,rfl⟩:∃ k',k=k'+1:=⟨k - 1,by omega⟩
  rw[zr];have key:=ih (v+1) k (by omega) (by omega) (by omega)
  generalize lp xF k=rec at key ⊢;unfold xF;have w1:ah .i64 ((v:Int)+1)=((v+1:Nat):Int):=by rw[zu]<;>omega
  have hdr:(aR 24).drop v=v::(aR 24).drop (v+1):=by
   rw[aX (by simp; omega)]
   simp
  have h1:xs[v]? = some (QW a v:Int):=by
   rw[← gx v (by omega),aD,al (by omega)]
   rfl
  have h2:ys[v]? = some (QW b v:Int):=by
   rw[← gy v (by omega),aD,al (by omega)]
   rfl
  simp only[decide_eq_true (show (v:Int)<24 by omega),cond_true,w1,qd (show v<24 by omega),af,h1,h2]
  rw[key,hdr];unfold Xe;rw[cd];by_cases hc:QW b v<=QW a v
  ·rw[decide_eq_false (show ¬((QW a v:Int)<(QW b v:Int)) by omega),cond_false,decide_eq_true hc,aY]
  ·rw[decide_eq_true (show (QW a v:Int)<(QW b v:Int) by omega),cond_true,decide_eq_false hc,bn,cond_false]
theorem MB {a b:List Int} (ha:a.length<=1000000) (hb:b.length<=1000000) (ca:∀ c∈a,-24<=c) (cb:∀ c∈b,-24<=c):kr a b=some (Xe a b (aR 24)):=by
 obtain⟨xs,h1,h2,h3⟩:=Ao ha ca;obtain⟨ys,g1,g2,g3⟩:=Ao hb cb;unfold kr;rw[h1,af,g1,af];have:=Fn (a:=a) (b:=b) h2 g2 h3 g3 24 0 ze rfl (by omega) (by unfold ze; omega)
 rw[show ((0:Nat):Int)=0 from rfl,bV] at this
 rw[show Nat.beq (aa (az 24 (0:Int))) 24=true from by simp,cond_true,cond_true,this]
 cases Xe a b (aR 24)<;>rfl
structure HF (a0:List zj) (a:List Int) (c:Int) (ts:List Tm):Prop where
 eq:a=c::zb ts
 ok:okR a0 24 ts
 len:a.length<=1000
 low : -24<=c
 sym:0<=c->∃ e,gx a0 c=some e
theorem Nb {a0:List zj} (hs:SignOk a0) {t:Tm} (ho:t.ok a0 24) (hl:t.codes.length<=1000):∃ c ts,HF a0 t.codes c ts∧(∀ d us u,u=t->u.codes=d::zb us->True)∧wH ts<t.size:=by
 cases t with
 | v n =>
  have hn:n<24:=ho;exact ⟨-1 - (n:Int),[],⟨rfl,trivial,hl,by omega,fun h=>by omega⟩,fun _ _ _ _ _=>trivial,by simp [wH,Tm.size]⟩
 | f c as =>
  obtain⟨e,he,-⟩:=CD hs ho.1;exact ⟨(c:Int),as,⟨rfl,ho.2,hl,by omega,fun _=>⟨e,he⟩⟩,fun _ _ _ _ _=>trivial,by simp [Tm.size]⟩
mutual
theorem Tm.syms {a0:List zj} (hs:SignOk a0):(t:Tm)->t.ok a0 24->∀ c∈t.codes,-24<=c∧(0<=c->∃ e,gx a0 c=some e)
 | .v n,ho,c,hc=>by
  have hn:n<24:=ho;have hc:c = -1 - (n:Int):=by simpa[Tm.codes] using hc
  exact ⟨by omega,fun h=>by omega⟩
 | .f d as,ho,c,hc=>by
  rcases aB.1 (show c∈(d:Int)::zb as from hc) with rfl | hc
  ·obtain⟨e,he,-⟩:=CD hs ho.1;exact ⟨by omega,fun _=>⟨e,he⟩⟩
  ·exact zaM hs as ho.2 c hc
theorem zaM {a0:List zj} (hs:SignOk a0):(ts:List Tm)->okR a0 24 ts->∀ c∈zb ts,-24<=c∧(0<=c->∃ e,gx a0 c=some e)
 | [],_,_,hc=>by simp [zb] at hc
 | t::ts,ho,c,hc=>by
  rcases aQ.1 (show c∈t.codes++zb ts from hc) with hc | hc
  ·exact Tm.syms hs t ho.1 c hc
  ·exact zaM hs ts ho.2 c hc
end
theorem HF.syms {a0:List zj} (hs:SignOk a0) {a:List Int} {c:Int} {ts:List Tm} (h:HF a0 a c ts):∀ d∈a,-24<=d∧(0<=d->∃ e,gx a0 d=some e):=fun d hd=>by
 rw[h.eq] at hd;rcases aB.1 hd with rfl | hd
 ·exact ⟨h.low,h.sym⟩
 ·exact zaM hs ts h.ok d hd
theorem Wm {a0:List zj}:(es:List Int)->(s:Int)->(∀ d∈es,-24<=d∧(0<=d->∃ e,gx a0 d=some e))->∃ r,qf a0 es s=some r
 | [],s,_=>⟨s,rfl⟩
 | e::es,s,h=>by
  unfold qf;have ih:=fun s=>Wm es s fun d hd=>h d (ai _ hd);by_cases h0:e<0
  ·rw[decide_eq_true h0]; exact ih _
  ·obtain⟨x,hx⟩:=(h e (ak ..)).2 (by omega)
   rw[decide_eq_false h0,cond_false,hx];exact ih _
theorem HF.sum {a0:List zj} (hs:SignOk a0) {a:List Int} {c:Int} {ts:List Tm} (h:HF a0 a c ts):∃ r,j4 a0 a=some r:=by
 have:=h.len;obtain⟨r,hr⟩:=Wm a 0 (h.syms hs);refine ⟨r,?_⟩;unfold j4;rw[km _ _ _ (by unfold maxLen; omega),hr]
 rfl
def Y5:List Tm->List Tm->Option (Tm×Tm)
 | t::ts,u::us=>if t.codes=u.codes then Y5 ts us else some (t,u)
 | _,_=>none
theorem Vr:{ts us:List Tm}->{p:Tm×Tm}->Y5 ts us=some p->p.1∈ts∧p.2∈us∧p.1.codes≠p.2.codes
 | [],_,_,h=>by cases h
 | _::_,[],_,h=>by cases h
 | t::ts,u::us,p,h=>by
  unfold Y5 at h;split at h
  ·obtain⟨h1,h2,h3⟩:=Vr h;exact ⟨ai _ h1,ai _ h2,h3⟩
  ·rename_i hne;injection h with h;subst h;exact ⟨ak ..,ak ..,hne⟩
theorem VA:{ts us:List Tm}->ts.length=us.length->Y5 ts us=none->zb ts=zb us
 | [],[],_,_=>rfl
 | [],_::_,h,_=>by simp at h
 | _::_,[],h,_=>by simp at h
 | t::ts,u::us,hl,h=>by
  unfold Y5 at h;split at h
  ·rename_i he;show t.codes++zb ts=u.codes++zb us;rw[he,VA (by simpa using hl) h]
  ·cases h
theorem GR {usA:List Tm} (hsm:∀ t∈usA,t.codes.length<=1000):(ts us:List Tm)->(i:Nat)->usA.drop i=us->ts.length=us.length->(∀ t∈ts,t.codes.length<=1000)->yH (usA.map Tm.codes) (ts.map Tm.codes) i=some (match Y5 ts us with
  | none=>.inl ()
  | some p=>.inr (p.1.codes,p.2.codes))
 | [],[],i,_,_,_=>rfl
 | [],_::_,_,_,h,_=>by simp at h
 | _::_,[],_,_,h,_=>by simp at h
 | t::ts,u::us,i,hd,hl,hsmt=>by
  have hi:=zL hd;have hg:=zn hd;have ht:=hsmt t (ak ..);rw[aJ];unfold yH Y5;rw[aO,decide_eq_true (show (i:Int)<(usA.length:Int) by omega),cond_true,qr,br,hg]
  simp only[bD,af];rw[ww (by unfold maxLen; omega),af]
  by_cases he:t.codes=u.codes
  ·rw[decide_eq_true he,aA,cond_false,if_pos he];exact GR hsm ts us (i+1) (zi hd) (by simpa using hl) fun t h=>hsmt t (ai _ h)
  ·rw[decide_eq_false he,bJ,cond_true,if_neg he]
theorem MQ {a0:List zj} {rf:(List zj×List Int×List Int)->Option Bool} {usA:List Tm}:(ts us:List Tm)->(i:Nat)->usA.drop i=us->ts.length=us.length->(∀ t∈ts,t.codes.length<=1000)->xv rf a0 (usA.map Tm.codes) (ts.map Tm.codes) i=(match Y5 ts us with
  | none=>some (.inl ())
  | some p=>(rf (a0,p.1.codes,p.2.codes)).bind fun r=>some (.inr r))
 | [],[],i,_,_,_=>rfl
 | [],_::_,_,_,h,_=>by simp at h
 | _::_,[],_,_,h,_=>by simp at h
 | t::ts,u::us,i,hd,hl,hsmt=>by
  have hg:=zn hd;have ht:=hsmt t (ak ..);rw[aJ];unfold xv Y5;rw[qr,br,hg];simp only[bD,af];rw[jZ (by omega),af]
  by_cases he:t.codes=u.codes
  ·rw[decide_eq_true he,aA,cond_false,if_pos he];exact MQ ts us (i+1) (zi hd) (by simpa using hl) fun t h=>hsmt t (ai _ h)
  ·rw[decide_eq_false he,bJ,cond_true,if_neg he]
theorem AK {a0:List zj} (hs:SignOk a0) {t u:Tm} (ht:t.ok a0 24) (hu:u.ok a0 24) (hlt:t.codes.length<=1000) (hlu:u.codes.length<=1000):∃ c ts d us,HF a0 t.codes c ts∧HF a0 u.codes d us∧(c=d->ts.length=us.length):=by
 obtain⟨c,ts,h1,-,-⟩:=Nb hs ht hlt;obtain⟨d,us,h2,-,-⟩:=Nb hs hu hlu;have inj:∀{c c':Int} {r r':List Int},c::r=c'::r'->c=c'∧r=r':=fun h=>by injection h with a b; exact ⟨a,b⟩
 refine ⟨c,ts,d,us,h1,h2,fun hcd => ?_⟩;cases t with
 | v n =>
  obtain⟨e1,e2⟩:=inj (show (-1 - (n:Int))::[]=c::zb ts from h1.eq)
  have e3:ts=[]:=sc (a0:=a0) _ ts [] (aE _) h1.ok trivial e2.symm;cases u with
  | v m =>
   obtain⟨-,e5⟩:=inj (show (-1 - (m:Int))::[]=d::zb us from h2.eq)
   have e6:us=[]:=sc (a0:=a0) _ us [] (aE _) h2.ok trivial e5.symm;rw[e3,e6]
  | f q bs =>
   obtain⟨e4,-⟩:=inj (show (q:Int)::zb bs=d::zb us from h2.eq)
   omega
 | f p as =>
  obtain⟨e1,e2⟩:=inj (show (p:Int)::zb as=c::zb ts from h1.eq)
  have e3:as=ts:=sc (a0:=a0) _ as ts (aE _) ht.2 h1.ok e2;cases u with
  | v m =>
   obtain⟨e4,-⟩:=inj (show (-1 - (m:Int))::[]=d::zb us from h2.eq)
   omega
  | f q bs =>
   obtain⟨e4,e5⟩:=inj (show (q:Int)::zb bs=d::zb us from h2.eq)
   have e6:bs=us:=sc (a0:=a0) _ bs us (aE _) hu.2 h2.ok e5;have hpq:p=q:=by omega
   subst hpq;have h3:=ht.1;have h4:=hu.1;rw[h3] at h4;injection h4 with h4;rw[← e3,← e6,h4]
theorem Se {a0:List zj} (hs:SignOk a0):∀(n:Nat) (a b:List Int) (c d:Int) (ts us:List Tm),a.length<=n->HF a0 a c ts->HF a0 b d us->(c=d->ts.length=us.length)->a≠b->∀ k k',n<k->n<k' ->
  ∃(r:Bool) (z:Unit⊕Bool),rJ k (a0,a,b)=some r∧lp tH k' (a0,a,b)=some z∧yA z (fun _=>false) (fun x=>x)=r:=by
 intro n
 induction n with
 | zero =>
  intro a b c d ts us hn h;rw[h.eq] at hn;simp at hn
 | succ n ih =>
  intro a b c d ts us hn ha hb har hne k k' hk hk';obtain⟨k,rfl⟩:∃ q,k=q+1:=⟨k - 1,by omega⟩
  obtain⟨k',rfl⟩:∃ q,k'=q+1:=⟨k' - 1,by omega⟩
  show ∃ r z,Ql (rJ k) a0 a b=some r∧_;rw[zr];have key:=fun a b c d ts us h1 h2 h3 h4 h5=>ih a b c d ts us h1 h2 h3 h4 h5 k k' (by omega) (by omega)
  generalize lp tH k'=rec at key ⊢;have la:=ha.len;have lb:=hb.len;obtain⟨x,hx⟩:=ha.sum hs;obtain⟨y,hy⟩:=hb.sum hs;unfold Ql tH;simp only;have hnn:nn a=some a:=by rw[ha.eq]; rfl
  rw[Cf a0 (by omega),hx,af,Cf a0 (by omega),hy,af,PD (by omega) (by omega),af,hnn,af,af,bJ,cond_true,
   MB (by omega) (by omega) (fun e he=>(ha.syms hs e he).1) (fun e he=>(hb.syms hs e he).1),af]
  cases Xe a b (aR 24) with
  | false=>exact ⟨false,.inl (),rfl,rfl,rfl⟩
  | true =>
   rw[aA,cond_false,cond_true];simp only[af];by_cases hxy:x=y
   ·subst hxy;rw[decide_eq_false (Int.lt_irrefl x),show (x != x)=false from by simp]
    simp only[cond_false];have ga:gx a 0=some c:=by rw[ha.eq]; rfl
    have gb:gx b 0=some d:=by rw[hb.eq]; rfl
    simp only[ga,gb,af];by_cases hcd:c=d
    ·subst hcd;have hl:=har rfl;rw[show (c != c)=false from by simp,cond_false,cond_false]
     have ea:=ha.eq;have eb:=hb.eq;have hlt:(zb ts).length+1=a.length:=by rw[ea]; rfl
     have hlu:(zb us).length+1=b.length:=by rw[eb]; rfl
     have sa:vU a (some 1) none=some (zb ts):=by rw[ea]; exact u9 _ _
     have sb:vU b (some 1) none=some (zb us):=by rw[eb]; exact u9 _ _
     have ct:∀ t∈ts,t.codes.length<=1000:=fun t h=>by have:=rd h; omega
     have cu:∀ t∈us,t.codes.length<=1000:=fun t h=>by have:=rd h; omega
     have cuts1:=yv ts ha.ok;have cuts2:=yv us hb.ok;have lts:=YJ cuts1;have lus:=YJ cuts2;rw[aO] at lts lus;have pa:=wd hs (a1:=zb ts) (by omega) cuts1
     have pb:=wd hs (a1:=zb us) (by omega) cuts2
     have ta:=vn hs (a1:=zb ts) (by omega) cuts1
     have tb:=vn hs (a1:=zb us) (by omega) cuts2
     unfold Z0;simp only[sa,sb,pa,pb,ta,tb,af];rw[ZB _ _ (by rw[aO]; unfold maxLen; omega),GR cu ts us 0 rfl hl ct,af,
      Qq _ _ _ _ (by rw[aO]; unfold maxLen; omega),MQ ts us 0 rfl hl ct]
     cases hf:Y5 ts us with
     | none =>
      exfalso;exact hne (by rw[ea,eb,VA hl hf])
     | some p =>
      obtain⟨q1,q2,q3⟩:=Vr hf;obtain⟨c1,ts1,d1,us1,f1,f2,f3⟩:=AK hs (vH.1 ha.ok _ q1) (vH.1 hb.ok _ q2) (ct _ q1) (cu _ q2);have:=rd q1;obtain⟨r,z,g1,g2,g3⟩:=key p.1.codes p.2.codes c1 d1 ts1 us1 (by omega) f1 f2 f3 q3
      refine ⟨r,z,?_,g2,g3⟩;simp only;rw[g1];rfl
    ·rw[show (c != d)=true from by simp [hcd],cond_true,cond_true]
     exact ⟨decide (c>d),.inr (decide (c>d)),rfl,rfl,rfl⟩
   ·rw[show (x != y)=true from by simp [hxy],cond_true]
    by_cases hlt:x<y
    ·rw[decide_eq_true hlt,cond_true];refine ⟨false,.inr (decide (x>y)),rfl,rfl,?_⟩;rw[decide_eq_false (show ¬ x>y by omega)]
     rfl
    ·rw[decide_eq_false hlt,cond_false,decide_eq_true (show x>y by omega),cond_true]
     exact ⟨true,.inr true,rfl,rfl,rfl⟩
theorem Hf {a0:List zj} (hs:SignOk a0) {a b:List Int} {c d:Int} {ts us:List Tm} (ha:HF a0 a c ts) (hb:HF a0 b d us) (har:c=d->ts.length=us.length) (hne:a≠b):∃ r,QO a0 a b=some r∧xo a0 a b=some r:=by
 have la:=ha.len;obtain⟨r,z,h1,h2,h3⟩:=Se hs a.length a b c d ts us (aE _) ha hb har hne ze ze (by unfold ze; omega) (by unfold ze; omega)
 refine ⟨r,h1,?_⟩;unfold xo;rw[h2,af,← h3];cases z<;>rfl
def XH (a0:List zj) (a b:List Int):Option (Int×Int) :=
 (yk a b).bind fun r34=>cond r34 (some (1,0)) ((xo a0 a b).bind fun r35=>cond r35 (some (2,0)) ((xo a0 b a).bind fun r36=>cond r36 (some (0,0)) (some (3,0))))
theorem Ap {a0:List zj} (hs:SignOk a0) {a b:List Int} {c d:Int} {ts us:List Tm} (ha:HF a0 a c ts) (hb:HF a0 b d us) (har:c=d->ts.length=us.length):∃ k,vO a0 a b=some k∧XH a0 a b=some (k,0):=by
 have la:=ha.len;unfold vO XH;rw[jZ (by omega),af,ww (by unfold maxLen; omega),af]
 by_cases he:a=b
 ·rw[decide_eq_true he]; exact ⟨1,rfl,rfl⟩
 ·rw[decide_eq_false he,cond_false,cond_false];obtain⟨r,h1,h2⟩:=Hf hs ha hb har he;rw[h1,h2,af,af];cases r with
  | true=>exact ⟨2,rfl,rfl⟩
  | false =>
   obtain⟨r',g1,g2⟩:=Hf hs hb ha (fun h=>(har h.symm).symm) (dj he);rw[cond_false,cond_false,g1,g2,af,af];cases r' with
   | true=>exact ⟨0,rfl,rfl⟩
   | false=>exact ⟨3,rfl,rfl⟩
theorem Wq (a0:List zj) (xs:List Int):∃ b,ur a0 xs=some b:=by
 unfold ur;rw[sn,af];cases wX a0 xs with
 | none=>exact ⟨_,rfl⟩
 | some ps=>exact ⟨_,rfl⟩
theorem Pt {a0:List zj} {a b:List Int} (ha:qL a0 a=true) (hb:qL a0 b=true):∃ c ts d us,HF a0 a c ts∧HF a0 b d us∧(c=d->ts.length=us.length):=by
 obtain⟨c,ts,e,rfl,ho,he,-,hl,h48,-⟩:=rZ ha;obtain⟨d,us,e',rfl,ho',he',-,hl',h48',-⟩:=rZ hb;refine ⟨c,ts,d,us,⟨rfl,ho,by simp only[aj]; omega,by omega,fun _=>⟨e,by rw[qr,he]⟩⟩,⟨rfl,ho',by simp only[aj]; omega,by omega,fun _=>⟨e',by rw[qr,he']⟩⟩,fun h => ?_⟩
 have:c=d:=by omega
 rw[this,he'] at he;injection he with he;rw[he] at hl';omega
theorem JW {a0:List zj} (hs:SignOk a0) {a b:List Int} (ha:qL a0 a=true) (hb:qL a0 b=true):∃ k,vO a0 a b=some k∧wc a0 a b=some (k,0):=by
 obtain⟨c,ts,d,us,h1,h2,h3⟩:=Pt ha hb;obtain⟨k,g1,g2⟩:=Ap hs h1 h2 h3;refine ⟨k,g1,?_⟩;rw[← g2];obtain⟨b1,e1⟩:=Wq a0 a;obtain⟨b2,e2⟩:=Wq a0 b;unfold wc;rw[e1,af,e2,ua,ha,ua,hb];cases b1<;>cases b2<;>rfl
theorem Gg {a0:List zj} (hs:SignOk a0) {t u:Tm} (ht:t.ok a0 24) (hu:u.ok a0 24) (hlt:t.codes.length<=1000) (hlu:u.codes.length<=1000):∃ k,vO a0 t.codes u.codes=some k∧XH a0 t.codes u.codes=some (k,0):=by
 obtain⟨c,ts,d,us,h1,h2,h3⟩:=AK hs ht hu hlt hlu;exact Ap hs h1 h2 h3
theorem Kf (a0:List zj) (n:Bool) (r:List Int):Zm a0 n r=some (qL a0 r):=by
 unfold Zm;rw[ua];rfl
theorem LT {a0:List zj} (hs:SignOk a0) {l k:zd} (hl:qL a0 l.2=true) (hk:qL a0 k.2=true):∃ w,rG a0 l.1 l.2 k.1 k.2=some w∧Ze a0 l.1 l.2 k.1 k.2=some (w,0):=by
 obtain⟨w,h1,h2⟩:=JW hs hl hk;unfold rG Ze;rw[h1,af,Kf,hl,af,aA,cond_false,Kf,hk,af,aA,cond_false,h2,af];simp only;cases w != 1 with
 | true=>exact ⟨w,rfl,rfl⟩
 | false =>
  rw[cond_false,cond_false];cases l.1==k.1 with
  | true=>exact ⟨w,rfl,rfl⟩
  | false =>
   rw[cond_false,cond_false];cases l.1 with
   | true=>exact ⟨2,rfl,rfl⟩
   | false=>exact ⟨0,rfl,rfl⟩
def Dr (a0:List zj) (l k:zd):Bool:=(rG a0 l.1 l.2 k.1 k.2).getD 0==2
def Xr (a0:List zj) (L:List zd) (k:zd):Bool:=L.any fun l=>Dr a0 l k
theorem Di {a0:List zj} (hs:SignOk a0) {k:zd} (hk:qL a0 k.2=true):(es:List zd)->(i:Nat)->(∀ l∈es,qL a0 l.2=true)->∃ z,zQ a0 k.1 k.2 es i=some z∧yA z (fun _=>decide ((-1:Int)≥0)) (fun j=>decide (j≥0))=es.any fun l=>Dr a0 l k
 | [],i,_=>⟨.inl (),rfl,rfl⟩
 | e::es,i,h=>by
  obtain⟨w,h1,h2⟩:=LT hs (h e (ak ..)) hk;obtain⟨z,g1,g2⟩:=Di hs hk es (i+1) fun l hl=>h l (ai _ hl);unfold zQ Zl;have ho:Dr a0 e k=(w==2):=by unfold Dr; rw[h1]; rfl
  rw[h2,af,af,eo,ho];simp only;cases w==2 with
  | true =>
   refine ⟨.inr (i:Int),rfl,?_⟩;show decide ((i:Int)≥0)=_;rw[decide_eq_true (show (i:Int)≥0 by omega)]
   rfl
  | false=>exact ⟨z,g1,g2⟩
theorem Ik {a0:List zj} (hs:SignOk a0) {L:List zd} {k:zd} (hL:∀ l∈L,qL a0 l.2=true) (hk:qL a0 k.2=true) (hl:L.length<=1000):qV L a0 k.1 k.2=some (Xr a0 L k):=by
 unfold qV uY;obtain⟨z,g1,g2⟩:=Di hs hk L 0 hL;rw[rx _ _ _ _ (by unfold maxLen; omega),g1,af]
 unfold Xr;rw[← g2];cases z<;>rfl
theorem Od {a0:List zj} (hs:SignOk a0) {L:List zd} {i:Int} {k:zd} (hi:gx L i=some k) (hk:qL a0 k.2=true):(es:List zd)->(∀ l∈es,qL a0 l.2=true)->wq a0 L i es=some (cond (es.any fun l=>Dr a0 l k) (.inr false) (.inl ()))
 | [],_=>rfl
 | e::es,h=>by
  obtain⟨w,h1,h2⟩:=LT hs (h e (ak ..)) hk;unfold wq;have ho:Dr a0 e k=(w==2):=by unfold Dr; rw[h1]; rfl
  rw[hi,af,h1,af,eo,ho,Od hs hi hk es fun l hl=>h l (ai _ hl)];cases w==2<;>rfl
theorem HO {a0:List zj} (hs:SignOk a0) {L:List zd} {i:Int} {k:zd} (hi:gx L i=some k) (hL:∀ l∈L,qL a0 l.2=true) (hl:L.length<=1000):jB a0 L i=some (!Xr a0 L k):=by
 unfold jB Xr;rw[Q4 _ _ _ (by unfold maxLen; omega),Od hs hi (hL k (kl hi)) L hL,af]
 cases L.any fun l=>Dr a0 l k<;>rfl
def zz (a0:List zj) (L:List zd):List zd->Nat->List Int
 | [],_=>[]
 | e::es,i=>cond (Xr a0 L e) (zz a0 L es (i+1)) ((i:Int)::zz a0 L es (i+1))
theorem Ad {a0:List zj} (hs:SignOk a0) {L:List zd} (hL:∀ l∈L,qL a0 l.2=true) (hl:L.length<=1000):(es:List zd)->(i:Nat)->(out:List Int)->(∀ l∈es,l∈L)->out.length+es.length<=100000->qK L a0 es i out=some (out++zz a0 L es i)
 | [],i,out,_,_=>by simp [qK,zz]
 | e::es,i,out,h,hlen=>by
  simp only[aj] at hlen;unfold qK zz;rw[Ik hs hL (hL e (h e (ak ..))) hl,af];cases Xr a0 L e with
  | true=>rw[aA,cond_false,cond_true,Ad hs hL hl es (i+1) out (fun l hl=>h l (ai _ hl)) (by omega)]
  | false =>
   rw[bJ,cond_true,cond_false,zp (by simp; omega),cond_true,Ad hs hL hl es (i+1) _ (fun l hl=>h l (ai _ hl)) (by simp; omega)]
   simp
theorem Dw {a0:List zj}:(es:List zd)->(i:Nat)->(∀ l∈es,qL a0 l.2=true)->zO a0 es i=some (.inl ())
 | [],i,_=>rfl
 | e::es,i,h=>by
  unfold zO j7;rw[Kf,h e (ak ..),af,af,aA,cond_false];exact Dw es (i+1) fun l hl=>h l (ai _ hl)
theorem Lr {a0:List zj} (hb:uT a0=true) {L:List zd} (hL:∀ l∈L,qL a0 l.2=true) (hl:L.length<=1000):Xb a0 L=some (0,zz a0 L L 0):=by
 have hs:=tz hb;unfold Xb vz tA;rw[QB,hb,af,aA,cond_false,re _ _ (by unfold maxLen; omega),Dw L 0 hL,af,Q5 _ _ _ _ (by unfold maxLen; omega),Ad hs hL hl L 0 [] (fun _ h=>h) (by simp; omega)]
 rfl
def Y1 (l e:zd):Bool:=(l.1 != e.1)&&decide (l.2=e.2)
theorem Ij (l e:zd):Y1 l e=Y1 e l:=by
 unfold Y1;rw[et];simp only[aw,decide_eq_true_iff,bne_iff_ne];exact ⟨fun h=>⟨dj h.1,h.2.symm⟩,fun h=>⟨dj h.1,h.2.symm⟩⟩
theorem VU (e:zd):(es:List zd)->(i:Nat)->(∀ l∈es,l.2.length<=1000)->e.2.length<=1000->∃ z,zR e.1 e.2 es i=some z∧yA z (fun _=>decide ((-1:Int)≥0)) (fun j=>decide (j≥0))=es.any fun l=>Y1 l e
 | [],i,_,_=>⟨.inl (),rfl,rfl⟩
 | l::es,i,h,he=>by
  obtain⟨z,g1,g2⟩:=VU e es (i+1) (fun l hl=>h l (ai _ hl)) he;unfold zR vW;rw[eo];have hc:Y1 l e=(!(e.1==l.1)&&decide (e.2=l.2)):=by rw[Ij]; rfl
  cases hb : !(e.1==l.1) with
  | false =>
   rw[hb] at hc;rw[cond_false,af,cond_false,hc,bn,cU];exact ⟨z,g1,g2⟩
  | true =>
   rw[hb] at hc;rw[cond_true,ww (by unfold maxLen; omega),af,af,hc,aY]
   cases decide (e.2=l.2) with
   | true =>
    refine ⟨.inr (i:Int),rfl,?_⟩;show decide ((i:Int)≥0)=_;rw[decide_eq_true (show (i:Int)≥0 by omega)]
    rfl
   | false=>exact ⟨z,g1,g2⟩
theorem Du {L:List zd} {e:zd} (h:∀ l∈L,l.2.length<=1000) (he:e.2.length<=1000) (hl:L.length<=1000):qT L e.1 e.2=some (L.any fun l=>Y1 l e):=by
 unfold qT uX;obtain⟨z,g1,g2⟩:=VU e L 0 h he;rw[ry _ _ _ (by unfold maxLen; omega),g1,af,← g2]
 cases z<;>rfl
theorem zbb {a0:List zj} {L:List zd} {T:List jI} {C:List zd} {i:Nat} {e:zd} (hi:L[i]? = some e) (h:∀ l∈L,l.2.length<=1000) (hl:L.length<=1000):∀(m j k:Nat),i - j=m->j<=i->m<k ->
  lp qy k (a0,(i:Int),e.2,(j:Int),L,T,C)=some (cond (((L.take i).drop j).any fun l=>Y1 l e) (.inr true) (.inl ())):=by
 have hil:=(aq.1 hi).1;intro m
 induction m with
 | zero =>
  intro j k hm hj hk;obtain⟨k,rfl⟩:∃ k',k=k'+1:=⟨k - 1,by omega⟩
  rw[zr];generalize lp qy k=rec;unfold qy;have:j=i:=by omega
  subst this;rw[decide_eq_false (show ¬(j:Int)<(j:Int) by omega),cond_false,List.drop_of_length_le (by simp; omega)]
  rfl
 | succ m ih =>
  intro j k hm hj hk;obtain⟨k,rfl⟩:∃ k',k=k'+1:=⟨k - 1,by omega⟩
  rw[zr];have key:=ih (j+1) k (by omega) (by omega) (by omega)
  generalize lp qy k=rec at key ⊢;unfold qy;have w1:ah .i64 ((j:Int)+1)=((j+1:Nat):Int):=by rw[zu]<;>omega
  obtain⟨l,hlj⟩:∃ l,L[j]? = some l:=⟨_,al (by omega)⟩
  have hlm:=h l (aM hlj);have hd:(L.take i).drop j=l::(L.take i).drop (j+1):=by
   rw[aX (by simp; omega)]
   congr 1
   rw[List.getElem_take];exact (aq.1 hlj).2
  simp only[decide_eq_true (show (j:Int)<(i:Int) by omega),cond_true,qr,hlj,hi,af,w1]
  rw[hd,eo,key];have hc:Y1 l e=(!(l.1==e.1)&&decide (l.2=e.2)):=rfl;cases hb : !(l.1==e.1) with
  | false =>
   rw[hb] at hc;rw[cond_false,hc,bn,cU]
  | true =>
   rw[hb] at hc;rw[cond_true,jZ (by omega),af,hc,aY]
   cases decide (l.2=e.2)<;>rfl
def KI (a0:List zj) (e:zd):Bool:=(wz a0 e.1 e.2).getD false
theorem GN {a0:List zj} (hs:SignOk a0) {e:zd} (h:qL a0 e.2=true):wz a0 e.1 e.2=some (KI a0 e)∧∀ X Y:Option (Unit⊕Bool),
  (cond (!e.1) ((gx e.2 0).bind fun e30=>cond (e30==0) ((vU e.2 (some 1) none).bind fun y31=>(zK a0 y31).bind fun r32=>(inR 0 (aa r32)).bind fun k33=>(r32[k33]?).bind fun x34=>(inR 1 (aa r32)).bind fun k35=>(r32[k35]?).bind fun x36=>(xA x34 x36).bind fun r37=>cond r37 X Y) Y) Y)=cond (KI a0 e) X Y:=by
 obtain⟨n,r⟩:=e;obtain⟨c,ts,q,hr,ho,hq,-,hl,h48,-⟩:=rZ h;have hr:r=(c:Int)::zb ts:=hr;subst hr;unfold KI wz;cases n with
 | true=>exact ⟨rfl,fun X Y=>rfl⟩
 | false =>
  simp only[cond_false,bJ,cond_true,qm,aC,af];by_cases hc:c=0
  ·subst hc;have h2:ts.length=2:=by
    rw[hs.eq] at hq;injection hq with hq;subst hq;have:((ts.length:Nat):Int)=2:=hl;omega
   obtain⟨t1,t2,rfl⟩:∃ t1 t2,ts=[t1,t2]:=by
    match ts,h2 with
    | [t1,t2],_=>exact ⟨t1,t2,rfl⟩
   have hcut:=yv [t1,t2] ho;have l1:t1.codes.length<=1000:=by
    have h9:t1.codes.length<=(zb [t1,t2]).length:=rd (ak ..);exact aK h9 (aK h48 (by decide))
   have e8:=vn hs (a1:=zb [t1,t2]) (aK h48 (by decide)) hcut
   have e9:=wd hs (a1:=zb [t1,t2]) (aK h48 (by decide)) hcut
   have s8:vU (((0:Nat):Int)::zb [t1,t2]) (some 1) none=some (zb [t1,t2]):=u9 _ _;rw[aJ,aJ,List.map_nil] at e8 e9;generalize zb [t1,t2]=row at e8 e9 s8 ⊢;generalize t1.codes=p1 at l1 e8 e9;generalize t2.codes=p2 at e8 e9;have q1:yk p1 p2=some (decide (p1=p2)):=ww (aK l1 (by decide))
   have q2:xA p1 p2=some (decide (p1=p2)):=jZ (aK l1 (by decide))
   have i0:inR 0 (aa [p1,p2])=some 0:=rfl;have i1:inR 1 (aa [p1,p2])=some 1:=rfl;have g0:[p1,p2][0]? = some p1:=rfl;have g1:[p1,p2][1]? = some p2:=rfl;rw[show ((((0:Nat):Int)) != 0)=false from rfl,cond_false,show ((((0:Nat):Int))==0)=true from rfl]
   simp only[s8,af,e8,e9,cond_true,i0,i1,g0,g1,q1,q2,bp,implies_true,and_self]
  ·rw[show ((c:Int) != 0)=true from by simp [hc],show ((c:Int)==0)=false from by simp [hc]]
   simp only[cond_true,cond_false,bp,implies_true,and_self]
def GY (a0:List zj) (L:List zd):Bool:=L.any fun e=>KI a0 e||L.any fun l=>Y1 l e
theorem JR {a0:List zj} (hs:SignOk a0) {L:List zd} (hL:∀ l∈L,l.2.length<=1000) (hl:L.length<=1000):(es:List zd)->(∀ l∈es,qL a0 l.2=true)->yD a0 L es=some (cond (es.any fun e=>KI a0 e||L.any fun l=>Y1 l e) (.inr (true,0)) (.inl ()))
 | [],_=>rfl
 | e::es,h=>by
  have he:=h e (ak ..);have hel:=v9 he;unfold yD;rw[(GN hs he).1,af,Du hL (by omega) hl,eo,JR hs hL hl es fun l hl=>h l (ai _ hl)]
  cases KI a0 e with
  | true=>rfl
  | false =>
   rw[cond_false,af,cU];cases L.any fun l=>Y1 l e<;>rfl
theorem Jt {a0:List zj} {L:List zd} {T:List jI} {C:List zd} (h:tJ a0 L T C=true):vt a0 L T C=some (GY a0 L,0):=by
 have hs:=tz (zF h).1;obtain⟨l1,-,-,-⟩:=Va hs h;obtain⟨-,-,-,-,l4,-,-,-⟩:=zF h;have hA:∀ l∈L,qL a0 l.2=true:=fun l hl=>aF.1 l4 l hl;unfold vt;rw[zX,h,af,aA,cond_false,kQ _ _ _ _ _ (by unfold maxLen; omega),JR hs (fun l hl=>by have:=v9 (hA l hl); omega) (by omega) L hA,af]
 unfold GY;cases L.any fun e=>KI a0 e||L.any fun l=>Y1 l e<;>rfl
def Ba (a0:List zj) (L:List zd):List zd->Nat->Bool
 | [],_=>false
 | e::es,i=>KI a0 e||((L.take i).any (fun l=>Y1 l e)||Ba a0 L es (i+1))
theorem OH {a0:List zj} (hs:SignOk a0) {L:List zd} {T:List jI} {C:List zd} (hA:∀ l∈L,qL a0 l.2=true) (hl:L.length<=1000):(es:List zd)->(i:Nat)->L.drop i=es->qj a0 L T C es i=some (cond (Ba a0 L es i) (.inr true) (.inl ()))
 | [],i,_=>rfl
 | e::es,i,hd=>by
  have hg:=zn hd;have hi:=zL hd;have he:=hA e (aM hg);unfold qj Ba;rw[(GN hs he).2];cases KI a0 e with
  | true=>rfl
  | false =>
   have:=zbb (a0:=a0) (T:=T) (C:=C) hg (fun l hl=>by have:=v9 (hA l hl); omega) hl i 0 ze rfl (by omega) (by unfold ze; omega)
   rw[show ((0:Nat):Int)=0 from rfl,bV] at this
   rw[cond_false,this,af,cU];cases (L.take i).any fun l=>Y1 l e with
   | true=>rfl
   | false =>
    rw[cU];exact OH hs hA hl es (i+1) (zi hd)
theorem G3 {a0:List zj} {L:List zd}:(es:List zd)->(i:Nat)->(Ba a0 L es i=true↔∃(k:Nat) (e:zd),es[k]? = some e∧(KI a0 e=true∨∃ l∈L.take (i+k),Y1 l e=true))
 | [],i=>by simp [Ba]
 | e::es,i=>by
  unfold Ba;rw[bO,bO,dp,G3 es (i+1)];constructor
  ·rintro (h | h | ⟨k,e',h1,h2⟩)
   ·exact ⟨0,e,rfl,.inl h⟩
   ·exact ⟨0,e,rfl,.inr h⟩
   ·exact ⟨k+1,e',by simpa using h1,by rw[show i+(k+1)=i+1+k from by omega]; exact h2⟩
  ·rintro⟨k,e',h1,h2⟩;cases k with
   | zero =>
    have:e=e':=by simpa using h1
    subst this;rcases h2 with h2 | h2
    ·exact .inl h2
    ·exact .inr (.inl h2)
   | succ k=>exact .inr (.inr ⟨k,e',by simpa using h1,by rw[show i+1+k=i+(k+1) from by omega]; exact h2⟩)
theorem LU {a0:List zj} {L:List zd}:Ba a0 L L 0=GY a0 L:=by
 rw[et,G3];unfold GY;rw[dp];constructor
 ·rintro⟨k,e,h1,h2⟩;refine ⟨e,aM h1,?_⟩;rw[bO];rcases h2 with h2 | ⟨l,h2,h3⟩
  ·exact .inl h2
  ·exact .inr (dp.2 ⟨l,List.mem_of_mem_take h2,h3⟩)
 ·rintro⟨e,he,h⟩;obtain⟨k,hk,hke⟩:=dH.1 he;have hg:L[k]? = some e:=by rw[al hk,hke]
  rcases bO _ _ |>.mp h with h | h
  ·exact ⟨k,e,hg,.inl h⟩
  ·obtain⟨l,hl,hc⟩:=dp.1 h;obtain⟨j,hj,hjl⟩:=dH.1 hl;have hgj:L[j]? = some l:=by rw[al hj,hjl]
   have mem:∀{a b:Nat} {x:zd},L[a]? = some x->a<b->x∈L.take b:=fun {a b x} hx hab=>aM (i:=a) (by rw[List.getElem?_take,if_pos hab]; exact hx)
   rcases Nat.lt_trichotomy j k with hjk | hjk | hjk
   ·exact ⟨k,e,hg,.inr ⟨l,by rw[aN]; exact mem hgj hjk,hc⟩⟩
   ·exfalso;rw[hjk,hg] at hgj;injection hgj with hgj;rw[hgj] at hc;simp [Y1] at hc
   ·exact ⟨j,l,hgj,.inr ⟨e,by rw[aN]; exact mem hg hjk,by rw[Ij]; exact hc⟩⟩
theorem FK {a0:List zj} {L:List zd} {T:List jI} {C:List zd} (h:tJ a0 L T C=true):Xk a0 L T C=some (GY a0 L):=by
 have hs:=tz (zF h).1;obtain⟨l1,-,-,-⟩:=Va hs h;obtain⟨-,-,-,-,l4,-,-,-⟩:=zF h;have hA:∀ l∈L,qL a0 l.2=true:=fun l hl=>aF.1 l4 l hl;unfold Xk;rw[Qt _ _ _ _ (by unfold maxLen; omega),OH hs hA (by omega) L 0 rfl,af,LU]
 cases GY a0 L<;>rfl
theorem Gp (a0:List zj) (L:List zd) (T:List jI) (C:List zd):∃ t,vt a0 L T C=some t:=by
 cases h:tJ a0 L T C with
 | true=>exact ⟨_,Jt h⟩
 | false =>
  refine ⟨(false,800),?_⟩;unfold vt;rw[zX,h];rfl
theorem Rw (sig:List zj) (r a i s b j t:Int) (o1:List zd) (o2:List jI) (o3:List zd) (xL:List zd) (xT:List jI) (xC:List zd) (ok:Bool) (err left:Int) (steps:List (Int×Int×Int×Int×Int×Int×Int×List zd×List jI×List zd)) (h:ok=true->err=0->tJ sig xL xT xC=true) :
  zS r a i s b j t o1 o2 o3 xL xT xC ok err sig left steps=(vA sig left r a i s b j t xL xT xC ok err steps).map fun q=>(sig,q.1,q.2):=by
 unfold zS vA;by_cases he:err=0
 ·rw[show (err != 0)=false from by simp [he],cond_false,cond_false]
  cases ok with
  | false =>
   obtain⟨q,hq⟩:=Gp sig xL xT xC;rw[hq];rfl
  | true =>
   have hm:=h rfl he;rw[Jt hm,af,FK hm,aA,cond_false,cond_true,af];simp only;cases GY sig xL with
   | true=>rfl
   | false =>
    rw[cond_false,bJ,cond_true];generalize yM _ 128=q;cases q<;>rfl
 ·rw[show (err != 0)=true from by simp [he]]
  rfl
def Z3 (L:List zd) (T:List jI) (C:List zd):Prop:=yJ L T C L T C=some true
theorem CV:Z3 [] [] []:=by
 unfold Z3;exact vY (by simp) (by simp) (by simp) (by simp) (by simp) (by simp)
theorem P5 {a0:List zj} {L:List zd} {T:List jI} {C:List zd} (h:tJ a0 L T C=true):tJ a0 (rX L T C).1 (rX L T C).2.1 (rX L T C).2.2=true:=by
 obtain⟨Lt,Tt,Ct,rfl,rfl,rfl,hL,hT,hC⟩:=Ro h;obtain⟨L1,T1,C1,ρ,e,-,-,-,hm,-⟩:=DR h hL hT hC;rw[e];exact hm
def OkR (a0:List zj) (o:Option DA):Prop:=∃ r,o=some r∧Z3 r.1 r.2.1 r.2.2.2.2∧(r.2.2.1=true->r.2.2.2.1=0->tJ a0 r.1 r.2.1 r.2.2.2.2=true)
theorem Zj {a0:List zj} {o:Option DA} {k:Int} (h:o=tl k):OkR a0 o:=⟨_,h,CV,fun h=>by cases h⟩
theorem E7 {a0:List zj} {σ:Sb} {L:List zd} {T:List jI} {C:List zd} {k:Int}:OkR a0 (Jb a0 σ L T C k):=by
 unfold Jb;cases hm:tJ a0 (uV σ L) (T.map (tX σ)) (uV σ C) with
 | true=>exact ⟨_,rfl,Fc hm,fun _ _=>P5 hm⟩
 | false=>exact Zj rfl
theorem BV {L:List zd} {T:List jI} {C:List zd} (h1:L.length<=1048576) (h1m:∀ l∈L,l.2.length<=1048576) (h2:T.length<=1048576) (h2m:∀ l∈T,l.length<=1048576) (h3:C.length<=1048576) (h3m:∀ l∈C,l.2.length<=1048576) :
  qZ L T C=some (L,T,C)∧Z3 L T C:=by
 refine ⟨?_,?_⟩
 ·unfold qZ;rw[Zy (fun l hl=>aK (h1m l hl) (by decide)) (aK h1 (by decide)),WC (fun l hl=>aK (h2m l hl) (by decide)) (aK h2 (by decide)),Zy (fun l hl=>aK (h3m l hl) (by decide)) (aK h3 (by decide))]
  rfl
 ·have hM:1048576<=maxLen:=by decide
  exact vY (aK h1 hM) (fun e he=>aK (h1m e he) hM) (aK h2 hM) (fun e he=>aK (h2m e he) hM) (aK h3 hM) (fun e he=>aK (h3m e he) hM)
theorem F3 {L:List zd} {T:List jI} {C:List zd} (h1:Go.Abs.wt (.sl sR) L<=1048576) (h2:Go.Abs.wt (.sl (.one (.sl (.one (.int .i64))))) T<=1048576) (h3:Go.Abs.wt (.sl sR) C<=1048576):qZ L T C=some (L,T,C)∧Z3 L T C:=by
 obtain⟨l1,m1⟩:=Oa h1;obtain⟨l2,m2⟩:=zbn h2;obtain⟨l3,m3⟩:=Oa h3;exact BV l1 m1 l2 m2 l3 m3
abbrev wF:=Int×Int×Int×Int×Int×Int×Int×List zd×List jI×List zd
theorem Wi {a0:List zj} {L:List zd}:(es:List zd)->(i:Nat)->(k:Int)->k∈zz a0 L es i↔∃(j:Nat) (l:zd),es[j]? = some l∧k=((i+j:Nat):Int)∧Xr a0 L l=false
 | [],i,k=>by simp [zz]
 | e::es,i,k=>by
  have ih:=Wi es (i+1) k (a0:=a0) (L:=L);have tail:k∈zz a0 L es (i+1)↔∃(j:Nat) (l:zd),(e::es)[j+1]? = some l∧k=((i+(j+1):Nat):Int)∧Xr a0 L l=false:=by
   rw[ih];constructor
   ·rintro⟨j,l,h1,h2,h3⟩;exact ⟨j,l,by simpa using h1,by rw[h2]; congr 1; omega,h3⟩
   ·rintro⟨j,l,h1,h2,h3⟩;exact ⟨j,l,by simpa using h1,by rw[h2]; congr 1; omega,h3⟩
  unfold zz;cases ho:Xr a0 L e with
  | true =>
   rw[cond_true,tail];constructor
   ·rintro⟨j,l,h1,h2,h3⟩;exact ⟨j+1,l,h1,h2,h3⟩
   ·rintro⟨j,l,h1,h2,h3⟩;cases j with
    | zero=>injection h1 with h1; subst h1; rw[ho] at h3; cases h3
    | succ j=>exact ⟨j,l,h1,h2,h3⟩
  | false =>
   rw[cond_false,aB,tail];constructor
   ·rintro (h | ⟨j,l,h1,h2,h3⟩)
    ·exact ⟨0,e,rfl,by rw[h]; rfl,ho⟩
    ·exact ⟨j+1,l,h1,h2,h3⟩
   ·rintro⟨j,l,h1,h2,h3⟩;cases j with
    | zero=>exact .inl (by rw[h2]; rfl)
    | succ j=>exact .inr ⟨j,l,h1,h2,h3⟩
theorem sO {a0:List zj} {L:List zd}:(es:List zd)->(i:Nat)->(zz a0 L es i).length<=es.length
 | [],_=>aE _
 | e::es,i=>by
  have:=sO es (i+1) (a0:=a0) (L:=L);unfold zz;cases Xr a0 L e<;>simp<;>omega
section
variable {a0:List zj} {L:List zd} {T:List jI} {C:List zd} (hmay:tJ a0 L T C=true)
include hmay
end
def Ih (s:wF):Prop:=Z3 s.2.2.2.2.2.2.2.1 s.2.2.2.2.2.2.2.2.1 s.2.2.2.2.2.2.2.2.2
theorem Gx {s:wF} (h:Ih s) :
  tG s.1 s.2.1 s.2.2.1 s.2.2.2.1 s.2.2.2.2.1 s.2.2.2.2.2.1 s.2.2.2.2.2.2.1 s.2.2.2.2.2.2.2.1 s.2.2.2.2.2.2.2.2.1 s.2.2.2.2.2.2.2.2.2 s.1 s.2.1 s.2.2.1 s.2.2.2.1 s.2.2.2.2.1 s.2.2.2.2.2.1 s.2.2.2.2.2.2.1 s.2.2.2.2.2.2.2.1 s.2.2.2.2.2.2.2.2.1 s.2.2.2.2.2.2.2.2.2=some true:=by
 unfold Ih Z3 at h;unfold tG;simp only[beq_self_eq_true,cond_true,h,af]
theorem Wx (xs:List wF) (hg:∀ s∈xs,Ih s):(es:List wF)->(i:Nat)->xs.drop i=es->yE xs es i=some (.inl ())
 | [],_,_=>rfl
 | e::es,i,h=>by
  have hi:=zL h;have he:=zn h;unfold yE;rw[qr,he,af,Gx (hg e (aM he)),af,aA,cond_false];exact Wx xs hg es (i+1) (zi h)
theorem kC {xs:List wF} (hg:∀ s∈xs,Ih s) (hl:xs.length<=maxLen):vi xs xs=some true:=by
 unfold vi;rw[show (((aa xs:Nat):Int) != ((aa xs:Nat):Int))=false from by simp,cond_false,kW _ _ hl,Wx xs hg xs 0 rfl]
 rfl
section
variable {a0:List zj} {L:List zd} {T:List jI} {C:List zd} (hmay:tJ a0 L T C=true)
include hmay
end
def vP (a0:jQ) (_a1:jR) (_a2:jQ) (a3:Int) (a4:Bool):Option Bool :=
 cond (decide (a3≥0))
 (cond (decide (a3<((aa a0:Nat):Int)))
  ((gx a0 a3).bind fun e4 =>
   (gx e4.2 0).bind fun e5 =>
   cond (e5==0)
   ((gx a0 a3).bind fun e6 =>
    some (e6.1==a4))
   (some false))
  (some false))
 (some false)
def th (a0:jS) (a1:jQ) (a2:jR) (a3:jQ) (a4:jQ) (a5:jR) (a6:jQ):Option (Bool×jQ×jR×jQ) :=
 (qn a0 a1 a2 a3).bind fun r14 =>
 cond (decide (((aa r14.2:Nat):Int)>0))
 ((inR (ah .i64 (((aa r14.2:Nat):Int) - 1)) (aa r14.2)).bind fun k15 =>
  (r14.2[k15]?).bind fun x16 =>
  (qn a0 a4 a5 a6).bind fun r17 =>
  cond (decide (((aa r17.2:Nat):Int)>0))
  ((inR (ah .i64 (((aa r17.2:Nat):Int) - 1)) (aa r17.2)).bind fun k18 =>
   (r17.2[k18]?).bind fun x19 =>
   cond (decide ((ah .i64 (x19+(ah .i64 (x16+1))))>23))
   (some (false,([]:jQ),([]:jR),([]:jQ)))
   ((zC a4 a5 a6 (ah .i64 (x16+1))).bind fun r20 =>
    some (true,r20.1,r20.2.1,r20.2.2)))
  ((zC a4 a5 a6 (ah .i64 (x16+1))).bind fun r21 =>
   some (true,r21.1,r21.2.1,r21.2.2)))
 ((qn a0 a4 a5 a6).bind fun r22 =>
  cond (decide (((aa r22.2:Nat):Int)>0))
  ((inR (ah .i64 (((aa r22.2:Nat):Int) - 1)) (aa r22.2)).bind fun k23 =>
   (r22.2[k23]?).bind fun x24 =>
   cond (decide ((ah .i64 (x24+0))>23))
   (some (false,([]:jQ),([]:jR),([]:jQ)))
   ((zC a4 a5 a6 0).bind fun r25 =>
    some (true,r25.1,r25.2.1,r25.2.2)))
  ((zC a4 a5 a6 0).bind fun r26 =>
   some (true,r26.1,r26.2.1,r26.2.2)))
def uZ (a0:jS) (a1:jI):Option jR :=
 (vU a1 (some 1) none).bind fun y3 =>
 (wN a0 y3).bind fun r4 =>
 some r4
def Qz (a0:jS) (a1:jI) (a2:jI):Option Bool :=
 (wc a0 a1 a2).bind fun r2 =>
 cond (r2.1 != 2)
 (some (r2.1 != 3))
 (some false)
def Ys (a0:jS) (a1:jI) (a2:Int) (a3:jI):Option jI :=
 (tv a0 a1 a2).bind fun r5 =>
 (vU a1 none (some a2)).bind fun y6 =>
 (vU a1 (some r5.1) none).bind fun y7 =>
 (tt ([y6,a3,y7]:List jI)).bind fun r8 =>
 some r8
def wu (a0:jS) (a1:jQ) (a2:jR) (a3:jQ) (a4:Int) (a5:Int) (a6:jQ) (a7:jR) (a8:jQ) (a9:Int) (a10:Int):Option (jQ×jR×Bool×Int×jQ) :=
 (gx a6 a9).bind fun e28 =>
 (gx e28.2 a10).bind fun e29 =>
 cond (decide (e29<0))
 (some (([]:jQ),([]:jR),false,0,([]:jQ)))
 ((th a0 a1 a2 a3 a6 a7 a8).bind fun r30 =>
  cond (!r30.1)
  (some (([]:jQ),([]:jR),false,1501,([]:jQ)))
  ((gx a1 a4).bind fun e31 =>
   (uZ a0 e31.2).bind fun r32 =>
   (inR a9 (aa r30.2.1)).bind fun k33 =>
   (r30.2.1[k33]?).bind fun x34 =>
   (tv a0 x34.2 a10).bind fun r35 =>
   (inR a5 (aa r32)).bind fun k36 =>
   (r32[k36]?).bind fun x37 =>
   (vU x34.2 (some a10) (some r35.1)).bind fun y38 =>
   (tS a0 x37 y38).bind fun r39 =>
   cond (r39.2.1 != 0)
   (some (([]:jQ),([]:jR),false,1502,([]:jQ)))
   (cond (!r39.1)
    (some (([]:jQ),([]:jR),false,0,([]:jQ)))
    ((inR a5 (aa r32)).bind fun k40 =>
     (r32[k40]?).bind fun x41 =>
     (X9 r39.2.2 x41).bind fun r42 =>
     (inR (ah .i64 (1 - a5)) (aa r32)).bind fun k43 =>
     (r32[k43]?).bind fun x44 =>
     (X9 r39.2.2 x44).bind fun r45 =>
     cond (decide (((aa r42:Nat):Int)>48))
     (some (([]:jQ),([]:jR),false,1502,([]:jQ)))
     (cond (decide (((aa r45:Nat):Int)>48))
      (some (([]:jQ),([]:jR),false,1502,([]:jQ)))
      ((Qz a0 r42 r45).bind fun r46 =>
       cond r46
       (some (([]:jQ),([]:jR),false,0,([]:jQ)))
       ((inR (ah .i64 (1 - a5)) (aa r32)).bind fun k47 =>
        (r32[k47]?).bind fun x48 =>
        (Ys a0 x34.2 a10 x48).bind fun r49 =>
        (inR a9 (aa r30.2.1)).bind fun k50 =>
        (r30.2.1[k50]?).bind fun x51 =>
        (sG a1 a2 a3 a4 (cP r30.2.1 k50 (x51.1,r49)) r30.2.2.1 r30.2.2.2 (-1)).bind fun r52 =>
        (jo r39.2.2 r52.2.1 r52.1 r52.2.2).bind fun r53 =>
        (tx a0 r53.1 r53.2.1 r53.2.2).bind fun r54 =>
        cond (r54.2.2.1 != 0)
        (some (([]:jQ),([]:jR),false,1502,([]:jQ)))
        (some (r54.1,r54.2.1,true,0,r54.2.2.2)))))))))
def sy (a0:jS) (a1:jQ) (a2:jR) (a3:jQ) (a4:Int) (a5:Int) (a6:jQ) (a7:jR) (a8:jQ) (a9:Int) (a10:Int):Option (jQ×jR×Bool×Int×jQ) :=
 (wG a0 a1 a2 a3).bind fun r8 =>
 cond (!r8)
 (some (([]:jQ),([]:jR),false,1500,([]:jQ)))
 ((wG a0 a6 a7 a8).bind fun r9 =>
  cond (!r9)
  (some (([]:jQ),([]:jR),false,1500,([]:jQ)))
  ((vP a1 a2 a3 a4 false).bind fun r10 =>
   cond (!r10)
   (some (([]:jQ),([]:jR),false,1500,([]:jQ)))
   (cond (a5 != 0)
    (cond (a5 != 1)
     (some (([]:jQ),([]:jR),false,1500,([]:jQ)))
     (cond (decide (a9<0))
      (some (([]:jQ),([]:jR),false,1500,([]:jQ)))
      (cond (decide (a9≥((aa a6:Nat):Int)))
       (some (([]:jQ),([]:jR),false,1500,([]:jQ)))
       (cond (decide (a10<1))
        (some (([]:jQ),([]:jR),false,1500,([]:jQ)))
        ((gx a6 a9).bind fun e11 =>
         cond (decide (a10≥((aa e11.2:Nat):Int)))
         (some (([]:jQ),([]:jR),false,1500,([]:jQ)))
         ((wu a0 a1 a2 a3 a4 a5 a6 a7 a8 a9 a10).bind fun r12 =>
          some (r12.1,r12.2.1,r12.2.2.1,r12.2.2.2.1,r12.2.2.2.2)))))))
    (cond (decide (a9<0))
     (some (([]:jQ),([]:jR),false,1500,([]:jQ)))
     (cond (decide (a9≥((aa a6:Nat):Int)))
      (some (([]:jQ),([]:jR),false,1500,([]:jQ)))
      (cond (decide (a10<1))
       (some (([]:jQ),([]:jR),false,1500,([]:jQ)))
       ((gx a6 a9).bind fun e13 =>
        cond (decide (a10≥((aa e13.2:Nat):Int)))
        (some (([]:jQ),([]:jR),false,1500,([]:jQ)))
        ((wu a0 a1 a2 a3 a4 a5 a6 a7 a8 a9 a10).bind fun r14 =>
         some (r14.1,r14.2.1,r14.2.2.1,r14.2.2.2.1,r14.2.2.2.2)))))))))
def ve (a0:jQ) (a1:jR) (a2:jQ) (a3:Int):Option Bool :=
 (rP a0 a1 a2 a3).bind fun r5 =>
 cond r5
 ((gx a0 a3).bind fun e6 =>
  cond (!e6.1)
  ((gx a0 a3).bind fun e7 =>
   (gx e7.2 0).bind fun e8 =>
   some (e8==0))
  (some false))
 (some false)
def ru (a0:jI) (a1:Int) (a2:Int) (a3:jI):Option jI :=
 (vU a0 none (some a1)).bind fun y3 =>
 cond (yM (aa ([]:List Int)+aa y3) 8)
 (cond (yM (aa (([]:List Int)++y3)+aa a3) 8)
  ((vU a0 (some a2) none).bind fun y4 =>
   cond (yM (aa ((([]:List Int)++y3)++a3)+aa y4) 8)
   (some (((([]:List Int)++y3)++a3)++y4))
   (none))
  (none))
 (none)
def yz (a0:jS) (a1:jQ) (a2:jR) (a3:jQ) (a4:Int) (a5:Int) (a6:jQ) (a7:jR) (a8:jQ) (a9:Int) (a10:Int):Option (jQ×jR×Bool×Int×jQ) :=
 (kp a0 a1 a2 a3).bind fun r30 =>
 cond (!r30)
 (some (([]:jQ),([]:jR),false,1500,([]:jQ)))
 ((kp a0 a6 a7 a8).bind fun r31 =>
  cond (!r31)
  (some (([]:jQ),([]:jR),false,1500,([]:jQ)))
  ((ve a1 a2 a3 a4).bind fun r32 =>
   cond (!r32)
   (some (([]:jQ),([]:jR),false,1500,([]:jQ)))
   (cond (decide (a5<0))
    (some (([]:jQ),([]:jR),false,1500,([]:jQ)))
    (cond (decide (a5>1))
     (some (([]:jQ),([]:jR),false,1500,([]:jQ)))
     ((rP a6 a7 a8 a9).bind fun r33 =>
      cond (!r33)
      (some (([]:jQ),([]:jR),false,1500,([]:jQ)))
      (cond (decide (a10<1))
       (some (([]:jQ),([]:jR),false,1500,([]:jQ)))
       ((gx a6 a9).bind fun e34 =>
        cond (decide (a10≥((aa e34.2:Nat):Int)))
        (some (([]:jQ),([]:jR),false,1500,([]:jQ)))
        ((gx a6 a9).bind fun e35 =>
         (gx e35.2 a10).bind fun e36 =>
         cond (decide (e36<0))
         (some (([]:jQ),([]:jR),false,0,([]:jQ)))
         ((t5 a1 a2 a3 a6 a7 a8).bind fun r37 =>
          cond (!r37.2.2.1)
          (some (([]:jQ),([]:jR),false,1501,([]:jQ)))
          ((gx a1 a4).bind fun e38 =>
           (vU e38.2 (some 1) none).bind fun y39 =>
           (zK a0 y39).bind fun r40 =>
           (inR a5 (aa r40)).bind fun k41 =>
           (r40[k41]?).bind fun x42 =>
           (inR (ah .i64 (1 - a5)) (aa r40)).bind fun k43 =>
           (r40[k43]?).bind fun x44 =>
           (gx r37.1 a9).bind fun e45 =>
           (jG a0 e45.2 a10).bind fun r46 =>
           (vU e45.2 (some a10) (some r46)).bind fun y47 =>
           (vM a0 x42 y47).bind fun r48 =>
           cond (!r48.2.1)
           (some (([]:jQ),([]:jR),false,1502,([]:jQ)))
           (cond (!r48.1)
            (some (([]:jQ),([]:jR),false,0,([]:jQ)))
            ((vT r48.2.2 x42).bind fun r49 =>
             (vT r48.2.2 x44).bind fun r50 =>
             cond (decide (((aa r49:Nat):Int)>48))
             (some (([]:jQ),([]:jR),false,1502,([]:jQ)))
             (cond (decide (((aa r50:Nat):Int)>48))
              (some (([]:jQ),([]:jR),false,1502,([]:jQ)))
              ((vO a0 r49 r50).bind fun r51 =>
               cond (r51==0)
               (some (([]:jQ),([]:jR),false,0,([]:jQ)))
               (cond (r51==1)
                (some (([]:jQ),([]:jR),false,0,([]:jQ)))
                ((tC a1 a4).bind fun r52 =>
                 cond (yM (aa r52+aa r37.1) 32)
                 ((gx r37.1 a9).bind fun e53 =>
                  (ru e45.2 a10 r46 x44).bind fun r54 =>
                  (inR (ah .i64 ((ah .i64 (((aa a1:Nat):Int) - 1))+a9)) (aa (r52++r37.1))).bind fun k55 =>
                  ((r52++r37.1)[k55]?).bind fun _x56 =>
                  (YG (cP (r52++r37.1) k55 (e53.1,r54)) a1 a2 a3 r37.1 r37.2.1 r37.2.2.2).bind fun r57 =>
                  (kU a0 r48.2.2 r57.1 r57.2.1 r57.2.2).bind fun r58 =>
                  cond (!r58.2.2.1)
                  (some (([]:jQ),([]:jR),false,1502,([]:jQ)))
                  (some (r58.1,r58.2.1,true,0,r58.2.2.2)))
                 (none)))))))))))))))))
def tR:Option jS :=
 some ([(([61]:Str),0,2,1),(([97]:Str),1,0,1),(([98]:Str),1,0,2),(([102]:Str),1,1,1),(([103]:Str),1,2,3),(([112]:Str),0,1,1),(([114]:Str),0,2,2)]:List zj)
def Kv (a0:jS) (a1:jQ) (a2:jR) (a3:jQ) (a4:Int):Option (jQ×jR×Bool×Int×jQ) :=
 (gx a1 a4).bind fun e11 =>
 (uZ a0 e11.2).bind fun r12 =>
 (inR 0 (aa r12)).bind fun k13 =>
 (r12[k13]?).bind fun x14 =>
 (inR 1 (aa r12)).bind fun k15 =>
 (r12[k15]?).bind fun x16 =>
 (tS a0 x14 x16).bind fun r17 =>
 cond (r17.2.1 != 0)
 (some (([]:jQ),([]:jR),false,1502,([]:jQ)))
 (cond (!r17.1)
  (some (([]:jQ),([]:jR),false,0,([]:jQ)))
  ((sG a1 a2 a3 a4 ([]:jQ) ([]:jR) ([]:jQ) (-1)).bind fun r18 =>
   (jo r17.2.2 r18.2.1 r18.1 r18.2.2).bind fun r19 =>
   (tx a0 r19.1 r19.2.1 r19.2.2).bind fun r20 =>
   cond (r20.2.2.1 != 0)
   (some (([]:jQ),([]:jR),false,1502,([]:jQ)))
   (some (r20.1,r20.2.1,true,0,r20.2.2.2))))
def QF (a0:jS) (a1:jQ) (a2:jR) (a3:jQ) (a4:Int):Option (jQ×jR×Bool×Int×jQ) :=
 (wG a0 a1 a2 a3).bind fun r4 =>
 cond (!r4)
 (some (([]:jQ),([]:jR),false,1500,([]:jQ)))
 ((vP a1 a2 a3 a4 true).bind fun r5 =>
  cond (!r5)
  (some (([]:jQ),([]:jR),false,1500,([]:jQ)))
  ((Kv a0 a1 a2 a3 a4).bind fun r6 =>
   some (r6.1,r6.2.1,r6.2.2.1,r6.2.2.2.1,r6.2.2.2.2)))
def rT (a0:Int) (a1:jQ) (a2:jR) (a3:jQ):Option Bool :=
 (vP a1 a2 a3 a0 false).bind fun r2 =>
 some (!r2)
def zV (rec:(jI×Int×Int×jQ×jR×jQ)->Option (Unit⊕Int)) (x:(jI×Int×Int×jQ×jR×jQ)):Option (Unit⊕Int) :=
 cond (decide (x.2.2.1<x.2.1))
 ((gx x.1 x.2.2.1).bind fun e3 =>
  (rT e3 x.2.2.2.1 x.2.2.2.2.1 x.2.2.2.2.2).bind fun r4 =>
  cond r4
  (some (aG x.2.2.1))
  (rec (x.1,x.2.1,(ah .i64 (x.2.2.1+1)),x.2.2.2.1,x.2.2.2.2.1,x.2.2.2.2.2)))
 (some (aU ()))
def te (a0:jI) (a1:jQ) (a2:jR) (a3:jQ):Option Int :=
 ((lp zV ze) (a0,((aa a0:Nat):Int),0,a1,a2,a3)).bind fun r8 =>
 yA r8
 (fun _z9=>some (-1))
 (fun z10=>some z10)
def yc (rec:(Int×Int×jI×jQ×jR×jQ)->Option (Int×jI)) (x:(Int×Int×jI×jQ×jR×jQ)):Option (Int×jI) :=
 cond (decide (x.2.1<((aa x.2.2.1:Nat):Int)))
 ((inR x.2.1 (aa x.2.2.1)).bind fun k12 =>
  (x.2.2.1[k12]?).bind fun x13 =>
  (rT x13 x.2.2.2.1 x.2.2.2.2.1 x.2.2.2.2.2).bind fun r14 =>
  cond (!r14)
  ((inR x.1 (aa x.2.2.1)).bind fun k15 =>
   (x.2.2.1[k15]?).bind fun _x16 =>
   rec ((ah .i64 (x.1+1)),(ah .i64 (x.2.1+1)),(cP x.2.2.1 k15 x13),x.2.2.2.1,x.2.2.2.2.1,x.2.2.2.2.2))
  (rec (x.1,(ah .i64 (x.2.1+1)),x.2.2.1,x.2.2.2.1,x.2.2.2.2.1,x.2.2.2.2.2)))
 (some (x.1,x.2.2.1))
def wU (a0:jI) (a1:jQ) (a2:jR) (a3:jQ):Option jI :=
 (te a0 a1 a2 a3).bind fun r19 =>
 cond (r19==(-1))
 (some a0)
 (((lp yc ze) (r19,(ah .i64 (r19+1)),a0,a1,a2,a3)).bind fun r20 =>
  cond (decide (0<=r20.1))
  (cond (decide (r20.1<=((aa r20.2:Nat):Int)))
   (cond (decide (((aa r20.2:Nat):Int)<=((aa r20.2:Nat):Int)))
    ((vU (clr r20.2 (0+bP r20.1) (bP ((aa r20.2:Nat):Int) - bP r20.1)) none (some r20.1)).bind fun y21 =>
     some y21)
    (none))
   (none))
  (none))
def rL (rec:(jS×Int×Int×jI×Int×Int×Int×Int×jI×Int×Int×Int×jI×Int×Int×jQ×jR×jQ×jQ×jR×jQ×jS×Int×jT)->Option (jS×Int×jT)) (x:(jS×Int×Int×jI×Int×Int×Int×Int×jI×Int×Int×Int×jI×Int×Int×jQ×jR×jQ×jQ×jR×jQ×jS×Int×jT)):Option (jS×Int×jT) :=
 (gx x.2.2.2.2.2.2.2.2.2.2.2.2.2.2.2.2.2.2.1 x.2.2.2.2.2.2.1).bind fun e17 =>
 cond (decide (x.2.2.2.2.2.2.2.1<((aa e17.2:Nat):Int)))
 ((wu x.1 x.2.2.2.2.2.2.2.2.2.2.2.2.2.2.2.1 x.2.2.2.2.2.2.2.2.2.2.2.2.2.2.2.2.1 x.2.2.2.2.2.2.2.2.2.2.2.2.2.2.2.2.2.1 x.2.2.2.2.1 x.2.2.2.2.2.1 x.2.2.2.2.2.2.2.2.2.2.2.2.2.2.2.2.2.2.1 x.2.2.2.2.2.2.2.2.2.2.2.2.2.2.2.2.2.2.2.1 x.2.2.2.2.2.2.2.2.2.2.2.2.2.2.2.2.2.2.2.2.1 x.2.2.2.2.2.2.1 x.2.2.2.2.2.2.2.1).bind fun r18 =>
  (zS 3 x.2.1 x.2.2.2.2.1 x.2.2.2.2.2.1 x.2.2.1 x.2.2.2.2.2.2.1 x.2.2.2.2.2.2.2.1 ([]:jQ) ([]:jR) ([]:jQ) r18.1 r18.2.1 r18.2.2.2.2 r18.2.2.1 r18.2.2.2.1 x.2.2.2.2.2.2.2.2.2.2.2.2.2.2.2.2.2.2.2.2.2.1 x.2.2.2.2.2.2.2.2.2.2.2.2.2.2.2.2.2.2.2.2.2.2.1 x.2.2.2.2.2.2.2.2.2.2.2.2.2.2.2.2.2.2.2.2.2.2.2).bind fun r19 =>
  rec (x.1,x.2.1,x.2.2.1,x.2.2.2.1,x.2.2.2.2.1,x.2.2.2.2.2.1,x.2.2.2.2.2.2.1,(ah .i64 (x.2.2.2.2.2.2.2.1+1)),x.2.2.2.2.2.2.2.2.1,x.2.2.2.2.2.2.2.2.2.1,x.2.2.2.2.2.2.2.2.2.2.1,x.2.2.2.2.2.2.2.2.2.2.2.1,x.2.2.2.2.2.2.2.2.2.2.2.2.1,x.2.2.2.2.2.2.2.2.2.2.2.2.2.1,x.2.2.2.2.2.2.2.2.2.2.2.2.2.2.1,x.2.2.2.2.2.2.2.2.2.2.2.2.2.2.2.1,x.2.2.2.2.2.2.2.2.2.2.2.2.2.2.2.2.1,x.2.2.2.2.2.2.2.2.2.2.2.2.2.2.2.2.2.1,x.2.2.2.2.2.2.2.2.2.2.2.2.2.2.2.2.2.2.1,x.2.2.2.2.2.2.2.2.2.2.2.2.2.2.2.2.2.2.2.1,x.2.2.2.2.2.2.2.2.2.2.2.2.2.2.2.2.2.2.2.2.1,r19.1,r19.2.1,r19.2.2))
 (some (x.2.2.2.2.2.2.2.2.2.2.2.2.2.2.2.2.2.2.2.2.2.1,x.2.2.2.2.2.2.2.2.2.2.2.2.2.2.2.2.2.2.2.2.2.2.1,x.2.2.2.2.2.2.2.2.2.2.2.2.2.2.2.2.2.2.2.2.2.2.2))
def um (rec:(jS×Int×Int×jI×Int×Int×jI×Int×Int×Int×jI×Int×Int×jQ×jR×jQ×jQ×jR×jQ×jS×Int×jT)->Option (jS×Int×jT)) (x:(jS×Int×Int×jI×Int×Int×jI×Int×Int×Int×jI×Int×Int×jQ×jR×jQ×jQ×jR×jQ×jS×Int×jT)):Option (jS×Int×jT) :=
 cond (decide (x.2.2.2.2.2.2.2.2.2.2.2.2.1<x.2.2.2.2.2.2.2.2.2.2.2.1))
 ((gx x.2.2.2.2.2.2.2.2.2.2.1 x.2.2.2.2.2.2.2.2.2.2.2.2.1).bind fun e26 =>
  (gx x.2.2.2.2.2.2.2.2.2.2.2.2.2.2.2.2.1 e26).bind fun e27 =>
  cond (decide (1<((aa e27.2:Nat):Int)))
  ((wu x.1 x.2.2.2.2.2.2.2.2.2.2.2.2.2.1 x.2.2.2.2.2.2.2.2.2.2.2.2.2.2.1 x.2.2.2.2.2.2.2.2.2.2.2.2.2.2.2.1 x.2.2.2.2.1 x.2.2.2.2.2.1 x.2.2.2.2.2.2.2.2.2.2.2.2.2.2.2.2.1 x.2.2.2.2.2.2.2.2.2.2.2.2.2.2.2.2.2.1 x.2.2.2.2.2.2.2.2.2.2.2.2.2.2.2.2.2.2.1 e26 1).bind fun r28 =>
   (zS 3 x.2.1 x.2.2.2.2.1 x.2.2.2.2.2.1 x.2.2.1 e26 1 ([]:jQ) ([]:jR) ([]:jQ) r28.1 r28.2.1 r28.2.2.2.2 r28.2.2.1 r28.2.2.2.1 x.2.2.2.2.2.2.2.2.2.2.2.2.2.2.2.2.2.2.2.1 x.2.2.2.2.2.2.2.2.2.2.2.2.2.2.2.2.2.2.2.2.1 x.2.2.2.2.2.2.2.2.2.2.2.2.2.2.2.2.2.2.2.2.2).bind fun r29 =>
   (((lp rL ze) (x.1,x.2.1,x.2.2.1,x.2.2.2.1,x.2.2.2.2.1,x.2.2.2.2.2.1,e26,2,x.2.2.2.2.2.2.1,x.2.2.2.2.2.2.2.1,x.2.2.2.2.2.2.2.2.1,x.2.2.2.2.2.2.2.2.2.1,x.2.2.2.2.2.2.2.2.2.2.1,x.2.2.2.2.2.2.2.2.2.2.2.1,x.2.2.2.2.2.2.2.2.2.2.2.2.1,x.2.2.2.2.2.2.2.2.2.2.2.2.2.1,x.2.2.2.2.2.2.2.2.2.2.2.2.2.2.1,x.2.2.2.2.2.2.2.2.2.2.2.2.2.2.2.1,x.2.2.2.2.2.2.2.2.2.2.2.2.2.2.2.2.1,x.2.2.2.2.2.2.2.2.2.2.2.2.2.2.2.2.2.1,x.2.2.2.2.2.2.2.2.2.2.2.2.2.2.2.2.2.2.1,r29.1,r29.2.1,r29.2.2))).bind fun r30 =>
   rec (x.1,x.2.1,x.2.2.1,x.2.2.2.1,x.2.2.2.2.1,x.2.2.2.2.2.1,x.2.2.2.2.2.2.1,x.2.2.2.2.2.2.2.1,x.2.2.2.2.2.2.2.2.1,x.2.2.2.2.2.2.2.2.2.1,x.2.2.2.2.2.2.2.2.2.2.1,x.2.2.2.2.2.2.2.2.2.2.2.1,(ah .i64 (x.2.2.2.2.2.2.2.2.2.2.2.2.1+1)),x.2.2.2.2.2.2.2.2.2.2.2.2.2.1,x.2.2.2.2.2.2.2.2.2.2.2.2.2.2.1,x.2.2.2.2.2.2.2.2.2.2.2.2.2.2.2.1,x.2.2.2.2.2.2.2.2.2.2.2.2.2.2.2.2.1,x.2.2.2.2.2.2.2.2.2.2.2.2.2.2.2.2.2.1,x.2.2.2.2.2.2.2.2.2.2.2.2.2.2.2.2.2.2.1,r30.1,r30.2.1,r30.2.2))
  (rec (x.1,x.2.1,x.2.2.1,x.2.2.2.1,x.2.2.2.2.1,x.2.2.2.2.2.1,x.2.2.2.2.2.2.1,x.2.2.2.2.2.2.2.1,x.2.2.2.2.2.2.2.2.1,x.2.2.2.2.2.2.2.2.2.1,x.2.2.2.2.2.2.2.2.2.2.1,x.2.2.2.2.2.2.2.2.2.2.2.1,(ah .i64 (x.2.2.2.2.2.2.2.2.2.2.2.2.1+1)),x.2.2.2.2.2.2.2.2.2.2.2.2.2.1,x.2.2.2.2.2.2.2.2.2.2.2.2.2.2.1,x.2.2.2.2.2.2.2.2.2.2.2.2.2.2.2.1,x.2.2.2.2.2.2.2.2.2.2.2.2.2.2.2.2.1,x.2.2.2.2.2.2.2.2.2.2.2.2.2.2.2.2.2.1,x.2.2.2.2.2.2.2.2.2.2.2.2.2.2.2.2.2.2.1,x.2.2.2.2.2.2.2.2.2.2.2.2.2.2.2.2.2.2.2.1,x.2.2.2.2.2.2.2.2.2.2.2.2.2.2.2.2.2.2.2.2.1,x.2.2.2.2.2.2.2.2.2.2.2.2.2.2.2.2.2.2.2.2.2)))
 (some (x.2.2.2.2.2.2.2.2.2.2.2.2.2.2.2.2.2.2.2.1,x.2.2.2.2.2.2.2.2.2.2.2.2.2.2.2.2.2.2.2.2.1,x.2.2.2.2.2.2.2.2.2.2.2.2.2.2.2.2.2.2.2.2.2))
def rY (rec:(jS×Int×Int×jI×Int×jI×Int×Int×Int×jQ×jR×jQ×jQ×jR×jQ×jS×Int×jT)->Option (jS×Int×jT)) (x:(jS×Int×Int×jI×Int×jI×Int×Int×Int×jQ×jR×jQ×jQ×jR×jQ×jS×Int×jT)):Option (jS×Int×jT) :=
 cond (decide (x.2.2.2.2.2.2.2.2.1<2))
 (((lp um ze) (x.1,x.2.1,x.2.2.1,x.2.2.2.1,x.2.2.2.2.1,x.2.2.2.2.2.2.2.2.1,x.2.2.2.2.2.1,x.2.2.2.2.2.2.1,x.2.2.2.2.2.2.2.1,x.2.2.2.2.2.2.2.2.1,x.2.2.2.1,((aa x.2.2.2.1:Nat):Int),0,x.2.2.2.2.2.2.2.2.2.1,x.2.2.2.2.2.2.2.2.2.2.1,x.2.2.2.2.2.2.2.2.2.2.2.1,x.2.2.2.2.2.2.2.2.2.2.2.2.1,x.2.2.2.2.2.2.2.2.2.2.2.2.2.1,x.2.2.2.2.2.2.2.2.2.2.2.2.2.2.1,x.2.2.2.2.2.2.2.2.2.2.2.2.2.2.2.1,x.2.2.2.2.2.2.2.2.2.2.2.2.2.2.2.2.1,x.2.2.2.2.2.2.2.2.2.2.2.2.2.2.2.2.2)).bind fun r33 =>
  rec (x.1,x.2.1,x.2.2.1,x.2.2.2.1,x.2.2.2.2.1,x.2.2.2.2.2.1,x.2.2.2.2.2.2.1,x.2.2.2.2.2.2.2.1,(ah .i64 (x.2.2.2.2.2.2.2.2.1+1)),x.2.2.2.2.2.2.2.2.2.1,x.2.2.2.2.2.2.2.2.2.2.1,x.2.2.2.2.2.2.2.2.2.2.2.1,x.2.2.2.2.2.2.2.2.2.2.2.2.1,x.2.2.2.2.2.2.2.2.2.2.2.2.2.1,x.2.2.2.2.2.2.2.2.2.2.2.2.2.2.1,r33.1,r33.2.1,r33.2.2))
 (some (x.2.2.2.2.2.2.2.2.2.2.2.2.2.2.2.1,x.2.2.2.2.2.2.2.2.2.2.2.2.2.2.2.2.1,x.2.2.2.2.2.2.2.2.2.2.2.2.2.2.2.2.2))
def ug (rec:(jS×Int×Int×jI×jI×Int×Int×jQ×jR×jQ×jQ×jR×jQ×jS×Int×jT)->Option (jS×Int×jT)) (x:(jS×Int×Int×jI×jI×Int×Int×jQ×jR×jQ×jQ×jR×jQ×jS×Int×jT)):Option (jS×Int×jT) :=
 cond (decide (x.2.2.2.2.2.2.1<x.2.2.2.2.2.1))
 ((gx x.2.2.2.2.1 x.2.2.2.2.2.2.1).bind fun e37 =>
  ((lp rY ze) (x.1,x.2.1,x.2.2.1,x.2.2.2.1,e37,x.2.2.2.2.1,x.2.2.2.2.2.1,x.2.2.2.2.2.2.1,0,x.2.2.2.2.2.2.2.1,x.2.2.2.2.2.2.2.2.1,x.2.2.2.2.2.2.2.2.2.1,x.2.2.2.2.2.2.2.2.2.2.1,x.2.2.2.2.2.2.2.2.2.2.2.1,x.2.2.2.2.2.2.2.2.2.2.2.2.1,x.2.2.2.2.2.2.2.2.2.2.2.2.2.1,x.2.2.2.2.2.2.2.2.2.2.2.2.2.2.1,x.2.2.2.2.2.2.2.2.2.2.2.2.2.2.2)).bind fun r38 =>
  rec (x.1,x.2.1,x.2.2.1,x.2.2.2.1,x.2.2.2.2.1,x.2.2.2.2.2.1,(ah .i64 (x.2.2.2.2.2.2.1+1)),x.2.2.2.2.2.2.2.1,x.2.2.2.2.2.2.2.2.1,x.2.2.2.2.2.2.2.2.2.1,x.2.2.2.2.2.2.2.2.2.2.1,x.2.2.2.2.2.2.2.2.2.2.2.1,x.2.2.2.2.2.2.2.2.2.2.2.2.1,r38.1,r38.2.1,r38.2.2))
 (some (x.2.2.2.2.2.2.2.2.2.2.2.2.2.1,x.2.2.2.2.2.2.2.2.2.2.2.2.2.2.1,x.2.2.2.2.2.2.2.2.2.2.2.2.2.2.2))
def uc (a0:jS) (a1:jQ) (a2:jR) (a3:jQ) (a4:Int) (a5:jQ) (a6:jR) (a7:jQ) (a8:Int):Option (Int×Int×jT) :=
 (wG a0 a1 a2 a3).bind fun r40 =>
 cond (!r40)
 (some (0,1500,([]:jT)))
 ((wG a0 a5 a6 a7).bind fun r41 =>
  cond (!r41)
  (some (0,1500,([]:jT)))
  ((Xb a0 a1).bind fun r42 =>
   (Xb a0 a5).bind fun r43 =>
   (wU r42.2 a1 a2 a3).bind fun r44 =>
   ((lp ug ze) (a0,a4,a8,r43.2,r44,((aa r44:Nat):Int),0,a1,a2,a3,a5,a6,a7,a0,0,([]:jT))).bind fun r45 =>
   some (r45.2.1,0,r45.2.2)))
def Qg:Option Bool :=
 (tR).bind fun r19 =>
 (sy r19 ([(false,([0,3,(-1),1]:List Int))]:List zd) ([]:jR) ([]:jQ) 0 0 ([(false,([5,3,2]:List Int))]:List zd) ([([(-1)]:List Int)]:List jI) ([]:jQ) 0 1).bind fun r20 =>
 (tR).bind fun r21 =>
 (sy r21 ([(false,([0,3,(-1),1]:List Int))]:List zd) ([]:jR) ([]:jQ) 0 1 ([(false,([5,3,2]:List Int))]:List zd) ([([(-1)]:List Int)]:List jI) ([]:jQ) 0 2).bind fun r22 =>
 (tR).bind fun r23 =>
 (QF r23 ([(true,([0,(-1),2]:List Int))]:List zd) ([([(-1)]:List Int)]:List jI) ([]:jQ) 0).bind fun r24 =>
 (tR).bind fun r25 =>
 (uc r25 ([(false,([0,3,(-1),1]:List Int))]:List zd) ([]:jR) ([]:jQ) 1 ([(false,([5,3,2]:List Int))]:List zd) ([([(-1)]:List Int)]:List jI) ([]:jQ) 2).bind fun r26 =>
 (tR).bind fun r27 =>
 (QF r27 ([(false,([0,3,(-1),1]:List Int))]:List zd) ([]:jR) ([]:jQ) 0).bind fun r28 =>
 cond r20.2.2.1
 ((ku r20.2.2.2.1).bind fun r29 =>
  cond (r29==0)
  ((yJ r20.1 r20.2.1 r20.2.2.2.2 ([(false,([5,1]:List Int))]:List zd) ([([(-1)]:List Int)]:List jI) ([]:jQ)).bind fun r30 =>
   cond r30
   (cond (!r22.2.2.1)
    ((ku r22.2.2.2.1).bind fun r31 =>
     cond (r31==0)
     (cond r24.2.2.1
      ((ku r24.2.2.2.1).bind fun r32 =>
       cond (r32==0)
       ((yJ r24.1 r24.2.1 r24.2.2.2.2 ([]:jQ) ([([2]:List Int)]:List jI) ([]:jQ)).bind fun r33 =>
        cond r33
        ((ku r26.2.1).bind fun r34 =>
         cond (r34==0)
         (cond (r26.1==0)
          ((vi r26.2.2 ([(3,1,0,0,2,0,1,([(false,([5,1]:List Int))]:List zd),([([(-1)]:List Int)]:List jI),([]:jQ))]:List jU)).bind fun r35 =>
           cond r35
           ((ku r28.2.2.2.1).bind fun r36 =>
            some (r36==1500))
           (some false))
          (some false))
         (some false))
        (some false))
       (some false))
      (some false))
     (some false))
    (some false))
   (some false))
  (some false))
 (some false)
def xf (rec:(jS×Int×Int×Int×Int×Int×Int×Int×jQ×jR×jQ×jQ×jR×jQ×jT)->Option (Int×jT)) (x:(jS×Int×Int×Int×Int×Int×Int×Int×jQ×jR×jQ×jQ×jR×jQ×jT)):Option (Int×jT) :=
 (gx x.2.2.2.2.2.2.2.2.2.2.2.1 x.2.2.2.2.2.2.1).bind fun e13 =>
 cond (decide (x.2.2.2.2.2.2.2.1<((aa e13.2:Nat):Int)))
 ((jB x.1 x.2.2.2.2.2.2.2.2.2.2.2.1 x.2.2.2.2.2.2.1).bind fun r14 =>
  cond r14
  ((yz x.1 x.2.2.2.2.2.2.2.2.1 x.2.2.2.2.2.2.2.2.2.1 x.2.2.2.2.2.2.2.2.2.2.1 x.2.2.2.2.1 x.2.2.2.2.2.1 x.2.2.2.2.2.2.2.2.2.2.2.1 x.2.2.2.2.2.2.2.2.2.2.2.2.1 x.2.2.2.2.2.2.2.2.2.2.2.2.2.1 x.2.2.2.2.2.2.1 x.2.2.2.2.2.2.2.1).bind fun r15 =>
   (vA x.1 x.2.2.2.1 3 x.2.1 x.2.2.2.2.1 x.2.2.2.2.2.1 x.2.2.1 x.2.2.2.2.2.2.1 x.2.2.2.2.2.2.2.1 r15.1 r15.2.1 r15.2.2.2.2 r15.2.2.1 r15.2.2.2.1 x.2.2.2.2.2.2.2.2.2.2.2.2.2.2).bind fun r16 =>
   rec (x.1,x.2.1,x.2.2.1,r16.1,x.2.2.2.2.1,x.2.2.2.2.2.1,x.2.2.2.2.2.2.1,(ah .i64 (x.2.2.2.2.2.2.2.1+1)),x.2.2.2.2.2.2.2.2.1,x.2.2.2.2.2.2.2.2.2.1,x.2.2.2.2.2.2.2.2.2.2.1,x.2.2.2.2.2.2.2.2.2.2.2.1,x.2.2.2.2.2.2.2.2.2.2.2.2.1,x.2.2.2.2.2.2.2.2.2.2.2.2.2.1,r16.2))
  (some (x.2.2.2.1,x.2.2.2.2.2.2.2.2.2.2.2.2.2.2)))
 (some (x.2.2.2.1,x.2.2.2.2.2.2.2.2.2.2.2.2.2.2))
def wn (rec:(jS×Int×Int×Int×Int×Int×Int×jQ×jR×jQ×jQ×jR×jQ×jT)->Option (Int×jT)) (x:(jS×Int×Int×Int×Int×Int×Int×jQ×jR×jQ×jQ×jR×jQ×jT)):Option (Int×jT) :=
 cond (decide (x.2.2.2.2.2.2.1<((aa x.2.2.2.2.2.2.2.2.2.2.1:Nat):Int)))
 (((lp xf ze) (x.1,x.2.1,x.2.2.1,x.2.2.2.1,x.2.2.2.2.1,x.2.2.2.2.2.1,x.2.2.2.2.2.2.1,1,x.2.2.2.2.2.2.2.1,x.2.2.2.2.2.2.2.2.1,x.2.2.2.2.2.2.2.2.2.1,x.2.2.2.2.2.2.2.2.2.2.1,x.2.2.2.2.2.2.2.2.2.2.2.1,x.2.2.2.2.2.2.2.2.2.2.2.2.1,x.2.2.2.2.2.2.2.2.2.2.2.2.2)).bind fun r19 =>
  rec (x.1,x.2.1,x.2.2.1,r19.1,x.2.2.2.2.1,x.2.2.2.2.2.1,(ah .i64 (x.2.2.2.2.2.2.1+1)),x.2.2.2.2.2.2.2.1,x.2.2.2.2.2.2.2.2.1,x.2.2.2.2.2.2.2.2.2.1,x.2.2.2.2.2.2.2.2.2.2.1,x.2.2.2.2.2.2.2.2.2.2.2.1,x.2.2.2.2.2.2.2.2.2.2.2.2.1,r19.2))
 (some (x.2.2.2.1,x.2.2.2.2.2.2.2.2.2.2.2.2.2))
def v8 (rec:(jS×Int×Int×Int×Int×Int×jQ×jR×jQ×jQ×jR×jQ×jT)->Option (Int×jT)) (x:(jS×Int×Int×Int×Int×Int×jQ×jR×jQ×jQ×jR×jQ×jT)):Option (Int×jT) :=
 cond (decide (x.2.2.2.2.2.1<2))
 (((lp wn ze) (x.1,x.2.1,x.2.2.1,x.2.2.2.1,x.2.2.2.2.1,x.2.2.2.2.2.1,0,x.2.2.2.2.2.2.1,x.2.2.2.2.2.2.2.1,x.2.2.2.2.2.2.2.2.1,x.2.2.2.2.2.2.2.2.2.1,x.2.2.2.2.2.2.2.2.2.2.1,x.2.2.2.2.2.2.2.2.2.2.2.1,x.2.2.2.2.2.2.2.2.2.2.2.2)).bind fun r22 =>
  rec (x.1,x.2.1,x.2.2.1,r22.1,x.2.2.2.2.1,(ah .i64 (x.2.2.2.2.2.1+1)),x.2.2.2.2.2.2.1,x.2.2.2.2.2.2.2.1,x.2.2.2.2.2.2.2.2.1,x.2.2.2.2.2.2.2.2.2.1,x.2.2.2.2.2.2.2.2.2.2.1,x.2.2.2.2.2.2.2.2.2.2.2.1,r22.2))
 (some (x.2.2.2.1,x.2.2.2.2.2.2.2.2.2.2.2.2))
def wg (rec:(jS×Int×Int×Int×Int×jQ×jR×jQ×jQ×jR×jQ×jT)->Option (Int×jT)) (x:(jS×Int×Int×Int×Int×jQ×jR×jQ×jQ×jR×jQ×jT)):Option (Int×jT) :=
 cond (decide (x.2.2.2.2.1<((aa x.2.2.2.2.2.1:Nat):Int)))
 ((ve x.2.2.2.2.2.1 x.2.2.2.2.2.2.1 x.2.2.2.2.2.2.2.1 x.2.2.2.2.1).bind fun r27 =>
  cond (!r27)
  (rec (x.1,x.2.1,x.2.2.1,x.2.2.2.1,(ah .i64 (x.2.2.2.2.1+1)),x.2.2.2.2.2.1,x.2.2.2.2.2.2.1,x.2.2.2.2.2.2.2.1,x.2.2.2.2.2.2.2.2.1,x.2.2.2.2.2.2.2.2.2.1,x.2.2.2.2.2.2.2.2.2.2.1,x.2.2.2.2.2.2.2.2.2.2.2))
  ((jB x.1 x.2.2.2.2.2.1 x.2.2.2.2.1).bind fun r28 =>
   cond (!r28)
   (rec (x.1,x.2.1,x.2.2.1,x.2.2.2.1,(ah .i64 (x.2.2.2.2.1+1)),x.2.2.2.2.2.1,x.2.2.2.2.2.2.1,x.2.2.2.2.2.2.2.1,x.2.2.2.2.2.2.2.2.1,x.2.2.2.2.2.2.2.2.2.1,x.2.2.2.2.2.2.2.2.2.2.1,x.2.2.2.2.2.2.2.2.2.2.2))
   (((lp v8 ze) (x.1,x.2.1,x.2.2.1,x.2.2.2.1,x.2.2.2.2.1,0,x.2.2.2.2.2.1,x.2.2.2.2.2.2.1,x.2.2.2.2.2.2.2.1,x.2.2.2.2.2.2.2.2.1,x.2.2.2.2.2.2.2.2.2.1,x.2.2.2.2.2.2.2.2.2.2.1,x.2.2.2.2.2.2.2.2.2.2.2)).bind fun r29 =>
    rec (x.1,x.2.1,x.2.2.1,r29.1,(ah .i64 (x.2.2.2.2.1+1)),x.2.2.2.2.2.1,x.2.2.2.2.2.2.1,x.2.2.2.2.2.2.2.1,x.2.2.2.2.2.2.2.2.1,x.2.2.2.2.2.2.2.2.2.1,x.2.2.2.2.2.2.2.2.2.2.1,r29.2))))
 (some (x.2.2.2.1,x.2.2.2.2.2.2.2.2.2.2.2))
def ul (a0:jS) (a1:jQ) (a2:jR) (a3:jQ) (a4:Int) (a5:jQ) (a6:jR) (a7:jQ) (a8:Int):Option (Int×Int×jT) :=
 (kp a0 a1 a2 a3).bind fun r31 =>
 cond (!r31)
 (some (0,1500,([]:jT)))
 ((kp a0 a5 a6 a7).bind fun r32 =>
  cond (!r32)
  (some (0,1500,([]:jT)))
  (((lp wg ze) (a0,a4,a8,0,0,a1,a2,a3,a5,a6,a7,([]:jT))).bind fun r33 =>
   some (r33.1,0,r33.2)))
def xd (a0:jS) (a1:jQ) (a2:jR) (a3:jQ) (a4:Int) (a5:jQ) (a6:jR) (a7:jQ) (a8:Int):Option Bool :=
 (qZ a1 a2 a3).bind fun r10 =>
 (qZ a5 a6 a7).bind fun r11 =>
 (uc a0 a1 a2 a3 a4 a5 a6 a7 a8).bind fun r12 =>
 (ul a0 a1 a2 a3 a4 a5 a6 a7 a8).bind fun r13 =>
 (vi r12.2.2 r13.2.2).bind fun r14 =>
 cond (!r14)
 (some false)
 (cond (r12.1 != r13.1)
  (some false)
  ((ku r12.2.1).bind fun r15 =>
   cond (r15 != r13.2.1)
   (some false)
   ((yJ a1 a2 a3 r10.1 r10.2.1 r10.2.2).bind fun r16 =>
    cond r16
    ((yJ a5 a6 a7 r11.1 r11.2.1 r11.2.2).bind fun r17 =>
     cond r17
     ((Qg).bind fun r18 =>
      some r18)
     (some false))
    (some false))))
inductive RT (t u:Tm):Tm->Tm->Prop
 | here:RT t u t u
 | arg (c:Nat) (l r:List Tm) {a b:Tm}:RT t u a b->RT t u (.f c (l++a::r)) (.f c (l++b::r))
theorem Kw:(ts:List Tm)->(p:Nat)->p<(zb ts).length->∃ l a r,ts=l++a::r∧(zb l).length<=p∧p<(zb l).length+a.codes.length
 | [],p,h=>by simp [zb] at h
 | t::ts,p,h=>by
  simp only[zb,ax] at h;by_cases hp:p<t.codes.length
  ·exact ⟨[],t,ts,rfl,Nat.zero_le _,by simpa[zb] using hp⟩
  ·obtain⟨l,a,r,rfl,h1,h2⟩:=Kw ts (p - t.codes.length) (by omega)
   exact ⟨t::l,a,r,rfl,by simp only[zb,ax]; omega,by simp only[zb,ax]; omega⟩
theorem O5 {a0:List zj} {N:Nat} {l r:List Tm} {a:Tm} (h:okR a0 N (l++a::r)):a.ok a0 N:=vH.1 h a (by simp)
theorem NU {a0:List zj}:∀(n:Nat) (a:Tm) (p:Nat),a.size<=n->a.ok a0 24->p<a.codes.length->∃ t:Tm,t.ok a0 24∧(∃ x y,a.codes=x++t.codes++y∧x.length=p∧∀ u:Tm,∃ b,RT t u a b∧b.codes=x++u.codes++y)
 | 0,a,p,h,_,_=>by have:=a.size_pos; omega
 | n+1,a,0,_,ho,_=>⟨a,ho,[],[],by simp,rfl,fun u=>⟨u,.here,by simp⟩⟩
 | n+1,.v m,p+1,_,_,h=>by simp [Tm.codes] at h
 | n+1,.f c as,p+1,hn,ho,h=>by
  simp only[Tm.codes,aj] at h;obtain⟨l,a,r,rfl,h1,h2⟩:=Kw as p (by omega)
  simp only[Tm.size,IW,wH] at hn;obtain⟨t,h3,x,y,h4,h5,h6⟩:=NU n a (p - (zb l).length) (by omega) (O5 ho.2) (by omega)
  refine ⟨t,h3,(c:Int)::zb l++x,y++zb r,?_,?_,fun u => ?_⟩
  ·simp only[Tm.codes,tT,zb,h4]; simp
  ·simp only[List.cons_append,aj,ax]; omega
  ·obtain⟨b,g1,g2⟩:=h6 u;refine ⟨.f c (l++b::r),.arg c l r g1,?_⟩;simp only[Tm.codes,tT,zb,g2]; simp
def RR (t u:Tm) (ts us:List Tm):Prop:=∃ l a b r,ts=l++a::r∧us=l++b::r∧RT t u a b
theorem zeS {a0:List zj} {ts:List Tm} {p:Nat} (ho:okR a0 24 ts) (h:p<(zb ts).length):∃ t:Tm,t.ok a0 24∧∃ x y,zb ts=x++t.codes++y∧x.length=p∧∀ u:Tm,∃ us,RR t u ts us∧zb us=x++u.codes++y:=by
 obtain⟨l,a,r,rfl,h1,h2⟩:=Kw ts p h;obtain⟨t,h3,x,y,h4,h5,h6⟩:=NU a.size a (p - (zb l).length) (aE _) (O5 ho) (by omega)
 refine ⟨t,h3,zb l++x,y++zb r,by simp only[tT,zb,h4]; simp,by simp only[ax]; omega,fun u => ?_⟩
 obtain⟨b,g1,g2⟩:=h6 u;exact ⟨l++b::r,⟨l,a,b,r,rfl,rfl,g1⟩,by simp only[tT,zb,g2]; simp⟩
theorem RT.ok {a0:List zj} {N:Nat} {t u a b:Tm} (h:RT t u a b) (hu:u.ok a0 N) (ha:a.ok a0 N):b.ok a0 N:=by
 induction h with
 | here=>exact hu
 | arg c l r h ih =>
  refine ⟨by have:=ha.1; simpa using this,vH.2 fun w hw => ?_⟩
  have h2:=vH.1 ha.2;rcases aQ.1 hw with hw | hw
  ·exact h2 w (bl _ hw)
  ·rcases aB.1 hw with rfl | hw
   ·exact ih (h2 _ (by simp))
   ·exact h2 w (by simp [hw])
theorem RR.ok {a0:List zj} {N:Nat} {t u:Tm} {ts us:List Tm} (h:RR t u ts us) (hu:u.ok a0 N) (ha:okR a0 N ts):okR a0 N us:=by
 obtain⟨l,a,b,r,rfl,rfl,h⟩:=h;refine vH.2 fun w hw => ?_;have h2:=vH.1 ha;rcases aQ.1 hw with hw | hw
 ·exact h2 w (bl _ hw)
 ·rcases aB.1 hw with rfl | hw
  ·exact h.ok hu (h2 _ (by simp))
  ·exact h2 w (by simp [hw])
theorem RR.len {t u:Tm} {ts us:List Tm} (h:RR t u ts us):us.length=ts.length:=by
 obtain⟨l,a,b,r,rfl,rfl,h⟩:=h;simp
theorem Sp {a0:List zj} {t:Tm} (ht:t.ok a0 24) (x y:List Int):sk a0 1 ((x++t.codes++y).drop x.length)=some t.codes.length:=by
 rw[bc,eg];exact BF y (t.sk_codes ht)
theorem Cp {a0:List zj} (hs:SignOk a0) {t:Tm} (ht:t.ok a0 24) (x y:List Int) (hl:(x++t.codes++y).length<=1000):tv a0 (x++t.codes++y) (x.length:Int)=some (((x.length+t.codes.length:Nat):Int),true):=by
 rw[kn hs _ (by omega),Sp ht]
theorem zbo {a0:List zj} (hs:SignOk a0) {t:Tm} (ht:t.ok a0 24) (x y:List Int) (hl:(x++t.codes++y).length<=1000):jG a0 (x++t.codes++y) (x.length:Int)=some ((x.length+t.codes.length:Nat):Int):=by
 rw[VV hs _ (by omega) _ (by simp only[ax]; omega),Sp ht]
 rfl
theorem zbE (x z y:List Int):vU (x++z++y) (some (x.length:Int)) (some ((x.length+z.length:Nat):Int))=some z:=by
 show slc (x++z++y) (x.length:Int) ((x.length+z.length:Nat):Int)=_;unfold slc;rw[decide_eq_true (show (0:Int)<=(x.length:Int) by omega),decide_eq_true (show (x.length:Int)<=((x.length+z.length:Nat):Int) by omega),decide_eq_true (show ((x.length+z.length:Nat):Int)<=(((x++z++y).length:Nat):Int) by simp only[ax]; omega)]
 simp only[cond_true,bq];have e:(x++z++y).take (x.length+z.length)=x++z:=by rw[show x.length+z.length=(x++z).length by simp,List.take_left]
 rw[e,eg]
theorem Oo (x z y:List Int):vU (x++z++y) none (some (x.length:Int))=some x:=by
 rw[Gb _ (by simp only[ax]; omega)]
 simp
theorem Sc (x z y:List Int):vU (x++z++y) (some ((x.length+z.length:Nat):Int)) none=some y:=by
 rw[Aj _ (by simp only[ax]; omega)]
 rw[show x.length+z.length=(x++z).length by simp,eg]
theorem Wh {a0:List zj} (hb:uT a0=true) {t:Tm} (ht:t.ok a0 24) (hl:t.codes.length<=48):ur a0 t.codes=some true:=by
 have h:=yv (a0:=a0) [t] ⟨ht,trivial⟩;have e:zb [t]=t.codes:=by simp [zb]
 rw[e] at h;unfold ur;rw[sn,af];unfold wX;rw[hb,decide_eq_true hl];simp only[Bool.and_self,cond_true,h];rfl
theorem Vj (a0:List zj) (xs:List Int):∃ b,wV a0 xs=some b:=⟨_,ua a0 xs⟩
theorem Rk {a0:List zj} {a b:List Int} {k:Int} (h:XH a0 a b=some (k,0)):k=0∨k=1∨k=2∨k=3:=by
 unfold XH at h;simp only[ag] at h;obtain⟨r,-,h⟩:=h;cases r with
 | true=>injection h with h; injection h with h; exact .inr (.inl h.symm)
 | false =>
  simp only[cond_false,ag] at h;obtain⟨r,-,h⟩:=h;cases r with
  | true=>injection h with h; injection h with h; exact .inr (.inr (.inl h.symm))
  | false =>
   simp only[cond_false,ag] at h;obtain⟨r,-,h⟩:=h;cases r with
   | true=>injection h with h; injection h with h; exact .inl h.symm
   | false=>injection h with h; injection h with h; exact .inr (.inr (.inr h.symm))
theorem JY {a0:List zj} (hb:uT a0=true) {t u:Tm} (ht:t.ok a0 24) (hu:u.ok a0 24) (hlt:t.codes.length<=48) (hlu:u.codes.length<=48):∃ k,vO a0 t.codes u.codes=some k∧wc a0 t.codes u.codes=some (k,0)∧XH a0 t.codes u.codes=some (k,0)∧(k=0∨k=1∨k=2∨k=3):=by
 obtain⟨k,h1,h2⟩:=Gg (tz hb) ht hu (by omega) (by omega)
 refine ⟨k,h1,?_,h2,Rk h2⟩;rw[← h2];obtain⟨b1,e1⟩:=Vj a0 t.codes;obtain⟨b2,e2⟩:=Vj a0 u.codes;unfold wc;rw[Wh hb ht hlt,Wh hb hu hlu,e1,e2];cases b1<;>cases b2<;>rfl
theorem JM (a0:List zj) (L:List zd) (T:List jI) (C:List zd) (L':List zd) (T':List jI) (C':List zd) :
  th a0 L T C L' T' C'=(tj a0 L T C L' T' C').bind fun r=>some (r.2.2.1,r.1,r.2.1,r.2.2.2):=by
 have half:∀(n:Int),((qn a0 L' T' C').bind fun r17 =>
   cond (decide (((aa r17.2:Nat):Int)>0))
   ((inR (ah .i64 (((aa r17.2:Nat):Int) - 1)) (aa r17.2)).bind fun k18 =>
    (r17.2[k18]?).bind fun x19 =>
    cond (decide ((ah .i64 (x19+n))>23))
    (some (false,([]:jQ),([]:jR),([]:jQ)))
    ((zC L' T' C' n).bind fun r20=>some (true,r20.1,r20.2.1,r20.2.2)))
   ((zC L' T' C' n).bind fun r21=>some (true,r21.1,r21.2.1,r21.2.2))) =
  ((qn a0 L' T' C').bind fun r17 =>
   cond (decide (((aa r17.2:Nat):Int)>0))
   ((inR (ah .i64 (((aa r17.2:Nat):Int) - 1)) (aa r17.2)).bind fun k18 =>
    (r17.2[k18]?).bind fun x19 =>
    cond (decide ((ah .i64 (x19+n))>23))
    (some (([]:jQ),([]:jR),false,([]:jQ)))
    ((zC L' T' C' n).bind fun r20=>some (r20.1,r20.2.1,true,r20.2.2)))
   ((zC L' T' C' n).bind fun r21=>some (r21.1,r21.2.1,true,r21.2.2))).bind fun r=>some (r.2.2.1,r.1,r.2.1,r.2.2.2):=by
  intro n;cases qn a0 L' T' C' with
  | none=>rfl
  | some r17 =>
   simp only[af];have fin:((zC L' T' C' n).bind fun r20=>some (true,r20.1,r20.2.1,r20.2.2))=((zC L' T' C' n).bind fun r20=>some (r20.1,r20.2.1,true,r20.2.2)).bind fun r=>some (r.2.2.1,r.1,r.2.1,r.2.2.2):=by
    cases zC L' T' C' n<;>rfl
   cases decide (((aa r17.2:Nat):Int)>0) with
   | false=>exact fin
   | true =>
    simp only[cond_true];cases inR (ah .i64 (((aa r17.2:Nat):Int) - 1)) (aa r17.2) with
    | none=>rfl
    | some k18 =>
     simp only[af];cases r17.2[k18]? with
     | none=>rfl
     | some x19 =>
      simp only[af];cases decide (ah .i64 (x19+n)>23) with
      | true=>rfl
      | false=>exact fin
 unfold th tj;cases qn a0 L T C with
 | none=>rfl
 | some r14 =>
  simp only[af];cases decide (((aa r14.2:Nat):Int)>0) with
  | false=>exact half 0
  | true =>
   simp only[cond_true];cases inR (ah .i64 (((aa r14.2:Nat):Int) - 1)) (aa r14.2) with
   | none=>rfl
   | some k15 =>
    simp only[af];cases r14.2[k15]? with
    | none=>rfl
    | some x16=>exact half _
theorem VQ:(es:List zd)->(i:Nat)->zY (-1) es i=es
 | [],_=>rfl
 | e::es,i=>by
  unfold zY;rw[show ((i:Int) != -1)=true from by simp,cond_true,VQ es (i+1)]
theorem Dc {L:List zd} {i:Int} (h:xI L i=true):(zY i L 0).length+1=L.length:=by
 unfold xI at h;simp only[aw,decide_eq_true_eq] at h;obtain⟨k,rfl⟩:∃ k:Nat,i=(k:Int):=⟨i.toNat,by omega⟩
 rw[jL k L 0 (by omega) (by omega)]
 simp; omega
theorem PH {side:Int} (hside:side=0∨side=1) (s0 s1:Tm):∃(ks kt:Nat) (fr to:Tm),inR side 2=some ks∧inR (ah .i64 (1 - side)) 2=some kt∧([s0.codes,s1.codes])[ks]? = some fr.codes∧([s0.codes,s1.codes])[kt]? = some to.codes ∧
  ((side=0∧fr=s0∧to=s1)∨(side=1∧fr=s1∧to=s0))∧decide (side<0)=false∧decide (side>1)=false:=by
 rcases hside with rfl | rfl
 ·exact ⟨0,1,s0,s1,rfl,rfl,rfl,rfl,.inl ⟨rfl,rfl,rfl⟩,rfl,rfl⟩
 ·exact ⟨1,0,s1,s0,rfl,rfl,rfl,rfl,.inr ⟨rfl,rfl,rfl⟩,rfl,rfl⟩
def PSpec (a0:List zj) (L:List zd) (T:List jI) (C:List zd) (i:Int) (fr to:Tm) (L':List zd) (T':List jI) (C':List zd) (j:Int) (n':Bool) (A':List Int) (at':Nat) (o:Option DA):Prop :=
 (∃ v,A'[at']? = some v∧v<0∧o=tl 0) ∨
 ∃(v:Int) (b c:Nat) (us:List Tm),A'[at']? = some v∧0<=v∧b<=24∧TopV (yB L T C) (b:Int)∧A'=(c:Int)::zb us∧okR a0 24 us ∧
  ((o=tl 1501∧∃ x,Zu (yB L' T' C') x∧23<x+(b:Int)) ∨
   ((∀ x,Zu (yB L' T' C') x->x+(b:Int)<=23)∧∃(t:Tm) (x y:List Int),t.ok a0 24∧zb (us.map (Tm.up b))=x++t.codes++y∧at'=x.length+1∧okR a0 24 (us.map (Tm.up b))∧(∀ u:Tm,∃ ws,RR t u (us.map (Tm.up b)) ws∧zb ws=x++u.codes++y) ∧
    ((o=tl 0∧∀ θ,¬ Sol θ ([fr].zip [t])) ∨
    ∃ σ,Mgu σ ([fr].zip [t])∧(∀ x,x<24->(σ x).ok a0 24) ∧
     ((o=tl 1502∧(xJ σ (aR 24)=false∨48<(fr.sub σ).codes.length∨48<(to.sub σ).codes.length)) ∨
      (xJ σ (aR 24)=true∧(fr.sub σ).codes.length<=48∧(to.sub σ).codes.length<=48∧∃ k,wc a0 (fr.sub σ).codes (to.sub σ).codes=some (k,0) ∧
       ((o=tl 0∧(k=0∨k=1)) ∨
       (o=Jb a0 σ (zY i L 0++(ZI (b:Int) L').set j.toNat (n',(c:Int)::(x++to.codes++y))) (Bl b T T') (Bz b C C') 1502∧(k=2∨k=3))))))))
theorem v5 (t:Tm):t.codes=zb [t]:=by simp [zb]
theorem FN {α:Type} {x y:α}:{xs:List α}->{i:Nat}->y∈xs.set i x->y∈xs∨y=x
 | [],i,h=>by simp at h
 | z::zs,0,h=>by
  rcases aB.1 h with h | h
  ·exact .inr h
  ·exact .inl (ai _ h)
 | z::zs,i+1,h=>by
  rcases aB.1 h with h | h
  ·exact .inl (h▸ak ..)
  ·rcases FN h with h | h
   ·exact .inl (ai _ h)
   ·exact .inr h
theorem R0 {a0:List zj} {A:List Int} (h:qL a0 A=true) (h0:gx A 0=some 0):∃ s0 s1:Tm,A=0::zb [s0,s1]∧s0.ok a0 24∧s1.ok a0 24∧(zb [s0,s1]).length<=48:=by
 obtain⟨c,ts,e,rfl,ho,he,-,hlen,hl48,hb⟩:=rZ h;rw[qm,aC] at h0;injection h0 with h0;obtain rfl:c=0:=by omega
 rw[(tz hb).eq] at he;injection he with he;subst he
 match ts,hlen,ho,hl48 with
 | [],hlen,_,_=>exact absurd hlen (by decide)
 | [_],hlen,_,_=>exact absurd hlen (by show ¬(((1:Nat):Int)=(2:Int)); decide)
 | _::_::_::_,hlen,_,_=>simp only[aj] at hlen; exact absurd hlen (by show ¬(_=(2:Int)); omega)
 | [s0,s1],_,ho,hl48=>exact ⟨s0,s1,rfl,ho.1,ho.2.1,hl48⟩
theorem RZ {a0:List zj} (hs:SignOk a0) {s0 s1:Tm} (h0:s0.ok a0 24) (h1:s1.ok a0 24) (hl:(zb [s0,s1]).length<=48):uZ a0 (0::zb [s0,s1])=some [s0.codes,s1.codes]∧zK a0 (zb [s0,s1])=some [s0.codes,s1.codes]:=by
 have hc:=yv (a0:=a0) [s0,s1] ⟨h0,h1,trivial⟩;refine ⟨?_,wd hs (by omega) hc⟩
 unfold uZ;rw[u9,af,vn hs (by omega) hc]
 rfl
theorem Hr {σ:Sb} (t:Tm) (h:∀ c∈t.codes,-24<=c):onB (sB σ) t.codes=(t.sub σ).codes:=by
 rw[B8 h,Tm.codes_sub];rfl
theorem O9 {a0:List zj} {L:List zd} {T:List jI} {C:List zd} {L':List zd} {T':List jI} {C':List zd} (h:tJ a0 L T C=true) (h':tJ a0 L' T' C'=true) {i j:Int} {n':Bool} {A A':List Int}
  (hi:gx L i=some (false,A)) (h0:gx A 0=some 0) (hj:gx L' j=some (n',A')) {side:Int} (hside:side=0∨side=1) {at':Nat} (h1:1<=at') (h2:at'<A'.length) :
  ∃ s0 s1 fr to:Tm,A=0::zb [s0,s1]∧s0.ok a0 24∧s1.ok a0 24∧((side=0∧fr=s0∧to=s1)∨(side=1∧fr=s1∧to=s0))∧∃ o,wu a0 L T C i side L' T' C' j (at':Int)=o∧yz a0 L T C i side L' T' C' j (at':Int)=o∧PSpec a0 L T C i fr to L' T' C' j n' A' at' o:=by
 obtain⟨hsb,l1,l2,l3,l4,l5,l6,-⟩:=zF h;obtain⟨-,l1',l2',l3',l4',l5',l6',-⟩:=zF h';have hs:=tz hsb;obtain⟨s0,s1,rfl,ok0,ok1,hA48⟩:=R0 (aF.1 l4 _ (kl hi)) h0;obtain⟨c,us,e',rfl,ho',he',-,hlen',hl48',-⟩:=rZ (aF.1 l4' (n',A') (kl hj));obtain⟨ks,kt,fr,to,e1,e2,e3,e4,hft,hsd1,hsd2⟩:=PH hside s0 s1;refine ⟨s0,s1,fr,to,rfl,ok0,ok1,hft,?_⟩;obtain⟨sd1,sd2⟩:=RZ hs ok0 ok1 hA48;have hcd:=JX hs h;have hcd':=JX hs h';have hcA:Cds (0::zb [s0,s1]):=hcd _ (x6 (kl hi));have hs0:s0.codes.length+s1.codes.length<=48:=by simpa[zb] using hA48
 have hfr:fr.ok a0 24∧fr.codes.length<=48∧∀ c∈fr.codes,-24<=c∧c<=1000000:=by
  rcases hft with ⟨-,rfl,rfl⟩ | ⟨-,rfl,rfl⟩
  ·exact ⟨ok0,by omega,fun c hc=>hcA.2 c (by simp [zb,hc])⟩
  ·exact ⟨ok1,by omega,fun c hc=>hcA.2 c (by simp [zb,hc])⟩
 have hto:to.ok a0 24∧to.codes.length<=48∧∀ c∈to.codes,-24<=c∧c<=1000000:=by
  rcases hft with ⟨-,rfl,rfl⟩ | ⟨-,rfl,rfl⟩
  ·exact ⟨ok1,by omega,fun c hc=>hcA.2 c (by simp [zb,hc])⟩
  ·exact ⟨ok0,by omega,fun c hc=>hcA.2 c (by simp [zb,hc])⟩
 obtain⟨hjp,hjl,hjm⟩:0<=j∧j<L'.length∧L'[j.toNat]? = some (n',(c:Int)::zb us):=by
  have hj0:=hj;unfold gx at hj0;by_cases hn:0<=j
  ·rw[decide_eq_true hn,cond_true] at hj0;have:=(aq.1 hj0).1;exact ⟨hn,by omega,hj0⟩
  ·rw[decide_eq_false hn] at hj0; cases hj0
 have hpi:xI L i=true:=by
  unfold gx at hi;by_cases hn:0<=i
  ·rw[decide_eq_true hn,cond_true] at hi;have:=(aq.1 hi).1;unfold xI;simp only[aw,decide_eq_true_eq];omega
  ·rw[decide_eq_false hn] at hi; cases hi
 have hpj:xI L' j=true:=by
  unfold xI;simp only[aw,decide_eq_true_eq];omega
 obtain⟨v,hv⟩:∃ v,((c:Int)::zb us)[at']? = some v:=⟨_,al h2⟩;have hvat:gx ((c:Int)::zb us) (at':Int)=some v:=by rw[qr]; exact hv
 -- the reference's guards
 have href:yz a0 L T C i side L' T' C' j (at':Int)=(cond (decide (v<0)) (tl 0)
   ((t5 L T C L' T' C').bind fun r37 =>
          cond (!r37.2.2.1)
          (tl 1501)
           ((gx r37.1 j).bind fun e45 =>
           (jG a0 e45.2 (at':Int)).bind fun r46 =>
           (vU e45.2 (some (at':Int)) (some r46)).bind fun y47 =>
           (vM a0 fr.codes y47).bind fun r48 =>
           cond (!r48.2.1)
           (tl 1502)
           (cond (!r48.1)
            (tl 0)
            ((vT r48.2.2 fr.codes).bind fun r49 =>
             (vT r48.2.2 to.codes).bind fun r50 =>
             cond (decide (((aa r49:Nat):Int)>48))
             (tl 1502)
             (cond (decide (((aa r50:Nat):Int)>48))
              (tl 1502)
              ((vO a0 r49 r50).bind fun r51 =>
               cond (r51==0)
               (tl 0)
               (cond (r51==1)
                (tl 0)
                ((tC L i).bind fun r52 =>
                 cond (yM (aa r52+aa r37.1) 32)
                 ((gx r37.1 j).bind fun e53 =>
                  (ru e45.2 (at':Int) r46 to.codes).bind fun r54 =>
                  (inR (ah .i64 ((ah .i64 (((aa L:Nat):Int) - 1))+j)) (aa (r52++r37.1))).bind fun k55 =>
                  ((r52++r37.1)[k55]?).bind fun x56 =>
                  (YG (cP (r52++r37.1) k55 (e53.1,r54)) L T C r37.1 r37.2.1 r37.2.2.2).bind fun r57 =>
                  (kU a0 r48.2.2 r57.1 r57.2.1 r57.2.2).bind fun r58 =>
                  cond (!r58.2.2.1)
                  (tl 1502)
                  (some (r58.1,r58.2.1,true,(0:Int),r58.2.2.2)))
                 (none)))))))))):=by
  unfold yz ve;rw[zJ,h,af,zJ,h',af,YQ,hpi,YQ,hpj];simp only[aA,cond_false,af,cond_true,hi,h0,bJ,beq_self_eq_true,hsd1,hsd2,hj,hvat];rw[decide_eq_false (show ¬((at':Int)<1) by omega),cond_false,decide_eq_false (show ¬((at':Int)≥((aa ((c:Int)::zb us):Nat):Int)) by omega),cond_false]
  cases decide (v<0) with
  | true=>rfl
  | false =>
   simp only[cond_false,u9,af,sd2,aj,bb,aN,gG,e1,e2,e3,e4];rfl
 rw[href];unfold wu;rw[hj,af];simp only[hvat,af];by_cases hv0:v<0
 ·rw[decide_eq_true hv0];exact ⟨tl 0,rfl,rfl,.inl ⟨v,hv,hv0,rfl⟩⟩
 ·rw[decide_eq_false hv0,cond_false,cond_false];obtain⟨b,hb,htop,hap⟩:=apart_spec hs h h';have fin:∀{o1 o2:Option DA} {o:Option DA},o1=o->o2=o->PSpec a0 L T C i fr to L' T' C' j n' ((c:Int)::zb us) at' o->∃ o,o1=o∧o2=o∧PSpec a0 L T C i fr to L' T' C' j n' ((c:Int)::zb us) at' o:=fun h1 h2 h3=>⟨_,h1,h2,h3⟩;have mk:=fun {o:Option DA} (hq:_)=>show PSpec a0 L T C i fr to L' T' C' j n' ((c:Int)::zb us) at' o from .inr ⟨v,b,c,us,hv,by omega,hb,htop,rfl,ho',hq⟩
  rcases hap with ⟨hap,hfar⟩ | ⟨hap,hnear⟩
  ·rcases Wv hs h h' hb htop with ⟨ap,-⟩ | ⟨ap,hn2⟩
   ·rw[JM,hap,ap];exact fin rfl rfl (mk (.inl ⟨rfl,hfar⟩))
   ·obtain⟨x,hx,hfar⟩:=hfar;have:=hn2 x hx; omega
  ·rcases Wv hs h h' hb htop with ⟨ap,x,hx,hfar⟩ | ⟨ap,-⟩
   ·have:=hnear x hx; omega
   ·rw[JM,hap,ap];simp only[af,aA,cond_false];have hj2:gx (ZI (b:Int) L') j=some (n',(c:Int)::zb (us.map (Tm.up b))):=by
     have:=zgl (fun l:zd=>(l.1,l.2.map (upC (b:Int)))) hj;rw[RY] at this;exact this
    have hvar:∀ k:Nat,Xw k us->k+b<24:=fun k hk=>by
     have:=hnear (k:Int) ⟨_,x6 (kl hj),by
      obtain⟨c0,h1,h2,h3⟩:=jp.2 ⟨k,rfl,hk⟩;exact ⟨c0,ai _ h1,h2,h3⟩⟩
     omega
    have hou:=zb0 ho' hvar;have hlu:(zb (us.map (Tm.up b))).length=(zb us).length:=by rw[← A5,aO]
    obtain⟨p,rfl⟩:∃ p,at'=p+1:=⟨at' - 1,by omega⟩
    rw[aj] at h2;obtain⟨t,ht,x,y,e5,e6,hrep⟩:=zeS hou (p:=p) (by omega)
    subst e6;have hlx:x.length+t.codes.length+y.length<=48:=by
     have:=congrArg aa e5;simp only[ax] at this;omega
    have mk2:=fun {o:Option DA} (hq:_)=>mk (o:=o) (.inr ⟨hnear,t,x,y,ht,e5,rfl,hou,hrep,hq⟩);have e7:(c:Int)::zb (us.map (Tm.up b))=((c:Int)::x)++t.codes++y:=by rw[e5]; simp
    have e8:((x.length+1:Nat):Int)=((((c:Int)::x).length:Nat):Int):=by simp
    have hl1:(((c:Int)::x)++t.codes++y).length<=1000:=by simp only[ax,aj]; omega
    have hjn:inR j (ZI (b:Int) L').length=some j.toNat:=by
     obtain⟨k,rfl⟩:=eW hjp;exact qd (by simp [ZI]; omega)
    have hjd:(ZI (b:Int) L')[j.toNat]? = some (n',(c:Int)::zb (us.map (Tm.up b))):=by
     have h3:=hj2;unfold gx at h3;rwa [decide_eq_true hjp,cond_true] at h3
    rw[hi,af,hj2,af];simp only[sd1,af,aj,bb,aN,gG,e1,e2,e3,e4,hjn,hjd];rw[e8,e7,Cp hs ht _ _ hl1,zbo hs ht _ _ hl1];simp only[af,zbE];rw[v5 fr,v5 t];rcases C7 hs (xs:=zb [fr]) (ys:=zb [t]) rfl rfl ⟨hfr.1,trivial⟩ ⟨ht,trivial⟩ hsb (by rw[← v5]; omega) (by rw[← v5]; omega) with ⟨hu,hno⟩ | ⟨-,σ,hm,hok,hu⟩
    ·rcases Xq hs (ts:=[fr]) (us:=[t]) ⟨hfr.1,trivial⟩ ⟨ht,trivial⟩ (by rw[← v5]; omega) (by rw[← v5]; omega) with ⟨tg,-⟩ | ⟨-,σ',hm',tg⟩
     ·rw[hu,tg];exact fin rfl rfl (mk2 (.inl ⟨rfl,hno.resolve_left fun h=>h rfl⟩))
     ·exact absurd hm'.sol (hno.resolve_left (fun h=>h rfl) σ')
    ·rcases Xq hs (ts:=[fr]) (us:=[t]) ⟨hfr.1,trivial⟩ ⟨ht,trivial⟩ (by rw[← v5]; omega) (by rw[← v5]; omega) with ⟨tg,hno⟩ | ⟨-,σ',hm',tg⟩
     ·exact absurd hm.sol (hno.resolve_left (fun h=>h rfl) σ)
     ·have:=hm.unique hm';subst this;rw[hu,tg];have mk3:=fun {o:Option DA} (hq:_)=>mk2 (o:=o) (.inr ⟨σ,hm,hok,hq⟩);cases hsh:xJ σ (aR 24) with
      | false=>exact fin rfl rfl (mk3 (.inl ⟨rfl,.inl hsh⟩))
      | true =>
       simp only[cond_true,af,show ((0:Int) != 0)=false from rfl,cond_false,aA]
       rw[← v5 fr,← v5 t];have nfr:uU fr.codes:=⟨by omega,fun c hc=>by have:=hfr.2.2 c hc; omega⟩
       have nto:uU to.codes:=⟨by omega,fun c hc=>by have:=hto.2.2 c hc; omega⟩
       rw[kX (YI hsh) nfr.1 nfr.2,Ia (YI hsh) nfr,kX (YI hsh) nto.1 nto.2,Ia (YI hsh) nto,Hr fr fun c hc=>(hfr.2.2 c hc).1,Hr to fun c hc=>(hto.2.2 c hc).1];simp only[af];have okf:(fr.sub σ).ok a0 24:=Tm.ok_sub fr hfr.1 fun x hx=>hok x (Tm.ok_has fr hfr.1 hx);have okt:(to.sub σ).ok a0 24:=Tm.ok_sub to hto.1 fun x hx=>hok x (Tm.ok_has to hto.1 hx);by_cases g1:48<(fr.sub σ).codes.length
       ·rw[decide_eq_true (show ((aa (fr.sub σ).codes:Nat):Int)>48 by omega)]
        exact fin rfl rfl (mk3 (.inl ⟨rfl,.inr (.inl g1)⟩))
       ·rw[decide_eq_false (show ¬((aa (fr.sub σ).codes:Nat):Int)>48 by omega),cond_false,cond_false]
        by_cases g2:48<(to.sub σ).codes.length
        ·rw[decide_eq_true (show ((aa (to.sub σ).codes:Nat):Int)>48 by omega)]
         exact fin rfl rfl (mk3 (.inl ⟨rfl,.inr (.inr g2)⟩))
        ·rw[decide_eq_false (show ¬((aa (to.sub σ).codes:Nat):Int)>48 by omega),cond_false,cond_false]
         obtain⟨k,w1,w2,-,w4⟩:=JY hsb okf okt (by omega) (by omega)
         unfold Qz;rw[w1,w2];simp only[af];have mk4:=fun {o:Option DA} (hq:_)=>mk3 (o:=o) (.inr ⟨hsh,by omega,by omega,k,w2,hq⟩)
         by_cases hk:k=0∨k=1
         ·refine fin (o:=tl 0) ?_ ?_ (mk4 (.inl ⟨rfl,hk⟩))
          ·rcases hk with rfl | rfl<;>rfl
          ·rcases hk with rfl | rfl<;>rfl
         ·have hk2:k=2∨k=3:=by omega
          have hb1:(cond (k != 2) (some (k != 3)) (some false):Option Bool)=some false:=by rcases hk2 with rfl | rfl<;>rfl
          rw[hb1,af,cond_false,show (k==0)=false by simp; omega,show (k==1)=false by simp; omega,cond_false,cond_false]
          unfold Ys ru;have hlto:to.codes.length<=48:=hto.2.1;have hul:(ZI (b:Int) L').length=L'.length:=by simp [ZI]
          have hucl:(ZI (b:Int) C').length=C'.length:=by simp [ZI]
          have hwl:=Dc hpi;rw[Cp hs ht _ _ hl1];simp only[af,Oo,Sc];rw[za5 (by simp only[aj]; omega),G2 hpi (by omega),zp (by first | omega | (simp only[aj,bb]; omega)),cond_true,zp (by first | omega | (simp only[ax,aj,bb]; omega)),cond_true,zp (by first | omega | (simp only[ax,aj,bb]; omega)),cond_true]
          simp only[af];rw[zp (by first | omega | (simp only[ax,aj,bb,aO]; omega)),cond_true]
          have w5:inR (ah .i64 ((ah .i64 (((aa L:Nat):Int) - 1))+j)) (aa (zY i L 0++ZI (b:Int) L'))=some ((zY i L 0).length+j.toNat):=by
           rw[show ah .i64 (((aa L:Nat):Int) - 1)=(((zY i L 0).length:Nat):Int) by rw[zu]<;>omega,show ah .i64 ((((zY i L 0).length:Nat):Int)+j)=(((zY i L 0).length+j.toNat:Nat):Int) by rw[zu]<;>omega]
           exact qd (by rw[ax]; omega)
          have w6:(zY i L 0++ZI (b:Int) L')[(zY i L 0).length+j.toNat]? = some (n',(c:Int)::zb (us.map (Tm.up b))):=by
           rw[List.getElem?_append_right (by omega),show (zY i L 0).length+j.toNat - (zY i L 0).length=j.toNat by omega]
           exact hjd
          rw[w5,af,w6,af,List.set_append_right _ _ (by omega),show (zY i L 0).length+j.toNat - (zY i L 0).length=j.toNat by omega]
          have e9:(((([]:List Int)++(c:Int)::x))++to.codes)++y=(c:Int)::(x++to.codes++y):=by simp
          have e10:(((c:Int)::x)++to.codes)++y=(c:Int)::(x++to.codes++y):=by simp
          rw[e9,e10];have hul2:((ZI (b:Int) L').set j.toNat (n',(c:Int)::(x++to.codes++y))).length=L'.length:=by rw[ci]; exact hul
          unfold YG;rw[Ke i (-1) (by omega) (by omega) (by omega) (by omega) (by simp; omega) (by omega),af,VQ,
           zp (by first | omega | (simp only[ax,aj,bb,aO]; omega)),cond_true,zp (by first | omega | (simp only[aO]; omega)),cond_true,zp (by first | omega | (simp only[ax,aj,bb,aO]; omega)),cond_true,zp (by first | omega | (simp only[ax,aj,bb,aO]; omega)),cond_true,af]
          have hup:∀ r∈yB L' T' C',Cds (r.map (upC (b:Int))):=fun r hr=>zf5 (hcd' r hr) fun x hx=>hnear x ⟨r,hr,hx⟩;have hupl:∀ ls:List zd,(∀ l∈ls,l.2∈yB L' T' C')->∀ l∈ZI (b:Int) ls,Cds l.2:=fun ls hls l hl=>by
           obtain⟨l0,h0,rfl⟩:=aW.1 hl;exact hup _ (hls l0 h0)
          have hA2:Cds ((c:Int)::zb (us.map (Tm.up b))):=hupl L' (fun l hl=>x6 hl) _ (kl hj2);have hnew:Cds ((c:Int)::(x++to.codes++y)):=by
           refine ⟨by simp only[aj,ax]; omega,fun d hd => ?_⟩
           rcases aB.1 hd with rfl | hd
           ·exact hA2.2 _ (ak ..)
           ·rcases aQ.1 hd with hd | hd
            ·rcases aQ.1 hd with hd | hd
             ·exact hA2.2 d (by rw[e5]; simp [hd])
             ·exact hto.2.2 d hd
            ·exact hA2.2 d (by rw[e5]; simp [hd])
          have cL:∀ l∈zY i L 0++(ZI (b:Int) L').set j.toNat (n',(c:Int)::(x++to.codes++y)),Cds l.2:=fun l hl=>by
           rcases aQ.1 hl with hl | hl
           ·exact hcd _ (x6 (Qy L 0 hl))
           ·rcases FN hl with hl | rfl
            ·exact hupl L' (fun l hl=>x6 hl) l hl
            ·exact hnew
          have cT:∀ r∈Bl b T T',Cds r:=fun r hr=>by
           unfold Bl at hr;rcases aQ.1 hr with hr | hr
           ·exact hcd _ (uN hr)
           ·obtain⟨r0,h0,rfl⟩:=aW.1 hr;exact hup _ (uN h0)
          have cC:∀ l∈Bz b C C',Cds l.2:=fun l hl=>by
           unfold Bz at hl;rcases aQ.1 hl with hl | hl
           ·exact hcd _ (vQ hl)
           ·exact hupl C' (fun l hl=>vQ hl) l hl
          have nL:(zY i L 0++(ZI (b:Int) L').set j.toNat (n',(c:Int)::(x++to.codes++y))).length<=100:=by rw[ax]; omega
          have nT:(Bl b T T').length<=100:=by unfold Bl; rw[ax,aO]; omega
          have nC:(Bz b C C').length<=100:=by unfold Bz; rw[ax]; omega
          refine fin ?_ (HN (a0:=a0) hs hsh cL cT cC (by omega) (by omega) (by omega) 1502) (mk4 (.inr ⟨rfl,hk2⟩))
          simp only;rw[show T++T'.map (cD (upC (b:Int)))=Bl b T T' from rfl,show C++ZI (b:Int) C'=Bz b C C' from rfl,zcX hsh cL cT cC (by omega) (by omega) (by omega),af,WN,af]
          unfold Jb;cases tJ a0 (uV σ (zY i L 0++(ZI (b:Int) L').set j.toNat (n',(c:Int)::(x++to.codes++y)))) ((Bl b T T').map (tX σ)) (uV σ (Bz b C C')) with
          | true=>rfl
          | false=>rfl
theorem PSpec.okR {a0:List zj} {L:List zd} {T:List jI} {C:List zd} {i:Int} {fr to:Tm} {L':List zd} {T':List jI} {C':List zd} {j:Int} {n':Bool} {A':List Int} {at':Nat} {o:Option DA} (h:PSpec a0 L T C i fr to L' T' C' j n' A' at' o):OkR a0 o:=by
 rcases h with ⟨_,_,_,h⟩ | ⟨_,_,_,_,_,_,_,_,_,_,⟨h,_⟩ | ⟨_,_,_,_,_,_,_,_,_,⟨h,_⟩ | ⟨_,_,_,⟨h,_⟩ | ⟨_,_,_,_,_,⟨h,_⟩ | ⟨h,_⟩⟩⟩⟩⟩
 ·exact Zj h
 ·exact Zj h
 ·exact Zj h
 ·exact Zj h
 ·exact Zj h
 ·rw[h]; exact E7
def eqB (L:List zd) (i:Int) (neg:Bool):Bool:=xI L i&&(match gx L i with
 | some l=>(gx l.2 0==some 0)&&(l.1==neg)
 | none=>false)
theorem PG {L:List zd} {i:Int} {neg:Bool} (h:eqB L i neg=true):∃ A,gx L i=some (neg,A)∧gx A 0=some 0:=by
 unfold eqB at h;cases hp:xI L i with
 | false=>rw[hp] at h; cases h
 | true =>
  rw[hp,aY] at h;cases hg:gx L i with
  | none=>rw[hg] at h; cases h
  | some l =>
   rw[hg] at h;simp only[aw,beq_iff_eq] at h;exact ⟨l.2,by rw[← h.2],h.1⟩
theorem Tq {L:List zd} {i:Int} {n neg:Bool} {A:List Int} (h:gx L i=some (n,A)) (hp:xI L i=true):eqB L i neg=((gx A 0==some 0)&&(n==neg)):=by
 unfold eqB;rw[hp,h,aY]
theorem W7 {a0:List zj} {A:List Int} (h:qL a0 A=true):∃ c:Nat,gx A 0=some (c:Int):=by
 obtain⟨c,ts,e,rfl,-⟩:=rZ h;exact ⟨c,by rw[qm]; rfl⟩
theorem sS {a0:List zj} {L:List zd} (hL:∀ l∈L,qL a0 l.2=true) (T:List jI) (C:List zd) (i:Int) (neg:Bool):vP L T C i neg=some (eqB L i neg):=by
 unfold vP;by_cases h0:i≥0
 ·rw[decide_eq_true h0,cond_true];by_cases h1:i<((aa L:Nat):Int)
  ·have hp:xI L i=true:=by unfold xI; simp only[aw,decide_eq_true_eq]; exact ⟨h0,h1⟩
   obtain⟨⟨n,A⟩,hg⟩:=Q2 hp;obtain⟨c,hc⟩:=W7 (hL _ (kl hg));rw[decide_eq_true h1,cond_true,hg,af,hc,af,af,Tq hg hp,hc];by_cases e:(c:Int)=0
   ·rw[e]; rfl
   ·rw[show ((c:Int)==0)=false by simpa using e,show (some (c:Int)==some 0)=false by simpa using e]; rfl
  ·have hp:xI L i=false:=by unfold xI; rw[decide_eq_false h1,co]
   rw[decide_eq_false h1,cond_false];unfold eqB;rw[hp]; rfl
 ·have hp:xI L i=false:=by unfold xI; rw[decide_eq_false h0,bn]
  rw[decide_eq_false h0,cond_false];unfold eqB;rw[hp]; rfl
theorem xk {a0:List zj} {L:List zd} (hL:∀ l∈L,qL a0 l.2=true) (T:List jI) (C:List zd) (i:Int):ve L T C i=some (eqB L i false):=by
 unfold ve;rw[YQ,af];cases hp:xI L i with
 | false=>unfold eqB; rw[hp]; rfl
 | true =>
  obtain⟨⟨n,A⟩,hg⟩:=Q2 hp;obtain⟨c,hc⟩:=W7 (hL _ (kl hg));rw[cond_true,hg,af,af,hc,af,Tq hg hp,hc];have e:(some (c:Int)==some 0)=((c:Int)==0):=rfl;rw[e];cases n<;>cases (c:Int)==0<;>rfl
theorem zib (o:Option DA):(o.bind fun r=>some (r.1,r.2.1,r.2.2.1,r.2.2.2.1,r.2.2.2.2))=o:=by cases o<;>rfl
theorem VF (a0:List zj) (L:List zd) (T:List jI) (C:List zd) (i side:Int) (L':List zd) (T':List jI) (C':List zd) (j at':Int) :
  yz a0 L T C i side L' T' C' j at'=sy a0 L T C i side L' T' C' j at'∧OkR a0 (sy a0 L T C i side L' T' C' j at'):=by
 have bad:∀{o o':Option DA} {k:Int},o=tl k->o'=tl k->o=o'∧OkR a0 o':=fun h h'=>⟨h.trans h'.symm,Zj h'⟩;have key:tJ a0 L T C=true->tJ a0 L' T' C'=true->eqB L i false=true->(side=0∨side=1)->0<=j->j<L'.length->1<=at'->(∀ l,gx L' j=some l->at'<l.2.length)->yz a0 L T C i side L' T' C' j at'=wu a0 L T C i side L' T' C' j at'∧OkR a0 (wu a0 L T C i side L' T' C' j at'):=by
  intro h h' he hsd hj0 hj1 ha hal;obtain⟨A,g1,g2⟩:=PG he;obtain⟨⟨n',A'⟩,g3,-⟩:=WH hj0 hj1;obtain⟨k,rfl⟩:=eW (show 0<=at' by omega)
  obtain⟨s0,s1,fr,to,-,-,-,-,o,o1,o2,o3⟩:=O9 h h' g1 g2 g3 hsd (show 1<=k by omega) (by have:=hal _ g3; exact Int.ofNat_lt.1 this)
  rw[o1,o2];exact ⟨rfl,o3.okR⟩
 unfold sy;rw[zX,af];cases h:tJ a0 L T C with
 | false=>unfold yz; rw[zJ,h]; exact bad (k:=1500) rfl rfl
 | true =>
  rw[aA,cond_false,zX,af];cases h':tJ a0 L' T' C' with
  | false=>unfold yz; rw[zJ,h,af,zJ,h']; exact bad (k:=1500) rfl rfl
  | true =>
   have hL:∀ l∈L,qL a0 l.2=true:=fun l hl=>aF.1 (zF h).2.2.2.2.1 l hl;rw[aA,cond_false,sS hL,af];cases he:eqB L i false with
   | false=>unfold yz; rw[zJ,h,af,zJ,h',af,xk hL,he]; exact bad (k:=1500) rfl rfl
   | true =>
    rw[aA,cond_false];have refl:∀{b:Bool},(decide (side<0)||decide (side>1))=b->yz a0 L T C i side L' T' C' j at'=cond b (tl 1500) (yz a0 L T C i side L' T' C' j at'):=by
     intro b hb;cases b with
     | false=>rfl
     | true =>
      unfold yz;rw[zJ,h,af,zJ,h',af,xk hL,he];simp only[af,aA,cond_false];cases h1:decide (side<0) with
      | true=>rfl
      | false=>rw[h1,cU] at hb; rw[hb]; rfl
    have ref2:(side=0∨side=1)->∀{o:Option DA},o=cond (decide (j<0)) (tl 1500) (cond (decide (j≥((aa L':Nat):Int))) (tl 1500) (cond (decide (at'<1)) (tl 1500) ((gx L' j).bind fun e11=>cond (decide (at'≥((aa e11.2:Nat):Int))) (tl 1500) ((wu a0 L T C i side L' T' C' j at').bind fun r12=>some (r12.1,r12.2.1,r12.2.2.1,r12.2.2.2.1,r12.2.2.2.2))))) ->
      yz a0 L T C i side L' T' C' j at'=o∧OkR a0 o:=by
     intro hsd o ho;have hsd1:decide (side<0)=false:=by rcases hsd with rfl | rfl<;>rfl
     have hsd2:decide (side>1)=false:=by rcases hsd with rfl | rfl<;>rfl
     have step:yz a0 L T C i side L' T' C' j at'=cond (!xI L' j) (tl 1500) (cond (decide (at'<1)) (tl 1500) ((gx L' j).bind fun e=>cond (decide (at'≥((aa e.2:Nat):Int))) (tl 1500) (yz a0 L T C i side L' T' C' j at'))):=by
      cases hp:xI L' j with
      | false=>unfold yz; rw[zJ,h,af,zJ,h',af,xk hL,he,YQ,hp,hsd1,hsd2]; rfl
      | true =>
       rw[aA,cond_false];cases h1:decide (at'<1) with
       | true=>unfold yz; rw[zJ,h,af,zJ,h',af,xk hL,he,YQ,hp,hsd1,hsd2,h1]; rfl
       | false =>
        obtain⟨l,hg⟩:=Q2 hp;rw[cond_false,hg,af];cases h2:decide (at'≥((aa l.2:Nat):Int)) with
        | true =>
         rw[cond_true];unfold yz;rw[zJ,h,af,zJ,h',af,xk hL,he,YQ,hp,hsd1,hsd2,h1,hg];simp only[af,aA,cond_false,h2];rfl
        | false=>rfl
     rw[ho];by_cases j0:j<0
     ·have hp:xI L' j=false:=by unfold xI; rw[decide_eq_false (show ¬ j≥0 by omega),bn]
      rw[decide_eq_true j0];refine bad (k:=1500) ?_ rfl;rw[step,hp]; rfl
     ·rw[decide_eq_false j0,cond_false];by_cases j1:j≥((aa L':Nat):Int)
      ·have hp:xI L' j=false:=by unfold xI; rw[decide_eq_false (show ¬ j<((aa L':Nat):Int) by omega),co]
       rw[decide_eq_true j1];refine bad (k:=1500) ?_ rfl;rw[step,hp]; rfl
      ·have hp:xI L' j=true:=by unfold xI; simp only[aw,decide_eq_true_eq]; omega
       rw[decide_eq_false j1,cond_false];by_cases a1:at'<1
       ·rw[decide_eq_true a1];refine bad (k:=1500) ?_ rfl;rw[step,hp,decide_eq_true a1]; rfl
       ·obtain⟨l,hg⟩:=Q2 hp;rw[decide_eq_false a1,cond_false,hg,af];by_cases a2:at'≥((aa l.2:Nat):Int)
        ·rw[decide_eq_true a2];refine bad (k:=1500) ?_ rfl;rw[step,hp,decide_eq_false a1,hg,af,decide_eq_true a2]; rfl
        ·rw[decide_eq_false a2,cond_false,zib];exact key h h' he hsd (by omega) (by omega) (by omega) fun l2 hl2=>by
          rw[hg] at hl2; injection hl2 with hl2; subst hl2; omega
    by_cases s0:side=0
    ·rw[show (side != 0)=false by simp [s0],cond_false]
     exact ref2 (.inl s0) rfl
    ·rw[show (side != 0)=true by simp [s0],cond_true]
     by_cases s1:side=1
     ·rw[show (side != 1)=false by simp [s1],cond_false]
      exact ref2 (.inr s1) rfl
     ·rw[show (side != 1)=true by simp [s1],cond_true]
      refine bad (k:=1500) ?_ rfl;rw[refl (b:=true) (by simp only[bO,decide_eq_true_eq]; omega)]
      rfl
section
variable {a0:List zj} {L:List zd} (hL:∀ l∈L,qL a0 l.2=true) (T:List jI) (C:List zd)
include hL
theorem zcK (e:Int):rT e L T C=some (!eqB L e false):=by
 unfold rT;rw[sS hL,af]
theorem Mj {xs:List Int} (hl:xs.length<=1000):(es:List Int)->(i k:Nat)->xs.drop i=es->es.length<k ->
  (lp zV k (xs,((aa xs:Nat):Int),(i:Int),L,T,C)=some (.inl ())∧∀ e∈es,eqB L e false=true) ∨
  ∃ pre e post,es=pre++e::post∧(∀ x∈pre,eqB L x false=true)∧eqB L e false=false∧lp zV k (xs,((aa xs:Nat):Int),(i:Int),L,T,C)=some (.inr ((i+pre.length:Nat):Int))
 | es,i,0,_,h=>by omega
 | [],i,k+1,h,_=>by
  rw[zr];generalize lp zV k=rec;unfold zV;simp only[vy (qG h),cond_false];exact .inl ⟨trivial,fun _ h=>(nomatch h)⟩
 | e::es,i,k+1,h,hk=>by
  have hi:=zL h;have ih:=Mj hl es (i+1) k (zi h) (by simpa using hk)
  rw[zr];generalize lp zV k=rec at ih ⊢;unfold zV;simp only[uj hi,cond_true,qr,zn h,af,zcK hL,vZ hi (show xs.length<=maxLen by unfold maxLen; omega)]
  cases he:eqB L e false with
  | false =>
   exact .inr ⟨[],e,es,rfl,fun _ h=>(nomatch h),he,rfl⟩
  | true =>
   rw[aA,cond_false];rcases ih with ⟨h1,h2⟩ | ⟨pre,d,post,rfl,h2,h3,h4⟩
   ·refine .inl ⟨h1,fun x hx => ?_⟩;rcases aB.1 hx with rfl | hx
    ·exact he
    ·exact h2 x hx
   ·refine .inr ⟨e::pre,d,post,rfl,fun x hx => ?_,h3,?_⟩
    ·rcases aB.1 hx with rfl | hx
     ·exact he
     ·exact h2 x hx
    ·rw[h4,aj,show i+1+pre.length=i+(pre.length+1) by omega]
theorem Hm:(es:List Int)->(i j k:Nat)->(xs:List Int)->xs.length<=1000->xs.drop j=es->i<=j->i<=xs.length->es.length<k ->
  ∃(xs':List Int) (i':Nat),lp yc k ((i:Int),(j:Int),xs,L,T,C)=some ((i':Int),xs')∧xs'.length=xs.length∧i'<=xs.length∧xs'.take i'=xs.take i++es.filter fun e=>eqB L e false
 | _,_,_,0,_,_,_,_,_,h=>by omega
 | [],i,j,k+1,xs,hl,h,hij,hi,_=>by
  rw[zr];generalize lp yc k=rec;unfold yc;simp only[vy (qG h),cond_false];exact ⟨xs,i,rfl,rfl,hi,by simp⟩
 | e::es,i,j,k+1,xs,hl,h,hij,hi0,hk=>by
  have hj:=zL h;have hM:xs.length<=maxLen:=by unfold maxLen; omega
  have ih1:=Hm es (i+1) (j+1) k (xs.set i e);have ih2:=Hm es i (j+1) k xs hl (zi h) (by omega) hi0 (by simpa using hk)
  rw[zr];generalize lp yc k=rec at ih1 ih2 ⊢;unfold yc;simp only[uj hj,cond_true,qd hj,zn h,af,zcK hL,vZ hj hM];cases he:eqB L e false with
  | true =>
   have hi:i<xs.length:=by omega
   rw[aA,bJ,cond_true,qd hi,af,al hi,af,vZ hi hM];obtain⟨xs',i',h1,h2,h3,h4⟩:=ih1 (by rw[ci]; exact hl) (by
    rw[← zi h,List.drop_set];rw[if_pos (by omega)]) (by omega) (by rw[ci]; omega) (by simpa using hk)
   rw[ci] at h2 h3;refine ⟨xs',i',h1,h2,h3,?_⟩;rw[h4,dr (by simpa using he),List.take_add_one]
   rw[List.getElem?_set_self hi,List.take_set,List.set_eq_of_length_le (by rw[cw]; omega)]
   simp
  | false =>
   rw[bJ,aA,cond_false];obtain⟨xs',i',h1,h2,h3,h4⟩:=ih2;exact ⟨xs',i',h1,h2,h3,by rw[h4,cX (by simpa using he)]⟩
theorem L9 {xs:List Int} (hl:xs.length<=1000):wU xs L T C=some (xs.filter fun e=>eqB L e false):=by
 unfold wU te;rcases Mj hL T C hl xs 0 ze rfl (bW hl (by decide)) with ⟨h1,h2⟩ | ⟨pre,e,post,h1,h2,h3,h4⟩
 ·rw[show ((0:Nat):Int)=0 from rfl] at h1
  rw[h1];show some xs=_;rw[fF.2 fun e he=>h2 e he]
 ·rw[show ((0:Nat):Int)=0 from rfl] at h4
  rw[h4];have hpl:pre.length<xs.length:=by rw[h1]; simp
  have hpost:xs.drop (pre.length+1)=post:=by rw[h1,show pre.length+1=(pre++[e]).length by simp,show pre++e::post=(pre++[e])++post by simp,eg]
  have hM:xs.length<=maxLen:=by unfold maxLen; omega
  simp only[af,yA,aN];rw[show ((((pre.length:Nat):Int)) == -1)=false by simp,cond_false,vZ hpl hM]
  obtain⟨xs',i',g1,g2,g3,g4⟩:=Hm hL T C post pre.length (pre.length+1) ze xs hl hpost (by omega) (by omega) (bW (show post.length<=1000 by rw[← hpost,List.length_drop]; omega) (by decide))
  rw[g1,af,decide_eq_true (by omega),cond_true,decide_eq_true (show (i':Int)<=((aa xs':Nat):Int) by omega),cond_true,decide_eq_true (by omega),cond_true]
  simp only[bq];have e1:(clr xs' i' (xs'.length - i')).take i'=xs'.take i':=by
   unfold clr;rw[bc,gm (by rw[cw]; omega)]
  rw[Gb _ (by unfold clr; simp only[ax,cw]; omega),af,e1,g4,h1]
  rw[List.filter_append,fF.2 fun e he=>h2 e he,cX (by simpa using h3),gm rfl]
end
section
variable (a0:List zj) (L:List zd) (T:List jI) (C:List zd) (a b:Int) (L':List zd) (T':List jI) (C':List zd)
def Lx (i side j at' c:Int) (st:List wF):Option (Int×List wF) :=
 (sy a0 L T C i side L' T' C' j at').bind fun r=>vA a0 c 3 a i side b j at' r.1 r.2.1 r.2.2.2.2 r.2.2.1 r.2.2.2.1 st
def RN (i side j:Int):Nat->Nat->Int->List wF->Option (Int×List wF)
 | 0,_,c,st=>some (c,st)
 | m+1,at',c,st=>(Lx a0 L T C a b L' T' C' i side j (at':Int) c st).bind fun q=>RN i side j m (at'+1) q.1 q.2
def vx (j:Int):Nat:=match gx L' j with
 | some l=>l.2.length
 | none=>0
def jGo (i side:Int):List Int->Int->List wF->Option (Int×List wF)
 | [],c,st=>some (c,st)
 | j::js,c,st=>(RN a0 L T C a b L' T' C' i side j (vx L' j - 1) 1 c st).bind fun q=>jGo i side js q.1 q.2
def Ji (js:List Int) (i c:Int) (st:List wF):Option (Int×List wF) :=
 (jGo a0 L T C a b L' T' C' i 0 js c st).bind fun q=>jGo a0 L T C a b L' T' C' i 1 js q.1 q.2
def iGo (js:List Int):List Int->Int->List wF->Option (Int×List wF)
 | [],c,st=>some (c,st)
 | i::is,c,st=>(Ji a0 L T C a b L' T' C' js i c st).bind fun q=>iGo js is q.1 q.2
variable {a0 L T C a b L' T' C'} (h:tJ a0 L T C=true) (h':tJ a0 L' T' C'=true)
include h h'
theorem zan {i side j:Int} {at':Nat} (hi:eqB L i false=true) (hs:side=0∨side=1) (hj0:0<=j) (hj1:j<L'.length) (h1:1<=at') (h2:at'<vx L' j):sy a0 L T C i side L' T' C' j (at':Int)=wu a0 L T C i side L' T' C' j (at':Int):=by
 have hL:∀ l∈L,qL a0 l.2=true:=fun l hl=>aF.1 (zF h).2.2.2.2.1 l hl;obtain⟨l,hg,-⟩:=WH hj0 hj1;have h2:at'<l.2.length:=by unfold vx at h2; rwa [hg] at h2
 unfold sy;rw[zX,h,af,aA,cond_false,zX,h',af,aA,cond_false,sS hL,af,hi,aA,cond_false,
  decide_eq_false (show ¬ j<0 by omega),decide_eq_false (show ¬ j≥((aa L':Nat):Int) by omega),decide_eq_false (show ¬(at':Int)<1 by omega)]
 simp only[cond_false,hg,af];rw[decide_eq_false (show ¬(at':Int)≥((aa l.2:Nat):Int) by omega),cond_false,zib]
 rcases hs with rfl | rfl<;>rfl
theorem K5 {i side j:Int} {at':Nat} (hi:eqB L i false=true) (hs:side=0∨side=1) (hj0:0<=j) (hj1:j<L'.length) (h1:1<=at') (h2:at'<vx L' j) (c:Int) (st:List wF) :
  ((wu a0 L T C i side L' T' C' j (at':Int)).bind fun r=>zS 3 a i side b j (at':Int) [] [] [] r.1 r.2.1 r.2.2.2.2 r.2.2.1 r.2.2.2.1 a0 c st)=(Lx a0 L T C a b L' T' C' i side j (at':Int) c st).map fun q=>(a0,q.1,q.2):=by
 unfold Lx;obtain⟨r,e1,-,e3⟩:=(VF a0 L T C i side L' T' C' j (at':Int)).2;rw[← zan h h' hi hs hj0 hj1 h1 h2,e1,af,af];exact Rw a0 3 a i side b j _ [] [] [] _ _ _ _ _ c st e3
omit h h' in
theorem Xy {α β γ:Type} (o:Option α) (g:α->β) (k:β->Option γ):(o.map g).bind k=o.bind fun x=>k (g x):=by cases o<;>rfl
omit h h' in
theorem VZ {α β γ:Type} (o:Option α) (g:β->γ) (k:α->Option β):(o.bind k).map g=o.bind fun x=>(k x).map g:=by cases o<;>rfl
theorem L6 {i side j:Int} (hi:eqB L i false=true) (hs:side=0∨side=1) (hj0:0<=j) (hj1:j<L'.length) (u1 u2:List Int) (u3 u4 u5:Int) (u6:List Int) (u7 u8:Int):(m at' k:Nat)->vx L' j - at'=m->m<k->1<=at'->(c:Int)->(st:List wF) ->
  lp rL k (a0,a,b,u1,i,side,j,(at':Int),u2,u3,u4,u5,u6,u7,u8,L,T,C,L',T',C',a0,c,st)=(RN a0 L T C a b L' T' C' i side j m at' c st).map fun q=>(a0,q.1,q.2)
 | m,at',0,_,hk,_,_,_=>by omega
 | m,at',k+1,hm,hk,h1,c,st=>by
  obtain⟨l,hg,-⟩:=WH hj0 hj1;have hr:vx L' j=l.2.length:=by unfold vx; rw[hg]
  have h48:l.2.length<=1000:=by
   have:=v9 (aF.1 (zF h').2.2.2.2.1 _ (kl hg));omega
  have ih:=L6 hi hs hj0 hj1 u1 u2 u3 u4 u5 u6 u7 u8 (m - 1) (at'+1) k;rw[zr];generalize lp rL k=rec at ih ⊢;unfold rL;simp only[hg,af];by_cases hlt:at'<l.2.length
  ·obtain⟨m,rfl⟩:∃ m',m=m'+1:=⟨m - 1,by omega⟩
   rw[uj hlt,cond_true,vZ hlt (by unfold maxLen; omega)]
   have hp:=K5 (a:=a) (b:=b) h h' hi hs hj0 hj1 h1 (by omega) c st
   have e:∀ f:List zj×Int×List wF->Option (List zj×Int×List wF),((wu a0 L T C i side L' T' C' j (at':Int)).bind fun r18=>(zS 3 a i side b j (at':Int) [] [] [] r18.1 r18.2.1 r18.2.2.2.2 r18.2.2.1 r18.2.2.2.1 a0 c st).bind f)=((wu a0 L T C i side L' T' C' j (at':Int)).bind fun r=>zS 3 a i side b j (at':Int) [] [] [] r.1 r.2.1 r.2.2.2.2 r.2.2.1 r.2.2.2.1 a0 c st).bind f:=fun f=>by
    rw[bz]
   rw[e,hp,Xy];unfold RN;rw[VZ]
   congr 1
   funext q
   exact ih (by omega) (by omega) (by omega) q.1 q.2
  ·obtain rfl:m=0:=by omega
   rw[vy (by omega),cond_false]
   rfl
omit h in
theorem zab {i side j:Int} (hj0:0<=j) (hj1:j<L'.length) (htop:jB a0 L' j=some true):(m at' k:Nat)->vx L' j - at'=m->m<k->(c:Int)->(st:List wF) ->
  lp xf k (a0,a,b,c,i,side,j,(at':Int),L,T,C,L',T',C',st)=RN a0 L T C a b L' T' C' i side j m at' c st
 | m,at',0,_,hk,_,_=>by omega
 | m,at',k+1,hm,hk,c,st=>by
  obtain⟨l,hg,-⟩:=WH hj0 hj1;have hr:vx L' j=l.2.length:=by unfold vx; rw[hg]
  have h48:l.2.length<=1000:=by
   have:=v9 (aF.1 (zF h').2.2.2.2.1 _ (kl hg));omega
  have ih:=zab (i:=i) (side:=side) hj0 hj1 htop (m - 1) (at'+1) k;rw[zr];generalize lp xf k=rec at ih ⊢;unfold xf;simp only[hg,af];by_cases hlt:at'<l.2.length
  ·obtain⟨m,rfl⟩:∃ m',m=m'+1:=⟨m - 1,by omega⟩
   rw[uj hlt,cond_true,htop,af,cond_true,vZ hlt (by unfold maxLen; omega),(VF a0 L T C i side L' T' C' j (at':Int)).1]
   unfold RN Lx;rw[bz]
   congr 1
   funext r
   congr 1
   funext q
   exact ih (by omega) (by omega) q.1 q.2
  ·obtain rfl:m=0:=by omega
   rw[vy (by omega),cond_false]
   rfl
omit h h' in
theorem zch {i side j:Int} (hj0:0<=j) (hj1:j<L'.length) (htop:jB a0 L' j=some false) (k:Nat) (c:Int) (st:List wF) :
  lp xf (k+1) (a0,a,b,c,i,side,j,1,L,T,C,L',T',C',st)=some (c,st):=by
 obtain⟨l,hg,-⟩:=WH hj0 hj1;rw[zr];generalize lp xf k=rec;unfold xf;simp only[hg,af];cases decide (1<((aa l.2:Nat):Int)) with
 | false=>rfl
 | true=>rw[cond_true,htop]; rfl
theorem FC {i side:Int} (hi:eqB L i false=true) (hs:side=0∨side=1) {js:List Int} (hjs:∀ j∈js,0<=j∧j<L'.length) (hjl:js.length<=1000) (u1 u2:List Int) (u3 u4 u5:Int):(es:List Int)->(n k:Nat)->js.drop n=es->es.length<k->(c:Int)->(st:List wF) ->
  lp um k (a0,a,b,u1,i,side,u2,u3,u4,u5,js,((aa js:Nat):Int),(n:Int),L,T,C,L',T',C',a0,c,st)=(jGo a0 L T C a b L' T' C' i side es c st).map fun q=>(a0,q.1,q.2)
 | _,_,0,_,hk,_,_=>by omega
 | [],n,k+1,hn,hk,c,st=>by
  rw[zr];generalize lp um k=rec;unfold um;simp only[vy (qG hn),cond_false];rfl
 | j::es,n,k+1,hn,hk,c,st=>by
  have hlt:=zL hn;obtain⟨hj0,hj1⟩:=hjs j (aM (zn hn));obtain⟨l,hg,-⟩:=WH hj0 hj1;have hr:vx L' j=l.2.length:=by unfold vx; rw[hg]
  have h48:l.2.length<=1000:=by
   have:=v9 (aF.1 (zF h').2.2.2.2.1 _ (kl hg));omega
  have ih:=FC hi hs hjs hjl u1 u2 u3 u4 u5 es (n+1) k (zi hn) (by simpa using hk)
  rw[zr];generalize lp um k=rec at ih ⊢;unfold um jGo;simp only[uj hlt,cond_true,qr,zn hn,af,hg,vZ hlt (show js.length<=maxLen by unfold maxLen; omega)]
  by_cases h1:1<l.2.length
  ·obtain⟨m,hm⟩:∃ m,vx L' j - 1=m+1:=⟨vx L' j - 2,by omega⟩
   rw[decide_eq_true (show (1:Int)<((aa l.2:Nat):Int) by omega),cond_true,hm]
   unfold RN;have hp:=K5 (a:=a) (b:=b) h h' hi hs hj0 hj1 (aE 1) (by omega) c st
   rw[show ((1:Nat):Int)=1 from rfl] at hp ⊢
   have e:∀ f:List zj×Int×List wF->Option (List zj×Int×List wF),((wu a0 L T C i side L' T' C' j 1).bind fun r18=>(zS 3 a i side b j 1 [] [] [] r18.1 r18.2.1 r18.2.2.2.2 r18.2.2.1 r18.2.2.2.1 a0 c st).bind f)=((wu a0 L T C i side L' T' C' j 1).bind fun r=>zS 3 a i side b j 1 [] [] [] r.1 r.2.1 r.2.2.2.2 r.2.2.1 r.2.2.2.1 a0 c st).bind f:=fun f=>by
    rw[bz]
   rw[e,hp,Xy,bz,VZ]
   congr 1
   funext q
   have:=L6 (a:=a) (b:=b) h h' hi hs hj0 hj1 u1 u2 u3 u4 u5 js ((aa js:Nat):Int) (n:Int) m 2 ze (by omega) (bW (show m<=1000 by omega) (by decide)) (by omega) q.1 q.2
   rw[show ((2:Nat):Int)=2 from rfl] at this
   rw[this,Xy,VZ]
   congr 1
   funext q
   exact ih q.1 q.2
  ·rw[decide_eq_false (show ¬(1:Int)<((aa l.2:Nat):Int) by omega),cond_false,show vx L' j - 1=0 by omega]
   exact ih c st
omit h in
theorem zaL {i side:Int}:(es:List zd)->(n k:Nat)->L'.drop n=es->es.length<k->(c:Int)->(st:List wF) ->
  lp wn k (a0,a,b,c,i,side,(n:Int),L,T,C,L',T',C',st)=jGo a0 L T C a b L' T' C' i side (zz a0 L' es n) c st
 | _,_,0,_,hk,_,_=>by omega
 | [],n,k+1,hn,hk,c,st=>by
  rw[zr];generalize lp wn k=rec;unfold wn;simp only[vy (qG hn),cond_false];rfl
 | l::es,n,k+1,hn,hk,c,st=>by
  have hlt:=zL hn;obtain⟨hsb,l1,-,-,l4,-⟩:=zF h';have hs:=tz hsb;have hL:∀ l∈L',qL a0 l.2=true:=fun l hl=>aF.1 l4 l hl;have hg:gx L' (n:Int)=some l:=by rw[qr]; exact zn hn
  have htop:=HO hs hg hL (by omega)
  have ih:=zaL (i:=i) (side:=side) es (n+1) k (zi hn) (by simpa using hk)
  rw[zr];generalize lp wn k=rec at ih ⊢;unfold wn zz;simp only[uj hlt,cond_true,vZ hlt (show L'.length<=maxLen by unfold maxLen; omega)]
  obtain⟨k',hf⟩:∃ k',ze=k'+1:=⟨ze - 1,rfl⟩;cases ho:Xr a0 L' l with
  | true =>
   rw[ho] at htop;rw[hf,zch (by omega) (by omega) htop,af,cond_true]
   exact ih c st
  | false =>
   rw[ho] at htop;have hr:vx L' (n:Int)=l.2.length:=by unfold vx; rw[hg]
   have h48:l.2.length<=1000:=by
    have:=v9 (hL _ (kl hg));omega
   have:=zab (a:=a) (b:=b) (L:=L) (T:=T) (C:=C) (i:=i) (side:=side) h' (show (0:Int)<=(n:Int) by omega) (by omega) htop (vx L' (n:Int) - 1) 1 ze rfl (bW (show vx L' (n:Int) - 1<=1000 by omega) (by decide)) c st
   rw[show ((1:Nat):Int)=1 from rfl] at this
   rw[this,cond_false];unfold jGo
   congr 1
   funext q
   exact ih q.1 q.2
omit h h' in
theorem BH:∀ j∈zz a0 L' L' 0,0<=j∧j<L'.length:=by
 intro j hj;obtain⟨n,l,h1,rfl,-⟩:=(Wi L' 0 j).1 hj;have:=(aq.1 h1).1;omega
theorem Or {i:Int} (hi:eqB L i false=true) (u2:List Int) (u3 u4:Int) (c:Int) (st:List wF) :
  lp rY ze (a0,a,b,zz a0 L' L' 0,i,u2,u3,u4,0,L,T,C,L',T',C',a0,c,st)=(Ji a0 L T C a b L' T' C' (zz a0 L' L' 0) i c st).map fun q=>(a0,q.1,q.2):=by
 obtain⟨k,hf⟩:∃ k,ze=k+1+1+1:=⟨ze - 3,rfl⟩;have l1:=(zF h').2.1;have hlen:=sO (a0:=a0) (L:=L') L' 0;have hfu:(zz a0 L' L' 0).length<ze:=bW (show _<=5 by omega) (by decide)
 rw[hf,zr,zr,zr];generalize lp rY k=rec;unfold rY Ji;have j0:=fun c st=>FC (a:=a) (b:=b) h h' hi (.inl rfl) BH (by omega) (zz a0 L' L' 0) u2 u3 u4 0 (zz a0 L' L' 0) 0 ze rfl hfu c st
 have j1:=fun c st=>FC (a:=a) (b:=b) h h' hi (.inr rfl) BH (by omega) (zz a0 L' L' 0) u2 u3 u4 1 (zz a0 L' L' 0) 0 ze rfl hfu c st
 rw[show ((0:Nat):Int)=0 from rfl] at j0 j1
 simp only[show decide ((0:Int)<2)=true from rfl,cond_true,j0,Xy,show ah .i64 ((0:Int)+1)=1 from rfl,show decide ((1:Int)<2)=true from rfl,j1,show ah .i64 ((1:Int)+1)=2 from rfl,show decide ((2:Int)<2)=false from rfl,cond_false]
 rw[VZ]
 congr 1
 funext q
 cases jGo a0 L T C a b L' T' C' i 1 (zz a0 L' L' 0) q.1 q.2<;>rfl
omit h in
theorem P1 {i:Int} (c:Int) (st:List wF) :
  lp v8 ze (a0,a,b,c,i,0,L,T,C,L',T',C',st)=Ji a0 L T C a b L' T' C' (zz a0 L' L' 0) i c st:=by
 obtain⟨k,hf⟩:∃ k,ze=k+1+1+1:=⟨ze - 3,rfl⟩;have l1:=(zF h').2.1;have hfu:L'.length<ze:=bW (show _<=5 by omega) (by decide)
 rw[hf,zr,zr,zr];generalize lp v8 k=rec;unfold v8 Ji;have j0:=fun c st=>zaL (a:=a) (b:=b) (L:=L) (T:=T) (C:=C) (i:=i) (side:=0) h' L' 0 ze rfl hfu c st;have j1:=fun c st=>zaL (a:=a) (b:=b) (L:=L) (T:=T) (C:=C) (i:=i) (side:=1) h' L' 0 ze rfl hfu c st;rw[show ((0:Nat):Int)=0 from rfl] at j0 j1
 simp only[show decide ((0:Int)<2)=true from rfl,cond_true,j0,show ah .i64 ((0:Int)+1)=1 from rfl,show decide ((1:Int)<2)=true from rfl,j1,show ah .i64 ((1:Int)+1)=2 from rfl,show decide ((2:Int)<2)=false from rfl,cond_false]
 congr 1
 funext q
 cases jGo a0 L T C a b L' T' C' i 1 (zz a0 L' L' 0) q.1 q.2<;>rfl
theorem U5 {is:List Int} (his:∀ i∈is,eqB L i false=true) (hil:is.length<=1000):(es:List Int)->(n k:Nat)->is.drop n=es->es.length<k->(c:Int)->(st:List wF) ->
  lp ug k (a0,a,b,zz a0 L' L' 0,is,((aa is:Nat):Int),(n:Int),L,T,C,L',T',C',a0,c,st)=(iGo a0 L T C a b L' T' C' (zz a0 L' L' 0) es c st).map fun q=>(a0,q.1,q.2)
 | _,_,0,_,hk,_,_=>by omega
 | [],n,k+1,hn,hk,c,st=>by
  rw[zr];generalize lp ug k=rec;unfold ug;simp only[vy (qG hn),cond_false];rfl
 | i::es,n,k+1,hn,hk,c,st=>by
  have hlt:=zL hn;have hi:=his i (aM (zn hn));have ih:=U5 his hil es (n+1) k (zi hn) (by simpa using hk)
  rw[zr];generalize lp ug k=rec at ih ⊢;unfold ug iGo;simp only[uj hlt,cond_true,qr,zn hn,af,vZ hlt (show is.length<=maxLen by unfold maxLen; omega),Or h h' hi,Xy,VZ]
  congr 1
  funext q
  exact ih q.1 q.2
theorem zdO:(es:List zd)->(n k:Nat)->L.drop n=es->es.length<k->(c:Int)->(st:List wF) ->
  lp wg k (a0,a,b,c,(n:Int),L,T,C,L',T',C',st)=iGo a0 L T C a b L' T' C' (zz a0 L' L' 0) ((zz a0 L es n).filter fun e=>eqB L e false) c st
 | _,_,0,_,hk,_,_=>by omega
 | [],n,k+1,hn,hk,c,st=>by
  rw[zr];generalize lp wg k=rec;unfold wg;simp only[vy (qG hn),cond_false];rfl
 | l::es,n,k+1,hn,hk,c,st=>by
  have hlt:=zL hn;obtain⟨hsb,l1,-,-,l4,-⟩:=zF h;have hs:=tz hsb;have hL:∀ l∈L,qL a0 l.2=true:=fun l hl=>aF.1 l4 l hl;have hg:gx L (n:Int)=some l:=by rw[qr]; exact zn hn
  have htop:=HO hs hg hL (by omega)
  have ih:=zdO es (n+1) k (zi hn) (by simpa using hk)
  rw[zr];generalize lp wg k=rec at ih ⊢;unfold wg;rw[show zz a0 L (l::es) n=cond (Xr a0 L l) (zz a0 L es (n+1)) ((n:Int)::zz a0 L es (n+1)) from rfl]
  simp only[uj hlt,cond_true,vZ hlt (show L.length<=maxLen by unfold maxLen; omega),xk hL,af,htop]
  cases he:eqB L (n:Int) false with
  | false =>
   rw[bJ,cond_true];cases Xr a0 L l with
   | true=>rw[cond_true]; exact ih c st
   | false=>rw[cond_false,cX (by simpa using he)]; exact ih c st
  | true =>
   rw[aA,cond_false,Bool.not_not];cases Xr a0 L l with
   | true=>rw[cond_true,cond_true]; exact ih c st
   | false =>
    rw[cond_false,cond_false,dr (by simpa using he),P1 h']
    unfold iGo
    congr 1
    funext q
    exact ih q.1 q.2
end
theorem XZ {a0:List zj} {L:List zd} {T:List jI} {C:List zd} {L':List zd} {T':List jI} {C':List zd} (h:tJ a0 L T C=true) (h':tJ a0 L' T' C'=true) (a b:Int) :
  uc a0 L T C a L' T' C' b=((iGo a0 L T C a b L' T' C' (zz a0 L' L' 0) ((zz a0 L L 0).filter fun e=>eqB L e false) 0 []).map fun q=>(q.1,0,q.2)) ∧
  ul a0 L T C a L' T' C' b=((iGo a0 L T C a b L' T' C' (zz a0 L' L' 0) ((zz a0 L L 0).filter fun e=>eqB L e false) 0 []).map fun q=>(q.1,0,q.2)):=by
 obtain⟨hsb,l1,-,-,l4,-⟩:=zF h;obtain⟨-,l1',-,-,l4',-⟩:=zF h';have hL:∀ l∈L,qL a0 l.2=true:=fun l hl=>aF.1 l4 l hl;have hL':∀ l∈L',qL a0 l.2=true:=fun l hl=>aF.1 l4' l hl;have hlen:=sO (a0:=a0) (L:=L) L 0;have hfl:=ei (fun e=>eqB L e false) (zz a0 L L 0);constructor
 ·unfold uc;rw[zX,h,af,aA,cond_false,zX,h',af,aA,cond_false,Lr hsb hL (by omega),af,Lr hsb hL' (by omega),af]
  simp only;rw[L9 hL T C (by omega),af]
  have:=U5 (a:=a) (b:=b) h h' (is:=(zz a0 L L 0).filter fun e=>eqB L e false) (fun i hi=>by simpa using (dB.1 hi).2) (by omega) ((zz a0 L L 0).filter fun e=>eqB L e false) 0 ze rfl (bW (show _<=5 by omega) (by decide)) 0 []
  rw[show ((0:Nat):Int)=0 from rfl] at this
  rw[this,Xy];generalize iGo a0 L T C a b L' T' C' (zz a0 L' L' 0) ((zz a0 L L 0).filter fun e=>eqB L e false) 0 []=o;cases o<;>rfl
 ·unfold ul;rw[zJ,h,af,aA,cond_false,zJ,h',af,aA,cond_false];have:=zdO (a:=a) (b:=b) h h' L 0 ze rfl (bW (show _<=5 by omega) (by decide)) 0 []
  rw[show ((0:Nat):Int)=0 from rfl] at this
  rw[this];generalize iGo a0 L T C a b L' T' C' (zz a0 L' L' 0) ((zz a0 L L 0).filter fun e=>eqB L e false) 0 []=o;cases o<;>rfl
theorem CN (a0:List zj) (L:List zd) (T:List jI) (C:List zd) (a:Int) (L':List zd) (T':List jI) (C':List zd) (b:Int):ul a0 L T C a L' T' C' b=uc a0 L T C a L' T' C' b:=by
 cases h:tJ a0 L T C with
 | false =>
  unfold ul uc;rw[zJ,zX,h];rfl
 | true =>
  cases h':tJ a0 L' T' C' with
  | false =>
   unfold ul uc;rw[zJ,zX,h,af,af,zJ,zX,h'];rfl
  | true=>exact (XZ h h' a b).2.trans (XZ h h' a b).1.symm
structure Inv (P:wF->Prop) (n:Nat) (q:Int×List wF):Prop where
 low:0<=q.1
 cnt:q.1<=(n:Int)
 len:q.2.length<=n
 all:∀ s∈q.2,P s
theorem Inv.more {P:wF->Prop} {n m:Nat} {q:Int×List wF} (h:Inv P n q) (hm:n<=m):Inv P m q:=⟨h.low,by have:=h.cnt; omega,by have:=h.len; omega,h.all⟩
theorem Pp {P:wF->Prop} {n:Nat} {sig:List zj} {c r a i s b j t:Int} {xL:List zd} {xT:List jI} {xC:List zd} {ok:Bool} {err:Int} {st:List wF} (hm:ok=true->err=0->tJ sig xL xT xC=true) (hP:ok=true->err=0->P (r,a,i,s,b,j,t,xL,xT,xC)) (h:Inv P n (c,st)) (hn:n<=100000) :
  ∃ q,vA sig c r a i s b j t xL xT xC ok err st=some q∧Inv P (n+1) q:=by
 obtain⟨h1,h2,h3,h4⟩:=h;simp only at h1 h2 h3 h4;unfold vA;by_cases he:err=0
 ·rw[show (err != 0)=false from by simp [he],cond_false]
  have keep:Inv P (n+1) (c,st):=⟨h1,by simp only; omega,by simp only; omega,h4⟩
  cases ok with
  | false=>exact ⟨_,rfl,keep⟩
  | true =>
   rw[cond_true,FK (hm rfl he),af];cases GY sig xL with
   | true=>exact ⟨_,rfl,keep⟩
   | false =>
    rw[bJ,cond_true,zp (show (aa st+([(r,a,i,s,b,j,t,xL,xT,xC)]:List wF).length)*128<=140737488351232 by simp; omega),cond_true]
    refine ⟨_,rfl,h1,by simp only; omega,by simp; omega,fun s hs => ?_⟩
    rcases aQ.1 hs with hs | hs
    ·exact h4 s hs
    ·rw[List.mem_singleton.1 hs]; exact hP rfl he
 ·rw[show (err != 0)=true from by simp [he],cond_true]
  have w:ah .i64 (c+1)=c+1:=by rw[zu]<;>omega
  rw[w];exact ⟨_,rfl,by simp only; omega,by simp only; omega,by simp only; omega,h4⟩
section
variable {a0:List zj} {L:List zd} {T:List jI} {C:List zd} {a b:Int} {L':List zd} {T':List jI} {C':List zd} (h:tJ a0 L T C=true) (h':tJ a0 L' T' C'=true)
 {P:wF->Prop} (hP:∀(i side j:Int) (at':Nat) (r:DA),eqB L i false=true->(side=0∨side=1)->0<=j->j<L'.length->1<=at'->at'<vx L' j->sy a0 L T C i side L' T' C' j (at':Int)=some r->r.2.2.1=true->r.2.2.2.1=0->tJ a0 r.1 r.2.1 r.2.2.2.2=true->Z3 r.1 r.2.1 r.2.2.2.2->P (3,a,i,side,b,j,(at':Int),r.1,r.2.1,r.2.2.2.2))
include h h' hP
omit h h' in
theorem Cj {i side j:Int} (hi:eqB L i false=true) (hs:side=0∨side=1) (hj0:0<=j) (hj1:j<L'.length):(m at' n:Nat)->1<=at'->at'+m<=vx L' j->n+m<=100000->(c:Int)->(st:List wF)->Inv P n (c,st) ->
  ∃ q,RN a0 L T C a b L' T' C' i side j m at' c st=some q∧Inv P (n+m) q
 | 0,_,_,_,_,_,_,_,hI=>⟨_,rfl,hI⟩
 | m+1,at',n,h1,h2,h3,c,st,hI=>by
  obtain⟨r,e1,e2,e3⟩:=(VF a0 L T C i side L' T' C' j (at':Int)).2;obtain⟨q,e4,e5⟩:=Pp (sig:=a0) (c:=c) (r:=3) (a:=a) (i:=i) (s:=side) (b:=b) (j:=j) (t:=(at':Int)) (xL:=r.1) (xT:=r.2.1) (xC:=r.2.2.2.2) (ok:=r.2.2.1) (err:=r.2.2.2.1) (st:=st) (P:=P) (n:=n) e3 (fun g1 g2=>hP i side j at' r hi hs hj0 hj1 h1 (by omega) e1 g1 g2 (e3 g1 g2) e2) hI (by omega)
  obtain⟨p,e6,e7⟩:=Cj hi hs hj0 hj1 m (at'+1) (n+1) (by omega) (by omega) (by omega) q.1 q.2 e5
  refine ⟨p,?_,by rw[show n+(m+1)=n+1+m by omega]; exact e7⟩
  unfold RN Lx;rw[e1,af,e4,af,e6]
omit h in
theorem DP {i side:Int} (hi:eqB L i false=true) (hs:side=0∨side=1):(js:List Int)->(∀ j∈js,0<=j∧j<L'.length)->(n:Nat)->n+49*js.length<=100000->(c:Int)->(st:List wF)->Inv P n (c,st) ->
  ∃ q,jGo a0 L T C a b L' T' C' i side js c st=some q∧Inv P (n+49*js.length) q
 | [],_,_,_,_,_,hI=>⟨_,rfl,hI⟩
 | j::js,hjs,n,hn,c,st,hI=>by
  simp only[aj] at hn ⊢;obtain⟨hj0,hj1⟩:=hjs j (ak ..);obtain⟨l,hg,-⟩:=WH hj0 hj1;have hr:vx L' j=l.2.length:=by unfold vx; rw[hg]
  have h48:=v9 (aF.1 (zF h').2.2.2.2.1 _ (kl hg));obtain⟨c0,hc0⟩:=W7 (aF.1 (zF h').2.2.2.2.1 _ (kl hg));have hpos:0<l.2.length:=by
   rw[qm] at hc0;exact (aq.1 hc0).1
  obtain⟨q,e1,e2⟩:=Cj hP hi hs hj0 hj1 (vx L' j - 1) 1 n (aE 1) (by omega) (by omega) c st hI
  obtain⟨p,e3,e4⟩:=DP hi hs js (fun j hj=>hjs j (ai _ hj)) (n+49) (by omega) q.1 q.2 (e2.more (by omega))
  refine ⟨p,?_,e4.more (by omega)⟩
  unfold jGo;rw[e1,af,e3]
omit h in
theorem MY {js:List Int} (hjs:∀ j∈js,0<=j∧j<L'.length) (hjl:js.length<=5):(is:List Int)->(∀ i∈is,eqB L i false=true)->(n:Nat)->n+490*is.length<=100000->(c:Int)->(st:List wF)->Inv P n (c,st) ->
  ∃ q,iGo a0 L T C a b L' T' C' js is c st=some q∧Inv P (n+490*is.length) q
 | [],_,_,_,_,_,hI=>⟨_,rfl,hI⟩
 | i::is,his,n,hn,c,st,hI=>by
  simp only[aj] at hn ⊢;have hi:=his i (ak ..);obtain⟨q,e1,e2⟩:=DP h' hP hi (.inl rfl) js hjs n (by omega) c st hI
  obtain⟨p,e3,e4⟩:=DP h' hP hi (.inr rfl) js hjs (n+245) (by omega) q.1 q.2 (e2.more (by omega))
  obtain⟨o,e5,e6⟩:=MY hjs hjl is (fun j hj=>his j (ai _ hj)) (n+490) (by omega) p.1 p.2 (e4.more (by omega))
  refine ⟨o,?_,e6.more (by omega)⟩
  unfold iGo Ji;rw[e1,af,e3,af,e5]
theorem DL:∃ q:Int×List wF,uc a0 L T C a L' T' C' b=some (q.1,0,q.2)∧Inv P 2450 q:=by
 have l1:=(zF h).2.1;have l1':=(zF h').2.1;have hlen:=sO (a0:=a0) (L:=L) L 0;have hlen':=sO (a0:=a0) (L:=L') L' 0;have hfl:=ei (fun e=>eqB L e false) (zz a0 L L 0);obtain⟨q,e1,e2⟩:=MY (a:=a) (b:=b) (L:=L) (T:=T) (C:=C) h' hP (js:=zz a0 L' L' 0) BH (by omega) ((zz a0 L L 0).filter fun e=>eqB L e false) (fun i hi=>by simpa using (dB.1 hi).2) 0 (by omega) 0 [] ⟨d5 0,d5 0,aE 0,fun _ h=>(nomatch h)⟩
 refine ⟨q,?_,e2.more (by omega)⟩
 rw[(XZ h h' a b).1,e1];rfl
end
theorem VG {a0:List zj} {L:List zd} {T:List jI} {C:List zd} {a b:Int} {L':List zd} {T':List jI} {C':List zd} (h:tJ a0 L T C=false∨tJ a0 L' T' C'=false):uc a0 L T C a L' T' C' b=some (0,1500,[]):=by
 unfold uc;rw[zX,af];cases g:tJ a0 L T C with
 | false=>rfl
 | true =>
  have h:=h.resolve_left (by rw[g]; exact fun h=>by cases h)
  rw[aA,cond_false,zX,h];rfl
theorem Gn (a0:List zj) (L:List zd) (T:List jI) (C:List zd) (a:Int) (L':List zd) (T':List jI) (C':List zd) (b:Int):∃ r,uc a0 L T C a L' T' C' b=some r∧vi r.2.2 r.2.2=some true:=by
 cases h:tJ a0 L T C with
 | false=>exact ⟨_,VG (.inl h),kC (by simp) (by simp)⟩
 | true =>
  cases h':tJ a0 L' T' C' with
  | false=>exact ⟨_,VG (.inr h'),kC (by simp) (by simp)⟩
  | true =>
   obtain⟨q,e1,e2⟩:=DL (a:=a) (b:=b) (P:=Ih) h h' fun _ _ _ _ _ _ _ _ _ _ _ _ _ _ _ hs=>hs;exact ⟨_,e1,kC e2.all (by have:=e2.len; unfold maxLen; show q.2.length<=_; omega)⟩
theorem KN:Qg=some true:=by kernel_rfl
theorem Qw (a0:List zj) (L:List zd) (T:List jI) (C:List zd) (a:Int) (L':List zd) (T':List jI) (C':List zd) (b:Int) (hc:qZ L T C=some (L,T,C)∧Z3 L T C) (hc':qZ L' T' C'=some (L',T',C')∧Z3 L' T' C') :
  xd a0 L T C a L' T' C' b=some true:=by
 unfold xd;have hnum:∀ k:Int,ku k=some k:=fun k=>rfl;obtain⟨r,e2,e3⟩:=Gn a0 L T C a L' T' C' b;have hs:=hc.2;have hs':=hc'.2;unfold Z3 at hs hs';rw[hc.1,af,hc'.1,af,CN,e2,af,af,e3,af];simp only[aA,cond_false,hnum,af,bne_self_eq_false,hs,hs',cond_true,KN]
section
variable (a0:List zj) (L:List zd) (T:List jI) (C:List zd) (a:Int)
variable {a0 L T C a} (h:tJ a0 L T C=true)
include h
end
theorem KK (x:List zj×List zd×List jI×List zd×Int×List zd×List jI×List zd×Int) (h:wtL [.sl Dz,.sl sR,.sl (.one (.sl (.one (.int .i64)))),.sl sR,.int .i64,.sl sR,.sl (.one (.sl (.one (.int .i64)))),.sl sR,.int .i64] x<=1048576) :
  xd x.1 x.2.1 x.2.2.1 x.2.2.2.1 x.2.2.2.2.1 x.2.2.2.2.2.1 x.2.2.2.2.2.2.1 x.2.2.2.2.2.2.2.1 x.2.2.2.2.2.2.2.2=some true:=by
 have h:Go.Abs.wt (.sl Dz) x.1+(Go.Abs.wt (.sl sR) x.2.1+(Go.Abs.wt (.sl (.one (.sl (.one (.int .i64))))) x.2.2.1+(Go.Abs.wt (.sl sR) x.2.2.2.1+(Go.Abs.wt (.int .i64) x.2.2.2.2.1+(Go.Abs.wt (.sl sR) x.2.2.2.2.2.1+(Go.Abs.wt (.sl (.one (.sl (.one (.int .i64))))) x.2.2.2.2.2.2.1+(Go.Abs.wt (.sl sR) x.2.2.2.2.2.2.2.1+Go.Abs.wt (.int .i64) x.2.2.2.2.2.2.2.2)))))))<=1048576:=h;exact Qw _ _ _ _ _ _ _ _ _ (F3 (by omega) (by omega) (by omega)) (F3 (by omega) (by omega) (by omega))
theorem B9 {m:Int} {nums:List Int} {env:Nat->Int}:(ts:List Tm)->Dx m nums env ts=ts.map (GM m nums env)
 | []=>rfl
 | t::ts=>by rw[Dx,B9 ts]; rfl
theorem RT.val {m:Int} {nums:List Int} {env:Nat->Int} {t u a b:Tm} (h:RT t u a b) (hv:GM m nums env t=GM m nums env u):GM m nums env a=GM m nums env b:=by
 induction h with
 | here=>exact hv
 | arg c l r h ih=>simp only[GM,B9,dC,aJ,ih]
theorem RR.val {m:Int} {nums:List Int} {env:Nat->Int} {t u:Tm} {ts us:List Tm} (h:RR t u ts us) (hv:GM m nums env t=GM m nums env u):Dx m nums env ts=Dx m nums env us:=by
 obtain⟨l,a,b,r,rfl,rfl,h⟩:=h;simp only[B9,dC,aJ,h.val hv]
section
variable {m:Nat} (hm:0<m) (hm3:m<=3) {nums:List Int} (hn:GS nums) {a0:List zj} (hs:SignOk a0)
include hm hm3 hn hs
end
end Go.Abs.Q
