import Derived.Test.YtleengbobccdkaaGreatDoorQb
/-
  What the functions make of plain values, and what the law says of that.
-/
namespace Go.Abs.Q
open Go Go.Abs
section
theorem TopV.unique {rs:List jI} {m m':Int} (h:TopV rs m) (h':TopV rs m') (h0:0≤m) (h0':0≤m'):m=m':=by
 have a:m'≤m:=by
  rcases h'.2 with e | e
  ·omega
  ·have:=h.1 _ e; omega
 have b:m≤m':=by
  rcases h.2 with e | e
  ·omega
  ·have:=h'.1 _ e; omega
 omega
def upB (b:Nat) (vs:List Nat):List (Int×List Int):=vs.map fun v:Nat=>((v:Int),[-1 - (v:Int) - (b:Int)])
theorem zmW {b:Nat} (hb:b≤24):(vs:List Nat)→(bs:List (Int×List Int))→(∀ v∈vs,v<24)→bs.length+vs.length≤1000→yL (b:Int) (vs.map fun v:Nat=>(v:Int)) bs=some (cond (vs.all fun v=>decide (v+b≤23)) (.inl (bs++upB b vs)) (.inr false))
 | [],bs,_,_=>by simp [yL,upB]
 | v::vs,bs,h,hl=>by
  have hv:=h v (List.mem_cons_self ..)
  simp only[List.length_cons] at hl
  rw[List.map_cons]
  unfold yL
  have w1:IntKind.wrap .i64 ((v:Int)+(b:Int))=(v:Int)+(b:Int):=by rw[zp]<;>omega
  have w2:IntKind.wrap .i64 ((-1) - (v:Int)) = -1 - (v:Int):=by rw[zp]<;>omega
  have w3:IntKind.wrap .i64 (-1 - (v:Int) - (b:Int)) = -1 - (v:Int) - (b:Int):=by rw[zp]<;>omega
  rw[w1,w2,w3,List.all_cons]
  by_cases hvb:v+b≤23
  ·rw[decide_eq_false (show ¬(v:Int)+(b:Int)>23 by omega),cond_false,zn (by simp; omega),cond_true,zmW hb vs _ (fun x hx=>h x (List.mem_cons_of_mem _ hx)) (by simp; omega),decide_eq_true hvb,Bool.true_and]
   simp [upB]
  ·rw[decide_eq_true (show (v:Int)+(b:Int)>23 by omega),cond_true,decide_eq_false hvb]
   rfl
theorem zlN {α β:Type} (f:α→β):(r:List α)→(g:α→List β)→(∀ c∈r,g c=[f c])→r.flatMap g=r.map f
 | [],_,_=>rfl
 | c::r,g,h=>by rw[List.flatMap_cons,h c (List.mem_cons_self ..),zlN f r g fun d hd=>h d (List.mem_cons_of_mem _ hd)]; rfl
theorem zrt (b:Nat) (v:Nat):(vs:List Nat)→v∈vs→zd3 (upB b vs) (v:Int)=some [-1 - (v:Int) - (b:Int)]
 | [],h=>(nomatch h)
 | w::vs,h=>by
  have ih:=zrt b v vs
  unfold zd3 upB at ih ⊢
  rw[List.map_cons,List.find?_cons]
  by_cases hw:w=v
  ·subst hw
   simp
  ·rw[show (((w:Nat):Int)==((v:Nat):Int))=false from by simp; omega]
   rcases List.mem_cons.1 h with h | h
   ·exact absurd h.symm hw
   ·exact ih h
theorem zx9 {b:Nat} {vs:List Nat} {r:List Int} (h:∀ x,zsC r x→0≤x∧x.toNat∈vs):onB (upB b vs) r=r.map (upC (b:Int)):=by
 unfold onB
 refine zlN _ r _ fun c hc => ?_
 unfold onC upC
 by_cases h0:c<0
 ·obtain⟨h1,h2⟩:=h (-1 - c) ⟨c,hc,h0,rfl⟩
  have:=zrt b (-1 - c).toNat vs h2
  rw[Int.toNat_of_nonneg h1] at this
  rw[decide_eq_false (show ¬ c≥0 by omega),cond_false,this,decide_eq_true h0,cond_true]
  show [_]=[_]
  congr 1
  omega
 ·rw[decide_eq_true (show c≥0 by omega),cond_true,decide_eq_false h0,cond_false]
theorem zEb (b:Nat) (vs:List Nat) (h:vs.length≤1000):BindsOk (upB b vs) where
 len:=by unfold upB; rw[List.length_map]; exact h
 all:=fun q hq=>by
  obtain⟨v,-,rfl⟩:=List.mem_map.1 hq
  exact ⟨by simp,by simp⟩
theorem zl2 {a0:List zi} (hs:SignOk a0) {L:List zc} {T:List jI} {C:List zc} (h:zc4 a0 L T C=true):L.length≤5∧T.length≤3∧C.length≤3∧zl (L.map (·.2))+zl T+zl (C.map (·.2))≤1000:=by
 obtain⟨-,h1,h2,h3,-,-,-,h7⟩:=zE h
 exact ⟨h1,h2,h3,by omega⟩
theorem zj7 {a0:List zi} (hs:SignOk a0) {L:List zc} {T:List jI} {C:List zc} {L':List zc} {T':List jI} {C':List zc} (h:zc4 a0 L T C=true) (h':zc4 a0 L' T' C'=true) {b:Nat} (hb:b≤24) (htop:TopV (yr L T C) (b:Int)) :
  (zeJ L T C L' T' C'=some ([],[],false,[])∧∃ x,zgA (yr L' T' C') x∧23<x+(b:Int)) ∨
  (zeJ L T C L' T' C'=some (zgN (b:Int) L',T'.map (List.map (upC (b:Int))),true,zgN (b:Int) C')∧∀ x,zgA (yr L' T' C') x→x+(b:Int)≤23):=by
 obtain⟨l1,l2,l3,l4⟩:=zl2 hs h
 obtain⟨m1,m2,m3,m4⟩:=zl2 hs h'
 have hcd:=znU hs h'
 have hwm:∀ x,x∈(zhS L T C).map (fun v:Nat=>(v:Int))↔zgA (yr L T C) x:=fun x=>by
  constructor
  ·intro hx
   obtain⟨v,hv,rfl⟩:=List.mem_map.1 hx
   exact (zja (ziI v hv)).1 hv
  ·intro hx
   have:=zgc h hx
   obtain⟨v,rfl⟩:∃ v:Nat,x=(v:Int):=⟨x.toNat,by omega⟩
   exact List.mem_map_of_mem ((zja (by omega)).2 hx)
 have hrise:Rise ((zhS L T C).map fun v:Nat=>(v:Int)):=by
  have h1:(zhS L T C).Pairwise (· < ·):=List.Pairwise.sublist List.filter_sublist List.pairwise_lt_range
  unfold Rise
  rw[List.pairwise_map]
  exact h1.imp fun h=>by omega
 have hv':∀ x,zgA (yr L' T' C') x→0≤x∧x.toNat∈zhS L' T' C':=fun x hx=>by
  have:=zgc h' hx
  refine ⟨this.1,(zja (by omega)).2 ?_⟩
  rw[Int.toNat_of_nonneg this.1]; exact hx
 have hvl:(zhS L' T' C').length≤24:=by
  have:=zny _ (List.range 24) (zlJ L' T' C') fun v hv=>List.mem_range.2 (ziI v hv)
  simpa using this
 -- the last part, whatever the way to it
 have fin:∀ o:Option (List zc×List jI×Bool×List zc),o=((lp zaT zd) ((b:Int),(zhS L' T' C').map (fun v:Nat=>(v:Int)),0,L',T',C',([]:List (Int×List Int)))).bind (fun r27=>yd r27 (fun z28=>(zdA z28 L' T' C').bind fun r29=>some (r29.1,r29.2.1,true,r29.2.2)) (fun z30=>some (([]:List zc),([]:List jI),z30,([]:List zc)))) →
   (o=some ([],[],false,[])∧∃ x,zgA (yr L' T' C') x∧23<x+(b:Int))∨(o=some (zgN (b:Int) L',T'.map (List.map (upC (b:Int))),true,zgN (b:Int) C')∧∀ x,zgA (yr L' T' C') x→x+(b:Int)≤23):=by
  intro o ho
  rw[ho,zgU _ _ _ _ _ _ (by rw[List.length_map]; unfold maxLen; omega),zmW hb _ [] ziI (by simp; omega)]
  cases ha:(zhS L' T' C').all fun v=>decide (v+b≤23) with
  | false =>
   refine .inl ⟨rfl,?_⟩
   obtain⟨v,hv,hvb⟩:=List.all_eq_false.1 ha
   have hvb:¬ v+b≤23:=by simpa using hvb
   exact ⟨(v:Int),(zja (ziI v hv)).1 hv,by omega⟩
  | true =>
   refine .inr ⟨?_,fun x hx => ?_⟩
   ·simp only[cond_true,Option.bind_some,zcH,List.nil_append]
    rw[zp7 (zEb b _ (by omega)) (fun l hl=>(hcd _ (zaI hl)).near) (fun l hl=>(hcd _ (zcz hl)).near) (fun l hl=>(hcd _ (zb2 hl)).near) (by omega) (by omega) (by omega),Option.bind_some]
    have eL:∀ ls:List zc,(∀ l∈ls,l.2∈yr L' T' C')→zmh (upB b (zhS L' T' C')) ls=zgN (b:Int) ls:=fun ls hls=>List.map_congr_left fun l hl=>by
     show (l.1,_)=(l.1,_)
     rw[zx9 fun x hx=>hv' x ⟨_,hls l hl,hx⟩]
    have eT:zsD (upB b (zhS L' T' C')) T'=T'.map (List.map (upC (b:Int))):=List.map_congr_left fun l hl=>zx9 fun x hx=>hv' x ⟨_,zcz hl,hx⟩
    rw[eL L' fun l hl=>zaI hl,eL C' fun l hl=>zb2 hl,eT]
   ·obtain⟨h1,h2⟩:=hv' x hx
    have:=List.all_eq_true.1 ha _ h2
    have:x.toNat+b≤23:=by simpa using this
    omega
 unfold zeJ
 rw[zfm (by omega) (by omega) (by omega) (by omega),Option.bind_some]
 rcases zu7 hrise hwm with ⟨h1,h2⟩ | ⟨x,h1,h2,h3⟩
 ·have e0:(b:Int)=0:=htop.unique h2 (by omega) (by omega)
  rw[h1]
  refine fin _ ?_
  rw[e0,show decide (((List.length ([]:List Int):Nat):Int)>0)=false from rfl,cond_false,zfm (by omega) (by omega) (by omega) (by omega),Option.bind_some]
 ·have hx0:0≤x:=by
   have:=(hwm x).1 (List.mem_of_getElem? h1)
   exact (zgc h this).1
  have hx24:=(zgc h ((hwm x).1 (List.mem_of_getElem? h1))).2
  have e0:(b:Int)=x+1:=htop.unique h3 (by omega) (by omega)
  refine fin _ ?_
  have hl24:((zhS L T C).map fun v:Nat=>(v:Int)).length≤24:=by
   have:=zny _ (List.range 24) (zlJ L T C) fun v hv=>List.mem_range.2 (ziI v hv)
   simpa using this
  generalize (zhS L T C).map (fun v:Nat=>(v:Int))=ws at h1 h2 hl24 ⊢
  have w1:IntKind.wrap .i64 (((List.length ws:Nat):Int) - 1)=((ws.length - 1:Nat):Int):=by rw[zp]<;>omega
  have w2:IntKind.wrap .i64 (x+1)=(b:Int):=by rw[zp]<;>omega
  rw[decide_eq_true (show ((List.length ws:Nat):Int)>0 by omega),cond_true,w1,yY (by omega),Option.bind_some,h1,Option.bind_some,zfm (by omega) (by omega) (by omega) (by omega),Option.bind_some,w2]
theorem zqK {α:Type} (xs:List α) {i:Nat} (h:i≤xs.length):zbV xs (some (i:Int)) none=some (xs.drop i):=by
 show slc xs (i:Int) (xs.length:Int)=some _
 unfold slc
 rw[decide_eq_true (show (0:Int)≤(i:Int) by omega),decide_eq_true (show (i:Int)≤(xs.length:Int) by omega),decide_eq_true (show (xs.length:Int)≤((xs.length:Nat):Int) by omega)]
 simp
theorem zkY {α:Type} (s:Nat):(es:List α)→(i:Nat)→s<i→zV (s:Int) es i=es
 | [],_,_=>rfl
 | e::es,i,h=>by
  show cond ((i:Int) != (s:Int)) (e::zV (s:Int) es (i+1)) (zV (s:Int) es (i+1))=_
  rw[show ((i:Int) != (s:Int))=true from by simp; omega,cond_true,zkY s es (i+1) (by omega)]
theorem zfV {α:Type} (s:Nat):(es:List α)→(i:Nat)→i≤s→s<i+es.length→zV (s:Int) es i=es.take (s - i)++es.drop (s - i+1)
 | [],i,h,h2=>by simp at h2; omega
 | e::es,i,h,h2=>by
  show cond ((i:Int) != (s:Int)) (e::zV (s:Int) es (i+1)) (zV (s:Int) es (i+1))=_
  simp only[List.length_cons] at h2
  by_cases he:i=s
  ·subst he
   rw[show ((i:Int) != (i:Int))=false from by simp,cond_false,zkY i es (i+1) (by omega)]
   simp
  ·rw[show ((i:Int) != (s:Int))=true from by simp; omega,cond_true,zfV s es (i+1) (by omega) (by omega)]
   rw[show s - i=(s - (i+1))+1 from by omega]
   rfl
theorem zoi {L:List zc} {i:Int} (h:qX L i=true) (hl:L.length≤1000):zea L i=some (zV i L 0):=by
 unfold qX at h
 simp only[Bool.and_eq_true,decide_eq_true_eq] at h
 obtain⟨k,rfl⟩:∃ k:Nat,i=(k:Int):=⟨i.toNat,by omega⟩
 have w1:IntKind.wrap .i64 ((k:Int)+1)=((k+1:Nat):Int):=by rw[zp]<;>omega
 unfold zea
 rw[w1,znL L (by omega),Option.bind_some,zn (by simp; omega),cond_true,zqK L (by omega),Option.bind_some,zn (by simp; omega),cond_true,zfV k L 0 (by omega) (by omega)]
 simp
theorem zxx {σ:Sb} (hsh:zap σ (List.range 24)=true) {L:List zc} {T:List jI} {C:List zc} (hL:∀ l∈L,Cds l.2) (hT:∀ r∈T,Cds r) (hC:∀ l∈C,Cds l.2) (h1:L.length≤1000) (h2:T.length≤1000) (h3:C.length≤1000) :
  zdA (zdW σ) L T C=some (zcD σ L,T.map (zdo σ),zcD σ C):=by
 rw[zp7 (zhN hsh) (fun l hl=>(hL l hl).near) (fun r hr=>(hT r hr).near) (fun l hl=>(hC l hl).near) h1 h2 h3,
  zkD fun l hl c hc=>((hL l hl).2 c hc).1,zkD fun l hl c hc=>((hC l hl).2 c hc).1,zq0 fun r hr c hc=>((hT r hr).2 c hc).1]
theorem zsF {a0:List zi} {σ:Sb} (hs:SignOk a0) (hsh:zap σ (List.range 24)=true) {L:List zc} {T:List jI} {C:List zc} (hL:∀ l∈L,Cds l.2) (hT:∀ r∈T,Cds r) (hC:∀ l∈C,Cds l.2) (h1:L.length≤1000) (h2:T.length≤1000) (h3:C.length≤1000) (k:Int) :
  ((zhx a0 (zdW σ) L T C).bind fun r40=>cond (!r40.2.2.1) (zcE k) (some (r40.1,r40.2.1,true,(0:Int),r40.2.2.2)))=zmJ a0 σ L T C k:=by
 unfold zhx zmJ
 rw[zxx hsh hL hT hC h1 h2 h3,Option.bind_some]
 simp only
 rw[z1,Option.bind_some]
 cases hm:zc4 a0 (zcD σ L) (T.map (zdo σ)) (zcD σ C) with
 | false=>rfl
 | true =>
  obtain⟨l1,l2,l3,l4⟩:=zl2 hs hm
  rw[Bool.not_true,cond_false,zAQ (znU hs hm) (by omega) (by omega) (by omega) l4]
  rfl
end
end Go.Abs.Q
namespace Go.Abs.Q
open Go Go.Abs
section
theorem zhL (L:List zc) (T:List jI) (C:List zc) (i:Int):zf7 L T C i=some (qX L i):=by
 unfold zf7 qX
 by_cases h:i≥0
 ·rw[decide_eq_true h,cond_true,Bool.true_and]
 ·rw[decide_eq_false h,cond_false,Bool.false_and]
end
end Go.Abs.Q
namespace Go.Abs.Q
open Go Go.Abs
def zcX (rec:(jS×jI×Int×Int)→Option Int) (x:(jS×jI×Int×Int)):Option Int :=
 cond (decide (x.2.2.2<((List.length x.2.1:Nat):Int)))
 ((gx x.2.1 x.2.2.2).bind fun e4 =>
  cond (decide (e4<0))
  (rec (x.1,x.2.1,(IntKind.wrap .i64 (x.2.2.1+1)),(IntKind.wrap .i64 (x.2.2.2+1))))
  ((gx x.2.1 x.2.2.2).bind fun e5 =>
   (gx x.1 e5).bind fun e6 =>
   rec (x.1,x.2.1,(IntKind.wrap .i64 (x.2.2.1+e6.2.2.2)),(IntKind.wrap .i64 (x.2.2.2+1)))))
 (some x.2.2.1)
def zhB (a0:jS) (a1:jI):Option Int :=
 ((lp zcX zd) (a0,a1,0,0)).bind fun r8 =>
 some r8
def zc3 (rec:(jI×jI×Int×Int×Int)→Option Int) (x:(jI×jI×Int×Int×Int)):Option Int :=
 cond (decide (x.2.2.2.2<((List.length x.2.1:Nat):Int)))
 ((gx x.2.1 x.2.2.2.2).bind fun e5 =>
  cond (e5==(IntKind.wrap .i64 ((-1) - x.2.2.1)))
  (rec (x.1,x.2.1,x.2.2.1,(IntKind.wrap .i64 (x.2.2.2.1 - 1)),(IntKind.wrap .i64 (x.2.2.2.2+1))))
  (rec (x.1,x.2.1,x.2.2.1,x.2.2.2.1,(IntKind.wrap .i64 (x.2.2.2.2+1)))))
 (some x.2.2.2.1)
def zcR (rec:(jI×jI×Int×Int×Int)→Option Int) (x:(jI×jI×Int×Int×Int)):Option Int :=
 cond (decide (x.2.2.2.2<((List.length x.1:Nat):Int)))
 ((gx x.1 x.2.2.2.2).bind fun e2 =>
  cond (e2==(IntKind.wrap .i64 ((-1) - x.2.2.1)))
  (rec (x.1,x.2.1,x.2.2.1,(IntKind.wrap .i64 (x.2.2.2.1+1)),(IntKind.wrap .i64 (x.2.2.2.2+1))))
  (rec (x.1,x.2.1,x.2.2.1,x.2.2.2.1,(IntKind.wrap .i64 (x.2.2.2.2+1)))))
 (some x.2.2.2.1)
def zbY (rec:(jI×jI×Int)→Option (Unit⊕Bool)) (x:(jI×jI×Int)):Option (Unit⊕Bool) :=
 cond (decide (x.2.2≤23))
 (((lp zcR zd) (x.1,x.2.1,x.2.2,0,0)).bind fun r7 =>
  ((lp zc3 zd) (x.1,x.2.1,x.2.2,r7,0)).bind fun r8 =>
  cond (decide (r8<0))
  (some (Sum.inr false))
  (rec (x.1,x.2.1,(IntKind.wrap .i64 (x.2.2+1)))))
 (some (Sum.inl ()))
def zjp (a0:jI) (a1:jI):Option Bool :=
 ((lp zbY zd) (a0,a1,0)).bind fun r12 =>
 yd r12
 (fun z13=>some true)
 (fun z14=>some z14)
def zdQ (rf:((jS×jI×jI)→Option Bool)) (rec:(jS×jR×jR×Int)→Option (Unit⊕Bool)) (x:(jS×jR×jR×Int)):Option (Unit⊕Bool) :=
 cond (decide (x.2.2.2<((List.length x.2.1:Nat):Int)))
 ((gx x.2.1 x.2.2.2).bind fun e20 =>
  (gx x.2.2.1 x.2.2.2).bind fun e21 =>
  (zaD e20 e21).bind fun r22 =>
  cond (!r22)
  ((gx x.2.1 x.2.2.2).bind fun e23 =>
   (gx x.2.2.1 x.2.2.2).bind fun e24 =>
   (rf (x.1,e23,e24)).bind fun r25 =>
   some (Sum.inr r25))
  (rec (x.1,x.2.1,x.2.2.1,(IntKind.wrap .i64 (x.2.2.2+1)))))
 (some (Sum.inl ()))
def zie (rf:((jS×jI×jI)→Option Bool)) (a0:jS) (a1:jI) (a2:jI):Option Bool :=
 (zhB a0 a1).bind fun r29 =>
 (zhB a0 a2).bind fun r30 =>
 (zjp a1 a2).bind fun r31 =>
 cond (!r31)
 (some false)
 (cond (decide (r29<r30))
  (some false)
  (cond (decide (r29>r30))
   (cond (decide (r29>r30))
    (some true)
    ((gx a1 0).bind fun e32 =>
     (gx a2 0).bind fun e33 =>
     some (decide (e32>e33))))
   ((gx a1 0).bind fun e34 =>
    (gx a2 0).bind fun e35 =>
    cond (e34 != e35)
    (cond (decide (r29>r30))
     (some true)
     ((gx a1 0).bind fun e36 =>
      (gx a2 0).bind fun e37 =>
      some (decide (e36>e37))))
    ((zbV a1 (some 1) none).bind fun y38 =>
     (zN a0 y38).bind fun r39 =>
     (zbV a2 (some 1) none).bind fun y40 =>
     (zN a0 y40).bind fun r41 =>
     ((lp (zdQ rf) zd) (a0,r39,r41,0)).bind fun r42 =>
     yd r42
     (fun z43=>some false)
     (fun z44=>some z44)))))
def zku (rf:((jS×jI×jI)→Option Bool)):((jS×jI×jI)→Option Bool) :=
 fun (x:(jS×jI×jI))=>zie rf x.1 x.2.1 x.2.2
def zkp:((jS×jI×jI)→Option Bool):=fun _=>none
def zik (k:Nat):((jS×jI×jI)→Option Bool):=lpR zkp zku k
def zkZ (a0:jS) (a1:jI) (a2:jI):Option Bool:=(zik zd) (a0,a1,a2)
def zcu (a0:jS) (a1:jI) (a2:jI):Option Int :=
 (zaD a1 a2).bind fun r4 =>
 cond r4
 (some 1)
 ((zkZ a0 a1 a2).bind fun r5 =>
  cond r5
  (some 2)
  ((zkZ a0 a2 a1).bind fun r6 =>
   cond r6
   (some 0)
   (some 3)))
def zfG (a0:jS) (a1:Bool) (a2:jI) (a3:Bool) (a4:jI):Option Int :=
 (zcu a0 a2 a4).bind fun r2 =>
 cond (r2 != 1)
 (some r2)
 (cond (a1==a3)
  (some r2)
  (cond a1
   (some 2)
   (some 0)))
def zeX (rec:(jS×jQ×Int×Int)→Option (Unit⊕Bool)) (x:(jS×jQ×Int×Int)):Option (Unit⊕Bool) :=
 cond (decide (x.2.2.2<((List.length x.2.1:Nat):Int)))
 ((gx x.2.1 x.2.2.2).bind fun e4 =>
  (gx x.2.1 x.2.2.1).bind fun e5 =>
  (zfG x.1 e4.1 e4.2 e5.1 e5.2).bind fun r6 =>
  cond (r6==2)
  (some (Sum.inr false))
  (rec (x.1,x.2.1,x.2.2.1,(IntKind.wrap .i64 (x.2.2.2+1)))))
 (some (Sum.inl ()))
def zhC (a0:jS) (a1:jQ) (a2:Int):Option Bool :=
 ((lp zeX zd) (a0,a1,a2,0)).bind fun r10 =>
 yd r10
 (fun z11=>some true)
 (fun z12=>some z12)
def qD (rec:(jS×Int×jI×Int×jQ×jR×jQ)→Option (Unit⊕Bool)) (x:(jS×Int×jI×Int×jQ×jR×jQ)):Option (Unit⊕Bool) :=
 cond (decide (x.2.2.2.1<x.2.1))
 ((gx x.2.2.2.2.1 x.2.2.2.1).bind fun e15 =>
  (gx x.2.2.2.2.1 x.2.1).bind fun e16 =>
  cond (!(e15.1==e16.1))
  ((gx x.2.2.2.2.1 x.2.2.2.1).bind fun e17 =>
   (zaD e17.2 x.2.2.1).bind fun r18 =>
   cond r18
   (some (Sum.inr true))
   (rec (x.1,x.2.1,x.2.2.1,(IntKind.wrap .i64 (x.2.2.2.1+1)),x.2.2.2.2.1,x.2.2.2.2.2.1,x.2.2.2.2.2.2)))
  (rec (x.1,x.2.1,x.2.2.1,(IntKind.wrap .i64 (x.2.2.2.1+1)),x.2.2.2.2.1,x.2.2.2.2.2.1,x.2.2.2.2.2.2)))
 (some (Sum.inl ()))
def zdR (rec:(jS×Int×jQ×jR×jQ)→Option (Unit⊕Bool)) (x:(jS×Int×jQ×jR×jQ)):Option (Unit⊕Bool) :=
 cond (decide (x.2.1<((List.length x.2.2.1:Nat):Int)))
 ((gx x.2.2.1 x.2.1).bind fun e28 =>
  (gx x.2.2.1 x.2.1).bind fun e29 =>
  cond (!e29.1)
  ((gx e28.2 0).bind fun e30 =>
   cond (e30==0)
   ((zbV e28.2 (some 1) none).bind fun y31 =>
    (zN x.1 y31).bind fun r32 =>
    (inR 0 (List.length r32)).bind fun k33 =>
    (r32[k33]?).bind fun x34 =>
    (inR 1 (List.length r32)).bind fun k35 =>
    (r32[k35]?).bind fun x36 =>
    (zaD x34 x36).bind fun r37 =>
    cond r37
    (some (Sum.inr true))
    (((lp qD zd) (x.1,x.2.1,e28.2,0,x.2.2.1,x.2.2.2.1,x.2.2.2.2)).bind fun r38 =>
     yd r38
     (fun z39=>rec (x.1,(IntKind.wrap .i64 (x.2.1+1)),x.2.2.1,x.2.2.2.1,x.2.2.2.2))
     (fun z40=>some (Sum.inr z40))))
   (((lp qD zd) (x.1,x.2.1,e28.2,0,x.2.2.1,x.2.2.2.1,x.2.2.2.2)).bind fun r41 =>
    yd r41
    (fun z42=>rec (x.1,(IntKind.wrap .i64 (x.2.1+1)),x.2.2.1,x.2.2.2.1,x.2.2.2.2))
    (fun z43=>some (Sum.inr z43))))
  (((lp qD zd) (x.1,x.2.1,e28.2,0,x.2.2.1,x.2.2.2.1,x.2.2.2.2)).bind fun r44 =>
   yd r44
   (fun z45=>rec (x.1,(IntKind.wrap .i64 (x.2.1+1)),x.2.2.1,x.2.2.2.1,x.2.2.2.2))
   (fun z46=>some (Sum.inr z46))))
 (some (Sum.inl ()))
def zls (a0:jS) (a1:jQ) (a2:jR) (a3:jQ):Option Bool :=
 ((lp zdR zd) (a0,0,a1,a2,a3)).bind fun r50 =>
 yd r50
 (fun z51=>some false)
 (fun z52=>some z52)
def zct (a0:jS) (a1:Int) (a2:Int) (a3:Int) (a4:Int) (a5:Int) (a6:Int) (a7:Int) (a8:Int) (a9:jQ) (a10:jR) (a11:jQ) (a12:Bool) (a13:Int) (a14:jT):Option (Int×jT) :=
 cond (a13 != 0)
 (some ((IntKind.wrap .i64 (a1+1)),a14))
 (cond a12
  ((zls a0 a9 a10 a11).bind fun r2 =>
   cond (!r2)
   (cond (yQ (List.length a14+List.length ([(a2,a3,a4,a5,a6,a7,a8,a9,a10,a11)]:List jU)) 128)
    (some (a1,(a14++([(a2,a3,a4,a5,a6,a7,a8,a9,a10,a11)]:List jU))))
    (none))
   (some (a1,a14)))
  (some (a1,a14)))
end Go.Abs.Q
namespace Go.Abs.Q
open Go Go.Abs
def ql (s0:jS):List Int→Int→Option Int
 | [],s2=>some s2
 | e::es,s2 =>
  cond (decide (e<0))
  (ql s0 es (IntKind.wrap .i64 (s2+1)))
  ((gx s0 e).bind fun e6 =>
   ql s0 es (IntKind.wrap .i64 (s2+e6.2.2.2)))
theorem zhR (s0:jS) (s1:jI) (s2:Int) (hl:List.length s1≤maxLen):lp zcX zd (s0,s1,s2,0)=ql s0 s1 s2:=zaJ zcX (fun i s2=>(s0,s1,s2,i)) (fun es i s2=>ql s0 es s2) hl (fun r i s2 h=>by unfold zcX ql; simp only[h,cond_false]) (fun r i s2 e es h g w k=>by unfold zcX ql; simp only[h,cond_true,g,Option.bind_some,w,k]) s2
def yF (s2:Int):List Int→Int→Option Int
 | [],s3=>some s3
 | e::es,s3 =>
  cond (e==(IntKind.wrap .i64 ((-1) - s2)))
  (yF s2 es (IntKind.wrap .i64 (s3 - 1)))
  (yF s2 es s3)
theorem zhU (s0:jI) (s1:jI) (s2:Int) (s3:Int) (hl:List.length s1≤maxLen):lp zc3 zd (s0,s1,s2,s3,0)=yF s2 s1 s3:=zaJ zc3 (fun i s3=>(s0,s1,s2,s3,i)) (fun es i s3=>yF s2 es s3) hl (fun r i s3 h=>by unfold zc3 yF; simp only[h,cond_false]) (fun r i s3 e es h g w k=>by unfold zc3 yF; simp only[h,cond_true,g,Option.bind_some,w,k]) s3
def yD (s2:Int):List Int→Int→Option Int
 | [],s3=>some s3
 | e::es,s3 =>
  cond (e==(IntKind.wrap .i64 ((-1) - s2)))
  (yD s2 es (IntKind.wrap .i64 (s3+1)))
  (yD s2 es s3)
theorem zhQ (s0:jI) (s1:jI) (s2:Int) (s3:Int) (hl:List.length s0≤maxLen):lp zcR zd (s0,s1,s2,s3,0)=yD s2 s0 s3:=zaJ zcR (fun i s3=>(s0,s1,s2,s3,i)) (fun es i s3=>yD s2 es s3) hl (fun r i s3 h=>by unfold zcR yD; simp only[h,cond_false]) (fun r i s3 e es h g w k=>by unfold zcR yD; simp only[h,cond_true,g,Option.bind_some,w,k]) s3
def zad (rf:((jS×jI×jI)→Option Bool)) (s0:jS) (s2:jR):List jI→Nat→Option (Unit⊕Bool)
 | [],i=>some (Sum.inl ())
 | e::es,i =>
  (gx s2 (i:Int)).bind fun e21 =>
  (zaD e e21).bind fun r22 =>
  cond (!r22)
  ((gx s2 (i:Int)).bind fun e24 =>
   (rf (s0,e,e24)).bind fun r25 =>
   some (Sum.inr r25))
  (zad rf s0 s2 es (i+1))
theorem zis (rf:((jS×jI×jI)→Option Bool)) (s0:jS) (s1:jR) (s2:jR) (hl:List.length s1≤maxLen):lp (zdQ rf) zd (s0,s1,s2,0)=zad rf s0 s2 s1 0:=zdC (zdQ rf) (fun i=>(s0,s1,s2,i)) (fun es i=>zad rf s0 s2 es i) hl (fun r i h=>by unfold zdQ zad; simp only[h,cond_false]) (fun r i e es h g w k=>by unfold zdQ zad; simp only[h,cond_true,g,Option.bind_some,w,k])
def zaU (s0:jS) (s1:jQ) (s2:Int):List zc→Option (Unit⊕Bool)
 | []=>some (Sum.inl ())
 | e::es =>
  (gx s1 s2).bind fun e5 =>
  (zfG s0 e.1 e.2 e5.1 e5.2).bind fun r6 =>
  cond (r6==2)
  (some (Sum.inr false))
  (zaU s0 s1 s2 es)
theorem ziY (s0:jS) (s1:jQ) (s2:Int) (hl:List.length s1≤maxLen):lp zeX zd (s0,s1,s2,0)=zaU s0 s1 s2 s1:=zdC zeX (fun i=>(s0,s1,s2,i)) (fun es i=>zaU s0 s1 s2 es) hl (fun r i h=>by unfold zeX zaU; simp only[h,cond_false]) (fun r i e es h g w k=>by unfold zeX zaU; simp only[h,cond_true,g,Option.bind_some,w,k])
def qi (s0:jS) (s2:jQ) (s3:jR) (s4:jQ):List zc→Nat→Option (Unit⊕Bool)
 | [],i=>some (Sum.inl ())
 | e::es,i =>
  cond (!e.1)
  ((gx e.2 0).bind fun e30 =>
   cond (e30==0)
   ((zbV e.2 (some 1) none).bind fun y31 =>
    (zN s0 y31).bind fun r32 =>
    (inR 0 (List.length r32)).bind fun k33 =>
    (r32[k33]?).bind fun x34 =>
    (inR 1 (List.length r32)).bind fun k35 =>
    (r32[k35]?).bind fun x36 =>
    (zaD x34 x36).bind fun r37 =>
    cond r37
    (some (Sum.inr true))
    (((lp qD zd) (s0,(i:Int),e.2,0,s2,s3,s4)).bind fun r38 =>
     yd r38
     (fun z39=>qi s0 s2 s3 s4 es (i+1))
     (fun z40=>some (Sum.inr z40))))
   (((lp qD zd) (s0,(i:Int),e.2,0,s2,s3,s4)).bind fun r41 =>
    yd r41
    (fun z42=>qi s0 s2 s3 s4 es (i+1))
    (fun z43=>some (Sum.inr z43))))
  (((lp qD zd) (s0,(i:Int),e.2,0,s2,s3,s4)).bind fun r44 =>
   yd r44
   (fun z45=>qi s0 s2 s3 s4 es (i+1))
   (fun z46=>some (Sum.inr z46)))
theorem ziC (s0:jS) (s2:jQ) (s3:jR) (s4:jQ) (hl:List.length s2≤maxLen):lp zdR zd (s0,0,s2,s3,s4)=qi s0 s2 s3 s4 s2 0:=zdC zdR (fun i=>(s0,i,s2,s3,s4)) (fun es i=>qi s0 s2 s3 s4 es i) hl (fun r i h=>by unfold zdR qi; simp only[h,cond_false]) (fun r i e es h g w k=>by unfold zdR qi; simp only[h,cond_true,g,Option.bind_some,w,k])
end Go.Abs.Q
namespace Go.Abs.Q
open Go Go.Abs
section
end
end Go.Abs.Q
namespace Go.Abs.Q
open Go Go.Abs
section
theorem znF (a0:List zi):(es:List Int)→(s:Int)→ql a0 es s=y8 a0 es s
 | [],_=>rfl
 | e::es,s=>by
  unfold ql y8
  rw[znF a0 es]
  congr 1
  congr 1
  funext e6
  exact znF a0 es _
theorem zrw (a0:List zi) {r:List Int} (h:r.length≤1000000):zhB a0 r=zgt a0 r:=by
 unfold zhB zgt
 rw[zhR _ _ _ (by unfold maxLen; omega),ze5 _ _ _ (by unfold maxLen; omega),znF]
def zi5 (r:List Int) (v:Nat):Nat:=r.count (-1 - (v:Int))
theorem zvy (r:List Int) (v:Nat):zi5 r v≤r.length:=List.count_le_length
theorem zi6 (c:Int) (r:List Int) (v:Nat):zi5 (c::r) v=zi5 r v+cond (c == -1 - (v:Int)) 1 0:=by
 unfold zi5
 rw[List.count_cons]
 cases c == -1 - (v:Int)<;>rfl
theorem znS {v:Nat} (hv:v<24):(es:List Int)→(s:Int) → -1000000000≤s→s+es.length≤1000000000→yD (v:Int) es s=some (s+(zi5 es v:Int))
 | [],s,_,_=>by simp [yD,zi5]
 | e::es,s,h0,h1=>by
  simp only[List.length_cons] at h1
  unfold yD
  have w1:IntKind.wrap .i64 ((-1) - (v:Int)) = -1 - (v:Int):=by rw[zp]<;>omega
  have w2:IntKind.wrap .i64 (s+1)=s+1:=by rw[zp]<;>omega
  rw[w1,w2,zi6]
  cases e == -1 - (v:Int) with
  | true=>rw[cond_true,cond_true,znS hv es _ (by omega) (by omega)]; congr 1; omega
  | false=>rw[cond_false,cond_false,znS hv es _ (by omega) (by omega)]; congr 1
theorem znq {v:Nat} (hv:v<24):(es:List Int)→(s:Int) → -1000000000≤s - es.length→s≤1000000000→yF (v:Int) es s=some (s - (zi5 es v:Int))
 | [],s,_,_=>by simp [yF,zi5]
 | e::es,s,h0,h1=>by
  simp only[List.length_cons] at h0
  unfold yF
  have w1:IntKind.wrap .i64 ((-1) - (v:Int)) = -1 - (v:Int):=by rw[zp]<;>omega
  have w2:IntKind.wrap .i64 (s - 1)=s - 1:=by rw[zp]<;>omega
  rw[w1,w2,zi6]
  cases e == -1 - (v:Int) with
  | true=>rw[cond_true,cond_true,znq hv es _ (by omega) (by omega)]; congr 1; omega
  | false=>rw[cond_false,cond_false,znq hv es _ (by omega) (by omega)]; congr 1
def ziV (a b:List Int) (vs:List Nat):Bool:=vs.all fun v=>decide (zi5 b v≤zi5 a v)
theorem zxV {a b:List Int} (ha:a.length≤1000000) (hb:b.length≤1000000):∀(m v k:Nat),24 - v=m→v≤24→m<k→lp zbY k (a,b,(v:Int))=some (cond (ziV a b ((List.range 24).drop v)) (.inl ()) (.inr false)):=by
 intro m
 induction m with
 | zero =>
  intro v k hm hv hk
  obtain⟨k,rfl⟩:∃ k',k=k'+1:=⟨k - 1,by omega⟩
  rw[zm]
  generalize lp zbY k=rec
  unfold zbY
  have:v=24:=by omega
  subst this
  rw[show (List.range 24).drop 24=[] from rfl]
  rfl
 | succ m ih =>
  intro v k hm hv hk
  obtain⟨k,rfl⟩:∃ k',k=k'+1:=⟨k - 1,by omega⟩
  rw[zm]
  have key:=ih (v+1) k (by omega) (by omega) (by omega)
  generalize lp zbY k=rec at key ⊢
  unfold zbY
  have w1:IntKind.wrap .i64 ((v:Int)+1)=((v+1:Nat):Int):=by rw[zp]<;>omega
  have hdr:(List.range 24).drop v=v::(List.range 24).drop (v+1):=by
   rw[List.drop_eq_getElem_cons (by simp; omega)]
   simp
  have hca:=zvy a v
  have hcb:=zvy b v
  simp only[decide_eq_true (show (v:Int)≤23 by omega),cond_true,w1]
  rw[zhQ _ _ _ _ (by unfold maxLen; omega),znS (by omega) a 0 (by omega) (by omega),Option.bind_some,zhU _ _ _ _ (by unfold maxLen; omega),znq (by omega) b _ (by omega) (by omega),Option.bind_some,key,hdr]
  unfold ziV
  rw[List.all_cons]
  by_cases hc:zi5 b v≤zi5 a v
  ·rw[decide_eq_false (show ¬(0+(zi5 a v:Int) - (zi5 b v:Int)<0) by omega),cond_false,decide_eq_true hc,Bool.true_and]
  ·rw[decide_eq_true (show 0+(zi5 a v:Int) - (zi5 b v:Int)<0 by omega),cond_true,decide_eq_false hc,Bool.false_and,cond_false]
theorem zxd {a b:List Int} (ha:a.length≤1000000) (hb:b.length≤1000000):zjp a b=some (ziV a b (List.range 24)):=by
 unfold zjp
 have:=zxV ha hb 24 0 zd rfl (by omega) (by unfold zd; omega)
 rw[show ((0:Nat):Int)=0 from rfl,List.drop_zero] at this
 rw[this]
 cases ziV a b (List.range 24)<;>rfl
theorem znu:(es:List Int)→(xs:List Int)→(∀ c∈es,-24≤c)→xs.length=24→(∀ v,v<24→0≤xs.getD v 0∧xs.getD v 0+es.length≤1000000000)→∃ ys,yX es xs=some ys∧ys.length=24∧∀ v,v<24→ys.getD v 0=xs.getD v 0+(zi5 es v:Int)
 | [],xs,_,hl,_=>⟨xs,rfl,hl,fun v _=>by simp [zi5]⟩
 | c::es,xs,hc,hl,hb=>by
  have hc0:=hc c (List.mem_cons_self ..)
  simp only[List.length_cons] at hb
  unfold yX
  by_cases h0:c<0
  ·obtain⟨u,rfl⟩:∃ u:Nat,c = -1 - (u:Int):=⟨(-1 - c).toNat,by omega⟩
   have hu:u<24:=by omega
   have hbu:=hb u hu
   have hg:xs[u]? = some (xs.getD u 0):=by
    rw[List.getD_eq_getElem?_getD,List.getElem?_eq_getElem (by omega)]
    rfl
   have w1:IntKind.wrap .i64 (xs.getD u 0+1)=xs.getD u 0+1:=by rw[zp]<;>omega
   rw[decide_eq_true h0,cond_true,zaQ (by omega) (by omega),Option.bind_some,show -1 - (-1 - (u:Int))=(u:Int) from by omega,yY hu,Option.bind_some,hg,Option.bind_some,Option.bind_some,hg,Option.bind_some,w1]
   obtain⟨ys,g1,g2,g3⟩:=znu es (xs.set u (xs.getD u 0+1)) (fun d hd=>hc d (List.mem_cons_of_mem _ hd)) (by rw[List.length_set]; exact hl) (fun v hv=>by
    rw[zdu (by omega)]
    have:=hb v hv
    split<;>omega)
   refine ⟨ys,g1,g2,fun v hv => ?_⟩
   rw[g3 v hv,zdu (by omega),zi6]
   by_cases hvu:v=u
   ·subst hvu
    rw[if_pos rfl,show ((-1 - (v:Int)) == -1 - (v:Int))=true from by simp,cond_true]
    omega
   ·rw[if_neg hvu,show ((-1 - (u:Int)) == -1 - (v:Int))=false from by simp; omega,cond_false]
    omega
  ·rw[decide_eq_false h0,cond_false]
   obtain⟨ys,g1,g2,g3⟩:=znu es xs (fun d hd=>hc d (List.mem_cons_of_mem _ hd)) hl (fun v hv=>by have:=hb v hv; omega)
   refine ⟨ys,g1,g2,fun v hv => ?_⟩
   rw[g3 v hv,zi6,show (c == -1 - (v:Int))=false from by simp; omega,cond_false]
   omega
theorem zrr {r:List Int} (hl:r.length≤1000000) (hc:∀ c∈r,-24≤c):∃ ys,zeG r=some ys∧ys.length=24∧∀ v,v<24→ys.getD v 0=(zi5 r v:Int):=by
 have hz:∀ v,(List.replicate 24 (0:Int)).getD v 0=0:=fun v=>by
  rw[List.getD_eq_getElem?_getD,List.getElem?_replicate]
  split<;>rfl
 obtain⟨ys,g1,g2,g3⟩:=znu r (List.replicate 24 (0:Int)) hc (by simp) (fun v _=>by rw[hz]; omega)
 refine ⟨ys,?_,g2,fun v hv=>by rw[g3 v hv,hz]; omega⟩
 unfold zeG
 rw[zg1 _ _ (by unfold maxLen; omega),g1,Option.bind_some,g2]
 rfl
theorem zsi {a b xs ys:List Int} (hx:xs.length=24) (hy:ys.length=24) (gx:∀ v,v<24→xs.getD v 0=(zi5 a v:Int)) (gy:∀ v,v<24→ys.getD v 0=(zi5 b v:Int)):∀(m v k:Nat),24 - v=m→v≤24→m<k→lp zak k ((v:Int),xs,ys)=some (cond (ziV a b ((List.range 24).drop v)) (.inl ()) (.inr false)):=by
 intro m
 induction m with
 | zero =>
  intro v k hm hv hk
  obtain⟨k,rfl⟩:∃ k',k=k'+1:=⟨k - 1,by omega⟩
  rw[zm]
  generalize lp zak k=rec
  unfold zak
  have:v=24:=by omega
  subst this
  rw[show (List.range 24).drop 24=[] from rfl]
  rfl
 | succ m ih =>
  intro v k hm hv hk
  obtain⟨k,rfl⟩:∃ k',k=k'+1:=⟨k - 1,by omega⟩
  rw[zm]
  have key:=ih (v+1) k (by omega) (by omega) (by omega)
  generalize lp zak k=rec at key ⊢
  unfold zak
  have w1:IntKind.wrap .i64 ((v:Int)+1)=((v+1:Nat):Int):=by rw[zp]<;>omega
  have hdr:(List.range 24).drop v=v::(List.range 24).drop (v+1):=by
   rw[List.drop_eq_getElem_cons (by simp; omega)]
   simp
  have h1:xs[v]? = some (zi5 a v:Int):=by
   rw[← gx v (by omega),List.getD_eq_getElem?_getD,List.getElem?_eq_getElem (by omega)]
   rfl
  have h2:ys[v]? = some (zi5 b v:Int):=by
   rw[← gy v (by omega),List.getD_eq_getElem?_getD,List.getElem?_eq_getElem (by omega)]
   rfl
  simp only[decide_eq_true (show (v:Int)<24 by omega),cond_true,w1,yY (show v<24 by omega),Option.bind_some,h1,h2]
  rw[key,hdr]
  unfold ziV
  rw[List.all_cons]
  by_cases hc:zi5 b v≤zi5 a v
  ·rw[decide_eq_false (show ¬((zi5 a v:Int)<(zi5 b v:Int)) by omega),cond_false,decide_eq_true hc,Bool.true_and]
  ·rw[decide_eq_true (show (zi5 a v:Int)<(zi5 b v:Int) by omega),cond_true,decide_eq_false hc,Bool.false_and,cond_false]
theorem zv2 {a b:List Int} (ha:a.length≤1000000) (hb:b.length≤1000000) (ca:∀ c∈a,-24≤c) (cb:∀ c∈b,-24≤c):zfc a b=some (ziV a b (List.range 24)):=by
 obtain⟨xs,h1,h2,h3⟩:=zrr ha ca
 obtain⟨ys,g1,g2,g3⟩:=zrr hb cb
 unfold zfc
 rw[h1,Option.bind_some,g1,Option.bind_some]
 have:=zsi (a:=a) (b:=b) h2 g2 h3 g3 24 0 zd rfl (by omega) (by unfold zd; omega)
 rw[show ((0:Nat):Int)=0 from rfl,List.drop_zero] at this
 rw[show Nat.beq (List.length (List.replicate 24 (0:Int))) 24=true from by simp,cond_true,cond_true,this]
 cases ziV a b (List.range 24)<;>rfl
end
end Go.Abs.Q
namespace Go.Abs.Q
open Go Go.Abs
section
structure HF (a0:List zi) (a:List Int) (c:Int) (ts:List Tm):Prop where
 eq:a=c::zb ts
 ok:okR a0 24 ts
 len:a.length≤1000
 low : -24≤c
 sym:0≤c→∃ e,gx a0 c=some e
theorem zut {a0:List zi} (hs:SignOk a0) {t:Tm} (ho:t.ok a0 24) (hl:t.codes.length≤1000):∃ c ts,HF a0 t.codes c ts∧(∀ d us u,u=t→u.codes=d::zb us→True)∧za9 ts<t.size:=by
 cases t with
 | v n =>
  have hn:n<24:=ho
  exact ⟨-1 - (n:Int),[],⟨rfl,trivial,hl,by omega,fun h=>by omega⟩,fun _ _ _ _ _=>trivial,by simp [za9,Tm.size]⟩
 | f c as =>
  obtain⟨e,he,-⟩:=zqL hs ho.1
  exact ⟨(c:Int),as,⟨rfl,ho.2,hl,by omega,fun _=>⟨e,he⟩⟩,fun _ _ _ _ _=>trivial,by simp [Tm.size]⟩
mutual
theorem Tm.syms {a0:List zi} (hs:SignOk a0):(t:Tm)→t.ok a0 24→∀ c∈t.codes,-24≤c∧(0≤c→∃ e,gx a0 c=some e)
 | .v n,ho,c,hc=>by
  have hn:n<24:=ho
  have hc:c = -1 - (n:Int):=by simpa[Tm.codes] using hc
  exact ⟨by omega,fun h=>by omega⟩
 | .f d as,ho,c,hc=>by
  rcases List.mem_cons.1 (show c∈(d:Int)::zb as from hc) with rfl | hc
  ·obtain⟨e,he,-⟩:=zqL hs ho.1
   exact ⟨by omega,fun _=>⟨e,he⟩⟩
  ·exact zz5 hs as ho.2 c hc
theorem zz5 {a0:List zi} (hs:SignOk a0):(ts:List Tm)→okR a0 24 ts→∀ c∈zb ts,-24≤c∧(0≤c→∃ e,gx a0 c=some e)
 | [],_,_,hc=>by simp [zb] at hc
 | t::ts,ho,c,hc=>by
  rcases List.mem_append.1 (show c∈t.codes++zb ts from hc) with hc | hc
  ·exact Tm.syms hs t ho.1 c hc
  ·exact zz5 hs ts ho.2 c hc
end
theorem HF.syms {a0:List zi} (hs:SignOk a0) {a:List Int} {c:Int} {ts:List Tm} (h:HF a0 a c ts):∀ d∈a,-24≤d∧(0≤d→∃ e,gx a0 d=some e):=fun d hd=>by
 rw[h.eq] at hd
 rcases List.mem_cons.1 hd with rfl | hd
 ·exact ⟨h.low,h.sym⟩
 ·exact zz5 hs ts h.ok d hd
theorem zkh {a0:List zi}:(es:List Int)→(s:Int)→(∀ d∈es,-24≤d∧(0≤d→∃ e,gx a0 d=some e))→∃ r,y8 a0 es s=some r
 | [],s,_=>⟨s,rfl⟩
 | e::es,s,h=>by
  unfold y8
  have ih:=fun s=>zkh es s fun d hd=>h d (List.mem_cons_of_mem _ hd)
  by_cases h0:e<0
  ·rw[decide_eq_true h0]; exact ih _
  ·obtain⟨x,hx⟩:=(h e (List.mem_cons_self ..)).2 (by omega)
   rw[decide_eq_false h0,cond_false,hx]
   exact ih _
theorem HF.sum {a0:List zi} (hs:SignOk a0) {a:List Int} {c:Int} {ts:List Tm} (h:HF a0 a c ts):∃ r,zgt a0 a=some r:=by
 have:=h.len
 obtain⟨r,hr⟩:=zkh a 0 (h.syms hs)
 refine ⟨r,?_⟩
 unfold zgt
 rw[ze5 _ _ _ (by unfold maxLen; omega),hr]
 rfl
def zhX:List Tm→List Tm→Option (Tm×Tm)
 | t::ts,u::us=>if t.codes=u.codes then zhX ts us else some (t,u)
 | _,_=>none
theorem zkN:{ts us:List Tm}→{p:Tm×Tm}→zhX ts us=some p→p.1∈ts∧p.2∈us∧p.1.codes≠p.2.codes
 | [],_,_,h=>by cases h
 | _::_,[],_,h=>by cases h
 | t::ts,u::us,p,h=>by
  unfold zhX at h
  split at h
  ·obtain⟨h1,h2,h3⟩:=zkN h
   exact ⟨List.mem_cons_of_mem _ h1,List.mem_cons_of_mem _ h2,h3⟩
  ·rename_i hne
   injection h with h
   subst h
   exact ⟨List.mem_cons_self ..,List.mem_cons_self ..,hne⟩
theorem zlF:{ts us:List Tm}→ts.length=us.length→zhX ts us=none→zb ts=zb us
 | [],[],_,_=>rfl
 | [],_::_,h,_=>by simp at h
 | _::_,[],h,_=>by simp at h
 | t::ts,u::us,hl,h=>by
  unfold zhX at h
  split at h
  ·rename_i he
   show t.codes++zb ts=u.codes++zb us
   rw[he,zlF (by simpa using hl) h]
  ·cases h
theorem zpx {usA:List Tm} (hsm:∀ t∈usA,t.codes.length≤1000):(ts us:List Tm)→(i:Nat)→usA.drop i=us→ts.length=us.length→(∀ t∈ts,t.codes.length≤1000)→yx (usA.map Tm.codes) (ts.map Tm.codes) i=some (match zhX ts us with
  | none=>.inl ()
  | some p=>.inr (p.1.codes,p.2.codes))
 | [],[],i,_,_,_=>rfl
 | [],_::_,_,_,h,_=>by simp at h
 | _::_,[],_,_,h,_=>by simp at h
 | t::ts,u::us,i,hd,hl,hsmt=>by
  have hi:=zI hd
  have hg:=zk hd
  have ht:=hsmt t (List.mem_cons_self ..)
  rw[List.map_cons]
  unfold yx zhX
  rw[List.length_map,decide_eq_true (show (i:Int)<(usA.length:Int) by omega),cond_true,y5,List.getElem?_map,hg]
  simp only[Option.map_some,Option.bind_some]
  rw[za8 (by unfold maxLen; omega),Option.bind_some]
  by_cases he:t.codes=u.codes
  ·rw[decide_eq_true he,Bool.not_true,cond_false,if_pos he]
   exact zpx hsm ts us (i+1) (ze hd) (by simpa using hl) fun t h=>hsmt t (List.mem_cons_of_mem _ h)
  ·rw[decide_eq_false he,Bool.not_false,cond_true,if_neg he]
theorem ztO {a0:List zi} {rf:(List zi×List Int×List Int)→Option Bool} {usA:List Tm}:(ts us:List Tm)→(i:Nat)→usA.drop i=us→ts.length=us.length→(∀ t∈ts,t.codes.length≤1000)→zad rf a0 (usA.map Tm.codes) (ts.map Tm.codes) i=(match zhX ts us with
  | none=>some (.inl ())
  | some p=>(rf (a0,p.1.codes,p.2.codes)).bind fun r=>some (.inr r))
 | [],[],i,_,_,_=>rfl
 | [],_::_,_,_,h,_=>by simp at h
 | _::_,[],_,_,h,_=>by simp at h
 | t::ts,u::us,i,hd,hl,hsmt=>by
  have hg:=zk hd
  have ht:=hsmt t (List.mem_cons_self ..)
  rw[List.map_cons]
  unfold zad zhX
  rw[y5,List.getElem?_map,hg]
  simp only[Option.map_some,Option.bind_some]
  rw[zgl (by omega),Option.bind_some]
  by_cases he:t.codes=u.codes
  ·rw[decide_eq_true he,Bool.not_true,cond_false,if_pos he]
   exact ztO ts us (i+1) (ze hd) (by simpa using hl) fun t h=>hsmt t (List.mem_cons_of_mem _ h)
  ·rw[decide_eq_false he,Bool.not_false,cond_true,if_neg he]
end
end Go.Abs.Q
namespace Go.Abs.Q
open Go Go.Abs
section
theorem zqJ {a0:List zi} (hs:SignOk a0) {t u:Tm} (ht:t.ok a0 24) (hu:u.ok a0 24) (hlt:t.codes.length≤1000) (hlu:u.codes.length≤1000):∃ c ts d us,HF a0 t.codes c ts∧HF a0 u.codes d us∧(c=d→ts.length=us.length):=by
 obtain⟨c,ts,h1,-,-⟩:=zut hs ht hlt
 obtain⟨d,us,h2,-,-⟩:=zut hs hu hlu
 have inj:∀{c c':Int} {r r':List Int},c::r=c'::r'→c=c'∧r=r':=fun h=>by injection h with a b; exact ⟨a,b⟩
 refine ⟨c,ts,d,us,h1,h2,fun hcd => ?_⟩
 cases t with
 | v n =>
  obtain⟨e1,e2⟩:=inj (show (-1 - (n:Int))::[]=c::zb ts from h1.eq)
  have e3:ts=[]:=zdm (a0:=a0) _ ts [] (Nat.le_refl _) h1.ok trivial e2.symm
  cases u with
  | v m =>
   obtain⟨-,e5⟩:=inj (show (-1 - (m:Int))::[]=d::zb us from h2.eq)
   have e6:us=[]:=zdm (a0:=a0) _ us [] (Nat.le_refl _) h2.ok trivial e5.symm
   rw[e3,e6]
  | f q bs =>
   obtain⟨e4,-⟩:=inj (show (q:Int)::zb bs=d::zb us from h2.eq)
   omega
 | f p as =>
  obtain⟨e1,e2⟩:=inj (show (p:Int)::zb as=c::zb ts from h1.eq)
  have e3:as=ts:=zdm (a0:=a0) _ as ts (Nat.le_refl _) ht.2 h1.ok e2
  cases u with
  | v m =>
   obtain⟨e4,-⟩:=inj (show (-1 - (m:Int))::[]=d::zb us from h2.eq)
   omega
  | f q bs =>
   obtain⟨e4,e5⟩:=inj (show (q:Int)::zb bs=d::zb us from h2.eq)
   have e6:bs=us:=zdm (a0:=a0) _ bs us (Nat.le_refl _) hu.2 h2.ok e5
   have hpq:p=q:=by omega
   subst hpq
   have h3:=ht.1
   have h4:=hu.1
   rw[h3] at h4
   injection h4 with h4
   rw[← e3,← e6,h4]
theorem zxh {a0:List zi} (hs:SignOk a0):∀(n:Nat) (a b:List Int) (c d:Int) (ts us:List Tm),a.length≤n→HF a0 a c ts→HF a0 b d us→(c=d→ts.length=us.length)→a≠b→∀ k k',n<k→n<k' →
  ∃(r:Bool) (z:Unit⊕Bool),zik k (a0,a,b)=some r∧lp zc1 k' (a0,a,b)=some z∧yd z (fun _=>false) (fun x=>x)=r:=by
 intro n
 induction n with
 | zero =>
  intro a b c d ts us hn h
  rw[h.eq] at hn
  simp at hn
 | succ n ih =>
  intro a b c d ts us hn ha hb har hne k k' hk hk'
  obtain⟨k,rfl⟩:∃ q,k=q+1:=⟨k - 1,by omega⟩
  obtain⟨k',rfl⟩:∃ q,k'=q+1:=⟨k' - 1,by omega⟩
  show ∃ r z,zie (zik k) a0 a b=some r∧_
  rw[zm]
  have key:=fun a b c d ts us h1 h2 h3 h4 h5=>ih a b c d ts us h1 h2 h3 h4 h5 k k' (by omega) (by omega)
  generalize lp zc1 k'=rec at key ⊢
  have la:=ha.len
  have lb:=hb.len
  obtain⟨x,hx⟩:=ha.sum hs
  obtain⟨y,hy⟩:=hb.sum hs
  unfold zie zc1
  simp only
  have hnn:nn a=some a:=by rw[ha.eq]; rfl
  rw[zrw a0 (by omega),hx,Option.bind_some,zrw a0 (by omega),hy,Option.bind_some,zxd (by omega) (by omega),Option.bind_some,hnn,Option.bind_some,Option.bind_some,Bool.not_false,cond_true,
   zv2 (by omega) (by omega) (fun e he=>(ha.syms hs e he).1) (fun e he=>(hb.syms hs e he).1),Option.bind_some]
  cases ziV a b (List.range 24) with
  | false=>exact ⟨false,.inl (),rfl,rfl,rfl⟩
  | true =>
   rw[Bool.not_true,cond_false,cond_true]
   simp only[Option.bind_some]
   by_cases hxy:x=y
   ·subst hxy
    rw[decide_eq_false (Int.lt_irrefl x),show (x != x)=false from by simp]
    simp only[cond_false]
    have ga:gx a 0=some c:=by rw[ha.eq]; rfl
    have gb:gx b 0=some d:=by rw[hb.eq]; rfl
    simp only[ga,gb,Option.bind_some]
    by_cases hcd:c=d
    ·subst hcd
     have hl:=har rfl
     rw[show (c != c)=false from by simp,cond_false,cond_false]
     have ea:=ha.eq
     have eb:=hb.eq
     have hlt:(zb ts).length+1=a.length:=by rw[ea]; rfl
     have hlu:(zb us).length+1=b.length:=by rw[eb]; rfl
     have sa:zbV a (some 1) none=some (zb ts):=by rw[ea]; exact zcL _ _
     have sb:zbV b (some 1) none=some (zb us):=by rw[eb]; exact zcL _ _
     have ct:∀ t∈ts,t.codes.length≤1000:=fun t h=>by have:=zd9 h; omega
     have cu:∀ t∈us,t.codes.length≤1000:=fun t h=>by have:=zd9 h; omega
     have cuts1:=yp ts ha.ok
     have cuts2:=yp us hb.ok
     have lts:=zhH cuts1
     have lus:=zhH cuts2
     rw[List.length_map] at lts lus
     have pa:=zaK hs (a1:=zb ts) (by omega) cuts1
     have pb:=zaK hs (a1:=zb us) (by omega) cuts2
     have ta:=zbB hs (a1:=zb ts) (by omega) cuts1
     have tb:=zbB hs (a1:=zb us) (by omega) cuts2
     unfold zhs
     simp only[sa,sb,pa,pb,ta,tb,Option.bind_some]
     rw[zgH _ _ (by rw[List.length_map]; unfold maxLen; omega),zpx cu ts us 0 rfl hl ct,Option.bind_some,
      zis _ _ _ _ (by rw[List.length_map]; unfold maxLen; omega),ztO ts us 0 rfl hl ct]
     cases hf:zhX ts us with
     | none =>
      exfalso
      exact hne (by rw[ea,eb,zlF hl hf])
     | some p =>
      obtain⟨q1,q2,q3⟩:=zkN hf
      obtain⟨c1,ts1,d1,us1,f1,f2,f3⟩:=zqJ hs (zbQ.1 ha.ok _ q1) (zbQ.1 hb.ok _ q2) (ct _ q1) (cu _ q2)
      have:=zd9 q1
      obtain⟨r,z,g1,g2,g3⟩:=key p.1.codes p.2.codes c1 d1 ts1 us1 (by omega) f1 f2 f3 q3
      refine ⟨r,z,?_,g2,g3⟩
      simp only
      rw[g1]
      rfl
    ·rw[show (c != d)=true from by simp [hcd],cond_true,cond_true]
     exact ⟨decide (c>d),.inr (decide (c>d)),rfl,rfl,rfl⟩
   ·rw[show (x != y)=true from by simp [hxy],cond_true]
    by_cases hlt:x<y
    ·rw[decide_eq_true hlt,cond_true]
     refine ⟨false,.inr (decide (x>y)),rfl,rfl,?_⟩
     rw[decide_eq_false (show ¬ x>y by omega)]
     rfl
    ·rw[decide_eq_false hlt,cond_false,decide_eq_true (show x>y by omega),cond_true]
     exact ⟨true,.inr true,rfl,rfl,rfl⟩
end
end Go.Abs.Q
namespace Go.Abs.Q
open Go Go.Abs
section
theorem zts {a0:List zi} (hs:SignOk a0) {a b:List Int} {c d:Int} {ts us:List Tm} (ha:HF a0 a c ts) (hb:HF a0 b d us) (har:c=d→ts.length=us.length) (hne:a≠b):∃ r,zkZ a0 a b=some r∧zab a0 a b=some r:=by
 have la:=ha.len
 obtain⟨r,z,h1,h2,h3⟩:=zxh hs a.length a b c d ts us (Nat.le_refl _) ha hb har hne zd zd (by unfold zd; omega) (by unfold zd; omega)
 refine ⟨r,h1,?_⟩
 unfold zab
 rw[h2,Option.bind_some,← h3]
 cases z<;>rfl
def zjU (a0:List zi) (a b:List Int):Option (Int×Int) :=
 (ym a b).bind fun r34=>cond r34 (some (1,0)) ((zab a0 a b).bind fun r35=>cond r35 (some (2,0)) ((zab a0 b a).bind fun r36=>cond r36 (some (0,0)) (some (3,0))))
theorem zrm {a0:List zi} (hs:SignOk a0) {a b:List Int} {c d:Int} {ts us:List Tm} (ha:HF a0 a c ts) (hb:HF a0 b d us) (har:c=d→ts.length=us.length):∃ k,zcu a0 a b=some k∧zjU a0 a b=some (k,0):=by
 have la:=ha.len
 unfold zcu zjU
 rw[zgl (by omega),Option.bind_some,za8 (by unfold maxLen; omega),Option.bind_some]
 by_cases he:a=b
 ·rw[decide_eq_true he]; exact ⟨1,rfl,rfl⟩
 ·rw[decide_eq_false he,cond_false,cond_false]
  obtain⟨r,h1,h2⟩:=zts hs ha hb har he
  rw[h1,h2,Option.bind_some,Option.bind_some]
  cases r with
  | true=>exact ⟨2,rfl,rfl⟩
  | false =>
   obtain⟨r',g1,g2⟩:=zts hs hb ha (fun h=>(har h.symm).symm) (Ne.symm he)
   rw[cond_false,cond_false,g1,g2,Option.bind_some,Option.bind_some]
   cases r' with
   | true=>exact ⟨0,rfl,rfl⟩
   | false=>exact ⟨3,rfl,rfl⟩
theorem zj8 (a0:List zi) (xs:List Int):∃ b,zco a0 xs=some b:=by
 unfold zco
 rw[zds,Option.bind_some]
 cases zbd a0 xs with
 | none=>exact ⟨_,rfl⟩
 | some ps=>exact ⟨_,rfl⟩
theorem zxi {a0:List zi} {a b:List Int} (ha:qz a0 a=true) (hb:qz a0 b=true):∃ c ts d us,HF a0 a c ts∧HF a0 b d us∧(c=d→ts.length=us.length):=by
 obtain⟨c,ts,e,rfl,ho,he,-,hl,h48,-⟩:=zeD ha
 obtain⟨d,us,e',rfl,ho',he',-,hl',h48',-⟩:=zeD hb
 refine ⟨c,ts,d,us,⟨rfl,ho,by simp only[List.length_cons]; omega,by omega,fun _=>⟨e,by rw[y5,he]⟩⟩,⟨rfl,ho',by simp only[List.length_cons]; omega,by omega,fun _=>⟨e',by rw[y5,he']⟩⟩,fun h => ?_⟩
 have:c=d:=by omega
 rw[this,he'] at he
 injection he with he
 rw[he] at hl'
 omega
theorem znI {a0:List zi} (hs:SignOk a0) {a b:List Int} (ha:qz a0 a=true) (hb:qz a0 b=true):∃ k,zcu a0 a b=some k∧zaG a0 a b=some (k,0):=by
 obtain⟨c,ts,d,us,h1,h2,h3⟩:=zxi ha hb
 obtain⟨k,g1,g2⟩:=zrm hs h1 h2 h3
 refine ⟨k,g1,?_⟩
 rw[← g2]
 obtain⟨b1,e1⟩:=zj8 a0 a
 obtain⟨b2,e2⟩:=zj8 a0 b
 unfold zaG
 rw[e1,Option.bind_some,e2,zca,ha,zca,hb]
 cases b1<;>cases b2<;>rfl
theorem znz {a0:List zi} (hs:SignOk a0) {t u:Tm} (ht:t.ok a0 24) (hu:u.ok a0 24) (hlt:t.codes.length≤1000) (hlu:u.codes.length≤1000):∃ k,zcu a0 t.codes u.codes=some k∧zjU a0 t.codes u.codes=some (k,0):=by
 obtain⟨c,ts,d,us,h1,h2,h3⟩:=zqJ hs ht hu hlt hlu
 exact zrm hs h1 h2 h3
end
end Go.Abs.Q
namespace Go.Abs.Q
open Go Go.Abs
section
theorem zlv (a0:List zi) (n:Bool) (r:List Int):zgg a0 n r=some (qz a0 r):=by
 unfold zgg
 rw[zca]
 rfl
theorem ztF {a0:List zi} (hs:SignOk a0) {l k:zc} (hl:qz a0 l.2=true) (hk:qz a0 k.2=true):∃ w,zfG a0 l.1 l.2 k.1 k.2=some w∧zgw a0 l.1 l.2 k.1 k.2=some (w,0):=by
 obtain⟨w,h1,h2⟩:=znI hs hl hk
 unfold zfG zgw
 rw[h1,Option.bind_some,zlv,hl,Option.bind_some,Bool.not_true,cond_false,zlv,hk,Option.bind_some,Bool.not_true,cond_false,h2,Option.bind_some]
 simp only
 cases w != 1 with
 | true=>exact ⟨w,rfl,rfl⟩
 | false =>
  rw[cond_false,cond_false]
  cases l.1==k.1 with
  | true=>exact ⟨w,rfl,rfl⟩
  | false =>
   rw[cond_false,cond_false]
   cases l.1 with
   | true=>exact ⟨2,rfl,rfl⟩
   | false=>exact ⟨0,rfl,rfl⟩
def zpp (a0:List zi) (l k:zc):Bool:=(zfG a0 l.1 l.2 k.1 k.2).getD 0==2
def zjb (a0:List zi) (L:List zc) (k:zc):Bool:=L.any fun l=>zpp a0 l k
theorem zpi {a0:List zi} (hs:SignOk a0) {k:zc} (hk:qz a0 k.2=true):(es:List zc)→(i:Nat)→(∀ l∈es,qz a0 l.2=true)→∃ z,zP a0 k.1 k.2 es i=some z∧yd z (fun _=>decide ((-1:Int)≥0)) (fun j=>decide (j≥0))=es.any fun l=>zpp a0 l k
 | [],i,_=>⟨.inl (),rfl,rfl⟩
 | e::es,i,h=>by
  obtain⟨w,h1,h2⟩:=ztF hs (h e (List.mem_cons_self ..)) hk
  obtain⟨z,g1,g2⟩:=zpi hs hk es (i+1) fun l hl=>h l (List.mem_cons_of_mem _ hl)
  unfold zP zgq
  have ho:zpp a0 e k=(w==2):=by unfold zpp; rw[h1]; rfl
  rw[h2,Option.bind_some,Option.bind_some,List.any_cons,ho]
  simp only
  cases w==2 with
  | true =>
   refine ⟨.inr (i:Int),rfl,?_⟩
   show decide ((i:Int)≥0)=_
   rw[decide_eq_true (show (i:Int)≥0 by omega)]
   rfl
  | false=>exact ⟨z,g1,g2⟩
theorem zn6 {a0:List zi} (hs:SignOk a0) {L:List zc} {k:zc} (hL:∀ l∈L,qz a0 l.2=true) (hk:qz a0 k.2=true) (hl:L.length≤1000):qM L a0 k.1 k.2=some (zjb a0 L k):=by
 unfold qM zcU
 obtain⟨z,g1,g2⟩:=zpi hs hk L 0 hL
 rw[zel _ _ _ _ (by unfold maxLen; omega),g1,Option.bind_some]
 unfold zjb
 rw[← g2]
 cases z<;>rfl
theorem zuv {a0:List zi} (hs:SignOk a0) {L:List zc} {i:Int} {k:zc} (hi:gx L i=some k) (hk:qz a0 k.2=true):(es:List zc)→(∀ l∈es,qz a0 l.2=true)→zaU a0 L i es=some (cond (es.any fun l=>zpp a0 l k) (.inr false) (.inl ()))
 | [],_=>rfl
 | e::es,h=>by
  obtain⟨w,h1,h2⟩:=ztF hs (h e (List.mem_cons_self ..)) hk
  unfold zaU
  have ho:zpp a0 e k=(w==2):=by unfold zpp; rw[h1]; rfl
  rw[hi,Option.bind_some,h1,Option.bind_some,List.any_cons,ho,zuv hs hi hk es fun l hl=>h l (List.mem_cons_of_mem _ hl)]
  cases w==2<;>rfl
theorem zum {a0:List zi} (hs:SignOk a0) {L:List zc} {i:Int} {k:zc} (hi:gx L i=some k) (hL:∀ l∈L,qz a0 l.2=true) (hl:L.length≤1000):zhC a0 L i=some (!zjb a0 L k):=by
 unfold zhC zjb
 rw[ziY _ _ _ (by unfold maxLen; omega),zuv hs hi (hL k (ze7 hi)) L hL,Option.bind_some]
 cases L.any fun l=>zpp a0 l k<;>rfl
def zt (a0:List zi) (L:List zc):List zc→Nat→List Int
 | [],_=>[]
 | e::es,i=>cond (zjb a0 L e) (zt a0 L es (i+1)) ((i:Int)::zt a0 L es (i+1))
theorem zp2 {a0:List zi} (hs:SignOk a0) {L:List zc} (hL:∀ l∈L,qz a0 l.2=true) (hl:L.length≤1000):(es:List zc)→(i:Nat)→(out:List Int)→(∀ l∈es,l∈L)→out.length+es.length≤100000→qw L a0 es i out=some (out++zt a0 L es i)
 | [],i,out,_,_=>by simp [qw,zt]
 | e::es,i,out,h,hlen=>by
  simp only[List.length_cons] at hlen
  unfold qw zt
  rw[zn6 hs hL (hL e (h e (List.mem_cons_self ..))) hl,Option.bind_some]
  cases zjb a0 L e with
  | true=>rw[Bool.not_true,cond_false,cond_true,zp2 hs hL hl es (i+1) out (fun l hl=>h l (List.mem_cons_of_mem _ hl)) (by omega)]
  | false =>
   rw[Bool.not_false,cond_true,cond_false,zn (by simp; omega),cond_true,zp2 hs hL hl es (i+1) _ (fun l hl=>h l (List.mem_cons_of_mem _ hl)) (by simp; omega)]
   simp
theorem zpu {a0:List zi}:(es:List zc)→(i:Nat)→(∀ l∈es,qz a0 l.2=true)→zO a0 es i=some (.inl ())
 | [],i,_=>rfl
 | e::es,i,h=>by
  unfold zO zf9
  rw[zlv,h e (List.mem_cons_self ..),Option.bind_some,Option.bind_some,Bool.not_true,cond_false]
  exact zpu es (i+1) fun l hl=>h l (List.mem_cons_of_mem _ hl)
theorem zt7 {a0:List zi} (hb:zcC a0=true) {L:List zc} (hL:∀ l∈L,qz a0 l.2=true) (hl:L.length≤1000):ziP a0 L=some (0,zt a0 L L 0):=by
 have hs:=zc2 hb
 unfold ziP zbS zcT
 rw[zix,hb,Option.bind_some,Bool.not_true,cond_false,zep _ _ (by unfold maxLen; omega),zpu L 0 hL,Option.bind_some,zjn _ _ _ _ (by unfold maxLen; omega),zp2 hs hL hl L 0 [] (fun _ h=>h) (by simp; omega)]
 rfl
end
end Go.Abs.Q
namespace Go.Abs.Q
open Go Go.Abs
section
def zhV (l e:zc):Bool:=(l.1 != e.1)&&decide (l.2=e.2)
theorem zoz (l e:zc):zhV l e=zhV e l:=by
 unfold zhV
 rw[Bool.eq_iff_iff]
 simp only[Bool.and_eq_true,decide_eq_true_iff,bne_iff_ne]
 exact ⟨fun h=>⟨Ne.symm h.1,h.2.symm⟩,fun h=>⟨Ne.symm h.1,h.2.symm⟩⟩
theorem zlc (e:zc):(es:List zc)→(i:Nat)→(∀ l∈es,l.2.length≤1000)→e.2.length≤1000→∃ z,zL e.1 e.2 es i=some z∧yd z (fun _=>decide ((-1:Int)≥0)) (fun j=>decide (j≥0))=es.any fun l=>zhV l e
 | [],i,_,_=>⟨.inl (),rfl,rfl⟩
 | l::es,i,h,he=>by
  obtain⟨z,g1,g2⟩:=zlc e es (i+1) (fun l hl=>h l (List.mem_cons_of_mem _ hl)) he
  unfold zL zbW
  rw[List.any_cons]
  have hc:zhV l e=(!(e.1==l.1)&&decide (e.2=l.2)):=by rw[zoz]; rfl
  cases hb : !(e.1==l.1) with
  | false =>
   rw[hb] at hc
   rw[cond_false,Option.bind_some,cond_false,hc,Bool.false_and,Bool.false_or]
   exact ⟨z,g1,g2⟩
  | true =>
   rw[hb] at hc
   rw[cond_true,za8 (by unfold maxLen; omega),Option.bind_some,Option.bind_some,hc,Bool.true_and]
   cases decide (e.2=l.2) with
   | true =>
    refine ⟨.inr (i:Int),rfl,?_⟩
    show decide ((i:Int)≥0)=_
    rw[decide_eq_true (show (i:Int)≥0 by omega)]
    rfl
   | false=>exact ⟨z,g1,g2⟩
theorem zph {L:List zc} {e:zc} (h:∀ l∈L,l.2.length≤1000) (he:e.2.length≤1000) (hl:L.length≤1000):qA L e.1 e.2=some (L.any fun l=>zhV l e):=by
 unfold qA zcZ
 obtain⟨z,g1,g2⟩:=zlc e L 0 h he
 rw[zeb _ _ _ (by unfold maxLen; omega),g1,Option.bind_some,← g2]
 cases z<;>rfl
theorem zAP {a0:List zi} {L:List zc} {T:List jI} {C:List zc} {i:Nat} {e:zc} (hi:L[i]? = some e) (h:∀ l∈L,l.2.length≤1000) (hl:L.length≤1000):∀(m j k:Nat),i - j=m→j≤i→m<k →
  lp qD k (a0,(i:Int),e.2,(j:Int),L,T,C)=some (cond (((L.take i).drop j).any fun l=>zhV l e) (.inr true) (.inl ())):=by
 have hil:=(List.getElem?_eq_some_iff.1 hi).1
 intro m
 induction m with
 | zero =>
  intro j k hm hj hk
  obtain⟨k,rfl⟩:∃ k',k=k'+1:=⟨k - 1,by omega⟩
  rw[zm]
  generalize lp qD k=rec
  unfold qD
  have:j=i:=by omega
  subst this
  rw[decide_eq_false (show ¬(j:Int)<(j:Int) by omega),cond_false,List.drop_of_length_le (by simp; omega)]
  rfl
 | succ m ih =>
  intro j k hm hj hk
  obtain⟨k,rfl⟩:∃ k',k=k'+1:=⟨k - 1,by omega⟩
  rw[zm]
  have key:=ih (j+1) k (by omega) (by omega) (by omega)
  generalize lp qD k=rec at key ⊢
  unfold qD
  have w1:IntKind.wrap .i64 ((j:Int)+1)=((j+1:Nat):Int):=by rw[zp]<;>omega
  obtain⟨l,hlj⟩:∃ l,L[j]? = some l:=⟨_,List.getElem?_eq_getElem (by omega)⟩
  have hlm:=h l (List.mem_of_getElem? hlj)
  have hd:(L.take i).drop j=l::(L.take i).drop (j+1):=by
   rw[List.drop_eq_getElem_cons (by simp; omega)]
   congr 1
   rw[List.getElem_take]
   exact (List.getElem?_eq_some_iff.1 hlj).2
  simp only[decide_eq_true (show (j:Int)<(i:Int) by omega),cond_true,y5,hlj,hi,Option.bind_some,w1]
  rw[hd,List.any_cons,key]
  have hc:zhV l e=(!(l.1==e.1)&&decide (l.2=e.2)):=rfl
  cases hb : !(l.1==e.1) with
  | false =>
   rw[hb] at hc
   rw[cond_false,hc,Bool.false_and,Bool.false_or]
  | true =>
   rw[hb] at hc
   rw[cond_true,zgl (by omega),Option.bind_some,hc,Bool.true_and]
   cases decide (l.2=e.2)<;>rfl
end
end Go.Abs.Q
namespace Go.Abs.Q
open Go Go.Abs
section
def zmo (a0:List zi) (e:zc):Bool:=(za4 a0 e.1 e.2).getD false
theorem zon {a0:List zi} (hs:SignOk a0) {e:zc} (h:qz a0 e.2=true):za4 a0 e.1 e.2=some (zmo a0 e)∧∀ X Y:Option (Unit⊕Bool),
  (cond (!e.1) ((gx e.2 0).bind fun e30=>cond (e30==0) ((zbV e.2 (some 1) none).bind fun y31=>(zN a0 y31).bind fun r32=>(inR 0 (List.length r32)).bind fun k33=>(r32[k33]?).bind fun x34=>(inR 1 (List.length r32)).bind fun k35=>(r32[k35]?).bind fun x36=>(zaD x34 x36).bind fun r37=>cond r37 X Y) Y) Y)=cond (zmo a0 e) X Y:=by
 obtain⟨n,r⟩:=e
 obtain⟨c,ts,q,hr,ho,hq,-,hl,h48,-⟩:=zeD h
 have hr:r=(c:Int)::zb ts:=hr
 subst hr
 unfold zmo za4
 cases n with
 | true=>exact ⟨rfl,fun X Y=>rfl⟩
 | false =>
  simp only[cond_false,Bool.not_false,cond_true,yZ,List.getElem?_cons_zero,Option.bind_some]
  by_cases hc:c=0
  ·subst hc
   have h2:ts.length=2:=by
    rw[hs.eq] at hq
    injection hq with hq
    subst hq
    have:((ts.length:Nat):Int)=2:=hl
    omega
   obtain⟨t1,t2,rfl⟩:∃ t1 t2,ts=[t1,t2]:=by
    match ts,h2 with
    | [t1,t2],_=>exact ⟨t1,t2,rfl⟩
   have hcut:=yp [t1,t2] ho
   have l1:t1.codes.length≤1000:=by
    have h9:t1.codes.length≤(zb [t1,t2]).length:=zd9 (List.mem_cons_self ..)
    exact Nat.le_trans h9 (Nat.le_trans h48 (by decide))
   have e8:=zbB hs (a1:=zb [t1,t2]) (Nat.le_trans h48 (by decide)) hcut
   have e9:=zaK hs (a1:=zb [t1,t2]) (Nat.le_trans h48 (by decide)) hcut
   have s8:zbV (((0:Nat):Int)::zb [t1,t2]) (some 1) none=some (zb [t1,t2]):=zcL _ _
   rw[List.map_cons,List.map_cons,List.map_nil] at e8 e9
   generalize zb [t1,t2]=row at e8 e9 s8 ⊢
   generalize t1.codes=p1 at l1 e8 e9
   generalize t2.codes=p2 at e8 e9
   have q1:ym p1 p2=some (decide (p1=p2)):=za8 (Nat.le_trans l1 (by decide))
   have q2:zaD p1 p2=some (decide (p1=p2)):=zgl (Nat.le_trans l1 (by decide))
   have i0:inR 0 (List.length [p1,p2])=some 0:=rfl
   have i1:inR 1 (List.length [p1,p2])=some 1:=rfl
   have g0:[p1,p2][0]? = some p1:=rfl
   have g1:[p1,p2][1]? = some p2:=rfl
   rw[show ((((0:Nat):Int)) != 0)=false from rfl,cond_false,show ((((0:Nat):Int))==0)=true from rfl]
   simp only[s8,Option.bind_some,e8,e9,cond_true,i0,i1,g0,g1,q1,q2,Option.getD_some,implies_true,and_self]
  ·rw[show ((c:Int) != 0)=true from by simp [hc],show ((c:Int)==0)=false from by simp [hc]]
   simp only[cond_true,cond_false,Option.getD_some,implies_true,and_self]
def zot (a0:List zi) (L:List zc):Bool:=L.any fun e=>zmo a0 e||L.any fun l=>zhV l e
theorem zm2 {a0:List zi} (hs:SignOk a0) {L:List zc} (hL:∀ l∈L,l.2.length≤1000) (hl:L.length≤1000):(es:List zc)→(∀ l∈es,qz a0 l.2=true)→yt a0 L es=some (cond (es.any fun e=>zmo a0 e||L.any fun l=>zhV l e) (.inr (true,0)) (.inl ()))
 | [],_=>rfl
 | e::es,h=>by
  have he:=h e (List.mem_cons_self ..)
  have hel:=zb5 he
  unfold yt
  rw[(zon hs he).1,Option.bind_some,zph hL (by omega) hl,List.any_cons,zm2 hs hL hl es fun l hl=>h l (List.mem_cons_of_mem _ hl)]
  cases zmo a0 e with
  | true=>rfl
  | false =>
   rw[cond_false,Option.bind_some,Bool.false_or]
   cases L.any fun l=>zhV l e<;>rfl
theorem zne {a0:List zi} {L:List zc} {T:List jI} {C:List zc} (h:zc4 a0 L T C=true):zbz a0 L T C=some (zot a0 L,0):=by
 have hs:=zc2 (zE h).1
 obtain⟨l1,-,-,-⟩:=zl2 hs h
 obtain⟨-,-,-,-,l4,-,-,-⟩:=zE h
 have hA:∀ l∈L,qz a0 l.2=true:=fun l hl=>List.all_eq_true.1 l4 l hl
 unfold zbz
 rw[yC,h,Option.bind_some,Bool.not_true,cond_false,zfQ _ _ _ _ _ (by unfold maxLen; omega),zm2 hs (fun l hl=>by have:=zb5 (hA l hl); omega) (by omega) L hA,Option.bind_some]
 unfold zot
 cases L.any fun e=>zmo a0 e||L.any fun l=>zhV l e<;>rfl
def zqi (a0:List zi) (L:List zc):List zc→Nat→Bool
 | [],_=>false
 | e::es,i=>zmo a0 e||((L.take i).any (fun l=>zhV l e)||zqi a0 L es (i+1))
theorem zs9 {a0:List zi} (hs:SignOk a0) {L:List zc} {T:List jI} {C:List zc} (hA:∀ l∈L,qz a0 l.2=true) (hl:L.length≤1000):(es:List zc)→(i:Nat)→L.drop i=es→qi a0 L T C es i=some (cond (zqi a0 L es i) (.inr true) (.inl ()))
 | [],i,_=>rfl
 | e::es,i,hd=>by
  have hg:=zk hd
  have hi:=zI hd
  have he:=hA e (List.mem_of_getElem? hg)
  unfold qi zqi
  rw[(zon hs he).2]
  cases zmo a0 e with
  | true=>rfl
  | false =>
   have:=zAP (a0:=a0) (T:=T) (C:=C) hg (fun l hl=>by have:=zb5 (hA l hl); omega) hl i 0 zd rfl (by omega) (by unfold zd; omega)
   rw[show ((0:Nat):Int)=0 from rfl,List.drop_zero] at this
   rw[cond_false,this,Option.bind_some,Bool.false_or]
   cases (L.take i).any fun l=>zhV l e with
   | true=>rfl
   | false =>
    rw[Bool.false_or]
    exact zs9 hs hA hl es (i+1) (ze hd)
theorem zoR {a0:List zi} {L:List zc}:(es:List zc)→(i:Nat)→(zqi a0 L es i=true↔∃(k:Nat) (e:zc),es[k]? = some e∧(zmo a0 e=true∨∃ l∈L.take (i+k),zhV l e=true))
 | [],i=>by simp [zqi]
 | e::es,i=>by
  unfold zqi
  rw[Bool.or_eq_true,Bool.or_eq_true,List.any_eq_true,zoR es (i+1)]
  constructor
  ·rintro (h | h | ⟨k,e',h1,h2⟩)
   ·exact ⟨0,e,rfl,.inl h⟩
   ·exact ⟨0,e,rfl,.inr h⟩
   ·exact ⟨k+1,e',by simpa using h1,by rw[show i+(k+1)=i+1+k from by omega]; exact h2⟩
  ·rintro⟨k,e',h1,h2⟩
   cases k with
   | zero =>
    have:e=e':=by simpa using h1
    subst this
    rcases h2 with h2 | h2
    ·exact .inl h2
    ·exact .inr (.inl h2)
   | succ k=>exact .inr (.inr ⟨k,e',by simpa using h1,by rw[show i+1+k=i+(k+1) from by omega]; exact h2⟩)
theorem zsX {a0:List zi} {L:List zc}:zqi a0 L L 0=zot a0 L:=by
 rw[Bool.eq_iff_iff,zoR]
 unfold zot
 rw[List.any_eq_true]
 constructor
 ·rintro⟨k,e,h1,h2⟩
  refine ⟨e,List.mem_of_getElem? h1,?_⟩
  rw[Bool.or_eq_true]
  rcases h2 with h2 | ⟨l,h2,h3⟩
  ·exact .inl h2
  ·exact .inr (List.any_eq_true.2 ⟨l,List.mem_of_mem_take h2,h3⟩)
 ·rintro⟨e,he,h⟩
  obtain⟨k,hk,hke⟩:=List.mem_iff_getElem.1 he
  have hg:L[k]? = some e:=by rw[List.getElem?_eq_getElem hk,hke]
  rcases Bool.or_eq_true _ _ |>.mp h with h | h
  ·exact ⟨k,e,hg,.inl h⟩
  ·obtain⟨l,hl,hc⟩:=List.any_eq_true.1 h
   obtain⟨j,hj,hjl⟩:=List.mem_iff_getElem.1 hl
   have hgj:L[j]? = some l:=by rw[List.getElem?_eq_getElem hj,hjl]
   have mem:∀{a b:Nat} {x:zc},L[a]? = some x→a<b→x∈L.take b:=fun {a b x} hx hab=>List.mem_of_getElem? (i:=a) (by rw[List.getElem?_take,if_pos hab]; exact hx)
   rcases Nat.lt_trichotomy j k with hjk | hjk | hjk
   ·exact ⟨k,e,hg,.inr ⟨l,by rw[Nat.zero_add]; exact mem hgj hjk,hc⟩⟩
   ·exfalso
    rw[hjk,hg] at hgj
    injection hgj with hgj
    rw[hgj] at hc
    simp [zhV] at hc
   ·exact ⟨j,l,hgj,.inr ⟨e,by rw[Nat.zero_add]; exact mem hg hjk,by rw[zoz]; exact hc⟩⟩
theorem zuG {a0:List zi} {L:List zc} {T:List jI} {C:List zc} (h:zc4 a0 L T C=true):zls a0 L T C=some (zot a0 L):=by
 have hs:=zc2 (zE h).1
 obtain⟨l1,-,-,-⟩:=zl2 hs h
 obtain⟨-,-,-,-,l4,-,-,-⟩:=zE h
 have hA:∀ l∈L,qz a0 l.2=true:=fun l hl=>List.all_eq_true.1 l4 l hl
 unfold zls
 rw[ziC _ _ _ _ (by unfold maxLen; omega),zs9 hs hA (by omega) L 0 rfl,Option.bind_some,zsX]
 cases zot a0 L<;>rfl
end
end Go.Abs.Q
namespace Go.Abs.Q
open Go Go.Abs
section
theorem znl (a0:List zi) (L:List zc) (T:List jI) (C:List zc):∃ t,zbz a0 L T C=some t:=by
 cases h:zc4 a0 L T C with
 | true=>exact ⟨_,zne h⟩
 | false =>
  refine ⟨(false,800),?_⟩
  unfold zbz
  rw[yC,h]
  rfl
theorem zxQ (sig:List zi) (r a i s b j t:Int) (o1:List zc) (o2:List jI) (o3:List zc) (xL:List zc) (xT:List jI) (xC:List zc) (ok:Bool) (err left:Int) (steps:List (Int×Int×Int×Int×Int×Int×Int×List zc×List jI×List zc)) (h:ok=true→err=0→zc4 sig xL xT xC=true) :
  zQ r a i s b j t o1 o2 o3 xL xT xC ok err sig left steps=(zct sig left r a i s b j t xL xT xC ok err steps).map fun q=>(sig,q.1,q.2):=by
 unfold zQ zct
 by_cases he:err=0
 ·rw[show (err != 0)=false from by simp [he],cond_false,cond_false]
  cases ok with
  | false =>
   obtain⟨q,hq⟩:=znl sig xL xT xC
   rw[hq]
   rfl
  | true =>
   have hm:=h rfl he
   rw[zne hm,Option.bind_some,zuG hm,Bool.not_true,cond_false,cond_true,Option.bind_some]
   simp only
   cases zot sig xL with
   | true=>rfl
   | false =>
    rw[cond_false,Bool.not_false,cond_true]
    generalize yQ _ 128=q
    cases q<;>rfl
 ·rw[show (err != 0)=true from by simp [he]]
  rfl
end
end Go.Abs.Q
namespace Go.Abs.Q
open Go Go.Abs
end Go.Abs.Q
namespace Go.Abs.Q
open Go Go.Abs
section
def zqQ (L:List zc) (T:List jI) (C:List zc):Prop:=qE L T C L T C=some true
theorem zsg:zqQ [] [] []:=by
 unfold zqQ
 exact zd7 (by simp) (by simp) (by simp) (by simp) (by simp) (by simp)
theorem zw3 {a0:List zi} {L:List zc} {T:List jI} {C:List zc} (h:zc4 a0 L T C=true):zc4 a0 (zeT L T C).1 (zeT L T C).2.1 (zeT L T C).2.2=true:=by
 obtain⟨Lt,Tt,Ct,rfl,rfl,rfl,hL,hT,hC⟩:=zxD h
 obtain⟨L1,T1,C1,ρ,e,-,-,-,hm,-⟩:=zqF h hL hT hC
 rw[e]
 exact hm
def OkR (a0:List zi) (o:Option zpC):Prop:=∃ r,o=some r∧zqQ r.1 r.2.1 r.2.2.2.2∧(r.2.2.1=true→r.2.2.2.1=0→zc4 a0 r.1 r.2.1 r.2.2.2.2=true)
theorem zga {a0:List zi} {o:Option zpC} {k:Int} (h:o=zcE k):OkR a0 o:=⟨_,h,zsg,fun h=>by cases h⟩
theorem zrJ {a0:List zi} {σ:Sb} {L:List zc} {T:List jI} {C:List zc} {k:Int}:OkR a0 (zmJ a0 σ L T C k):=by
 unfold zmJ
 cases hm:zc4 a0 (zcD σ L) (T.map (zdo σ)) (zcD σ C) with
 | true=>exact ⟨_,rfl,zr7 hm,fun _ _=>zw3 hm⟩
 | false=>exact zga rfl
end
end Go.Abs.Q
namespace Go.Abs.Q
open Go Go.Abs
end Go.Abs.Q
namespace Go.Abs.Q
open Go Go.Abs
section
abbrev zbm:=Int×Int×Int×Int×Int×Int×Int×List zc×List jI×List zc
theorem zki {a0:List zi} {L:List zc}:(es:List zc)→(i:Nat)→(k:Int)→k∈zt a0 L es i↔∃(j:Nat) (l:zc),es[j]? = some l∧k=((i+j:Nat):Int)∧zjb a0 L l=false
 | [],i,k=>by simp [zt]
 | e::es,i,k=>by
  have ih:=zki es (i+1) k (a0:=a0) (L:=L)
  have tail:k∈zt a0 L es (i+1)↔∃(j:Nat) (l:zc),(e::es)[j+1]? = some l∧k=((i+(j+1):Nat):Int)∧zjb a0 L l=false:=by
   rw[ih]
   constructor
   ·rintro⟨j,l,h1,h2,h3⟩
    exact ⟨j,l,by simpa using h1,by rw[h2]; congr 1; omega,h3⟩
   ·rintro⟨j,l,h1,h2,h3⟩
    exact ⟨j,l,by simpa using h1,by rw[h2]; congr 1; omega,h3⟩
  unfold zt
  cases ho:zjb a0 L e with
  | true =>
   rw[cond_true,tail]
   constructor
   ·rintro⟨j,l,h1,h2,h3⟩
    exact ⟨j+1,l,h1,h2,h3⟩
   ·rintro⟨j,l,h1,h2,h3⟩
    cases j with
    | zero=>injection h1 with h1; subst h1; rw[ho] at h3; cases h3
    | succ j=>exact ⟨j,l,h1,h2,h3⟩
  | false =>
   rw[cond_false,List.mem_cons,tail]
   constructor
   ·rintro (h | ⟨j,l,h1,h2,h3⟩)
    ·exact ⟨0,e,rfl,by rw[h]; rfl,ho⟩
    ·exact ⟨j+1,l,h1,h2,h3⟩
   ·rintro⟨j,l,h1,h2,h3⟩
    cases j with
    | zero=>exact .inl (by rw[h2]; rfl)
    | succ j=>exact .inr ⟨j,l,h1,h2,h3⟩
theorem zdG {a0:List zi} {L:List zc}:(es:List zc)→(i:Nat)→(zt a0 L es i).length≤es.length
 | [],_=>Nat.le_refl _
 | e::es,i=>by
  have:=zdG es (i+1) (a0:=a0) (L:=L)
  unfold zt
  cases zjb a0 L e<;>simp<;>omega
section
variable {a0:List zi} {L:List zc} {T:List jI} {C:List zc} (hmay:zc4 a0 L T C=true)
include hmay
end
end
end Go.Abs.Q
namespace Go.Abs.Q
open Go Go.Abs
section
section
variable {a0:List zi} {L:List zc} {T:List jI} {C:List zc} (hmay:zc4 a0 L T C=true)
include hmay
end
end
end Go.Abs.Q
namespace Go.Abs.Q
open Go Go.Abs
end Go.Abs.Q
namespace Go.Abs.Q
open Go Go.Abs
end Go.Abs.Q
namespace Go.Abs.Q
open Go Go.Abs
section
end
end Go.Abs.Q
namespace Go.Abs.Q
open Go Go.Abs
def zbX (a0:jQ) (a1:jR) (a2:jQ) (a3:Int) (a4:Bool):Option Bool :=
 cond (decide (a3≥0))
 (cond (decide (a3<((List.length a0:Nat):Int)))
  ((gx a0 a3).bind fun e4 =>
   (gx e4.2 0).bind fun e5 =>
   cond (e5==0)
   ((gx a0 a3).bind fun e6 =>
    some (e6.1==a4))
   (some false))
  (some false))
 (some false)
def zcM (a0:jS) (a1:jQ) (a2:jR) (a3:jQ) (a4:jQ) (a5:jR) (a6:jQ):Option (Bool×jQ×jR×jQ) :=
 (qe a0 a1 a2 a3).bind fun r14 =>
 cond (decide (((List.length r14.2:Nat):Int)>0))
 ((inR (IntKind.wrap .i64 (((List.length r14.2:Nat):Int) - 1)) (List.length r14.2)).bind fun k15 =>
  (r14.2[k15]?).bind fun x16 =>
  (qe a0 a4 a5 a6).bind fun r17 =>
  cond (decide (((List.length r17.2:Nat):Int)>0))
  ((inR (IntKind.wrap .i64 (((List.length r17.2:Nat):Int) - 1)) (List.length r17.2)).bind fun k18 =>
   (r17.2[k18]?).bind fun x19 =>
   cond (decide ((IntKind.wrap .i64 (x19+(IntKind.wrap .i64 (x16+1))))>23))
   (some (false,([]:jQ),([]:jR),([]:jQ)))
   ((zC a4 a5 a6 (IntKind.wrap .i64 (x16+1))).bind fun r20 =>
    some (true,r20.1,r20.2.1,r20.2.2)))
  ((zC a4 a5 a6 (IntKind.wrap .i64 (x16+1))).bind fun r21 =>
   some (true,r21.1,r21.2.1,r21.2.2)))
 ((qe a0 a4 a5 a6).bind fun r22 =>
  cond (decide (((List.length r22.2:Nat):Int)>0))
  ((inR (IntKind.wrap .i64 (((List.length r22.2:Nat):Int) - 1)) (List.length r22.2)).bind fun k23 =>
   (r22.2[k23]?).bind fun x24 =>
   cond (decide ((IntKind.wrap .i64 (x24+0))>23))
   (some (false,([]:jQ),([]:jR),([]:jQ)))
   ((zC a4 a5 a6 0).bind fun r25 =>
    some (true,r25.1,r25.2.1,r25.2.2)))
  ((zC a4 a5 a6 0).bind fun r26 =>
   some (true,r26.1,r26.2.1,r26.2.2)))
def zcJ (a0:jS) (a1:jI):Option jR :=
 (zbV a1 (some 1) none).bind fun y3 =>
 (zbe a0 y3).bind fun r4 =>
 some r4
def zit (a0:jS) (a1:jI) (a2:jI):Option Bool :=
 (zaG a0 a1 a2).bind fun r2 =>
 cond (r2.1 != 2)
 (some (r2.1 != 3))
 (some false)
def zhj (a0:jS) (a1:jI) (a2:Int) (a3:jI):Option jI :=
 (zcF a0 a1 a2).bind fun r5 =>
 (zbV a1 none (some a2)).bind fun y6 =>
 (zbV a1 (some r5.1) none).bind fun y7 =>
 (zc0 ([y6,a3,y7]:List jI)).bind fun r8 =>
 some r8
def zaW (a0:jS) (a1:jQ) (a2:jR) (a3:jQ) (a4:Int) (a5:Int) (a6:jQ) (a7:jR) (a8:jQ) (a9:Int) (a10:Int):Option (jQ×jR×Bool×Int×jQ) :=
 (gx a6 a9).bind fun e28 =>
 (gx e28.2 a10).bind fun e29 =>
 cond (decide (e29<0))
 (some (([]:jQ),([]:jR),false,0,([]:jQ)))
 ((zcM a0 a1 a2 a3 a6 a7 a8).bind fun r30 =>
  cond (!r30.1)
  (some (([]:jQ),([]:jR),false,1501,([]:jQ)))
  ((gx a1 a4).bind fun e31 =>
   (zcJ a0 e31.2).bind fun r32 =>
   (inR a9 (List.length r30.2.1)).bind fun k33 =>
   (r30.2.1[k33]?).bind fun x34 =>
   (zcF a0 x34.2 a10).bind fun r35 =>
   (inR a5 (List.length r32)).bind fun k36 =>
   (r32[k36]?).bind fun x37 =>
   (zbV x34.2 (some a10) (some r35.1)).bind fun y38 =>
   (zdr a0 x37 y38).bind fun r39 =>
   cond (r39.2.1 != 0)
   (some (([]:jQ),([]:jR),false,1502,([]:jQ)))
   (cond (!r39.1)
    (some (([]:jQ),([]:jR),false,0,([]:jQ)))
    ((inR a5 (List.length r32)).bind fun k40 =>
     (r32[k40]?).bind fun x41 =>
     (zjK r39.2.2 x41).bind fun r42 =>
     (inR (IntKind.wrap .i64 (1 - a5)) (List.length r32)).bind fun k43 =>
     (r32[k43]?).bind fun x44 =>
     (zjK r39.2.2 x44).bind fun r45 =>
     cond (decide (((List.length r42:Nat):Int)>48))
     (some (([]:jQ),([]:jR),false,1502,([]:jQ)))
     (cond (decide (((List.length r45:Nat):Int)>48))
      (some (([]:jQ),([]:jR),false,1502,([]:jQ)))
      ((zit a0 r42 r45).bind fun r46 =>
       cond r46
       (some (([]:jQ),([]:jR),false,0,([]:jQ)))
       ((inR (IntKind.wrap .i64 (1 - a5)) (List.length r32)).bind fun k47 =>
        (r32[k47]?).bind fun x48 =>
        (zhj a0 x34.2 a10 x48).bind fun r49 =>
        (inR a9 (List.length r30.2.1)).bind fun k50 =>
        (r30.2.1[k50]?).bind fun x51 =>
        (zdN a1 a2 a3 a4 (List.set r30.2.1 k50 (x51.1,r49)) r30.2.2.1 r30.2.2.2 (-1)).bind fun r52 =>
        (zfw r39.2.2 r52.2.1 r52.1 r52.2.2).bind fun r53 =>
        (zcG a0 r53.1 r53.2.1 r53.2.2).bind fun r54 =>
        cond (r54.2.2.1 != 0)
        (some (([]:jQ),([]:jR),false,1502,([]:jQ)))
        (some (r54.1,r54.2.1,true,0,r54.2.2.2)))))))))
def zdt (a0:jS) (a1:jQ) (a2:jR) (a3:jQ) (a4:Int) (a5:Int) (a6:jQ) (a7:jR) (a8:jQ) (a9:Int) (a10:Int):Option (jQ×jR×Bool×Int×jQ) :=
 (za0 a0 a1 a2 a3).bind fun r8 =>
 cond (!r8)
 (some (([]:jQ),([]:jR),false,1500,([]:jQ)))
 ((za0 a0 a6 a7 a8).bind fun r9 =>
  cond (!r9)
  (some (([]:jQ),([]:jR),false,1500,([]:jQ)))
  ((zbX a1 a2 a3 a4 false).bind fun r10 =>
   cond (!r10)
   (some (([]:jQ),([]:jR),false,1500,([]:jQ)))
   (cond (a5 != 0)
    (cond (a5 != 1)
     (some (([]:jQ),([]:jR),false,1500,([]:jQ)))
     (cond (decide (a9<0))
      (some (([]:jQ),([]:jR),false,1500,([]:jQ)))
      (cond (decide (a9≥((List.length a6:Nat):Int)))
       (some (([]:jQ),([]:jR),false,1500,([]:jQ)))
       (cond (decide (a10<1))
        (some (([]:jQ),([]:jR),false,1500,([]:jQ)))
        ((gx a6 a9).bind fun e11 =>
         cond (decide (a10≥((List.length e11.2:Nat):Int)))
         (some (([]:jQ),([]:jR),false,1500,([]:jQ)))
         ((zaW a0 a1 a2 a3 a4 a5 a6 a7 a8 a9 a10).bind fun r12 =>
          some (r12.1,r12.2.1,r12.2.2.1,r12.2.2.2.1,r12.2.2.2.2)))))))
    (cond (decide (a9<0))
     (some (([]:jQ),([]:jR),false,1500,([]:jQ)))
     (cond (decide (a9≥((List.length a6:Nat):Int)))
      (some (([]:jQ),([]:jR),false,1500,([]:jQ)))
      (cond (decide (a10<1))
       (some (([]:jQ),([]:jR),false,1500,([]:jQ)))
       ((gx a6 a9).bind fun e13 =>
        cond (decide (a10≥((List.length e13.2:Nat):Int)))
        (some (([]:jQ),([]:jR),false,1500,([]:jQ)))
        ((zaW a0 a1 a2 a3 a4 a5 a6 a7 a8 a9 a10).bind fun r14 =>
         some (r14.1,r14.2.1,r14.2.2.1,r14.2.2.2.1,r14.2.2.2.2)))))))))
def zcc (a0:jQ) (a1:jR) (a2:jQ) (a3:Int):Option Bool :=
 (zf7 a0 a1 a2 a3).bind fun r5 =>
 cond r5
 ((gx a0 a3).bind fun e6 =>
  cond (!e6.1)
  ((gx a0 a3).bind fun e7 =>
   (gx e7.2 0).bind fun e8 =>
   some (e8==0))
  (some false))
 (some false)
def zgs (a0:jI) (a1:Int) (a2:Int) (a3:jI):Option jI :=
 (zbV a0 none (some a1)).bind fun y3 =>
 cond (yQ (List.length ([]:List Int)+List.length y3) 8)
 (cond (yQ (List.length (([]:List Int)++y3)+List.length a3) 8)
  ((zbV a0 (some a2) none).bind fun y4 =>
   cond (yQ (List.length ((([]:List Int)++y3)++a3)+List.length y4) 8)
   (some (((([]:List Int)++y3)++a3)++y4))
   (none))
  (none))
 (none)
def yA (a0:jS) (a1:jQ) (a2:jR) (a3:jQ) (a4:Int) (a5:Int) (a6:jQ) (a7:jR) (a8:jQ) (a9:Int) (a10:Int):Option (jQ×jR×Bool×Int×jQ) :=
 (zf1 a0 a1 a2 a3).bind fun r30 =>
 cond (!r30)
 (some (([]:jQ),([]:jR),false,1500,([]:jQ)))
 ((zf1 a0 a6 a7 a8).bind fun r31 =>
  cond (!r31)
  (some (([]:jQ),([]:jR),false,1500,([]:jQ)))
  ((zcc a1 a2 a3 a4).bind fun r32 =>
   cond (!r32)
   (some (([]:jQ),([]:jR),false,1500,([]:jQ)))
   (cond (decide (a5<0))
    (some (([]:jQ),([]:jR),false,1500,([]:jQ)))
    (cond (decide (a5>1))
     (some (([]:jQ),([]:jR),false,1500,([]:jQ)))
     ((zf7 a6 a7 a8 a9).bind fun r33 =>
      cond (!r33)
      (some (([]:jQ),([]:jR),false,1500,([]:jQ)))
      (cond (decide (a10<1))
       (some (([]:jQ),([]:jR),false,1500,([]:jQ)))
       ((gx a6 a9).bind fun e34 =>
        cond (decide (a10≥((List.length e34.2:Nat):Int)))
        (some (([]:jQ),([]:jR),false,1500,([]:jQ)))
        ((gx a6 a9).bind fun e35 =>
         (gx e35.2 a10).bind fun e36 =>
         cond (decide (e36<0))
         (some (([]:jQ),([]:jR),false,0,([]:jQ)))
         ((zeJ a1 a2 a3 a6 a7 a8).bind fun r37 =>
          cond (!r37.2.2.1)
          (some (([]:jQ),([]:jR),false,1501,([]:jQ)))
          ((gx a1 a4).bind fun e38 =>
           (zbV e38.2 (some 1) none).bind fun y39 =>
           (zN a0 y39).bind fun r40 =>
           (inR a5 (List.length r40)).bind fun k41 =>
           (r40[k41]?).bind fun x42 =>
           (inR (IntKind.wrap .i64 (1 - a5)) (List.length r40)).bind fun k43 =>
           (r40[k43]?).bind fun x44 =>
           (gx r37.1 a9).bind fun e45 =>
           (zhM a0 e45.2 a10).bind fun r46 =>
           (zbV e45.2 (some a10) (some r46)).bind fun y47 =>
           (zcP a0 x42 y47).bind fun r48 =>
           cond (!r48.2.1)
           (some (([]:jQ),([]:jR),false,1502,([]:jQ)))
           (cond (!r48.1)
            (some (([]:jQ),([]:jR),false,0,([]:jQ)))
            ((zcd r48.2.2 x42).bind fun r49 =>
             (zcd r48.2.2 x44).bind fun r50 =>
             cond (decide (((List.length r49:Nat):Int)>48))
             (some (([]:jQ),([]:jR),false,1502,([]:jQ)))
             (cond (decide (((List.length r50:Nat):Int)>48))
              (some (([]:jQ),([]:jR),false,1502,([]:jQ)))
              ((zcu a0 r49 r50).bind fun r51 =>
               cond (r51==0)
               (some (([]:jQ),([]:jR),false,0,([]:jQ)))
               (cond (r51==1)
                (some (([]:jQ),([]:jR),false,0,([]:jQ)))
                ((zea a1 a4).bind fun r52 =>
                 cond (yQ (List.length r52+List.length r37.1) 32)
                 ((gx r37.1 a9).bind fun e53 =>
                  (zgs e45.2 a10 r46 x44).bind fun r54 =>
                  (inR (IntKind.wrap .i64 ((IntKind.wrap .i64 (((List.length a1:Nat):Int) - 1))+a9)) (List.length (r52++r37.1))).bind fun k55 =>
                  ((r52++r37.1)[k55]?).bind fun x56 =>
                  (zjq (List.set (r52++r37.1) k55 (e53.1,r54)) a1 a2 a3 r37.1 r37.2.1 r37.2.2.2).bind fun r57 =>
                  (zhx a0 r48.2.2 r57.1 r57.2.1 r57.2.2).bind fun r58 =>
                  cond (!r58.2.2.1)
                  (some (([]:jQ),([]:jR),false,1502,([]:jQ)))
                  (some (r58.1,r58.2.1,true,0,r58.2.2.2)))
                 (none)))))))))))))))))
def zda:Option jS :=
 some ([(([61]:Str),0,2,1),(([97]:Str),1,0,1),(([98]:Str),1,0,2),(([102]:Str),1,1,1),(([103]:Str),1,2,3),(([112]:Str),0,1,1),(([114]:Str),0,2,2)]:List zi)
def zk0 (a0:jS) (a1:jQ) (a2:jR) (a3:jQ) (a4:Int):Option (jQ×jR×Bool×Int×jQ) :=
 (gx a1 a4).bind fun e11 =>
 (zcJ a0 e11.2).bind fun r12 =>
 (inR 0 (List.length r12)).bind fun k13 =>
 (r12[k13]?).bind fun x14 =>
 (inR 1 (List.length r12)).bind fun k15 =>
 (r12[k15]?).bind fun x16 =>
 (zdr a0 x14 x16).bind fun r17 =>
 cond (r17.2.1 != 0)
 (some (([]:jQ),([]:jR),false,1502,([]:jQ)))
 (cond (!r17.1)
  (some (([]:jQ),([]:jR),false,0,([]:jQ)))
  ((zdN a1 a2 a3 a4 ([]:jQ) ([]:jR) ([]:jQ) (-1)).bind fun r18 =>
   (zfw r17.2.2 r18.2.1 r18.1 r18.2.2).bind fun r19 =>
   (zcG a0 r19.1 r19.2.1 r19.2.2).bind fun r20 =>
   cond (r20.2.2.1 != 0)
   (some (([]:jQ),([]:jR),false,1502,([]:jQ)))
   (some (r20.1,r20.2.1,true,0,r20.2.2.2))))
def ziq (a0:jS) (a1:jQ) (a2:jR) (a3:jQ) (a4:Int):Option (jQ×jR×Bool×Int×jQ) :=
 (za0 a0 a1 a2 a3).bind fun r4 =>
 cond (!r4)
 (some (([]:jQ),([]:jR),false,1500,([]:jQ)))
 ((zbX a1 a2 a3 a4 true).bind fun r5 =>
  cond (!r5)
  (some (([]:jQ),([]:jR),false,1500,([]:jQ)))
  ((zk0 a0 a1 a2 a3 a4).bind fun r6 =>
   some (r6.1,r6.2.1,r6.2.2.1,r6.2.2.2.1,r6.2.2.2.2)))
def zeR (a0:Int) (a1:jQ) (a2:jR) (a3:jQ):Option Bool :=
 (zbX a1 a2 a3 a0 false).bind fun r2 =>
 some (!r2)
def zS (rec:(jI×Int×Int×jQ×jR×jQ)→Option (Unit⊕Int)) (x:(jI×Int×Int×jQ×jR×jQ)):Option (Unit⊕Int) :=
 cond (decide (x.2.2.1<x.2.1))
 ((gx x.1 x.2.2.1).bind fun e3 =>
  (zeR e3 x.2.2.2.1 x.2.2.2.2.1 x.2.2.2.2.2).bind fun r4 =>
  cond r4
  (some (Sum.inr x.2.2.1))
  (rec (x.1,x.2.1,(IntKind.wrap .i64 (x.2.2.1+1)),x.2.2.2.1,x.2.2.2.2.1,x.2.2.2.2.2)))
 (some (Sum.inl ()))
def zcY (a0:jI) (a1:jQ) (a2:jR) (a3:jQ):Option Int :=
 ((lp zS zd) (a0,((List.length a0:Nat):Int),0,a1,a2,a3)).bind fun r8 =>
 yd r8
 (fun z9=>some (-1))
 (fun z10=>some z10)
def z5 (rec:(Int×Int×jI×jQ×jR×jQ)→Option (Int×jI)) (x:(Int×Int×jI×jQ×jR×jQ)):Option (Int×jI) :=
 cond (decide (x.2.1<((List.length x.2.2.1:Nat):Int)))
 ((inR x.2.1 (List.length x.2.2.1)).bind fun k12 =>
  (x.2.2.1[k12]?).bind fun x13 =>
  (zeR x13 x.2.2.2.1 x.2.2.2.2.1 x.2.2.2.2.2).bind fun r14 =>
  cond (!r14)
  ((inR x.1 (List.length x.2.2.1)).bind fun k15 =>
   (x.2.2.1[k15]?).bind fun x16 =>
   rec ((IntKind.wrap .i64 (x.1+1)),(IntKind.wrap .i64 (x.2.1+1)),(List.set x.2.2.1 k15 x13),x.2.2.2.1,x.2.2.2.2.1,x.2.2.2.2.2))
  (rec (x.1,(IntKind.wrap .i64 (x.2.1+1)),x.2.2.1,x.2.2.2.1,x.2.2.2.2.1,x.2.2.2.2.2)))
 (some (x.1,x.2.2.1))
def zbk (a0:jI) (a1:jQ) (a2:jR) (a3:jQ):Option jI :=
 (zcY a0 a1 a2 a3).bind fun r19 =>
 cond (r19==(-1))
 (some a0)
 (((lp z5 zd) (r19,(IntKind.wrap .i64 (r19+1)),a0,a1,a2,a3)).bind fun r20 =>
  cond (decide (0≤r20.1))
  (cond (decide (r20.1≤((List.length r20.2:Nat):Int)))
   (cond (decide (((List.length r20.2:Nat):Int)≤((List.length r20.2:Nat):Int)))
    ((zbV (clr r20.2 (0+Int.toNat r20.1) (Int.toNat ((List.length r20.2:Nat):Int) - Int.toNat r20.1)) none (some r20.1)).bind fun y21 =>
     some y21)
    (none))
   (none))
  (none))
def zey (rec:(jS×Int×Int×jI×Int×Int×Int×Int×jI×Int×Int×Int×jI×Int×Int×jQ×jR×jQ×jQ×jR×jQ×jS×Int×jT)→Option (jS×Int×jT)) (x:(jS×Int×Int×jI×Int×Int×Int×Int×jI×Int×Int×Int×jI×Int×Int×jQ×jR×jQ×jQ×jR×jQ×jS×Int×jT)):Option (jS×Int×jT) :=
 (gx x.2.2.2.2.2.2.2.2.2.2.2.2.2.2.2.2.2.2.1 x.2.2.2.2.2.2.1).bind fun e17 =>
 cond (decide (x.2.2.2.2.2.2.2.1<((List.length e17.2:Nat):Int)))
 ((zaW x.1 x.2.2.2.2.2.2.2.2.2.2.2.2.2.2.2.1 x.2.2.2.2.2.2.2.2.2.2.2.2.2.2.2.2.1 x.2.2.2.2.2.2.2.2.2.2.2.2.2.2.2.2.2.1 x.2.2.2.2.1 x.2.2.2.2.2.1 x.2.2.2.2.2.2.2.2.2.2.2.2.2.2.2.2.2.2.1 x.2.2.2.2.2.2.2.2.2.2.2.2.2.2.2.2.2.2.2.1 x.2.2.2.2.2.2.2.2.2.2.2.2.2.2.2.2.2.2.2.2.1 x.2.2.2.2.2.2.1 x.2.2.2.2.2.2.2.1).bind fun r18 =>
  (zQ 3 x.2.1 x.2.2.2.2.1 x.2.2.2.2.2.1 x.2.2.1 x.2.2.2.2.2.2.1 x.2.2.2.2.2.2.2.1 ([]:jQ) ([]:jR) ([]:jQ) r18.1 r18.2.1 r18.2.2.2.2 r18.2.2.1 r18.2.2.2.1 x.2.2.2.2.2.2.2.2.2.2.2.2.2.2.2.2.2.2.2.2.2.1 x.2.2.2.2.2.2.2.2.2.2.2.2.2.2.2.2.2.2.2.2.2.2.1 x.2.2.2.2.2.2.2.2.2.2.2.2.2.2.2.2.2.2.2.2.2.2.2).bind fun r19 =>
  rec (x.1,x.2.1,x.2.2.1,x.2.2.2.1,x.2.2.2.2.1,x.2.2.2.2.2.1,x.2.2.2.2.2.2.1,(IntKind.wrap .i64 (x.2.2.2.2.2.2.2.1+1)),x.2.2.2.2.2.2.2.2.1,x.2.2.2.2.2.2.2.2.2.1,x.2.2.2.2.2.2.2.2.2.2.1,x.2.2.2.2.2.2.2.2.2.2.2.1,x.2.2.2.2.2.2.2.2.2.2.2.2.1,x.2.2.2.2.2.2.2.2.2.2.2.2.2.1,x.2.2.2.2.2.2.2.2.2.2.2.2.2.2.1,x.2.2.2.2.2.2.2.2.2.2.2.2.2.2.2.1,x.2.2.2.2.2.2.2.2.2.2.2.2.2.2.2.2.1,x.2.2.2.2.2.2.2.2.2.2.2.2.2.2.2.2.2.1,x.2.2.2.2.2.2.2.2.2.2.2.2.2.2.2.2.2.2.1,x.2.2.2.2.2.2.2.2.2.2.2.2.2.2.2.2.2.2.2.1,x.2.2.2.2.2.2.2.2.2.2.2.2.2.2.2.2.2.2.2.2.1,r19.1,r19.2.1,r19.2.2))
 (some (x.2.2.2.2.2.2.2.2.2.2.2.2.2.2.2.2.2.2.2.2.2.1,x.2.2.2.2.2.2.2.2.2.2.2.2.2.2.2.2.2.2.2.2.2.2.1,x.2.2.2.2.2.2.2.2.2.2.2.2.2.2.2.2.2.2.2.2.2.2.2))
def zcm (rec:(jS×Int×Int×jI×Int×Int×jI×Int×Int×Int×jI×Int×Int×jQ×jR×jQ×jQ×jR×jQ×jS×Int×jT)→Option (jS×Int×jT)) (x:(jS×Int×Int×jI×Int×Int×jI×Int×Int×Int×jI×Int×Int×jQ×jR×jQ×jQ×jR×jQ×jS×Int×jT)):Option (jS×Int×jT) :=
 cond (decide (x.2.2.2.2.2.2.2.2.2.2.2.2.1<x.2.2.2.2.2.2.2.2.2.2.2.1))
 ((gx x.2.2.2.2.2.2.2.2.2.2.1 x.2.2.2.2.2.2.2.2.2.2.2.2.1).bind fun e26 =>
  (gx x.2.2.2.2.2.2.2.2.2.2.2.2.2.2.2.2.1 e26).bind fun e27 =>
  cond (decide (1<((List.length e27.2:Nat):Int)))
  ((zaW x.1 x.2.2.2.2.2.2.2.2.2.2.2.2.2.1 x.2.2.2.2.2.2.2.2.2.2.2.2.2.2.1 x.2.2.2.2.2.2.2.2.2.2.2.2.2.2.2.1 x.2.2.2.2.1 x.2.2.2.2.2.1 x.2.2.2.2.2.2.2.2.2.2.2.2.2.2.2.2.1 x.2.2.2.2.2.2.2.2.2.2.2.2.2.2.2.2.2.1 x.2.2.2.2.2.2.2.2.2.2.2.2.2.2.2.2.2.2.1 e26 1).bind fun r28 =>
   (zQ 3 x.2.1 x.2.2.2.2.1 x.2.2.2.2.2.1 x.2.2.1 e26 1 ([]:jQ) ([]:jR) ([]:jQ) r28.1 r28.2.1 r28.2.2.2.2 r28.2.2.1 r28.2.2.2.1 x.2.2.2.2.2.2.2.2.2.2.2.2.2.2.2.2.2.2.2.1 x.2.2.2.2.2.2.2.2.2.2.2.2.2.2.2.2.2.2.2.2.1 x.2.2.2.2.2.2.2.2.2.2.2.2.2.2.2.2.2.2.2.2.2).bind fun r29 =>
   (((lp zey zd) (x.1,x.2.1,x.2.2.1,x.2.2.2.1,x.2.2.2.2.1,x.2.2.2.2.2.1,e26,2,x.2.2.2.2.2.2.1,x.2.2.2.2.2.2.2.1,x.2.2.2.2.2.2.2.2.1,x.2.2.2.2.2.2.2.2.2.1,x.2.2.2.2.2.2.2.2.2.2.1,x.2.2.2.2.2.2.2.2.2.2.2.1,x.2.2.2.2.2.2.2.2.2.2.2.2.1,x.2.2.2.2.2.2.2.2.2.2.2.2.2.1,x.2.2.2.2.2.2.2.2.2.2.2.2.2.2.1,x.2.2.2.2.2.2.2.2.2.2.2.2.2.2.2.1,x.2.2.2.2.2.2.2.2.2.2.2.2.2.2.2.2.1,x.2.2.2.2.2.2.2.2.2.2.2.2.2.2.2.2.2.1,x.2.2.2.2.2.2.2.2.2.2.2.2.2.2.2.2.2.2.1,r29.1,r29.2.1,r29.2.2))).bind fun r30 =>
   rec (x.1,x.2.1,x.2.2.1,x.2.2.2.1,x.2.2.2.2.1,x.2.2.2.2.2.1,x.2.2.2.2.2.2.1,x.2.2.2.2.2.2.2.1,x.2.2.2.2.2.2.2.2.1,x.2.2.2.2.2.2.2.2.2.1,x.2.2.2.2.2.2.2.2.2.2.1,x.2.2.2.2.2.2.2.2.2.2.2.1,(IntKind.wrap .i64 (x.2.2.2.2.2.2.2.2.2.2.2.2.1+1)),x.2.2.2.2.2.2.2.2.2.2.2.2.2.1,x.2.2.2.2.2.2.2.2.2.2.2.2.2.2.1,x.2.2.2.2.2.2.2.2.2.2.2.2.2.2.2.1,x.2.2.2.2.2.2.2.2.2.2.2.2.2.2.2.2.1,x.2.2.2.2.2.2.2.2.2.2.2.2.2.2.2.2.2.1,x.2.2.2.2.2.2.2.2.2.2.2.2.2.2.2.2.2.2.1,r30.1,r30.2.1,r30.2.2))
  (rec (x.1,x.2.1,x.2.2.1,x.2.2.2.1,x.2.2.2.2.1,x.2.2.2.2.2.1,x.2.2.2.2.2.2.1,x.2.2.2.2.2.2.2.1,x.2.2.2.2.2.2.2.2.1,x.2.2.2.2.2.2.2.2.2.1,x.2.2.2.2.2.2.2.2.2.2.1,x.2.2.2.2.2.2.2.2.2.2.2.1,(IntKind.wrap .i64 (x.2.2.2.2.2.2.2.2.2.2.2.2.1+1)),x.2.2.2.2.2.2.2.2.2.2.2.2.2.1,x.2.2.2.2.2.2.2.2.2.2.2.2.2.2.1,x.2.2.2.2.2.2.2.2.2.2.2.2.2.2.2.1,x.2.2.2.2.2.2.2.2.2.2.2.2.2.2.2.2.1,x.2.2.2.2.2.2.2.2.2.2.2.2.2.2.2.2.2.1,x.2.2.2.2.2.2.2.2.2.2.2.2.2.2.2.2.2.2.1,x.2.2.2.2.2.2.2.2.2.2.2.2.2.2.2.2.2.2.2.1,x.2.2.2.2.2.2.2.2.2.2.2.2.2.2.2.2.2.2.2.2.1,x.2.2.2.2.2.2.2.2.2.2.2.2.2.2.2.2.2.2.2.2.2)))
 (some (x.2.2.2.2.2.2.2.2.2.2.2.2.2.2.2.2.2.2.2.1,x.2.2.2.2.2.2.2.2.2.2.2.2.2.2.2.2.2.2.2.2.1,x.2.2.2.2.2.2.2.2.2.2.2.2.2.2.2.2.2.2.2.2.2))
def zeK (rec:(jS×Int×Int×jI×Int×jI×Int×Int×Int×jQ×jR×jQ×jQ×jR×jQ×jS×Int×jT)→Option (jS×Int×jT)) (x:(jS×Int×Int×jI×Int×jI×Int×Int×Int×jQ×jR×jQ×jQ×jR×jQ×jS×Int×jT)):Option (jS×Int×jT) :=
 cond (decide (x.2.2.2.2.2.2.2.2.1<2))
 (((lp zcm zd) (x.1,x.2.1,x.2.2.1,x.2.2.2.1,x.2.2.2.2.1,x.2.2.2.2.2.2.2.2.1,x.2.2.2.2.2.1,x.2.2.2.2.2.2.1,x.2.2.2.2.2.2.2.1,x.2.2.2.2.2.2.2.2.1,x.2.2.2.1,((List.length x.2.2.2.1:Nat):Int),0,x.2.2.2.2.2.2.2.2.2.1,x.2.2.2.2.2.2.2.2.2.2.1,x.2.2.2.2.2.2.2.2.2.2.2.1,x.2.2.2.2.2.2.2.2.2.2.2.2.1,x.2.2.2.2.2.2.2.2.2.2.2.2.2.1,x.2.2.2.2.2.2.2.2.2.2.2.2.2.2.1,x.2.2.2.2.2.2.2.2.2.2.2.2.2.2.2.1,x.2.2.2.2.2.2.2.2.2.2.2.2.2.2.2.2.1,x.2.2.2.2.2.2.2.2.2.2.2.2.2.2.2.2.2)).bind fun r33 =>
  rec (x.1,x.2.1,x.2.2.1,x.2.2.2.1,x.2.2.2.2.1,x.2.2.2.2.2.1,x.2.2.2.2.2.2.1,x.2.2.2.2.2.2.2.1,(IntKind.wrap .i64 (x.2.2.2.2.2.2.2.2.1+1)),x.2.2.2.2.2.2.2.2.2.1,x.2.2.2.2.2.2.2.2.2.2.1,x.2.2.2.2.2.2.2.2.2.2.2.1,x.2.2.2.2.2.2.2.2.2.2.2.2.1,x.2.2.2.2.2.2.2.2.2.2.2.2.2.1,x.2.2.2.2.2.2.2.2.2.2.2.2.2.2.1,r33.1,r33.2.1,r33.2.2))
 (some (x.2.2.2.2.2.2.2.2.2.2.2.2.2.2.2.1,x.2.2.2.2.2.2.2.2.2.2.2.2.2.2.2.2.1,x.2.2.2.2.2.2.2.2.2.2.2.2.2.2.2.2.2))
def zcj (rec:(jS×Int×Int×jI×jI×Int×Int×jQ×jR×jQ×jQ×jR×jQ×jS×Int×jT)→Option (jS×Int×jT)) (x:(jS×Int×Int×jI×jI×Int×Int×jQ×jR×jQ×jQ×jR×jQ×jS×Int×jT)):Option (jS×Int×jT) :=
 cond (decide (x.2.2.2.2.2.2.1<x.2.2.2.2.2.1))
 ((gx x.2.2.2.2.1 x.2.2.2.2.2.2.1).bind fun e37 =>
  ((lp zeK zd) (x.1,x.2.1,x.2.2.1,x.2.2.2.1,e37,x.2.2.2.2.1,x.2.2.2.2.2.1,x.2.2.2.2.2.2.1,0,x.2.2.2.2.2.2.2.1,x.2.2.2.2.2.2.2.2.1,x.2.2.2.2.2.2.2.2.2.1,x.2.2.2.2.2.2.2.2.2.2.1,x.2.2.2.2.2.2.2.2.2.2.2.1,x.2.2.2.2.2.2.2.2.2.2.2.2.1,x.2.2.2.2.2.2.2.2.2.2.2.2.2.1,x.2.2.2.2.2.2.2.2.2.2.2.2.2.2.1,x.2.2.2.2.2.2.2.2.2.2.2.2.2.2.2)).bind fun r38 =>
  rec (x.1,x.2.1,x.2.2.1,x.2.2.2.1,x.2.2.2.2.1,x.2.2.2.2.2.1,(IntKind.wrap .i64 (x.2.2.2.2.2.2.1+1)),x.2.2.2.2.2.2.2.1,x.2.2.2.2.2.2.2.2.1,x.2.2.2.2.2.2.2.2.2.1,x.2.2.2.2.2.2.2.2.2.2.1,x.2.2.2.2.2.2.2.2.2.2.2.1,x.2.2.2.2.2.2.2.2.2.2.2.2.1,r38.1,r38.2.1,r38.2.2))
 (some (x.2.2.2.2.2.2.2.2.2.2.2.2.2.1,x.2.2.2.2.2.2.2.2.2.2.2.2.2.2.1,x.2.2.2.2.2.2.2.2.2.2.2.2.2.2.2))
def zen (a0:jS) (a1:jQ) (a2:jR) (a3:jQ) (a4:Int) (a5:jQ) (a6:jR) (a7:jQ) (a8:Int):Option (Int×Int×jT) :=
 (za0 a0 a1 a2 a3).bind fun r40 =>
 cond (!r40)
 (some (0,1500,([]:jT)))
 ((za0 a0 a5 a6 a7).bind fun r41 =>
  cond (!r41)
  (some (0,1500,([]:jT)))
  ((ziP a0 a1).bind fun r42 =>
   (ziP a0 a5).bind fun r43 =>
   (zbk r42.2 a1 a2 a3).bind fun r44 =>
   ((lp zcj zd) (a0,a4,a8,r43.2,r44,((List.length r44:Nat):Int),0,a1,a2,a3,a5,a6,a7,a0,0,([]:jT))).bind fun r45 =>
   some (r45.2.1,0,r45.2.2)))
def zih:Option Bool :=
 (zda).bind fun r19 =>
 (zdt r19 ([(false,([0,3,(-1),1]:List Int))]:List zc) ([]:jR) ([]:jQ) 0 0 ([(false,([5,3,2]:List Int))]:List zc) ([([(-1)]:List Int)]:List jI) ([]:jQ) 0 1).bind fun r20 =>
 (zda).bind fun r21 =>
 (zdt r21 ([(false,([0,3,(-1),1]:List Int))]:List zc) ([]:jR) ([]:jQ) 0 1 ([(false,([5,3,2]:List Int))]:List zc) ([([(-1)]:List Int)]:List jI) ([]:jQ) 0 2).bind fun r22 =>
 (zda).bind fun r23 =>
 (ziq r23 ([(true,([0,(-1),2]:List Int))]:List zc) ([([(-1)]:List Int)]:List jI) ([]:jQ) 0).bind fun r24 =>
 (zda).bind fun r25 =>
 (zen r25 ([(false,([0,3,(-1),1]:List Int))]:List zc) ([]:jR) ([]:jQ) 1 ([(false,([5,3,2]:List Int))]:List zc) ([([(-1)]:List Int)]:List jI) ([]:jQ) 2).bind fun r26 =>
 (zda).bind fun r27 =>
 (ziq r27 ([(false,([0,3,(-1),1]:List Int))]:List zc) ([]:jR) ([]:jQ) 0).bind fun r28 =>
 cond r20.2.2.1
 ((zej r20.2.2.2.1).bind fun r29 =>
  cond (r29==0)
  ((qE r20.1 r20.2.1 r20.2.2.2.2 ([(false,([5,1]:List Int))]:List zc) ([([(-1)]:List Int)]:List jI) ([]:jQ)).bind fun r30 =>
   cond r30
   (cond (!r22.2.2.1)
    ((zej r22.2.2.2.1).bind fun r31 =>
     cond (r31==0)
     (cond r24.2.2.1
      ((zej r24.2.2.2.1).bind fun r32 =>
       cond (r32==0)
       ((qE r24.1 r24.2.1 r24.2.2.2.2 ([]:jQ) ([([2]:List Int)]:List jI) ([]:jQ)).bind fun r33 =>
        cond r33
        ((zej r26.2.1).bind fun r34 =>
         cond (r34==0)
         (cond (r26.1==0)
          ((zhZ r26.2.2 ([(3,1,0,0,2,0,1,([(false,([5,1]:List Int))]:List zc),([([(-1)]:List Int)]:List jI),([]:jQ))]:List jU)).bind fun r35 =>
           cond r35
           ((zej r28.2.2.2.1).bind fun r36 =>
            some (r36==1500))
           (some false))
          (some false))
         (some false))
        (some false))
       (some false))
      (some false))
     (some false))
    (some false))
   (some false))
  (some false))
 (some false)
def zaO (rec:(jS×Int×Int×Int×Int×Int×Int×Int×jQ×jR×jQ×jQ×jR×jQ×jT)→Option (Int×jT)) (x:(jS×Int×Int×Int×Int×Int×Int×Int×jQ×jR×jQ×jQ×jR×jQ×jT)):Option (Int×jT) :=
 (gx x.2.2.2.2.2.2.2.2.2.2.2.1 x.2.2.2.2.2.2.1).bind fun e13 =>
 cond (decide (x.2.2.2.2.2.2.2.1<((List.length e13.2:Nat):Int)))
 ((zhC x.1 x.2.2.2.2.2.2.2.2.2.2.2.1 x.2.2.2.2.2.2.1).bind fun r14 =>
  cond r14
  ((yA x.1 x.2.2.2.2.2.2.2.2.1 x.2.2.2.2.2.2.2.2.2.1 x.2.2.2.2.2.2.2.2.2.2.1 x.2.2.2.2.1 x.2.2.2.2.2.1 x.2.2.2.2.2.2.2.2.2.2.2.1 x.2.2.2.2.2.2.2.2.2.2.2.2.1 x.2.2.2.2.2.2.2.2.2.2.2.2.2.1 x.2.2.2.2.2.2.1 x.2.2.2.2.2.2.2.1).bind fun r15 =>
   (zct x.1 x.2.2.2.1 3 x.2.1 x.2.2.2.2.1 x.2.2.2.2.2.1 x.2.2.1 x.2.2.2.2.2.2.1 x.2.2.2.2.2.2.2.1 r15.1 r15.2.1 r15.2.2.2.2 r15.2.2.1 r15.2.2.2.1 x.2.2.2.2.2.2.2.2.2.2.2.2.2.2).bind fun r16 =>
   rec (x.1,x.2.1,x.2.2.1,r16.1,x.2.2.2.2.1,x.2.2.2.2.2.1,x.2.2.2.2.2.2.1,(IntKind.wrap .i64 (x.2.2.2.2.2.2.2.1+1)),x.2.2.2.2.2.2.2.2.1,x.2.2.2.2.2.2.2.2.2.1,x.2.2.2.2.2.2.2.2.2.2.1,x.2.2.2.2.2.2.2.2.2.2.2.1,x.2.2.2.2.2.2.2.2.2.2.2.2.1,x.2.2.2.2.2.2.2.2.2.2.2.2.2.1,r16.2))
  (some (x.2.2.2.1,x.2.2.2.2.2.2.2.2.2.2.2.2.2.2)))
 (some (x.2.2.2.1,x.2.2.2.2.2.2.2.2.2.2.2.2.2.2))
def zbI (rec:(jS×Int×Int×Int×Int×Int×Int×jQ×jR×jQ×jQ×jR×jQ×jT)→Option (Int×jT)) (x:(jS×Int×Int×Int×Int×Int×Int×jQ×jR×jQ×jQ×jR×jQ×jT)):Option (Int×jT) :=
 cond (decide (x.2.2.2.2.2.2.1<((List.length x.2.2.2.2.2.2.2.2.2.2.1:Nat):Int)))
 (((lp zaO zd) (x.1,x.2.1,x.2.2.1,x.2.2.2.1,x.2.2.2.2.1,x.2.2.2.2.2.1,x.2.2.2.2.2.2.1,1,x.2.2.2.2.2.2.2.1,x.2.2.2.2.2.2.2.2.1,x.2.2.2.2.2.2.2.2.2.1,x.2.2.2.2.2.2.2.2.2.2.1,x.2.2.2.2.2.2.2.2.2.2.2.1,x.2.2.2.2.2.2.2.2.2.2.2.2.1,x.2.2.2.2.2.2.2.2.2.2.2.2.2)).bind fun r19 =>
  rec (x.1,x.2.1,x.2.2.1,r19.1,x.2.2.2.2.1,x.2.2.2.2.2.1,(IntKind.wrap .i64 (x.2.2.2.2.2.2.1+1)),x.2.2.2.2.2.2.2.1,x.2.2.2.2.2.2.2.2.1,x.2.2.2.2.2.2.2.2.2.1,x.2.2.2.2.2.2.2.2.2.2.1,x.2.2.2.2.2.2.2.2.2.2.2.1,x.2.2.2.2.2.2.2.2.2.2.2.2.1,r19.2))
 (some (x.2.2.2.1,x.2.2.2.2.2.2.2.2.2.2.2.2.2))
def zdy (rec:(jS×Int×Int×Int×Int×Int×jQ×jR×jQ×jQ×jR×jQ×jT)→Option (Int×jT)) (x:(jS×Int×Int×Int×Int×Int×jQ×jR×jQ×jQ×jR×jQ×jT)):Option (Int×jT) :=
 cond (decide (x.2.2.2.2.2.1<2))
 (((lp zbI zd) (x.1,x.2.1,x.2.2.1,x.2.2.2.1,x.2.2.2.2.1,x.2.2.2.2.2.1,0,x.2.2.2.2.2.2.1,x.2.2.2.2.2.2.2.1,x.2.2.2.2.2.2.2.2.1,x.2.2.2.2.2.2.2.2.2.1,x.2.2.2.2.2.2.2.2.2.2.1,x.2.2.2.2.2.2.2.2.2.2.2.1,x.2.2.2.2.2.2.2.2.2.2.2.2)).bind fun r22 =>
  rec (x.1,x.2.1,x.2.2.1,r22.1,x.2.2.2.2.1,(IntKind.wrap .i64 (x.2.2.2.2.2.1+1)),x.2.2.2.2.2.2.1,x.2.2.2.2.2.2.2.1,x.2.2.2.2.2.2.2.2.1,x.2.2.2.2.2.2.2.2.2.1,x.2.2.2.2.2.2.2.2.2.2.1,x.2.2.2.2.2.2.2.2.2.2.2.1,r22.2))
 (some (x.2.2.2.1,x.2.2.2.2.2.2.2.2.2.2.2.2))
def zbv (rec:(jS×Int×Int×Int×Int×jQ×jR×jQ×jQ×jR×jQ×jT)→Option (Int×jT)) (x:(jS×Int×Int×Int×Int×jQ×jR×jQ×jQ×jR×jQ×jT)):Option (Int×jT) :=
 cond (decide (x.2.2.2.2.1<((List.length x.2.2.2.2.2.1:Nat):Int)))
 ((zcc x.2.2.2.2.2.1 x.2.2.2.2.2.2.1 x.2.2.2.2.2.2.2.1 x.2.2.2.2.1).bind fun r27 =>
  cond (!r27)
  (rec (x.1,x.2.1,x.2.2.1,x.2.2.2.1,(IntKind.wrap .i64 (x.2.2.2.2.1+1)),x.2.2.2.2.2.1,x.2.2.2.2.2.2.1,x.2.2.2.2.2.2.2.1,x.2.2.2.2.2.2.2.2.1,x.2.2.2.2.2.2.2.2.2.1,x.2.2.2.2.2.2.2.2.2.2.1,x.2.2.2.2.2.2.2.2.2.2.2))
  ((zhC x.1 x.2.2.2.2.2.1 x.2.2.2.2.1).bind fun r28 =>
   cond (!r28)
   (rec (x.1,x.2.1,x.2.2.1,x.2.2.2.1,(IntKind.wrap .i64 (x.2.2.2.2.1+1)),x.2.2.2.2.2.1,x.2.2.2.2.2.2.1,x.2.2.2.2.2.2.2.1,x.2.2.2.2.2.2.2.2.1,x.2.2.2.2.2.2.2.2.2.1,x.2.2.2.2.2.2.2.2.2.2.1,x.2.2.2.2.2.2.2.2.2.2.2))
   (((lp zdy zd) (x.1,x.2.1,x.2.2.1,x.2.2.2.1,x.2.2.2.2.1,0,x.2.2.2.2.2.1,x.2.2.2.2.2.2.1,x.2.2.2.2.2.2.2.1,x.2.2.2.2.2.2.2.2.1,x.2.2.2.2.2.2.2.2.2.1,x.2.2.2.2.2.2.2.2.2.2.1,x.2.2.2.2.2.2.2.2.2.2.2)).bind fun r29 =>
    rec (x.1,x.2.1,x.2.2.1,r29.1,(IntKind.wrap .i64 (x.2.2.2.2.1+1)),x.2.2.2.2.2.1,x.2.2.2.2.2.2.1,x.2.2.2.2.2.2.2.1,x.2.2.2.2.2.2.2.2.1,x.2.2.2.2.2.2.2.2.2.1,x.2.2.2.2.2.2.2.2.2.2.1,r29.2))))
 (some (x.2.2.2.1,x.2.2.2.2.2.2.2.2.2.2.2))
def zlS (a0:jS) (a1:jQ) (a2:jR) (a3:jQ) (a4:Int) (a5:jQ) (a6:jR) (a7:jQ) (a8:Int):Option (Int×Int×jT) :=
 (zf1 a0 a1 a2 a3).bind fun r31 =>
 cond (!r31)
 (some (0,1500,([]:jT)))
 ((zf1 a0 a5 a6 a7).bind fun r32 =>
  cond (!r32)
  (some (0,1500,([]:jT)))
  (((lp zbv zd) (a0,a4,a8,0,0,a1,a2,a3,a5,a6,a7,([]:jT))).bind fun r33 =>
   some (r33.1,0,r33.2)))
def yT (rec:(jT×Int×jQ×jR×jQ×jQ×jR×jQ)→Option (Unit⊕Bool)) (x:(jT×Int×jQ×jR×jQ×jQ×jR×jQ)):Option (Unit⊕Bool) :=
 cond (decide (x.2.1<((List.length x.1:Nat):Int)))
 ((gx x.1 x.2.1).bind fun e16 =>
  cond (decide (e16.2.2.2.2.2.1<0))
  (some (Sum.inr false))
  (cond (decide (e16.2.2.2.2.2.1≥((List.length x.2.2.2.2.2.1:Nat):Int)))
   (some (Sum.inr false))
   ((gx x.1 x.2.1).bind fun e17 =>
    cond (decide (e17.2.2.2.2.2.2.1<1))
    (some (Sum.inr false))
    ((gx x.1 x.2.1).bind fun e18 =>
     (gx x.2.2.2.2.2.1 e16.2.2.2.2.2.1).bind fun e19 =>
     cond (decide (e18.2.2.2.2.2.2.1≥((List.length e19.2:Nat):Int)))
     (some (Sum.inr false))
     ((gx x.2.2.2.2.2.1 e16.2.2.2.2.2.1).bind fun e20 =>
      (gx x.1 x.2.1).bind fun e21 =>
      (gx e20.2 e21.2.2.2.2.2.2.1).bind fun e22 =>
      cond (decide (e22<0))
      (some (Sum.inr false))
      ((gx x.1 x.2.1).bind fun e23 =>
       cond (decide (e23.2.2.1<0))
       (some (Sum.inr false))
       (cond (decide (e23.2.2.1≥((List.length x.2.2.1:Nat):Int)))
        (some (Sum.inr false))
        ((gx x.2.2.1 e23.2.2.1).bind fun e24 =>
         cond e24.1
         (some (Sum.inr false))
         ((gx x.2.2.1 e23.2.2.1).bind fun e25 =>
          cond (((List.length e25.2:Nat):Int)==0)
          (some (Sum.inr false))
          ((gx x.2.2.1 e23.2.2.1).bind fun e26 =>
           (gx e26.2 0).bind fun e27 =>
           cond (e27 != 0)
           (some (Sum.inr false))
           (rec (x.1,(IntKind.wrap .i64 (x.2.1+1)),x.2.2.1,x.2.2.2.1,x.2.2.2.2.1,x.2.2.2.2.2.1,x.2.2.2.2.2.2.1,x.2.2.2.2.2.2.2))))))))))))
 (some (Sum.inl ()))
def zaM (a0:jS) (a1:jQ) (a2:jR) (a3:jQ) (a4:jQ) (a5:jR) (a6:jQ):Option Bool :=
 (zih).bind fun r31 =>
 cond (!r31)
 (some false)
 ((zen a0 a1 a2 a3 0 a4 a5 a6 1).bind fun r32 =>
  (zej r32.2.1).bind fun r33 =>
  cond (r33 != 0)
  (cond (((List.length r32.2.2:Nat):Int)==0)
   (some (r32.1==0))
   (some false))
  (((lp yT zd) (r32.2.2,0,a1,a2,a3,a4,a5,a6)).bind fun r34 =>
   yd r34
   (fun z35=>some true)
   (fun z36=>some z36)))
end Go.Abs.Q
namespace Go.Abs.Q
open Go Go.Abs
section
inductive RT (t u:Tm):Tm→Tm→Prop
 | here:RT t u t u
 | arg (c:Nat) (l r:List Tm) {a b:Tm}:RT t u a b→RT t u (.f c (l++a::r)) (.f c (l++b::r))
theorem zkV:(ts:List Tm)→(p:Nat)→p<(zb ts).length→∃ l a r,ts=l++a::r∧(zb l).length≤p∧p<(zb l).length+a.codes.length
 | [],p,h=>by simp [zb] at h
 | t::ts,p,h=>by
  simp only[zb,List.length_append] at h
  by_cases hp:p<t.codes.length
  ·exact ⟨[],t,ts,rfl,Nat.zero_le _,by simpa[zb] using hp⟩
  ·obtain⟨l,a,r,rfl,h1,h2⟩:=zkV ts (p - t.codes.length) (by omega)
   exact ⟨t::l,a,r,rfl,by simp only[zb,List.length_append]; omega,by simp only[zb,List.length_append]; omega⟩
theorem zt4 {a0:List zi} {N:Nat} {l r:List Tm} {a:Tm} (h:okR a0 N (l++a::r)):a.ok a0 N:=zbQ.1 h a (by simp)
theorem ztw {a0:List zi}:∀(n:Nat) (a:Tm) (p:Nat),a.size≤n→a.ok a0 24→p<a.codes.length→∃ t:Tm,t.ok a0 24∧(∃ x y,a.codes=x++t.codes++y∧x.length=p∧∀ u:Tm,∃ b,RT t u a b∧b.codes=x++u.codes++y)
 | 0,a,p,h,_,_=>by have:=a.size_pos; omega
 | n+1,a,0,_,ho,_=>⟨a,ho,[],[],by simp,rfl,fun u=>⟨u,.here,by simp⟩⟩
 | n+1,.v m,p+1,_,_,h=>by simp [Tm.codes] at h
 | n+1,.f c as,p+1,hn,ho,h=>by
  simp only[Tm.codes,List.length_cons] at h
  obtain⟨l,a,r,rfl,h1,h2⟩:=zkV as p (by omega)
  simp only[Tm.size,zob,za9] at hn
  obtain⟨t,h3,x,y,h4,h5,h6⟩:=ztw n a (p - (zb l).length) (by omega) (zt4 ho.2) (by omega)
  refine ⟨t,h3,(c:Int)::zb l++x,y++zb r,?_,?_,fun u => ?_⟩
  ·simp only[Tm.codes,zdk,zb,h4]; simp
  ·simp only[List.cons_append,List.length_cons,List.length_append]; omega
  ·obtain⟨b,g1,g2⟩:=h6 u
   refine ⟨.f c (l++b::r),.arg c l r g1,?_⟩
   simp only[Tm.codes,zdk,zb,g2]; simp
def RR (t u:Tm) (ts us:List Tm):Prop:=∃ l a b r,ts=l++a::r∧us=l++b::r∧RT t u a b
theorem zBz {a0:List zi} {ts:List Tm} {p:Nat} (ho:okR a0 24 ts) (h:p<(zb ts).length):∃ t:Tm,t.ok a0 24∧∃ x y,zb ts=x++t.codes++y∧x.length=p∧∀ u:Tm,∃ us,RR t u ts us∧zb us=x++u.codes++y:=by
 obtain⟨l,a,r,rfl,h1,h2⟩:=zkV ts p h
 obtain⟨t,h3,x,y,h4,h5,h6⟩:=ztw a.size a (p - (zb l).length) (Nat.le_refl _) (zt4 ho) (by omega)
 refine ⟨t,h3,zb l++x,y++zb r,by simp only[zdk,zb,h4]; simp,by simp only[List.length_append]; omega,fun u => ?_⟩
 obtain⟨b,g1,g2⟩:=h6 u
 exact ⟨l++b::r,⟨l,a,b,r,rfl,rfl,g1⟩,by simp only[zdk,zb,g2]; simp⟩
theorem RT.ok {a0:List zi} {N:Nat} {t u a b:Tm} (h:RT t u a b) (hu:u.ok a0 N) (ha:a.ok a0 N):b.ok a0 N:=by
 induction h with
 | here=>exact hu
 | arg c l r h ih =>
  refine ⟨by have:=ha.1; simpa using this,zbQ.2 fun w hw => ?_⟩
  have h2:=zbQ.1 ha.2
  rcases List.mem_append.1 hw with hw | hw
  ·exact h2 w (List.mem_append_left _ hw)
  ·rcases List.mem_cons.1 hw with rfl | hw
   ·exact ih (h2 _ (by simp))
   ·exact h2 w (by simp [hw])
theorem RR.ok {a0:List zi} {N:Nat} {t u:Tm} {ts us:List Tm} (h:RR t u ts us) (hu:u.ok a0 N) (ha:okR a0 N ts):okR a0 N us:=by
 obtain⟨l,a,b,r,rfl,rfl,h⟩:=h
 refine zbQ.2 fun w hw => ?_
 have h2:=zbQ.1 ha
 rcases List.mem_append.1 hw with hw | hw
 ·exact h2 w (List.mem_append_left _ hw)
 ·rcases List.mem_cons.1 hw with rfl | hw
  ·exact h.ok hu (h2 _ (by simp))
  ·exact h2 w (by simp [hw])
theorem RR.len {t u:Tm} {ts us:List Tm} (h:RR t u ts us):us.length=ts.length:=by
 obtain⟨l,a,b,r,rfl,rfl,h⟩:=h
 simp
theorem zyl {a0:List zi} {t:Tm} (ht:t.ok a0 24) (x y:List Int):sk a0 1 ((x++t.codes++y).drop x.length)=some t.codes.length:=by
 rw[List.append_assoc,List.drop_left]
 exact zqn y (t.sk_codes ht)
theorem zri {a0:List zi} (hs:SignOk a0) {t:Tm} (ht:t.ok a0 24) (x y:List Int) (hl:(x++t.codes++y).length≤1000):zcF a0 (x++t.codes++y) (x.length:Int)=some (((x.length+t.codes.length:Nat):Int),true):=by
 rw[zfb hs _ (by omega),zyl ht]
theorem zzW {a0:List zi} (hs:SignOk a0) {t:Tm} (ht:t.ok a0 24) (x y:List Int) (hl:(x++t.codes++y).length≤1000):zhM a0 (x++t.codes++y) (x.length:Int)=some ((x.length+t.codes.length:Nat):Int):=by
 rw[zli hs _ (by omega) _ (by simp only[List.length_append]; omega),zyl ht]
 rfl
theorem zAX (x z y:List Int):zbV (x++z++y) (some (x.length:Int)) (some ((x.length+z.length:Nat):Int))=some z:=by
 show slc (x++z++y) (x.length:Int) ((x.length+z.length:Nat):Int)=_
 unfold slc
 rw[decide_eq_true (show (0:Int)≤(x.length:Int) by omega),decide_eq_true (show (x.length:Int)≤((x.length+z.length:Nat):Int) by omega),decide_eq_true (show ((x.length+z.length:Nat):Int)≤(((x++z++y).length:Nat):Int) by simp only[List.length_append]; omega)]
 simp only[cond_true,Bool.and_self,Int.toNat_natCast]
 have e:(x++z++y).take (x.length+z.length)=x++z:=by rw[show x.length+z.length=(x++z).length by simp,List.take_left]
 rw[e,List.drop_left]
theorem zuB (x z y:List Int):zbV (x++z++y) none (some (x.length:Int))=some x:=by
 rw[znL _ (by simp only[List.length_append]; omega)]
 simp
theorem zwE (x z y:List Int):zbV (x++z++y) (some ((x.length+z.length:Nat):Int)) none=some y:=by
 rw[zqK _ (by simp only[List.length_append]; omega)]
 rw[show x.length+z.length=(x++z).length by simp,List.drop_left]
theorem zj4 {a0:List zi} (hb:zcC a0=true) {t:Tm} (ht:t.ok a0 24) (hl:t.codes.length≤48):zco a0 t.codes=some true:=by
 have h:=yp (a0:=a0) [t] ⟨ht,trivial⟩
 have e:zb [t]=t.codes:=by simp [zb]
 rw[e] at h
 unfold zco
 rw[zds,Option.bind_some]
 unfold zbd
 rw[hb,decide_eq_true hl]
 simp only[Bool.and_self,cond_true,h]
 rfl
theorem zl3 (a0:List zi) (xs:List Int):∃ b,zbi a0 xs=some b:=⟨_,zca a0 xs⟩
theorem zxa {a0:List zi} {a b:List Int} {k:Int} (h:zjU a0 a b=some (k,0)):k=0∨k=1∨k=2∨k=3:=by
 unfold zjU at h
 simp only[Option.bind_eq_some_iff] at h
 obtain⟨r,-,h⟩:=h
 cases r with
 | true=>injection h with h; injection h with h; exact .inr (.inl h.symm)
 | false =>
  simp only[cond_false,Option.bind_eq_some_iff] at h
  obtain⟨r,-,h⟩:=h
  cases r with
  | true=>injection h with h; injection h with h; exact .inr (.inr (.inl h.symm))
  | false =>
   simp only[cond_false,Option.bind_eq_some_iff] at h
   obtain⟨r,-,h⟩:=h
   cases r with
   | true=>injection h with h; injection h with h; exact .inl h.symm
   | false=>injection h with h; injection h with h; exact .inr (.inr (.inr h.symm))
theorem znH {a0:List zi} (hb:zcC a0=true) {t u:Tm} (ht:t.ok a0 24) (hu:u.ok a0 24) (hlt:t.codes.length≤48) (hlu:u.codes.length≤48):∃ k,zcu a0 t.codes u.codes=some k∧zaG a0 t.codes u.codes=some (k,0)∧zjU a0 t.codes u.codes=some (k,0)∧(k=0∨k=1∨k=2∨k=3):=by
 obtain⟨k,h1,h2⟩:=znz (zc2 hb) ht hu (by omega) (by omega)
 refine ⟨k,h1,?_,h2,zxa h2⟩
 rw[← h2]
 obtain⟨b1,e1⟩:=zl3 a0 t.codes
 obtain⟨b2,e2⟩:=zl3 a0 u.codes
 unfold zaG
 rw[zj4 hb ht hlt,zj4 hb hu hlu,e1,e2]
 cases b1<;>cases b2<;>rfl
end
end Go.Abs.Q
namespace Go.Abs.Q
open Go Go.Abs
section
theorem zm5 (a0:List zi) (L:List zc) (T:List jI) (C:List zc) (L':List zc) (T':List jI) (C':List zc) :
  zcM a0 L T C L' T' C'=(zcN a0 L T C L' T' C').bind fun r=>some (r.2.2.1,r.1,r.2.1,r.2.2.2):=by
 have half:∀(n:Int),((qe a0 L' T' C').bind fun r17 =>
   cond (decide (((List.length r17.2:Nat):Int)>0))
   ((inR (IntKind.wrap .i64 (((List.length r17.2:Nat):Int) - 1)) (List.length r17.2)).bind fun k18 =>
    (r17.2[k18]?).bind fun x19 =>
    cond (decide ((IntKind.wrap .i64 (x19+n))>23))
    (some (false,([]:jQ),([]:jR),([]:jQ)))
    ((zC L' T' C' n).bind fun r20=>some (true,r20.1,r20.2.1,r20.2.2)))
   ((zC L' T' C' n).bind fun r21=>some (true,r21.1,r21.2.1,r21.2.2))) =
  ((qe a0 L' T' C').bind fun r17 =>
   cond (decide (((List.length r17.2:Nat):Int)>0))
   ((inR (IntKind.wrap .i64 (((List.length r17.2:Nat):Int) - 1)) (List.length r17.2)).bind fun k18 =>
    (r17.2[k18]?).bind fun x19 =>
    cond (decide ((IntKind.wrap .i64 (x19+n))>23))
    (some (([]:jQ),([]:jR),false,([]:jQ)))
    ((zC L' T' C' n).bind fun r20=>some (r20.1,r20.2.1,true,r20.2.2)))
   ((zC L' T' C' n).bind fun r21=>some (r21.1,r21.2.1,true,r21.2.2))).bind fun r=>some (r.2.2.1,r.1,r.2.1,r.2.2.2):=by
  intro n
  cases qe a0 L' T' C' with
  | none=>rfl
  | some r17 =>
   simp only[Option.bind_some]
   have fin:((zC L' T' C' n).bind fun r20=>some (true,r20.1,r20.2.1,r20.2.2))=((zC L' T' C' n).bind fun r20=>some (r20.1,r20.2.1,true,r20.2.2)).bind fun r=>some (r.2.2.1,r.1,r.2.1,r.2.2.2):=by
    cases zC L' T' C' n<;>rfl
   cases decide (((List.length r17.2:Nat):Int)>0) with
   | false=>exact fin
   | true =>
    simp only[cond_true]
    cases inR (IntKind.wrap .i64 (((List.length r17.2:Nat):Int) - 1)) (List.length r17.2) with
    | none=>rfl
    | some k18 =>
     simp only[Option.bind_some]
     cases r17.2[k18]? with
     | none=>rfl
     | some x19 =>
      simp only[Option.bind_some]
      cases decide (IntKind.wrap .i64 (x19+n)>23) with
      | true=>rfl
      | false=>exact fin
 unfold zcM zcN
 cases qe a0 L T C with
 | none=>rfl
 | some r14 =>
  simp only[Option.bind_some]
  cases decide (((List.length r14.2:Nat):Int)>0) with
  | false=>exact half 0
  | true =>
   simp only[cond_true]
   cases inR (IntKind.wrap .i64 (((List.length r14.2:Nat):Int) - 1)) (List.length r14.2) with
   | none=>rfl
   | some k15 =>
    simp only[Option.bind_some]
    cases r14.2[k15]? with
    | none=>rfl
    | some x16=>exact half _
theorem zlA:(es:List zc)→(i:Nat)→zV (-1) es i=es
 | [],_=>rfl
 | e::es,i=>by
  unfold zV
  rw[show ((i:Int) != -1)=true from by simp,cond_true,zlA es (i+1)]
theorem zpd {L:List zc} {i:Int} (h:qX L i=true):(zV i L 0).length+1=L.length:=by
 unfold qX at h
 simp only[Bool.and_eq_true,decide_eq_true_eq] at h
 obtain⟨k,rfl⟩:∃ k:Nat,i=(k:Int):=⟨i.toNat,by omega⟩
 rw[zfV k L 0 (by omega) (by omega)]
 simp; omega
theorem zxk {side:Int} (hside:side=0∨side=1) (s0 s1:Tm):∃(ks kt:Nat) (fr to:Tm),inR side 2=some ks∧inR (IntKind.wrap .i64 (1 - side)) 2=some kt∧([s0.codes,s1.codes])[ks]? = some fr.codes∧([s0.codes,s1.codes])[kt]? = some to.codes ∧
  ((fr=s0∧to=s1)∨(fr=s1∧to=s0))∧decide (side<0)=false∧decide (side>1)=false:=by
 rcases hside with rfl | rfl
 ·exact ⟨0,1,s0,s1,rfl,rfl,rfl,rfl,.inl ⟨rfl,rfl⟩,rfl,rfl⟩
 ·exact ⟨1,0,s1,s0,rfl,rfl,rfl,rfl,.inr ⟨rfl,rfl⟩,rfl,rfl⟩
def PSpec (a0:List zi) (L:List zc) (T:List jI) (C:List zc) (i:Int) (fr to:Tm) (L':List zc) (T':List jI) (C':List zc) (j:Int) (n':Bool) (A':List Int) (at':Nat) (o:Option zpC):Prop :=
 (∃ v,A'[at']? = some v∧v<0∧o=zcE 0) ∨
 ∃(v:Int) (b c:Nat) (us:List Tm),A'[at']? = some v∧0≤v∧b≤24∧TopV (yr L T C) (b:Int)∧A'=(c:Int)::zb us∧okR a0 24 us ∧
  ((o=zcE 1501∧∃ x,zgA (yr L' T' C') x∧23<x+(b:Int)) ∨
   ((∀ x,zgA (yr L' T' C') x→x+(b:Int)≤23)∧∃(t:Tm) (x y:List Int),t.ok a0 24∧zb (us.map (Tm.up b))=x++t.codes++y∧at'=x.length+1∧okR a0 24 (us.map (Tm.up b))∧(∀ u:Tm,∃ ws,RR t u (us.map (Tm.up b)) ws∧zb ws=x++u.codes++y) ∧
    ((o=zcE 0∧∀ θ,¬ Sol θ ([fr].zip [t])) ∨
    ∃ σ,Mgu σ ([fr].zip [t])∧(∀ x,x<24→(σ x).ok a0 24) ∧
     ((o=zcE 1502∧(zap σ (List.range 24)=false∨48<(fr.sub σ).codes.length∨48<(to.sub σ).codes.length)) ∨
      (zap σ (List.range 24)=true∧(fr.sub σ).codes.length≤48∧(to.sub σ).codes.length≤48∧∃ k,zaG a0 (fr.sub σ).codes (to.sub σ).codes=some (k,0) ∧
       ((o=zcE 0∧(k=0∨k=1)) ∨
       (o=zmJ a0 σ (zV i L 0++(zgN (b:Int) L').set j.toNat (n',(c:Int)::(x++to.codes++y))) (zqA b T T') (zqb b C C') 1502∧(k=2∨k=3))))))))
theorem zcb (t:Tm):t.codes=zb [t]:=by simp [zb]
theorem zwj {α:Type} {x y:α}:{xs:List α}→{i:Nat}→y∈xs.set i x→y∈xs∨y=x
 | [],i,h=>by simp at h
 | z::zs,0,h=>by
  rcases List.mem_cons.1 h with h | h
  ·exact .inr h
  ·exact .inl (List.mem_cons_of_mem _ h)
 | z::zs,i+1,h=>by
  rcases List.mem_cons.1 h with h | h
  ·exact .inl (h▸List.mem_cons_self ..)
  ·rcases zwj h with h | h
   ·exact .inl (List.mem_cons_of_mem _ h)
   ·exact .inr h
theorem zwr {a0:List zi} {A:List Int} (h:qz a0 A=true) (h0:gx A 0=some 0):∃ s0 s1:Tm,A=0::zb [s0,s1]∧s0.ok a0 24∧s1.ok a0 24∧(zb [s0,s1]).length≤48:=by
 obtain⟨c,ts,e,rfl,ho,he,-,hlen,hl48,hb⟩:=zeD h
 rw[yZ,List.getElem?_cons_zero] at h0
 injection h0 with h0
 obtain rfl:c=0:=by omega
 rw[(zc2 hb).eq] at he
 injection he with he
 subst he
 match ts,hlen,ho,hl48 with
 | [],hlen,_,_=>exact absurd hlen (by decide)
 | [_],hlen,_,_=>exact absurd hlen (by show ¬(((1:Nat):Int)=(2:Int)); decide)
 | _::_::_::_,hlen,_,_=>simp only[List.length_cons] at hlen; exact absurd hlen (by show ¬(_=(2:Int)); omega)
 | [s0,s1],_,ho,hl48=>exact ⟨s0,s1,rfl,ho.1,ho.2.1,hl48⟩
theorem zx5 {a0:List zi} (hs:SignOk a0) {s0 s1:Tm} (h0:s0.ok a0 24) (h1:s1.ok a0 24) (hl:(zb [s0,s1]).length≤48):zcJ a0 (0::zb [s0,s1])=some [s0.codes,s1.codes]∧zN a0 (zb [s0,s1])=some [s0.codes,s1.codes]:=by
 have hc:=yp (a0:=a0) [s0,s1] ⟨h0,h1,trivial⟩
 refine ⟨?_,zaK hs (by omega) hc⟩
 unfold zcJ
 rw[zcL,Option.bind_some,zbB hs (by omega) hc]
 rfl
theorem ztb {σ:Sb} (t:Tm) (h:∀ c∈t.codes,-24≤c):onB (zdW σ) t.codes=(t.sub σ).codes:=by
 rw[zqB h,Tm.codes_sub]
 rfl
theorem zo4 {a0:List zi} {L:List zc} {T:List jI} {C:List zc} {L':List zc} {T':List jI} {C':List zc} (h:zc4 a0 L T C=true) (h':zc4 a0 L' T' C'=true) {i j:Int} {n':Bool} {A A':List Int}
  (hi:gx L i=some (false,A)) (h0:gx A 0=some 0) (hj:gx L' j=some (n',A')) {side:Int} (hside:side=0∨side=1) {at':Nat} (h1:1≤at') (h2:at'<A'.length) :
  ∃ s0 s1 fr to:Tm,A=0::zb [s0,s1]∧s0.ok a0 24∧s1.ok a0 24∧((fr=s0∧to=s1)∨(fr=s1∧to=s0))∧∃ o,zaW a0 L T C i side L' T' C' j (at':Int)=o∧yA a0 L T C i side L' T' C' j (at':Int)=o∧PSpec a0 L T C i fr to L' T' C' j n' A' at' o:=by
 obtain⟨hsb,l1,l2,l3,l4,l5,l6,-⟩:=zE h
 obtain⟨-,l1',l2',l3',l4',l5',l6',-⟩:=zE h'
 have hs:=zc2 hsb
 obtain⟨s0,s1,rfl,ok0,ok1,hA48⟩:=zwr (List.all_eq_true.1 l4 _ (ze7 hi)) h0
 obtain⟨c,us,e',rfl,ho',he',-,hlen',hl48',-⟩:=zeD (List.all_eq_true.1 l4' (n',A') (ze7 hj))
 obtain⟨ks,kt,fr,to,e1,e2,e3,e4,hft,hsd1,hsd2⟩:=zxk hside s0 s1
 refine ⟨s0,s1,fr,to,rfl,ok0,ok1,hft,?_⟩
 obtain⟨sd1,sd2⟩:=zx5 hs ok0 ok1 hA48
 have hcd:=znU hs h
 have hcd':=znU hs h'
 have hcA:Cds (0::zb [s0,s1]):=hcd _ (zaI (ze7 hi))
 have hs0:s0.codes.length+s1.codes.length≤48:=by simpa[zb] using hA48
 have hfr:fr.ok a0 24∧fr.codes.length≤48∧∀ c∈fr.codes,-24≤c∧c≤1000000:=by
  rcases hft with ⟨rfl,rfl⟩ | ⟨rfl,rfl⟩
  ·exact ⟨ok0,by omega,fun c hc=>hcA.2 c (by simp [zb,hc])⟩
  ·exact ⟨ok1,by omega,fun c hc=>hcA.2 c (by simp [zb,hc])⟩
 have hto:to.ok a0 24∧to.codes.length≤48∧∀ c∈to.codes,-24≤c∧c≤1000000:=by
  rcases hft with ⟨rfl,rfl⟩ | ⟨rfl,rfl⟩
  ·exact ⟨ok1,by omega,fun c hc=>hcA.2 c (by simp [zb,hc])⟩
  ·exact ⟨ok0,by omega,fun c hc=>hcA.2 c (by simp [zb,hc])⟩
 obtain⟨hjp,hjl,hjm⟩:0≤j∧j<L'.length∧L'[j.toNat]? = some (n',(c:Int)::zb us):=by
  have hj0:=hj
  unfold gx at hj0
  by_cases hn:0≤j
  ·rw[decide_eq_true hn,cond_true] at hj0
   have:=(List.getElem?_eq_some_iff.1 hj0).1
   exact ⟨hn,by omega,hj0⟩
  ·rw[decide_eq_false hn] at hj0; cases hj0
 have hpi:qX L i=true:=by
  unfold gx at hi
  by_cases hn:0≤i
  ·rw[decide_eq_true hn,cond_true] at hi
   have:=(List.getElem?_eq_some_iff.1 hi).1
   unfold qX
   simp only[Bool.and_eq_true,decide_eq_true_eq]
   omega
  ·rw[decide_eq_false hn] at hi; cases hi
 have hpj:qX L' j=true:=by
  unfold qX
  simp only[Bool.and_eq_true,decide_eq_true_eq]
  omega
 obtain⟨v,hv⟩:∃ v,((c:Int)::zb us)[at']? = some v:=⟨_,List.getElem?_eq_getElem h2⟩
 have hvat:gx ((c:Int)::zb us) (at':Int)=some v:=by rw[y5]; exact hv
 -- the reference's guards
 have href:yA a0 L T C i side L' T' C' j (at':Int)=(cond (decide (v<0)) (zcE 0)
   ((zeJ L T C L' T' C').bind fun r37 =>
          cond (!r37.2.2.1)
          (zcE 1501)
           ((gx r37.1 j).bind fun e45 =>
           (zhM a0 e45.2 (at':Int)).bind fun r46 =>
           (zbV e45.2 (some (at':Int)) (some r46)).bind fun y47 =>
           (zcP a0 fr.codes y47).bind fun r48 =>
           cond (!r48.2.1)
           (zcE 1502)
           (cond (!r48.1)
            (zcE 0)
            ((zcd r48.2.2 fr.codes).bind fun r49 =>
             (zcd r48.2.2 to.codes).bind fun r50 =>
             cond (decide (((List.length r49:Nat):Int)>48))
             (zcE 1502)
             (cond (decide (((List.length r50:Nat):Int)>48))
              (zcE 1502)
              ((zcu a0 r49 r50).bind fun r51 =>
               cond (r51==0)
               (zcE 0)
               (cond (r51==1)
                (zcE 0)
                ((zea L i).bind fun r52 =>
                 cond (yQ (List.length r52+List.length r37.1) 32)
                 ((gx r37.1 j).bind fun e53 =>
                  (zgs e45.2 (at':Int) r46 to.codes).bind fun r54 =>
                  (inR (IntKind.wrap .i64 ((IntKind.wrap .i64 (((List.length L:Nat):Int) - 1))+j)) (List.length (r52++r37.1))).bind fun k55 =>
                  ((r52++r37.1)[k55]?).bind fun x56 =>
                  (zjq (List.set (r52++r37.1) k55 (e53.1,r54)) L T C r37.1 r37.2.1 r37.2.2.2).bind fun r57 =>
                  (zhx a0 r48.2.2 r57.1 r57.2.1 r57.2.2).bind fun r58 =>
                  cond (!r58.2.2.1)
                  (zcE 1502)
                  (some (r58.1,r58.2.1,true,(0:Int),r58.2.2.2)))
                 (none)))))))))):=by
  unfold yA zcc
  rw[z1,h,Option.bind_some,z1,h',Option.bind_some,zhL,hpi,zhL,hpj]
  simp only[Bool.not_true,cond_false,Option.bind_some,cond_true,hi,h0,Bool.not_false,beq_self_eq_true,hsd1,hsd2,hj,hvat]
  rw[decide_eq_false (show ¬((at':Int)<1) by omega),cond_false,decide_eq_false (show ¬((at':Int)≥((List.length ((c:Int)::zb us):Nat):Int)) by omega),cond_false]
  cases decide (v<0) with
  | true=>rfl
  | false =>
   simp only[cond_false,zcL,Option.bind_some,sd2,List.length_cons,List.length_nil,Nat.zero_add,Nat.reduceAdd,e1,e2,e3,e4]
   rfl
 rw[href]
 unfold zaW
 rw[hj,Option.bind_some]
 simp only[hvat,Option.bind_some]
 by_cases hv0:v<0
 ·rw[decide_eq_true hv0]
  exact ⟨zcE 0,rfl,rfl,.inl ⟨v,hv,hv0,rfl⟩⟩
 ·rw[decide_eq_false hv0,cond_false,cond_false]
  obtain⟨b,hb,htop,hap⟩:=apart_spec hs h h'
  have fin:∀{o1 o2:Option zpC} {o:Option zpC},o1=o→o2=o→PSpec a0 L T C i fr to L' T' C' j n' ((c:Int)::zb us) at' o→∃ o,o1=o∧o2=o∧PSpec a0 L T C i fr to L' T' C' j n' ((c:Int)::zb us) at' o:=fun h1 h2 h3=>⟨_,h1,h2,h3⟩
  have mk:=fun {o:Option zpC} (hq:_)=>show PSpec a0 L T C i fr to L' T' C' j n' ((c:Int)::zb us) at' o from .inr ⟨v,b,c,us,hv,by omega,hb,htop,rfl,ho',hq⟩
  rcases hap with ⟨hap,hfar⟩ | ⟨hap,hnear⟩
  ·rcases zj7 hs h h' hb htop with ⟨ap,-⟩ | ⟨ap,hn2⟩
   ·rw[zm5,hap,ap]
    exact fin rfl rfl (mk (.inl ⟨rfl,hfar⟩))
   ·obtain⟨x,hx,hfar⟩:=hfar
    have:=hn2 x hx; omega
  ·rcases zj7 hs h h' hb htop with ⟨ap,x,hx,hfar⟩ | ⟨ap,-⟩
   ·have:=hnear x hx; omega
   ·rw[zm5,hap,ap]
    simp only[Option.bind_some,Bool.not_true,cond_false]
    have hj2:gx (zgN (b:Int) L') j=some (n',(c:Int)::zb (us.map (Tm.up b))):=by
     have:=zDY (fun l:zc=>(l.1,l.2.map (upC (b:Int)))) hj
     rw[zwH] at this
     exact this
    have hvar:∀ k:Nat,zjo k us→k+b<24:=fun k hk=>by
     have:=hnear (k:Int) ⟨_,zaI (ze7 hj),by
      obtain⟨c0,h1,h2,h3⟩:=zfH.2 ⟨k,rfl,hk⟩
      exact ⟨c0,List.mem_cons_of_mem _ h1,h2,h3⟩⟩
     omega
    have hou:=zAo ho' hvar
    have hlu:(zb (us.map (Tm.up b))).length=(zb us).length:=by rw[← zqZ,List.length_map]
    obtain⟨p,rfl⟩:∃ p,at'=p+1:=⟨at' - 1,by omega⟩
    rw[List.length_cons] at h2
    obtain⟨t,ht,x,y,e5,e6,hrep⟩:=zBz hou (p:=p) (by omega)
    subst e6
    have hlx:x.length+t.codes.length+y.length≤48:=by
     have:=congrArg List.length e5
     simp only[List.length_append] at this
     omega
    have mk2:=fun {o:Option zpC} (hq:_)=>mk (o:=o) (.inr ⟨hnear,t,x,y,ht,e5,rfl,hou,hrep,hq⟩)
    have e7:(c:Int)::zb (us.map (Tm.up b))=((c:Int)::x)++t.codes++y:=by rw[e5]; simp
    have e8:((x.length+1:Nat):Int)=((((c:Int)::x).length:Nat):Int):=by simp
    have hl1:(((c:Int)::x)++t.codes++y).length≤1000:=by simp only[List.length_append,List.length_cons]; omega
    have hjn:inR j (zgN (b:Int) L').length=some j.toNat:=by
     obtain⟨k,rfl⟩:=Int.eq_ofNat_of_zero_le hjp
     exact yY (by simp [zgN]; omega)
    have hjd:(zgN (b:Int) L')[j.toNat]? = some (n',(c:Int)::zb (us.map (Tm.up b))):=by
     have h3:=hj2
     unfold gx at h3
     rwa [decide_eq_true hjp,cond_true] at h3
    rw[hi,Option.bind_some,hj2,Option.bind_some]
    simp only[sd1,Option.bind_some,List.length_cons,List.length_nil,Nat.zero_add,Nat.reduceAdd,e1,e2,e3,e4,hjn,hjd]
    rw[e8,e7,zri hs ht _ _ hl1,zzW hs ht _ _ hl1]
    simp only[Option.bind_some,zAX]
    rw[zcb fr,zcb t]
    rcases zsh hs (xs:=zb [fr]) (ys:=zb [t]) rfl rfl ⟨hfr.1,trivial⟩ ⟨ht,trivial⟩ hsb (by rw[← zcb]; omega) (by rw[← zcb]; omega) with ⟨hu,hno⟩ | ⟨-,σ,hm,hok,hu⟩
    ·rcases ziU hs (ts:=[fr]) (us:=[t]) ⟨hfr.1,trivial⟩ ⟨ht,trivial⟩ (by rw[← zcb]; omega) (by rw[← zcb]; omega) with ⟨tg,-⟩ | ⟨-,σ',hm',tg⟩
     ·rw[hu,tg]
      exact fin rfl rfl (mk2 (.inl ⟨rfl,hno.resolve_left fun h=>h rfl⟩))
     ·exact absurd hm'.sol (hno.resolve_left (fun h=>h rfl) σ')
    ·rcases ziU hs (ts:=[fr]) (us:=[t]) ⟨hfr.1,trivial⟩ ⟨ht,trivial⟩ (by rw[← zcb]; omega) (by rw[← zcb]; omega) with ⟨tg,hno⟩ | ⟨-,σ',hm',tg⟩
     ·exact absurd hm.sol (hno.resolve_left (fun h=>h rfl) σ)
     ·have:=hm.unique hm'
      subst this
      rw[hu,tg]
      have mk3:=fun {o:Option zpC} (hq:_)=>mk2 (o:=o) (.inr ⟨σ,hm,hok,hq⟩)
      cases hsh:zap σ (List.range 24) with
      | false=>exact fin rfl rfl (mk3 (.inl ⟨rfl,.inl hsh⟩))
      | true =>
       simp only[cond_true,Option.bind_some,show ((0:Int) != 0)=false from rfl,cond_false,Bool.not_true]
       rw[← zcb fr,← zcb t]
       have nfr:zcB fr.codes:=⟨by omega,fun c hc=>by have:=hfr.2.2 c hc; omega⟩
       have nto:zcB to.codes:=⟨by omega,fun c hc=>by have:=hto.2.2 c hc; omega⟩
       rw[zfL (zhN hsh) nfr.1 nfr.2,zpg (zhN hsh) nfr,zfL (zhN hsh) nto.1 nto.2,zpg (zhN hsh) nto,ztb fr fun c hc=>(hfr.2.2 c hc).1,ztb to fun c hc=>(hto.2.2 c hc).1]
       simp only[Option.bind_some]
       have okf:(fr.sub σ).ok a0 24:=Tm.ok_sub fr hfr.1 fun x hx=>hok x (Tm.ok_has fr hfr.1 hx)
       have okt:(to.sub σ).ok a0 24:=Tm.ok_sub to hto.1 fun x hx=>hok x (Tm.ok_has to hto.1 hx)
       by_cases g1:48<(fr.sub σ).codes.length
       ·rw[decide_eq_true (show ((List.length (fr.sub σ).codes:Nat):Int)>48 by omega)]
        exact fin rfl rfl (mk3 (.inl ⟨rfl,.inr (.inl g1)⟩))
       ·rw[decide_eq_false (show ¬((List.length (fr.sub σ).codes:Nat):Int)>48 by omega),cond_false,cond_false]
        by_cases g2:48<(to.sub σ).codes.length
        ·rw[decide_eq_true (show ((List.length (to.sub σ).codes:Nat):Int)>48 by omega)]
         exact fin rfl rfl (mk3 (.inl ⟨rfl,.inr (.inr g2)⟩))
        ·rw[decide_eq_false (show ¬((List.length (to.sub σ).codes:Nat):Int)>48 by omega),cond_false,cond_false]
         obtain⟨k,w1,w2,-,w4⟩:=znH hsb okf okt (by omega) (by omega)
         unfold zit
         rw[w1,w2]
         simp only[Option.bind_some]
         have mk4:=fun {o:Option zpC} (hq:_)=>mk3 (o:=o) (.inr ⟨hsh,by omega,by omega,k,w2,hq⟩)
         by_cases hk:k=0∨k=1
         ·refine fin (o:=zcE 0) ?_ ?_ (mk4 (.inl ⟨rfl,hk⟩))
          ·rcases hk with rfl | rfl<;>rfl
          ·rcases hk with rfl | rfl<;>rfl
         ·have hk2:k=2∨k=3:=by omega
          have hb1:(cond (k != 2) (some (k != 3)) (some false):Option Bool)=some false:=by rcases hk2 with rfl | rfl<;>rfl
          rw[hb1,Option.bind_some,cond_false,show (k==0)=false by simp; omega,show (k==1)=false by simp; omega,cond_false,cond_false]
          unfold zhj zgs
          have hlto:to.codes.length≤48:=hto.2.1
          have hul:(zgN (b:Int) L').length=L'.length:=by simp [zgN]
          have hucl:(zgN (b:Int) C').length=C'.length:=by simp [zgN]
          have hwl:=zpd hpi
          rw[zri hs ht _ _ hl1]
          simp only[Option.bind_some,zuB,zwE]
          rw[zAp (by simp only[List.length_cons]; omega),zoi hpi (by omega),zn (by first | omega | (simp only[List.length_append,List.length_cons,List.length_nil,List.length_map]; omega)),cond_true,zn (by first | omega | (simp only[List.length_append,List.length_cons,List.length_nil,List.length_map]; omega)),cond_true,zn (by first | omega | (simp only[List.length_append,List.length_cons,List.length_nil,List.length_map]; omega)),cond_true]
          simp only[Option.bind_some]
          rw[zn (by first | omega | (simp only[List.length_append,List.length_cons,List.length_nil,List.length_map]; omega)),cond_true]
          have w5:inR (IntKind.wrap .i64 ((IntKind.wrap .i64 (((List.length L:Nat):Int) - 1))+j)) (List.length (zV i L 0++zgN (b:Int) L'))=some ((zV i L 0).length+j.toNat):=by
           rw[show IntKind.wrap .i64 (((List.length L:Nat):Int) - 1)=(((zV i L 0).length:Nat):Int) by rw[zp]<;>omega,show IntKind.wrap .i64 ((((zV i L 0).length:Nat):Int)+j)=(((zV i L 0).length+j.toNat:Nat):Int) by rw[zp]<;>omega]
           exact yY (by rw[List.length_append]; omega)
          have w6:(zV i L 0++zgN (b:Int) L')[(zV i L 0).length+j.toNat]? = some (n',(c:Int)::zb (us.map (Tm.up b))):=by
           rw[List.getElem?_append_right (by omega),show (zV i L 0).length+j.toNat - (zV i L 0).length=j.toNat by omega]
           exact hjd
          rw[w5,Option.bind_some,w6,Option.bind_some,List.set_append_right _ _ (by omega),show (zV i L 0).length+j.toNat - (zV i L 0).length=j.toNat by omega]
          have e9:(((([]:List Int)++(c:Int)::x))++to.codes)++y=(c:Int)::(x++to.codes++y):=by simp
          have e10:(((c:Int)::x)++to.codes)++y=(c:Int)::(x++to.codes++y):=by simp
          rw[e9,e10]
          have hul2:((zgN (b:Int) L').set j.toNat (n',(c:Int)::(x++to.codes++y))).length=L'.length:=by rw[List.length_set]; exact hul
          unfold zjq
          rw[zlQ i (-1) (by omega) (by omega) (by omega) (by omega) (by simp; omega) (by omega),Option.bind_some,zlA,
           zn (by first | omega | (simp only[List.length_append,List.length_cons,List.length_nil,List.length_map]; omega)),cond_true,zn (by first | omega | (simp only[List.length_append,List.length_cons,List.length_nil,List.length_map]; omega)),cond_true,zn (by first | omega | (simp only[List.length_append,List.length_cons,List.length_nil,List.length_map]; omega)),cond_true,zn (by first | omega | (simp only[List.length_append,List.length_cons,List.length_nil,List.length_map]; omega)),cond_true,Option.bind_some]
          have hup:∀ r∈yr L' T' C',Cds (r.map (upC (b:Int))):=fun r hr=>zBZ (hcd' r hr) fun x hx=>hnear x ⟨r,hr,hx⟩
          have hupl:∀ ls:List zc,(∀ l∈ls,l.2∈yr L' T' C')→∀ l∈zgN (b:Int) ls,Cds l.2:=fun ls hls l hl=>by
           obtain⟨l0,h0,rfl⟩:=List.mem_map.1 hl
           exact hup _ (hls l0 h0)
          have hA2:Cds ((c:Int)::zb (us.map (Tm.up b))):=hupl L' (fun l hl=>zaI hl) _ (ze7 hj2)
          have hnew:Cds ((c:Int)::(x++to.codes++y)):=by
           refine ⟨by simp only[List.length_cons,List.length_append]; omega,fun d hd => ?_⟩
           rcases List.mem_cons.1 hd with rfl | hd
           ·exact hA2.2 _ (List.mem_cons_self ..)
           ·rcases List.mem_append.1 hd with hd | hd
            ·rcases List.mem_append.1 hd with hd | hd
             ·exact hA2.2 d (by rw[e5]; simp [hd])
             ·exact hto.2.2 d hd
            ·exact hA2.2 d (by rw[e5]; simp [hd])
          have cL:∀ l∈zV i L 0++(zgN (b:Int) L').set j.toNat (n',(c:Int)::(x++to.codes++y)),Cds l.2:=fun l hl=>by
           rcases List.mem_append.1 hl with hl | hl
           ·exact hcd _ (zaI (ziB L 0 hl))
           ·rcases zwj hl with hl | rfl
            ·exact hupl L' (fun l hl=>zaI hl) l hl
            ·exact hnew
          have cT:∀ r∈zqA b T T',Cds r:=fun r hr=>by
           unfold zqA at hr
           rcases List.mem_append.1 hr with hr | hr
           ·exact hcd _ (zcz hr)
           ·obtain⟨r0,h0,rfl⟩:=List.mem_map.1 hr
            exact hup _ (zcz h0)
          have cC:∀ l∈zqb b C C',Cds l.2:=fun l hl=>by
           unfold zqb at hl
           rcases List.mem_append.1 hl with hl | hl
           ·exact hcd _ (zb2 hl)
           ·exact hupl C' (fun l hl=>zb2 hl) l hl
          have nL:(zV i L 0++(zgN (b:Int) L').set j.toNat (n',(c:Int)::(x++to.codes++y))).length≤100:=by rw[List.length_append]; omega
          have nT:(zqA b T T').length≤100:=by unfold zqA; rw[List.length_append,List.length_map]; omega
          have nC:(zqb b C C').length≤100:=by unfold zqb; rw[List.length_append]; omega
          refine fin ?_ (zsF (a0:=a0) hs hsh cL cT cC (by omega) (by omega) (by omega) 1502) (mk4 (.inr ⟨rfl,hk2⟩))
          simp only
          rw[show T++T'.map (List.map (upC (b:Int)))=zqA b T T' from rfl,show C++zgN (b:Int) C'=zqb b C C' from rfl,zCs hsh cL cT cC (by omega) (by omega) (by omega),Option.bind_some,zko,Option.bind_some]
          unfold zmJ
          cases zc4 a0 (zcD σ (zV i L 0++(zgN (b:Int) L').set j.toNat (n',(c:Int)::(x++to.codes++y)))) ((zqA b T T').map (zdo σ)) (zcD σ (zqb b C C')) with
          | true=>rfl
          | false=>rfl
end
end Go.Abs.Q
namespace Go.Abs.Q
open Go Go.Abs
section
theorem PSpec.okR {a0:List zi} {L:List zc} {T:List jI} {C:List zc} {i:Int} {fr to:Tm} {L':List zc} {T':List jI} {C':List zc} {j:Int} {n':Bool} {A':List Int} {at':Nat} {o:Option zpC} (h:PSpec a0 L T C i fr to L' T' C' j n' A' at' o):OkR a0 o:=by
 rcases h with ⟨_,_,_,h⟩ | ⟨_,_,_,_,_,_,_,_,_,_,⟨h,_⟩ | ⟨_,_,_,_,_,_,_,_,_,⟨h,_⟩ | ⟨_,_,_,⟨h,_⟩ | ⟨_,_,_,_,_,⟨h,_⟩ | ⟨h,_⟩⟩⟩⟩⟩
 ·exact zga h
 ·exact zga h
 ·exact zga h
 ·exact zga h
 ·exact zga h
 ·rw[h]; exact zrJ
def eqB (L:List zc) (i:Int) (neg:Bool):Bool:=qX L i&&(match gx L i with
 | some l=>(gx l.2 0==some 0)&&(l.1==neg)
 | none=>false)
theorem zq8 {L:List zc} {i:Int} {neg:Bool} (h:eqB L i neg=true):∃ A,gx L i=some (neg,A)∧gx A 0=some 0:=by
 unfold eqB at h
 cases hp:qX L i with
 | false=>rw[hp] at h; cases h
 | true =>
  rw[hp,Bool.true_and] at h
  cases hg:gx L i with
  | none=>rw[hg] at h; cases h
  | some l =>
   rw[hg] at h
   simp only[Bool.and_eq_true,beq_iff_eq] at h
   exact ⟨l.2,by rw[← h.2],h.1⟩
theorem zyr {L:List zc} {i:Int} {n neg:Bool} {A:List Int} (h:gx L i=some (n,A)) (hp:qX L i=true):eqB L i neg=((gx A 0==some 0)&&(n==neg)):=by
 unfold eqB
 rw[hp,h,Bool.true_and]
theorem zlH {a0:List zi} {A:List Int} (h:qz a0 A=true):∃ c:Nat,gx A 0=some (c:Int):=by
 obtain⟨c,ts,e,rfl,-⟩:=zeD h
 exact ⟨c,by rw[yZ]; rfl⟩
theorem zd6 {a0:List zi} {L:List zc} (hL:∀ l∈L,qz a0 l.2=true) (T:List jI) (C:List zc) (i:Int) (neg:Bool):zbX L T C i neg=some (eqB L i neg):=by
 unfold zbX
 by_cases h0:i≥0
 ·rw[decide_eq_true h0,cond_true]
  by_cases h1:i<((List.length L:Nat):Int)
  ·have hp:qX L i=true:=by unfold qX; simp only[Bool.and_eq_true,decide_eq_true_eq]; exact ⟨h0,h1⟩
   obtain⟨⟨n,A⟩,hg⟩:=ziL hp
   obtain⟨c,hc⟩:=zlH (hL _ (ze7 hg))
   rw[decide_eq_true h1,cond_true,hg,Option.bind_some,hc,Option.bind_some,Option.bind_some,zyr hg hp,hc]
   by_cases e:(c:Int)=0
   ·rw[e]; rfl
   ·rw[show ((c:Int)==0)=false by simpa using e,show (some (c:Int)==some 0)=false by simpa using e]; rfl
  ·have hp:qX L i=false:=by unfold qX; rw[decide_eq_false h1,Bool.and_false]
   rw[decide_eq_false h1,cond_false]
   unfold eqB
   rw[hp]; rfl
 ·have hp:qX L i=false:=by unfold qX; rw[decide_eq_false h0,Bool.false_and]
  rw[decide_eq_false h0,cond_false]
  unfold eqB
  rw[hp]; rfl
theorem q7 {a0:List zi} {L:List zc} (hL:∀ l∈L,qz a0 l.2=true) (T:List jI) (C:List zc) (i:Int):zcc L T C i=some (eqB L i false):=by
 unfold zcc
 rw[zhL,Option.bind_some]
 cases hp:qX L i with
 | false=>unfold eqB; rw[hp]; rfl
 | true =>
  obtain⟨⟨n,A⟩,hg⟩:=ziL hp
  obtain⟨c,hc⟩:=zlH (hL _ (ze7 hg))
  rw[cond_true,hg,Option.bind_some,Option.bind_some,hc,Option.bind_some,zyr hg hp,hc]
  have e:(some (c:Int)==some 0)=((c:Int)==0):=rfl
  rw[e]
  cases n<;>cases (c:Int)==0<;>rfl
theorem zFX (o:Option zpC):(o.bind fun r=>some (r.1,r.2.1,r.2.2.1,r.2.2.2.1,r.2.2.2.2))=o:=by cases o<;>rfl
theorem zlZ (a0:List zi) (L:List zc) (T:List jI) (C:List zc) (i side:Int) (L':List zc) (T':List jI) (C':List zc) (j at':Int) :
  yA a0 L T C i side L' T' C' j at'=zdt a0 L T C i side L' T' C' j at'∧OkR a0 (zdt a0 L T C i side L' T' C' j at'):=by
 have bad:∀{o o':Option zpC} {k:Int},o=zcE k→o'=zcE k→o=o'∧OkR a0 o':=fun h h'=>⟨h.trans h'.symm,zga h'⟩
 have key:zc4 a0 L T C=true→zc4 a0 L' T' C'=true→eqB L i false=true→(side=0∨side=1)→0≤j→j<L'.length→1≤at'→(∀ l,gx L' j=some l→at'<l.2.length)→yA a0 L T C i side L' T' C' j at'=zaW a0 L T C i side L' T' C' j at'∧OkR a0 (zaW a0 L T C i side L' T' C' j at'):=by
  intro h h' he hsd hj0 hj1 ha hal
  obtain⟨A,g1,g2⟩:=zq8 he
  obtain⟨⟨n',A'⟩,g3,-⟩:=zjA hj0 hj1
  obtain⟨k,rfl⟩:=Int.eq_ofNat_of_zero_le (show 0≤at' by omega)
  obtain⟨s0,s1,fr,to,-,-,-,-,o,o1,o2,o3⟩:=zo4 h h' g1 g2 g3 hsd (show 1≤k by omega) (by have:=hal _ g3; exact Int.ofNat_lt.1 this)
  rw[o1,o2]
  exact ⟨rfl,o3.okR⟩
 unfold zdt
 rw[yC,Option.bind_some]
 cases h:zc4 a0 L T C with
 | false=>unfold yA; rw[z1,h]; exact bad (k:=1500) rfl rfl
 | true =>
  rw[Bool.not_true,cond_false,yC,Option.bind_some]
  cases h':zc4 a0 L' T' C' with
  | false=>unfold yA; rw[z1,h,Option.bind_some,z1,h']; exact bad (k:=1500) rfl rfl
  | true =>
   have hL:∀ l∈L,qz a0 l.2=true:=fun l hl=>List.all_eq_true.1 (zE h).2.2.2.2.1 l hl
   rw[Bool.not_true,cond_false,zd6 hL,Option.bind_some]
   cases he:eqB L i false with
   | false=>unfold yA; rw[z1,h,Option.bind_some,z1,h',Option.bind_some,q7 hL,he]; exact bad (k:=1500) rfl rfl
   | true =>
    rw[Bool.not_true,cond_false]
    have refl:∀{b:Bool},(decide (side<0)||decide (side>1))=b→yA a0 L T C i side L' T' C' j at'=cond b (zcE 1500) (yA a0 L T C i side L' T' C' j at'):=by
     intro b hb
     cases b with
     | false=>rfl
     | true =>
      unfold yA
      rw[z1,h,Option.bind_some,z1,h',Option.bind_some,q7 hL,he]
      simp only[Option.bind_some,Bool.not_true,cond_false]
      cases h1:decide (side<0) with
      | true=>rfl
      | false=>rw[h1,Bool.false_or] at hb; rw[hb]; rfl
    have ref2:(side=0∨side=1)→∀{o:Option zpC},o=cond (decide (j<0)) (zcE 1500) (cond (decide (j≥((List.length L':Nat):Int))) (zcE 1500) (cond (decide (at'<1)) (zcE 1500) ((gx L' j).bind fun e11=>cond (decide (at'≥((List.length e11.2:Nat):Int))) (zcE 1500) ((zaW a0 L T C i side L' T' C' j at').bind fun r12=>some (r12.1,r12.2.1,r12.2.2.1,r12.2.2.2.1,r12.2.2.2.2))))) →
      yA a0 L T C i side L' T' C' j at'=o∧OkR a0 o:=by
     intro hsd o ho
     have hsd1:decide (side<0)=false:=by rcases hsd with rfl | rfl<;>rfl
     have hsd2:decide (side>1)=false:=by rcases hsd with rfl | rfl<;>rfl
     have step:yA a0 L T C i side L' T' C' j at'=cond (!qX L' j) (zcE 1500) (cond (decide (at'<1)) (zcE 1500) ((gx L' j).bind fun e=>cond (decide (at'≥((List.length e.2:Nat):Int))) (zcE 1500) (yA a0 L T C i side L' T' C' j at'))):=by
      cases hp:qX L' j with
      | false=>unfold yA; rw[z1,h,Option.bind_some,z1,h',Option.bind_some,q7 hL,he,zhL,hp,hsd1,hsd2]; rfl
      | true =>
       rw[Bool.not_true,cond_false]
       cases h1:decide (at'<1) with
       | true=>unfold yA; rw[z1,h,Option.bind_some,z1,h',Option.bind_some,q7 hL,he,zhL,hp,hsd1,hsd2,h1]; rfl
       | false =>
        obtain⟨l,hg⟩:=ziL hp
        rw[cond_false,hg,Option.bind_some]
        cases h2:decide (at'≥((List.length l.2:Nat):Int)) with
        | true =>
         rw[cond_true]
         unfold yA
         rw[z1,h,Option.bind_some,z1,h',Option.bind_some,q7 hL,he,zhL,hp,hsd1,hsd2,h1,hg]
         simp only[Option.bind_some,Bool.not_true,cond_false,h2]
         rfl
        | false=>rfl
     rw[ho]
     by_cases j0:j<0
     ·have hp:qX L' j=false:=by unfold qX; rw[decide_eq_false (show ¬ j≥0 by omega),Bool.false_and]
      rw[decide_eq_true j0]
      refine bad (k:=1500) ?_ rfl
      rw[step,hp]; rfl
     ·rw[decide_eq_false j0,cond_false]
      by_cases j1:j≥((List.length L':Nat):Int)
      ·have hp:qX L' j=false:=by unfold qX; rw[decide_eq_false (show ¬ j<((List.length L':Nat):Int) by omega),Bool.and_false]
       rw[decide_eq_true j1]
       refine bad (k:=1500) ?_ rfl
       rw[step,hp]; rfl
      ·have hp:qX L' j=true:=by unfold qX; simp only[Bool.and_eq_true,decide_eq_true_eq]; omega
       rw[decide_eq_false j1,cond_false]
       by_cases a1:at'<1
       ·rw[decide_eq_true a1]
        refine bad (k:=1500) ?_ rfl
        rw[step,hp,decide_eq_true a1]; rfl
       ·obtain⟨l,hg⟩:=ziL hp
        rw[decide_eq_false a1,cond_false,hg,Option.bind_some]
        by_cases a2:at'≥((List.length l.2:Nat):Int)
        ·rw[decide_eq_true a2]
         refine bad (k:=1500) ?_ rfl
         rw[step,hp,decide_eq_false a1,hg,Option.bind_some,decide_eq_true a2]; rfl
        ·rw[decide_eq_false a2,cond_false,zFX]
         exact key h h' he hsd (by omega) (by omega) (by omega) fun l2 hl2=>by
          rw[hg] at hl2; injection hl2 with hl2; subst hl2; omega
    by_cases s0:side=0
    ·rw[show (side != 0)=false by simp [s0],cond_false]
     exact ref2 (.inl s0) rfl
    ·rw[show (side != 0)=true by simp [s0],cond_true]
     by_cases s1:side=1
     ·rw[show (side != 1)=false by simp [s1],cond_false]
      exact ref2 (.inr s1) rfl
     ·rw[show (side != 1)=true by simp [s1],cond_true]
      refine bad (k:=1500) ?_ rfl
      rw[refl (b:=true) (by simp only[Bool.or_eq_true,decide_eq_true_eq]; omega)]
      rfl
end
end Go.Abs.Q
namespace Go.Abs.Q
open Go Go.Abs
section
section
variable {a0:List zi} {L:List zc} (hL:∀ l∈L,qz a0 l.2=true) (T:List jI) (C:List zc)
include hL
theorem zBY (e:Int):zeR e L T C=some (!eqB L e false):=by
 unfold zeR
 rw[zd6 hL,Option.bind_some]
theorem zvD {xs:List Int} (hl:xs.length≤1000):(es:List Int)→(i k:Nat)→xs.drop i=es→es.length<k →
  (lp zS k (xs,((List.length xs:Nat):Int),(i:Int),L,T,C)=some (.inl ())∧∀ e∈es,eqB L e false=true) ∨
  ∃ pre e post,es=pre++e::post∧(∀ x∈pre,eqB L x false=true)∧eqB L e false=false∧lp zS k (xs,((List.length xs:Nat):Int),(i:Int),L,T,C)=some (.inr ((i+pre.length:Nat):Int))
 | es,i,0,_,h=>by omega
 | [],i,k+1,h,_=>by
  rw[zm]
  generalize lp zS k=rec
  unfold zS
  simp only[zbh (qh h),cond_false]
  exact .inl ⟨trivial,fun _ h=>(nomatch h)⟩
 | e::es,i,k+1,h,hk=>by
  have hi:=zI h
  have ih:=zvD hl es (i+1) k (ze h) (by simpa using hk)
  rw[zm]
  generalize lp zS k=rec at ih ⊢
  unfold zS
  simp only[zb3 hi,cond_true,y5,zk h,Option.bind_some,zBY hL,zbO hi (show xs.length≤maxLen by unfold maxLen; omega)]
  cases he:eqB L e false with
  | false =>
   exact .inr ⟨[],e,es,rfl,fun _ h=>(nomatch h),he,rfl⟩
  | true =>
   rw[Bool.not_true,cond_false]
   rcases ih with ⟨h1,h2⟩ | ⟨pre,d,post,rfl,h2,h3,h4⟩
   ·refine .inl ⟨h1,fun x hx => ?_⟩
    rcases List.mem_cons.1 hx with rfl | hx
    ·exact he
    ·exact h2 x hx
   ·refine .inr ⟨e::pre,d,post,rfl,fun x hx => ?_,h3,?_⟩
    ·rcases List.mem_cons.1 hx with rfl | hx
     ·exact he
     ·exact h2 x hx
    ·rw[h4,List.length_cons,show i+1+pre.length=i+(pre.length+1) by omega]
theorem ztE:(es:List Int)→(i j k:Nat)→(xs:List Int)→xs.length≤1000→xs.drop j=es→i≤j→i≤xs.length→es.length<k →
  ∃(xs':List Int) (i':Nat),lp z5 k ((i:Int),(j:Int),xs,L,T,C)=some ((i':Int),xs')∧xs'.length=xs.length∧i'≤xs.length∧xs'.take i'=xs.take i++es.filter fun e=>eqB L e false
 | _,_,_,0,_,_,_,_,_,h=>by omega
 | [],i,j,k+1,xs,hl,h,hij,hi,_=>by
  rw[zm]
  generalize lp z5 k=rec
  unfold z5
  simp only[zbh (qh h),cond_false]
  exact ⟨xs,i,rfl,rfl,hi,by simp⟩
 | e::es,i,j,k+1,xs,hl,h,hij,hi0,hk=>by
  have hj:=zI h
  have hM:xs.length≤maxLen:=by unfold maxLen; omega
  have ih1:=ztE es (i+1) (j+1) k (xs.set i e)
  have ih2:=ztE es i (j+1) k xs hl (ze h) (by omega) hi0 (by simpa using hk)
  rw[zm]
  generalize lp z5 k=rec at ih1 ih2 ⊢
  unfold z5
  simp only[zb3 hj,cond_true,yY hj,zk h,Option.bind_some,zBY hL,zbO hj hM]
  cases he:eqB L e false with
  | true =>
   have hi:i<xs.length:=by omega
   rw[Bool.not_true,Bool.not_false,cond_true,yY hi,Option.bind_some,List.getElem?_eq_getElem hi,Option.bind_some,zbO hi hM]
   obtain⟨xs',i',h1,h2,h3,h4⟩:=ih1 (by rw[List.length_set]; exact hl) (by
    rw[← ze h,List.drop_set]
    rw[if_pos (by omega)]) (by omega) (by rw[List.length_set]; omega) (by simpa using hk)
   rw[List.length_set] at h2 h3
   refine ⟨xs',i',h1,h2,h3,?_⟩
   rw[h4,List.filter_cons_of_pos (by simpa using he),List.take_add_one]
   rw[List.getElem?_set_self hi,List.take_set,List.set_eq_of_length_le (by rw[List.length_take]; omega)]
   simp
  | false =>
   rw[Bool.not_false,Bool.not_true,cond_false]
   obtain⟨xs',i',h1,h2,h3,h4⟩:=ih2
   exact ⟨xs',i',h1,h2,h3,by rw[h4,List.filter_cons_of_neg (by simpa using he)]⟩
theorem zu5 {xs:List Int} (hl:xs.length≤1000):zbk xs L T C=some (xs.filter fun e=>eqB L e false):=by
 unfold zbk zcY
 rcases zvD hL T C hl xs 0 zd rfl (Nat.lt_of_le_of_lt hl (by decide)) with ⟨h1,h2⟩ | ⟨pre,e,post,h1,h2,h3,h4⟩
 ·rw[show ((0:Nat):Int)=0 from rfl] at h1
  rw[h1]
  show some xs=_
  rw[List.filter_eq_self.2 fun e he=>h2 e he]
 ·rw[show ((0:Nat):Int)=0 from rfl] at h4
  rw[h4]
  have hpl:pre.length<xs.length:=by rw[h1]; simp
  have hpost:xs.drop (pre.length+1)=post:=by rw[h1,show pre.length+1=(pre++[e]).length by simp,show pre++e::post=(pre++[e])++post by simp,List.drop_left]
  have hM:xs.length≤maxLen:=by unfold maxLen; omega
  simp only[Option.bind_some,yd,Nat.zero_add]
  rw[show ((((pre.length:Nat):Int)) == -1)=false by simp,cond_false,zbO hpl hM]
  obtain⟨xs',i',g1,g2,g3,g4⟩:=ztE hL T C post pre.length (pre.length+1) zd xs hl hpost (by omega) (by omega) (Nat.lt_of_le_of_lt (show post.length≤1000 by rw[← hpost,List.length_drop]; omega) (by decide))
  rw[g1,Option.bind_some,decide_eq_true (by omega),cond_true,decide_eq_true (show (i':Int)≤((List.length xs':Nat):Int) by omega),cond_true,decide_eq_true (by omega),cond_true]
  simp only[Nat.zero_add,Int.toNat_natCast]
  have e1:(clr xs' i' (xs'.length - i')).take i'=xs'.take i':=by
   unfold clr
   rw[List.append_assoc,List.take_left' (by rw[List.length_take]; omega)]
  rw[znL _ (by unfold clr; simp only[List.length_append,List.length_take]; omega),Option.bind_some,e1,g4,h1]
  rw[List.filter_append,List.filter_eq_self.2 fun e he=>h2 e he,List.filter_cons_of_neg (by simpa using h3),List.take_left' rfl]
end
end
end Go.Abs.Q
namespace Go.Abs.Q
open Go Go.Abs
section
variable (a0:List zi) (L:List zc) (T:List jI) (C:List zc) (a b:Int) (L':List zc) (T':List jI) (C':List zc)
def ztf (i side j at' c:Int) (st:List zbm):Option (Int×List zbm) :=
 (zdt a0 L T C i side L' T' C' j at').bind fun r=>zct a0 c 3 a i side b j at' r.1 r.2.1 r.2.2.2.2 r.2.2.1 r.2.2.2.1 st
def zw7 (i side j:Int):Nat→Nat→Int→List zbm→Option (Int×List zbm)
 | 0,_,c,st=>some (c,st)
 | m+1,at',c,st=>(ztf a0 L T C a b L' T' C' i side j (at':Int) c st).bind fun q=>zw7 i side j m (at'+1) q.1 q.2
def zbc (j:Int):Nat:=match gx L' j with
 | some l=>l.2.length
 | none=>0
def jGo (i side:Int):List Int→Int→List zbm→Option (Int×List zbm)
 | [],c,st=>some (c,st)
 | j::js,c,st=>(zw7 a0 L T C a b L' T' C' i side j (zbc L' j - 1) 1 c st).bind fun q=>jGo i side js q.1 q.2
def zmE (js:List Int) (i c:Int) (st:List zbm):Option (Int×List zbm) :=
 (jGo a0 L T C a b L' T' C' i 0 js c st).bind fun q=>jGo a0 L T C a b L' T' C' i 1 js q.1 q.2
def iGo (js:List Int):List Int→Int→List zbm→Option (Int×List zbm)
 | [],c,st=>some (c,st)
 | i::is,c,st=>(zmE a0 L T C a b L' T' C' js i c st).bind fun q=>iGo js is q.1 q.2
variable {a0 L T C a b L' T' C'} (h:zc4 a0 L T C=true) (h':zc4 a0 L' T' C'=true)
include h h'
theorem zwi {i side j:Int} {at':Nat} (hi:eqB L i false=true) (hs:side=0∨side=1) (hj0:0≤j) (hj1:j<L'.length) (h1:1≤at') (h2:at'<zbc L' j):zdt a0 L T C i side L' T' C' j (at':Int)=zaW a0 L T C i side L' T' C' j (at':Int):=by
 have hL:∀ l∈L,qz a0 l.2=true:=fun l hl=>List.all_eq_true.1 (zE h).2.2.2.2.1 l hl
 obtain⟨l,hg,-⟩:=zjA hj0 hj1
 have h2:at'<l.2.length:=by unfold zbc at h2; rwa [hg] at h2
 unfold zdt
 rw[yC,h,Option.bind_some,Bool.not_true,cond_false,yC,h',Option.bind_some,Bool.not_true,cond_false,zd6 hL,Option.bind_some,hi,Bool.not_true,cond_false,
  decide_eq_false (show ¬ j<0 by omega),decide_eq_false (show ¬ j≥((List.length L':Nat):Int) by omega),decide_eq_false (show ¬(at':Int)<1 by omega)]
 simp only[cond_false,hg,Option.bind_some]
 rw[decide_eq_false (show ¬(at':Int)≥((List.length l.2:Nat):Int) by omega),cond_false,zFX]
 rcases hs with rfl | rfl<;>rfl
theorem zmU {i side j:Int} {at':Nat} (hi:eqB L i false=true) (hs:side=0∨side=1) (hj0:0≤j) (hj1:j<L'.length) (h1:1≤at') (h2:at'<zbc L' j) (c:Int) (st:List zbm) :
  ((zaW a0 L T C i side L' T' C' j (at':Int)).bind fun r=>zQ 3 a i side b j (at':Int) [] [] [] r.1 r.2.1 r.2.2.2.2 r.2.2.1 r.2.2.2.1 a0 c st)=(ztf a0 L T C a b L' T' C' i side j (at':Int) c st).map fun q=>(a0,q.1,q.2):=by
 unfold ztf
 obtain⟨r,e1,-,e3⟩:=(zlZ a0 L T C i side L' T' C' j (at':Int)).2
 rw[← zwi h h' hi hs hj0 hj1 h1 h2,e1,Option.bind_some,Option.bind_some]
 exact zxQ a0 3 a i side b j _ [] [] [] _ _ _ _ _ c st e3
omit h h' in
theorem zjZ {α β γ:Type} (o:Option α) (g:α→β) (k:β→Option γ):(o.map g).bind k=o.bind fun x=>k (g x):=by cases o<;>rfl
omit h h' in
theorem zl6 {α β γ:Type} (o:Option α) (g:β→γ) (k:α→Option β):(o.bind k).map g=o.bind fun x=>(k x).map g:=by cases o<;>rfl
theorem ztm {i side j:Int} (hi:eqB L i false=true) (hs:side=0∨side=1) (hj0:0≤j) (hj1:j<L'.length) (u1 u2:List Int) (u3 u4 u5:Int) (u6:List Int) (u7 u8:Int):(m at' k:Nat)→zbc L' j - at'=m→m<k→1≤at'→(c:Int)→(st:List zbm) →
  lp zey k (a0,a,b,u1,i,side,j,(at':Int),u2,u3,u4,u5,u6,u7,u8,L,T,C,L',T',C',a0,c,st)=(zw7 a0 L T C a b L' T' C' i side j m at' c st).map fun q=>(a0,q.1,q.2)
 | m,at',0,_,hk,_,_,_=>by omega
 | m,at',k+1,hm,hk,h1,c,st=>by
  obtain⟨l,hg,-⟩:=zjA hj0 hj1
  have hr:zbc L' j=l.2.length:=by unfold zbc; rw[hg]
  have h48:l.2.length≤1000:=by
   have:=zb5 (List.all_eq_true.1 (zE h').2.2.2.2.1 _ (ze7 hg))
   omega
  have ih:=ztm hi hs hj0 hj1 u1 u2 u3 u4 u5 u6 u7 u8 (m - 1) (at'+1) k
  rw[zm]
  generalize lp zey k=rec at ih ⊢
  unfold zey
  simp only[hg,Option.bind_some]
  by_cases hlt:at'<l.2.length
  ·obtain⟨m,rfl⟩:∃ m',m=m'+1:=⟨m - 1,by omega⟩
   rw[zb3 hlt,cond_true,zbO hlt (by unfold maxLen; omega)]
   have hp:=zmU (a:=a) (b:=b) h h' hi hs hj0 hj1 h1 (by omega) c st
   have e:∀ f:List zi×Int×List zbm→Option (List zi×Int×List zbm),((zaW a0 L T C i side L' T' C' j (at':Int)).bind fun r18=>(zQ 3 a i side b j (at':Int) [] [] [] r18.1 r18.2.1 r18.2.2.2.2 r18.2.2.1 r18.2.2.2.1 a0 c st).bind f)=((zaW a0 L T C i side L' T' C' j (at':Int)).bind fun r=>zQ 3 a i side b j (at':Int) [] [] [] r.1 r.2.1 r.2.2.2.2 r.2.2.1 r.2.2.2.1 a0 c st).bind f:=fun f=>by
    rw[Option.bind_assoc]
   rw[e,hp,zjZ]
   unfold zw7
   rw[zl6]
   congr 1
   funext q
   exact ih (by omega) (by omega) (by omega) q.1 q.2
  ·obtain rfl:m=0:=by omega
   rw[zbh (by omega),cond_false]
   rfl
omit h in
theorem zzB {i side j:Int} (hj0:0≤j) (hj1:j<L'.length) (htop:zhC a0 L' j=some true):(m at' k:Nat)→zbc L' j - at'=m→m<k→(c:Int)→(st:List zbm) →
  lp zaO k (a0,a,b,c,i,side,j,(at':Int),L,T,C,L',T',C',st)=zw7 a0 L T C a b L' T' C' i side j m at' c st
 | m,at',0,_,hk,_,_=>by omega
 | m,at',k+1,hm,hk,c,st=>by
  obtain⟨l,hg,-⟩:=zjA hj0 hj1
  have hr:zbc L' j=l.2.length:=by unfold zbc; rw[hg]
  have h48:l.2.length≤1000:=by
   have:=zb5 (List.all_eq_true.1 (zE h').2.2.2.2.1 _ (ze7 hg))
   omega
  have ih:=zzB (i:=i) (side:=side) hj0 hj1 htop (m - 1) (at'+1) k
  rw[zm]
  generalize lp zaO k=rec at ih ⊢
  unfold zaO
  simp only[hg,Option.bind_some]
  by_cases hlt:at'<l.2.length
  ·obtain⟨m,rfl⟩:∃ m',m=m'+1:=⟨m - 1,by omega⟩
   rw[zb3 hlt,cond_true,htop,Option.bind_some,cond_true,zbO hlt (by unfold maxLen; omega),(zlZ a0 L T C i side L' T' C' j (at':Int)).1]
   unfold zw7 ztf
   rw[Option.bind_assoc]
   congr 1
   funext r
   congr 1
   funext q
   exact ih (by omega) (by omega) q.1 q.2
  ·obtain rfl:m=0:=by omega
   rw[zbh (by omega),cond_false]
   rfl
omit h h' in
theorem zz8 {i side j:Int} (hj0:0≤j) (hj1:j<L'.length) (htop:zhC a0 L' j=some false) (k:Nat) (c:Int) (st:List zbm) :
  lp zaO (k+1) (a0,a,b,c,i,side,j,1,L,T,C,L',T',C',st)=some (c,st):=by
 obtain⟨l,hg,-⟩:=zjA hj0 hj1
 rw[zm]
 generalize lp zaO k=rec
 unfold zaO
 simp only[hg,Option.bind_some]
 cases decide (1<((List.length l.2:Nat):Int)) with
 | false=>rfl
 | true=>rw[cond_true,htop]; rfl
theorem zue {i side:Int} (hi:eqB L i false=true) (hs:side=0∨side=1) {js:List Int} (hjs:∀ j∈js,0≤j∧j<L'.length) (hjl:js.length≤1000) (u1 u2:List Int) (u3 u4 u5:Int):(es:List Int)→(n k:Nat)→js.drop n=es→es.length<k→(c:Int)→(st:List zbm) →
  lp zcm k (a0,a,b,u1,i,side,u2,u3,u4,u5,js,((List.length js:Nat):Int),(n:Int),L,T,C,L',T',C',a0,c,st)=(jGo a0 L T C a b L' T' C' i side es c st).map fun q=>(a0,q.1,q.2)
 | _,_,0,_,hk,_,_=>by omega
 | [],n,k+1,hn,hk,c,st=>by
  rw[zm]
  generalize lp zcm k=rec
  unfold zcm
  simp only[zbh (qh hn),cond_false]
  rfl
 | j::es,n,k+1,hn,hk,c,st=>by
  have hlt:=zI hn
  obtain⟨hj0,hj1⟩:=hjs j (List.mem_of_getElem? (zk hn))
  obtain⟨l,hg,-⟩:=zjA hj0 hj1
  have hr:zbc L' j=l.2.length:=by unfold zbc; rw[hg]
  have h48:l.2.length≤1000:=by
   have:=zb5 (List.all_eq_true.1 (zE h').2.2.2.2.1 _ (ze7 hg))
   omega
  have ih:=zue hi hs hjs hjl u1 u2 u3 u4 u5 es (n+1) k (ze hn) (by simpa using hk)
  rw[zm]
  generalize lp zcm k=rec at ih ⊢
  unfold zcm jGo
  simp only[zb3 hlt,cond_true,y5,zk hn,Option.bind_some,hg,zbO hlt (show js.length≤maxLen by unfold maxLen; omega)]
  by_cases h1:1<l.2.length
  ·obtain⟨m,hm⟩:∃ m,zbc L' j - 1=m+1:=⟨zbc L' j - 2,by omega⟩
   rw[decide_eq_true (show (1:Int)<((List.length l.2:Nat):Int) by omega),cond_true,hm]
   unfold zw7
   have hp:=zmU (a:=a) (b:=b) h h' hi hs hj0 hj1 (Nat.le_refl 1) (by omega) c st
   rw[show ((1:Nat):Int)=1 from rfl] at hp ⊢
   have e:∀ f:List zi×Int×List zbm→Option (List zi×Int×List zbm),((zaW a0 L T C i side L' T' C' j 1).bind fun r18=>(zQ 3 a i side b j 1 [] [] [] r18.1 r18.2.1 r18.2.2.2.2 r18.2.2.1 r18.2.2.2.1 a0 c st).bind f)=((zaW a0 L T C i side L' T' C' j 1).bind fun r=>zQ 3 a i side b j 1 [] [] [] r.1 r.2.1 r.2.2.2.2 r.2.2.1 r.2.2.2.1 a0 c st).bind f:=fun f=>by
    rw[Option.bind_assoc]
   rw[e,hp,zjZ,Option.bind_assoc,zl6]
   congr 1
   funext q
   have:=ztm (a:=a) (b:=b) h h' hi hs hj0 hj1 u1 u2 u3 u4 u5 js ((List.length js:Nat):Int) (n:Int) m 2 zd (by omega) (Nat.lt_of_le_of_lt (show m≤1000 by omega) (by decide)) (by omega) q.1 q.2
   rw[show ((2:Nat):Int)=2 from rfl] at this
   rw[this,zjZ,zl6]
   congr 1
   funext q
   exact ih q.1 q.2
  ·rw[decide_eq_false (show ¬(1:Int)<((List.length l.2:Nat):Int) by omega),cond_false,show zbc L' j - 1=0 by omega]
   exact ih c st
omit h in
theorem zAI {i side:Int}:(es:List zc)→(n k:Nat)→L'.drop n=es→es.length<k→(c:Int)→(st:List zbm) →
  lp zbI k (a0,a,b,c,i,side,(n:Int),L,T,C,L',T',C',st)=jGo a0 L T C a b L' T' C' i side (zt a0 L' es n) c st
 | _,_,0,_,hk,_,_=>by omega
 | [],n,k+1,hn,hk,c,st=>by
  rw[zm]
  generalize lp zbI k=rec
  unfold zbI
  simp only[zbh (qh hn),cond_false]
  rfl
 | l::es,n,k+1,hn,hk,c,st=>by
  have hlt:=zI hn
  obtain⟨hsb,l1,-,-,l4,-⟩:=zE h'
  have hs:=zc2 hsb
  have hL:∀ l∈L',qz a0 l.2=true:=fun l hl=>List.all_eq_true.1 l4 l hl
  have hg:gx L' (n:Int)=some l:=by rw[y5]; exact zk hn
  have htop:=zum hs hg hL (by omega)
  have ih:=zAI (i:=i) (side:=side) es (n+1) k (ze hn) (by simpa using hk)
  rw[zm]
  generalize lp zbI k=rec at ih ⊢
  unfold zbI zt
  simp only[zb3 hlt,cond_true,zbO hlt (show L'.length≤maxLen by unfold maxLen; omega)]
  obtain⟨k',hf⟩:∃ k',zd=k'+1:=⟨zd - 1,rfl⟩
  cases ho:zjb a0 L' l with
  | true =>
   rw[ho] at htop
   rw[hf,zz8 (by omega) (by omega) htop,Option.bind_some,cond_true]
   exact ih c st
  | false =>
   rw[ho] at htop
   have hr:zbc L' (n:Int)=l.2.length:=by unfold zbc; rw[hg]
   have h48:l.2.length≤1000:=by
    have:=zb5 (hL _ (ze7 hg))
    omega
   have:=zzB (a:=a) (b:=b) (L:=L) (T:=T) (C:=C) (i:=i) (side:=side) h' (show (0:Int)≤(n:Int) by omega) (by omega) htop (zbc L' (n:Int) - 1) 1 zd rfl (Nat.lt_of_le_of_lt (show zbc L' (n:Int) - 1≤1000 by omega) (by decide)) c st
   rw[show ((1:Nat):Int)=1 from rfl] at this
   rw[this,cond_false]
   unfold jGo
   congr 1
   funext q
   exact ih q.1 q.2
omit h h' in
theorem zpR:∀ j∈zt a0 L' L' 0,0≤j∧j<L'.length:=by
 intro j hj
 obtain⟨n,l,h1,rfl,-⟩:=(zki L' 0 j).1 hj
 have:=(List.getElem?_eq_some_iff.1 h1).1
 omega
theorem zwk {i:Int} (hi:eqB L i false=true) (u2:List Int) (u3 u4:Int) (c:Int) (st:List zbm) :
  lp zeK zd (a0,a,b,zt a0 L' L' 0,i,u2,u3,u4,0,L,T,C,L',T',C',a0,c,st)=(zmE a0 L T C a b L' T' C' (zt a0 L' L' 0) i c st).map fun q=>(a0,q.1,q.2):=by
 obtain⟨k,hf⟩:∃ k,zd=k+1+1+1:=⟨zd - 3,rfl⟩
 have l1:=(zE h').2.1
 have hlen:=zdG (a0:=a0) (L:=L') L' 0
 have hfu:(zt a0 L' L' 0).length<zd:=Nat.lt_of_le_of_lt (show _≤5 by omega) (by decide)
 rw[hf,zm,zm,zm]
 generalize lp zeK k=rec
 unfold zeK zmE
 have j0:=fun c st=>zue (a:=a) (b:=b) h h' hi (.inl rfl) zpR (by omega) (zt a0 L' L' 0) u2 u3 u4 0 (zt a0 L' L' 0) 0 zd rfl hfu c st
 have j1:=fun c st=>zue (a:=a) (b:=b) h h' hi (.inr rfl) zpR (by omega) (zt a0 L' L' 0) u2 u3 u4 1 (zt a0 L' L' 0) 0 zd rfl hfu c st
 rw[show ((0:Nat):Int)=0 from rfl] at j0 j1
 simp only[show decide ((0:Int)<2)=true from rfl,cond_true,j0,zjZ,show IntKind.wrap .i64 ((0:Int)+1)=1 from rfl,show decide ((1:Int)<2)=true from rfl,j1,show IntKind.wrap .i64 ((1:Int)+1)=2 from rfl,show decide ((2:Int)<2)=false from rfl,cond_false]
 rw[zl6]
 congr 1
 funext q
 cases jGo a0 L T C a b L' T' C' i 1 (zt a0 L' L' 0) q.1 q.2<;>rfl
omit h in
theorem zwx {i:Int} (c:Int) (st:List zbm) :
  lp zdy zd (a0,a,b,c,i,0,L,T,C,L',T',C',st)=zmE a0 L T C a b L' T' C' (zt a0 L' L' 0) i c st:=by
 obtain⟨k,hf⟩:∃ k,zd=k+1+1+1:=⟨zd - 3,rfl⟩
 have l1:=(zE h').2.1
 have hfu:L'.length<zd:=Nat.lt_of_le_of_lt (show _≤5 by omega) (by decide)
 rw[hf,zm,zm,zm]
 generalize lp zdy k=rec
 unfold zdy zmE
 have j0:=fun c st=>zAI (a:=a) (b:=b) (L:=L) (T:=T) (C:=C) (i:=i) (side:=0) h' L' 0 zd rfl hfu c st
 have j1:=fun c st=>zAI (a:=a) (b:=b) (L:=L) (T:=T) (C:=C) (i:=i) (side:=1) h' L' 0 zd rfl hfu c st
 rw[show ((0:Nat):Int)=0 from rfl] at j0 j1
 simp only[show decide ((0:Int)<2)=true from rfl,cond_true,j0,show IntKind.wrap .i64 ((0:Int)+1)=1 from rfl,show decide ((1:Int)<2)=true from rfl,j1,show IntKind.wrap .i64 ((1:Int)+1)=2 from rfl,show decide ((2:Int)<2)=false from rfl,cond_false]
 congr 1
 funext q
 cases jGo a0 L T C a b L' T' C' i 1 (zt a0 L' L' 0) q.1 q.2<;>rfl
theorem zzu {is:List Int} (his:∀ i∈is,eqB L i false=true) (hil:is.length≤1000):(es:List Int)→(n k:Nat)→is.drop n=es→es.length<k→(c:Int)→(st:List zbm) →
  lp zcj k (a0,a,b,zt a0 L' L' 0,is,((List.length is:Nat):Int),(n:Int),L,T,C,L',T',C',a0,c,st)=(iGo a0 L T C a b L' T' C' (zt a0 L' L' 0) es c st).map fun q=>(a0,q.1,q.2)
 | _,_,0,_,hk,_,_=>by omega
 | [],n,k+1,hn,hk,c,st=>by
  rw[zm]
  generalize lp zcj k=rec
  unfold zcj
  simp only[zbh (qh hn),cond_false]
  rfl
 | i::es,n,k+1,hn,hk,c,st=>by
  have hlt:=zI hn
  have hi:=his i (List.mem_of_getElem? (zk hn))
  have ih:=zzu his hil es (n+1) k (ze hn) (by simpa using hk)
  rw[zm]
  generalize lp zcj k=rec at ih ⊢
  unfold zcj iGo
  simp only[zb3 hlt,cond_true,y5,zk hn,Option.bind_some,zbO hlt (show is.length≤maxLen by unfold maxLen; omega),zwk h h' hi,zjZ,zl6]
  congr 1
  funext q
  exact ih q.1 q.2
theorem zCk:(es:List zc)→(n k:Nat)→L.drop n=es→es.length<k→(c:Int)→(st:List zbm) →
  lp zbv k (a0,a,b,c,(n:Int),L,T,C,L',T',C',st)=iGo a0 L T C a b L' T' C' (zt a0 L' L' 0) ((zt a0 L es n).filter fun e=>eqB L e false) c st
 | _,_,0,_,hk,_,_=>by omega
 | [],n,k+1,hn,hk,c,st=>by
  rw[zm]
  generalize lp zbv k=rec
  unfold zbv
  simp only[zbh (qh hn),cond_false]
  rfl
 | l::es,n,k+1,hn,hk,c,st=>by
  have hlt:=zI hn
  obtain⟨hsb,l1,-,-,l4,-⟩:=zE h
  have hs:=zc2 hsb
  have hL:∀ l∈L,qz a0 l.2=true:=fun l hl=>List.all_eq_true.1 l4 l hl
  have hg:gx L (n:Int)=some l:=by rw[y5]; exact zk hn
  have htop:=zum hs hg hL (by omega)
  have ih:=zCk es (n+1) k (ze hn) (by simpa using hk)
  rw[zm]
  generalize lp zbv k=rec at ih ⊢
  unfold zbv
  rw[show zt a0 L (l::es) n=cond (zjb a0 L l) (zt a0 L es (n+1)) ((n:Int)::zt a0 L es (n+1)) from rfl]
  simp only[zb3 hlt,cond_true,zbO hlt (show L.length≤maxLen by unfold maxLen; omega),q7 hL,Option.bind_some,htop]
  cases he:eqB L (n:Int) false with
  | false =>
   rw[Bool.not_false,cond_true]
   cases zjb a0 L l with
   | true=>rw[cond_true]; exact ih c st
   | false=>rw[cond_false,List.filter_cons_of_neg (by simpa using he)]; exact ih c st
  | true =>
   rw[Bool.not_true,cond_false,Bool.not_not]
   cases zjb a0 L l with
   | true=>rw[cond_true,cond_true]; exact ih c st
   | false =>
    rw[cond_false,cond_false,List.filter_cons_of_pos (by simpa using he),zwx h']
    unfold iGo
    congr 1
    funext q
    exact ih q.1 q.2
end
theorem zrO {a0:List zi} {L:List zc} {T:List jI} {C:List zc} {L':List zc} {T':List jI} {C':List zc} (h:zc4 a0 L T C=true) (h':zc4 a0 L' T' C'=true) (a b:Int) :
  zen a0 L T C a L' T' C' b=((iGo a0 L T C a b L' T' C' (zt a0 L' L' 0) ((zt a0 L L 0).filter fun e=>eqB L e false) 0 []).map fun q=>(q.1,0,q.2)) ∧
  zlS a0 L T C a L' T' C' b=((iGo a0 L T C a b L' T' C' (zt a0 L' L' 0) ((zt a0 L L 0).filter fun e=>eqB L e false) 0 []).map fun q=>(q.1,0,q.2)):=by
 obtain⟨hsb,l1,-,-,l4,-⟩:=zE h
 obtain⟨-,l1',-,-,l4',-⟩:=zE h'
 have hL:∀ l∈L,qz a0 l.2=true:=fun l hl=>List.all_eq_true.1 l4 l hl
 have hL':∀ l∈L',qz a0 l.2=true:=fun l hl=>List.all_eq_true.1 l4' l hl
 have hlen:=zdG (a0:=a0) (L:=L) L 0
 have hfl:=List.length_filter_le (fun e=>eqB L e false) (zt a0 L L 0)
 constructor
 ·unfold zen
  rw[yC,h,Option.bind_some,Bool.not_true,cond_false,yC,h',Option.bind_some,Bool.not_true,cond_false,zt7 hsb hL (by omega),Option.bind_some,zt7 hsb hL' (by omega),Option.bind_some]
  simp only
  rw[zu5 hL T C (by omega),Option.bind_some]
  have:=zzu (a:=a) (b:=b) h h' (is:=(zt a0 L L 0).filter fun e=>eqB L e false) (fun i hi=>by simpa using (List.mem_filter.1 hi).2) (by omega) ((zt a0 L L 0).filter fun e=>eqB L e false) 0 zd rfl (Nat.lt_of_le_of_lt (show _≤5 by omega) (by decide)) 0 []
  rw[show ((0:Nat):Int)=0 from rfl] at this
  rw[this,zjZ]
  generalize iGo a0 L T C a b L' T' C' (zt a0 L' L' 0) ((zt a0 L L 0).filter fun e=>eqB L e false) 0 []=o
  cases o<;>rfl
 ·unfold zlS
  rw[z1,h,Option.bind_some,Bool.not_true,cond_false,z1,h',Option.bind_some,Bool.not_true,cond_false]
  have:=zCk (a:=a) (b:=b) h h' L 0 zd rfl (Nat.lt_of_le_of_lt (show _≤5 by omega) (by decide)) 0 []
  rw[show ((0:Nat):Int)=0 from rfl] at this
  rw[this]
  generalize iGo a0 L T C a b L' T' C' (zt a0 L' L' 0) ((zt a0 L L 0).filter fun e=>eqB L e false) 0 []=o
  cases o<;>rfl
end Go.Abs.Q
namespace Go.Abs.Q
open Go Go.Abs
section
structure Inv (P:zbm→Prop) (n:Nat) (q:Int×List zbm):Prop where
 low:0≤q.1
 cnt:q.1≤(n:Int)
 len:q.2.length≤n
 all:∀ s∈q.2,P s
theorem Inv.more {P:zbm→Prop} {n m:Nat} {q:Int×List zbm} (h:Inv P n q) (hm:n≤m):Inv P m q:=⟨h.low,by have:=h.cnt; omega,by have:=h.len; omega,h.all⟩
theorem zxJ {P:zbm→Prop} {n:Nat} {sig:List zi} {c r a i s b j t:Int} {xL:List zc} {xT:List jI} {xC:List zc} {ok:Bool} {err:Int} {st:List zbm} (hm:ok=true→err=0→zc4 sig xL xT xC=true) (hP:ok=true→err=0→P (r,a,i,s,b,j,t,xL,xT,xC)) (h:Inv P n (c,st)) (hn:n≤100000) :
  ∃ q,zct sig c r a i s b j t xL xT xC ok err st=some q∧Inv P (n+1) q:=by
 obtain⟨h1,h2,h3,h4⟩:=h
 simp only at h1 h2 h3 h4
 unfold zct
 by_cases he:err=0
 ·rw[show (err != 0)=false from by simp [he],cond_false]
  have keep:Inv P (n+1) (c,st):=⟨h1,by simp only; omega,by simp only; omega,h4⟩
  cases ok with
  | false=>exact ⟨_,rfl,keep⟩
  | true =>
   rw[cond_true,zuG (hm rfl he),Option.bind_some]
   cases zot sig xL with
   | true=>exact ⟨_,rfl,keep⟩
   | false =>
    rw[Bool.not_false,cond_true,zn (show (List.length st+([(r,a,i,s,b,j,t,xL,xT,xC)]:List zbm).length)*128≤140737488351232 by simp; omega),cond_true]
    refine ⟨_,rfl,h1,by simp only; omega,by simp; omega,fun s hs => ?_⟩
    rcases List.mem_append.1 hs with hs | hs
    ·exact h4 s hs
    ·rw[List.mem_singleton.1 hs]; exact hP rfl he
 ·rw[show (err != 0)=true from by simp [he],cond_true]
  have w:IntKind.wrap .i64 (c+1)=c+1:=by rw[zp]<;>omega
  rw[w]
  exact ⟨_,rfl,by simp only; omega,by simp only; omega,by simp only; omega,h4⟩
section
variable {a0:List zi} {L:List zc} {T:List jI} {C:List zc} {a b:Int} {L':List zc} {T':List jI} {C':List zc} (h:zc4 a0 L T C=true) (h':zc4 a0 L' T' C'=true)
 {P:zbm→Prop} (hP:∀(i side j:Int) (at':Nat) (r:zpC),eqB L i false=true→(side=0∨side=1)→0≤j→j<L'.length→1≤at'→at'<zbc L' j→zdt a0 L T C i side L' T' C' j (at':Int)=some r→r.2.2.1=true→r.2.2.2.1=0→zc4 a0 r.1 r.2.1 r.2.2.2.2=true→zqQ r.1 r.2.1 r.2.2.2.2→P (3,a,i,side,b,j,(at':Int),r.1,r.2.1,r.2.2.2.2))
include h h' hP
omit h h' in
theorem zrb {i side j:Int} (hi:eqB L i false=true) (hs:side=0∨side=1) (hj0:0≤j) (hj1:j<L'.length):(m at' n:Nat)→1≤at'→at'+m≤zbc L' j→n+m≤100000→(c:Int)→(st:List zbm)→Inv P n (c,st) →
  ∃ q,zw7 a0 L T C a b L' T' C' i side j m at' c st=some q∧Inv P (n+m) q
 | 0,_,_,_,_,_,_,_,hI=>⟨_,rfl,hI⟩
 | m+1,at',n,h1,h2,h3,c,st,hI=>by
  obtain⟨r,e1,e2,e3⟩:=(zlZ a0 L T C i side L' T' C' j (at':Int)).2
  obtain⟨q,e4,e5⟩:=zxJ (sig:=a0) (c:=c) (r:=3) (a:=a) (i:=i) (s:=side) (b:=b) (j:=j) (t:=(at':Int)) (xL:=r.1) (xT:=r.2.1) (xC:=r.2.2.2.2) (ok:=r.2.2.1) (err:=r.2.2.2.1) (st:=st) (P:=P) (n:=n) e3 (fun g1 g2=>hP i side j at' r hi hs hj0 hj1 h1 (by omega) e1 g1 g2 (e3 g1 g2) e2) hI (by omega)
  obtain⟨p,e6,e7⟩:=zrb hi hs hj0 hj1 m (at'+1) (n+1) (by omega) (by omega) (by omega) q.1 q.2 e5
  refine ⟨p,?_,by rw[show n+(m+1)=n+1+m by omega]; exact e7⟩
  unfold zw7 ztf
  rw[e1,Option.bind_some,e4,Option.bind_some,e6]
omit h in
theorem zpY {i side:Int} (hi:eqB L i false=true) (hs:side=0∨side=1):(js:List Int)→(∀ j∈js,0≤j∧j<L'.length)→(n:Nat)→n+49*js.length≤100000→(c:Int)→(st:List zbm)→Inv P n (c,st) →
  ∃ q,jGo a0 L T C a b L' T' C' i side js c st=some q∧Inv P (n+49*js.length) q
 | [],_,_,_,_,_,hI=>⟨_,rfl,hI⟩
 | j::js,hjs,n,hn,c,st,hI=>by
  simp only[List.length_cons] at hn ⊢
  obtain⟨hj0,hj1⟩:=hjs j (List.mem_cons_self ..)
  obtain⟨l,hg,-⟩:=zjA hj0 hj1
  have hr:zbc L' j=l.2.length:=by unfold zbc; rw[hg]
  have h48:=zb5 (List.all_eq_true.1 (zE h').2.2.2.2.1 _ (ze7 hg))
  obtain⟨c0,hc0⟩:=zlH (List.all_eq_true.1 (zE h').2.2.2.2.1 _ (ze7 hg))
  have hpos:0<l.2.length:=by
   rw[yZ] at hc0
   exact (List.getElem?_eq_some_iff.1 hc0).1
  obtain⟨q,e1,e2⟩:=zrb hP hi hs hj0 hj1 (zbc L' j - 1) 1 n (Nat.le_refl 1) (by omega) (by omega) c st hI
  obtain⟨p,e3,e4⟩:=zpY hi hs js (fun j hj=>hjs j (List.mem_cons_of_mem _ hj)) (n+49) (by omega) q.1 q.2 (e2.more (by omega))
  refine ⟨p,?_,e4.more (by omega)⟩
  unfold jGo
  rw[e1,Option.bind_some,e3]
omit h in
theorem zs3 {js:List Int} (hjs:∀ j∈js,0≤j∧j<L'.length) (hjl:js.length≤5):(is:List Int)→(∀ i∈is,eqB L i false=true)→(n:Nat)→n+490*is.length≤100000→(c:Int)→(st:List zbm)→Inv P n (c,st) →
  ∃ q,iGo a0 L T C a b L' T' C' js is c st=some q∧Inv P (n+490*is.length) q
 | [],_,_,_,_,_,hI=>⟨_,rfl,hI⟩
 | i::is,his,n,hn,c,st,hI=>by
  simp only[List.length_cons] at hn ⊢
  have hi:=his i (List.mem_cons_self ..)
  obtain⟨q,e1,e2⟩:=zpY h' hP hi (.inl rfl) js hjs n (by omega) c st hI
  obtain⟨p,e3,e4⟩:=zpY h' hP hi (.inr rfl) js hjs (n+245) (by omega) q.1 q.2 (e2.more (by omega))
  obtain⟨o,e5,e6⟩:=zs3 hjs hjl is (fun j hj=>his j (List.mem_cons_of_mem _ hj)) (n+490) (by omega) p.1 p.2 (e4.more (by omega))
  refine ⟨o,?_,e6.more (by omega)⟩
  unfold iGo zmE
  rw[e1,Option.bind_some,e3,Option.bind_some,e5]
theorem zqj:∃ q:Int×List zbm,zen a0 L T C a L' T' C' b=some (q.1,0,q.2)∧Inv P 2450 q:=by
 have l1:=(zE h).2.1
 have l1':=(zE h').2.1
 have hlen:=zdG (a0:=a0) (L:=L) L 0
 have hlen':=zdG (a0:=a0) (L:=L') L' 0
 have hfl:=List.length_filter_le (fun e=>eqB L e false) (zt a0 L L 0)
 obtain⟨q,e1,e2⟩:=zs3 (a:=a) (b:=b) (L:=L) (T:=T) (C:=C) h' hP (js:=zt a0 L' L' 0) zpR (by omega) ((zt a0 L L 0).filter fun e=>eqB L e false) (fun i hi=>by simpa using (List.mem_filter.1 hi).2) 0 (by omega) 0 [] ⟨Int.le_refl 0,Int.le_refl 0,Nat.le_refl 0,fun _ h=>(nomatch h)⟩
 refine ⟨q,?_,e2.more (by omega)⟩
 rw[(zrO h h' a b).1,e1]
 rfl
end
theorem zqm {a0:List zi} {L:List zc} {T:List jI} {C:List zc} {a b:Int} {L':List zc} {T':List jI} {C':List zc} (h:zc4 a0 L T C=false∨zc4 a0 L' T' C'=false):zen a0 L T C a L' T' C' b=some (0,1500,[]):=by
 unfold zen
 rw[yC,Option.bind_some]
 cases g:zc4 a0 L T C with
 | false=>rfl
 | true =>
  have h:=h.resolve_left (by rw[g]; exact fun h=>by cases h)
  rw[Bool.not_true,cond_false,yC,h]
  rfl
theorem zmi:zih=some true:=by kernel_rfl
def zCM (L L':List zc) (s:zbm):Prop:=∃(l l':zc) (v:Int),0≤s.2.2.1∧s.2.2.1<L.length∧gx L s.2.2.1=some l∧l.1=false∧gx l.2 0=some 0∧0≤s.2.2.2.2.2.1∧s.2.2.2.2.2.1<L'.length∧gx L' s.2.2.2.2.2.1=some l'∧1≤s.2.2.2.2.2.2.1∧s.2.2.2.2.2.2.1<l'.2.length∧gx l'.2 s.2.2.2.2.2.2.1=some v∧0≤v
theorem ztG {L:List zc} {T:List jI} {C:List zc} {L':List zc} {T':List jI} {C':List zc} {st:List zbm} (hl:st.length≤100000):(es:List zbm)→(n k:Nat)→st.drop n=es→es.length<k→(∀ s∈es,zCM L L' s) →
  lp yT k (st,(n:Int),L,T,C,L',T',C')=some (.inl ())
 | _,_,0,_,hk,_=>by omega
 | [],n,k+1,hn,hk,_=>by
  rw[zm]
  generalize lp yT k=rec
  unfold yT
  simp only[zbh (qh hn),cond_false]
 | s::es,n,k+1,hn,hk,hs=>by
  have hlt:=zI hn
  have ih:=ztG (T:=T) (C:=C) (T':=T') (C':=C') hl es (n+1) k (ze hn) (by simpa using hk) fun s h=>hs s (List.mem_cons_of_mem _ h)
  obtain⟨l,l',v,g1,g2,g3,g4,g5,g6,g7,g8,g9,g10,g11,g12⟩:=hs s (List.mem_cons_self ..)
  have hpos:0<l.2.length:=by
   rw[yZ] at g5
   exact (List.getElem?_eq_some_iff.1 g5).1
  rw[zm]
  generalize lp yT k=rec at ih ⊢
  unfold yT
  simp only[zb3 hlt,cond_true,y5,zk hn,Option.bind_some,zbO hlt (show st.length≤maxLen by unfold maxLen; omega),g3,g4,g5,g8,g11,cond_false,bne_self_eq_false]
  rw[decide_eq_false (show ¬ s.2.2.2.2.2.1<0 by omega),decide_eq_false (show ¬ s.2.2.2.2.2.1≥((List.length L':Nat):Int) by omega),decide_eq_false (show ¬ s.2.2.2.2.2.2.1<1 by omega),decide_eq_false (show ¬ s.2.2.2.2.2.2.1≥((List.length l'.2:Nat):Int) by omega),decide_eq_false (show ¬ v<0 by omega),decide_eq_false (show ¬ s.2.2.1<0 by omega),decide_eq_false (show ¬ s.2.2.1≥((List.length L:Nat):Int) by omega),show (((List.length l.2:Nat):Int)==0)=false by simp; intro e; rw[e] at hpos; simp at hpos]
  exact ih
theorem ziG (a0:List zi) (L:List zc) (T:List jI) (C:List zc) (L':List zc) (T':List jI) (C':List zc):zaM a0 L T C L' T' C'=some true:=by
 unfold zaM
 have hnum:∀ k:Int,zej k=some k:=fun k=>rfl
 rw[zmi,Option.bind_some,Bool.not_true,cond_false]
 have bad:zc4 a0 L T C=false∨zc4 a0 L' T' C'=false→((zen a0 L T C 0 L' T' C' 1).bind fun r32 =>
  (zej r32.2.1).bind fun r33 =>
  cond (r33 != 0)
  (cond (((List.length r32.2.2:Nat):Int)==0)
   (some (r32.1==0))
   (some false))
  (((lp yT zd) (r32.2.2,0,L,T,C,L',T',C')).bind fun r34 =>
   yd r34
   (fun z35=>some true)
   (fun z36=>some z36)))=some true:=fun h=>by
  rw[zqm h]
  rfl
 cases h:zc4 a0 L T C with
 | false=>exact bad (.inl h)
 | true =>
  cases h':zc4 a0 L' T' C' with
  | false=>exact bad (.inr h')
  | true =>
   obtain⟨q,e1,e2⟩:=zqj (a:=0) (b:=1) (P:=zCM L L') h h' fun i side j at' r hi hs hj0 hj1 h1 h2 e g1 g2 _ _=>by
    obtain⟨A,k1,k2⟩:=zq8 hi
    obtain⟨⟨n',A'⟩,k3,-⟩:=zjA hj0 hj1
    have h2:at'<A'.length:=by unfold zbc at h2; rwa [k3] at h2
    rw[zwi h h' hi hs hj0 hj1 h1 (by unfold zbc; rw[k3]; exact h2)] at e
    obtain⟨s0,s1,fr,to,-,-,-,-,o,o1,-,o3⟩:=zo4 h h' k1 k2 k3 hs h1 h2
    rw[e] at o1
    have hpi:qX L i=true:=by
     unfold eqB at hi
     cases hp:qX L i with
     | true=>rfl
     | false=>rw[hp] at hi; cases hi
    unfold qX at hpi
    simp only[Bool.and_eq_true,decide_eq_true_eq] at hpi
    rcases o3 with ⟨v,-,-,hf⟩ | ⟨v,_,_,_,hv,hv0,-⟩
    ·rw[← o1] at hf
     injection hf with hf
     rw[hf] at g1
     cases g1
    ·exact ⟨_,_,v,by simpa using hpi.1,by simpa using hpi.2,k1,rfl,k2,hj0,hj1,k3,by simp only; omega,by simp only; omega,by rw[y5]; exact hv,hv0⟩
   rw[e1,Option.bind_some,hnum,Option.bind_some]
   have:=ztG (T:=T) (C:=C) (T':=T') (C':=C') (st:=q.2) (by have:=e2.len; omega) q.2 0 zd rfl (Nat.lt_of_le_of_lt (show q.2.length≤2450 from e2.len) (by decide)) e2.all
   rw[show ((0:Nat):Int)=0 from rfl] at this
   simp only[bne_self_eq_false,cond_false,this,Option.bind_some,yd]
end
end Go.Abs.Q
namespace Go.Abs.Q
open Go Go.Abs
section
section
variable (a0:List zi) (L:List zc) (T:List jI) (C:List zc) (a:Int)
variable {a0 L T C a} (h:zc4 a0 L T C=true)
include h
end
end
end Go.Abs.Q
