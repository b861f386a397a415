import Derived.Test.YtleengbobccdkaaGreatDoorQb
/-
  What the functions make of plain values, and what the law says of that.
-/
namespace Go.Abs.Q
open Go Go.Abs
section
theorem TopV.unique {rs:List jI} {m m':Int} (h:TopV rs m) (h':TopV rs m') (h0:0≤m) (h0':0≤m'):m=m':=by
 have a:m'≤m:=by
  rcases h'.2 with e | e
  ·omega
  ·have:=h.1 _ e; omega
 have b:m≤m':=by
  rcases h.2 with e | e
  ·omega
  ·have:=h'.1 _ e; omega
 omega
def upB (b:Nat) (vs:List Nat):List (Int×List Int):=vs.map fun v:Nat=>((v:Int),[-1 - (v:Int) - (b:Int)])
theorem zm7 {b:Nat} (hb:b≤24):(vs:List Nat)→(bs:List (Int×List Int))→(∀ v∈vs,v<24)→bs.length+vs.length≤1000→yO (b:Int) (vs.map fun v:Nat=>(v:Int)) bs=some (cond (vs.all fun v=>decide (v+b≤23)) (.inl (bs++upB b vs)) (.inr false))
 | [],bs,_,_=>by simp [yO,upB]
 | v::vs,bs,h,hl=>by
  have hv:=h v (List.mem_cons_self ..)
  simp only[List.length_cons] at hl
  rw[List.map_cons]
  unfold yO
  have w1:IntKind.wrap .i64 ((v:Int)+(b:Int))=(v:Int)+(b:Int):=by rw[zt]<;>omega
  have w2:IntKind.wrap .i64 ((-1) - (v:Int)) = -1 - (v:Int):=by rw[zt]<;>omega
  have w3:IntKind.wrap .i64 (-1 - (v:Int) - (b:Int)) = -1 - (v:Int) - (b:Int):=by rw[zt]<;>omega
  rw[w1,w2,w3,List.all_cons]
  by_cases hvb:v+b≤23
  ·rw[decide_eq_false (show ¬(v:Int)+(b:Int)>23 by omega),cond_false,zn (by simp; omega),cond_true,zm7 hb vs _ (fun x hx=>h x (List.mem_cons_of_mem _ hx)) (by simp; omega),decide_eq_true hvb,Bool.true_and]
   simp [upB]
  ·rw[decide_eq_true (show (v:Int)+(b:Int)>23 by omega),cond_true,decide_eq_false hvb]
   rfl
theorem zl7 {α β:Type} (f:α→β):(r:List α)→(g:α→List β)→(∀ c∈r,g c=[f c])→r.flatMap g=r.map f
 | [],_,_=>rfl
 | c::r,g,h=>by rw[List.flatMap_cons,h c (List.mem_cons_self ..),zl7 f r g fun d hd=>h d (List.mem_cons_of_mem _ hd)]; rfl
theorem zrq (b:Nat) (v:Nat):(vs:List Nat)→v∈vs→zdO (upB b vs) (v:Int)=some [-1 - (v:Int) - (b:Int)]
 | [],h=>(nomatch h)
 | w::vs,h=>by
  have ih:=zrq b v vs
  unfold zdO upB at ih ⊢
  rw[List.map_cons,List.find?_cons]
  by_cases hw:w=v
  ·subst hw
   simp
  ·rw[show (((w:Nat):Int)==((v:Nat):Int))=false from by simp; omega]
   rcases List.mem_cons.1 h with h | h
   ·exact absurd h.symm hw
   ·exact ih h
theorem zCI {b:Nat} {vs:List Nat} {r:List Int} (h:∀ x,ztN r x→0≤x∧x.toNat∈vs):onB (upB b vs) r=r.map (upC (b:Int)):=by
 unfold onB
 refine zl7 _ r _ fun c hc => ?_
 unfold onC upC
 by_cases h0:c<0
 ·obtain⟨h1,h2⟩:=h (-1 - c) ⟨c,hc,h0,rfl⟩
  have:=zrq b (-1 - c).toNat vs h2
  rw[Int.toNat_of_nonneg h1] at this
  rw[decide_eq_false (show ¬ c≥0 by omega),cond_false,this,decide_eq_true h0,cond_true]
  show [_]=[_]
  congr 1
  omega
 ·rw[decide_eq_true (show c≥0 by omega),cond_true,decide_eq_false h0,cond_false]
theorem zGX (b:Nat) (vs:List Nat) (h:vs.length≤1000):BindsOk (upB b vs) where
 len:=by unfold upB; rw[List.length_map]; exact h
 all:=fun q hq=>by
  obtain⟨v,-,rfl⟩:=List.mem_map.1 hq
  exact ⟨by simp,by simp⟩
theorem zrb {a0:List zm} (_hs:SignOk a0) {L:List zg} {T:List jI} {C:List zg} (h:zeQ a0 L T C=true):L.length≤5∧T.length≤3∧C.length≤3∧zl (L.map (·.2))+zl T+zl (C.map (·.2))≤1000:=by
 obtain⟨-,h1,h2,h3,-,-,-,h7⟩:=za7 h
 exact ⟨h1,h2,h3,by omega⟩
theorem zkg {a0:List zm} (hs:SignOk a0) {L:List zg} {T:List jI} {C:List zg} {L':List zg} {T':List jI} {C':List zg} (h:zeQ a0 L T C=true) (h':zeQ a0 L' T' C'=true) {b:Nat} (hb:b≤24) (htop:TopV (ym L T C) (b:Int)) :
  (zc7 L T C L' T' C'=some ([],[],false,[])∧∃ x,zgc (ym L' T' C') x∧23<x+(b:Int)) ∨
  (zc7 L T C L' T' C'=some (zgq (b:Int) L',T'.map (List.map (upC (b:Int))),true,zgq (b:Int) C')∧∀ x,zgc (ym L' T' C') x→x+(b:Int)≤23):=by
 obtain⟨l1,l2,l3,l4⟩:=zrb hs h
 obtain⟨m1,m2,m3,m4⟩:=zrb hs h'
 have hcd:=znB hs h'
 have hwm:∀ x,x∈(zhK L T C).map (fun v:Nat=>(v:Int))↔zgc (ym L T C) x:=fun x=>by
  constructor
  ·intro hx
   obtain⟨v,hv,rfl⟩:=List.mem_map.1 hx
   exact (ziC (ziR v hv)).1 hv
  ·intro hx
   have:=zf8 h hx
   obtain⟨v,rfl⟩:∃ v:Nat,x=(v:Int):=⟨x.toNat,by omega⟩
   exact List.mem_map_of_mem ((ziC (by omega)).2 hx)
 have hrise:Rise ((zhK L T C).map fun v:Nat=>(v:Int)):=by
  have h1:(zhK L T C).Pairwise (· < ·):=List.Pairwise.sublist List.filter_sublist List.pairwise_lt_range
  unfold Rise
  rw[List.pairwise_map]
  exact h1.imp fun h=>by omega
 have hv':∀ x,zgc (ym L' T' C') x→0≤x∧x.toNat∈zhK L' T' C':=fun x hx=>by
  have:=zf8 h' hx
  refine ⟨this.1,(ziC (by omega)).2 ?_⟩
  rw[Int.toNat_of_nonneg this.1]; exact hx
 have hvl:(zhK L' T' C').length≤24:=by
  have:=zn9 _ (List.range 24) (zlm L' T' C') fun v hv=>List.mem_range.2 (ziR v hv)
  simpa using this
 -- the last part, whatever the way to it
 have fin:∀ o:Option (List zg×List jI×Bool×List zg),o=((lp qN zd) ((b:Int),(zhK L' T' C').map (fun v:Nat=>(v:Int)),0,L',T',C',([]:List (Int×List Int)))).bind (fun r27=>qb r27 (fun z28=>(zcv z28 L' T' C').bind fun r29=>some (r29.1,r29.2.1,true,r29.2.2)) (fun z30=>some (([]:List zg),([]:List jI),z30,([]:List zg)))) →
   (o=some ([],[],false,[])∧∃ x,zgc (ym L' T' C') x∧23<x+(b:Int))∨(o=some (zgq (b:Int) L',T'.map (List.map (upC (b:Int))),true,zgq (b:Int) C')∧∀ x,zgc (ym L' T' C') x→x+(b:Int)≤23):=by
  intro o ho
  rw[ho,zg6 _ _ _ _ _ _ (by rw[List.length_map]; unfold maxLen; omega),zm7 hb _ [] ziR (by simp; omega)]
  cases ha:(zhK L' T' C').all fun v=>decide (v+b≤23) with
  | false =>
   refine .inl ⟨rfl,?_⟩
   obtain⟨v,hv,hvb⟩:=List.all_eq_false.1 ha
   have hvb:¬ v+b≤23:=by simpa using hvb
   exact ⟨(v:Int),(ziC (ziR v hv)).1 hv,by omega⟩
  | true =>
   refine .inr ⟨?_,fun x hx => ?_⟩
   ·simp only[cond_true,Option.bind_some,zcy,List.nil_append]
    rw[zqz (zGX b _ (by omega)) (fun l hl=>(hcd _ (zas hl)).near) (fun l hl=>(hcd _ (zce hl)).near) (fun l hl=>(hcd _ (zbE hl)).near) (by omega) (by omega) (by omega),Option.bind_some]
    have eL:∀ ls:List zg,(∀ l∈ls,l.2∈ym L' T' C')→zmm (upB b (zhK L' T' C')) ls=zgq (b:Int) ls:=fun ls hls=>List.map_congr_left fun l hl=>by
     show (l.1,_)=(l.1,_)
     rw[zCI fun x hx=>hv' x ⟨_,hls l hl,hx⟩]
    have eT:ztQ (upB b (zhK L' T' C')) T'=T'.map (List.map (upC (b:Int))):=List.map_congr_left fun l hl=>zCI fun x hx=>hv' x ⟨_,zce hl,hx⟩
    rw[eL L' fun l hl=>zas hl,eL C' fun l hl=>zbE hl,eT]
   ·obtain⟨h1,h2⟩:=hv' x hx
    have:=List.all_eq_true.1 ha _ h2
    have:x.toNat+b≤23:=by simpa using this
    omega
 unfold zc7
 rw[ze1 (by omega) (by omega) (by omega) (by omega),Option.bind_some]
 rcases zvj hrise hwm with ⟨h1,h2⟩ | ⟨x,h1,h2,h3⟩
 ·have e0:(b:Int)=0:=htop.unique h2 (by omega) (by omega)
  rw[h1]
  refine fin _ ?_
  rw[e0,show decide (((List.length ([]:List Int):Nat):Int)>0)=false from rfl,cond_false,ze1 (by omega) (by omega) (by omega) (by omega),Option.bind_some]
 ·have hx0:0≤x:=by
   have:=(hwm x).1 (List.mem_of_getElem? h1)
   exact (zf8 h this).1
  have hx24:=(zf8 h ((hwm x).1 (List.mem_of_getElem? h1))).2
  have e0:(b:Int)=x+1:=htop.unique h3 (by omega) (by omega)
  refine fin _ ?_
  have hl24:((zhK L T C).map fun v:Nat=>(v:Int)).length≤24:=by
   have:=zn9 _ (List.range 24) (zlm L T C) fun v hv=>List.mem_range.2 (ziR v hv)
   simpa using this
  generalize (zhK L T C).map (fun v:Nat=>(v:Int))=ws at h1 h2 hl24 ⊢
  have w1:IntKind.wrap .i64 (((List.length ws:Nat):Int) - 1)=((ws.length - 1:Nat):Int):=by rw[zt]<;>omega
  have w2:IntKind.wrap .i64 (x+1)=(b:Int):=by rw[zt]<;>omega
  rw[decide_eq_true (show ((List.length ws:Nat):Int)>0 by omega),cond_true,w1,qd (by omega),Option.bind_some,h1,Option.bind_some,ze1 (by omega) (by omega) (by omega) (by omega),Option.bind_some,w2]
theorem zrE {α:Type} (xs:List α) {i:Nat} (h:i≤xs.length):zbR xs (some (i:Int)) none=some (xs.drop i):=by
 show slc xs (i:Int) (xs.length:Int)=some _
 unfold slc
 rw[decide_eq_true (show (0:Int)≤(i:Int) by omega),decide_eq_true (show (i:Int)≤(xs.length:Int) by omega),decide_eq_true (show (xs.length:Int)≤((xs.length:Nat):Int) by omega)]
 simp
theorem zlc {α:Type} (s:Nat):(es:List α)→(i:Nat)→s<i→zN (s:Int) es i=es
 | [],_,_=>rfl
 | e::es,i,h=>by
  show cond ((i:Int) != (s:Int)) (e::zN (s:Int) es (i+1)) (zN (s:Int) es (i+1))=_
  rw[show ((i:Int) != (s:Int))=true from by simp; omega,cond_true,zlc s es (i+1) (by omega)]
theorem zfD {α:Type} (s:Nat):(es:List α)→(i:Nat)→i≤s→s<i+es.length→zN (s:Int) es i=es.take (s - i)++es.drop (s - i+1)
 | [],i,h,h2=>by simp at h2; omega
 | e::es,i,h,h2=>by
  show cond ((i:Int) != (s:Int)) (e::zN (s:Int) es (i+1)) (zN (s:Int) es (i+1))=_
  simp only[List.length_cons] at h2
  by_cases he:i=s
  ·subst he
   rw[show ((i:Int) != (i:Int))=false from by simp,cond_false,zlc i es (i+1) (by omega)]
   simp
  ·rw[show ((i:Int) != (s:Int))=true from by simp; omega,cond_true,zfD s es (i+1) (by omega) (by omega)]
   rw[show s - i=(s - (i+1))+1 from by omega]
   rfl
theorem zpq {L:List zg} {i:Int} (h:q9 L i=true) (hl:L.length≤1000):zcM L i=some (zN i L 0):=by
 unfold q9 at h
 simp only[Bool.and_eq_true,decide_eq_true_eq] at h
 obtain⟨k,rfl⟩:∃ k:Nat,i=(k:Int):=⟨i.toNat,by omega⟩
 have w1:IntKind.wrap .i64 ((k:Int)+1)=((k+1:Nat):Int):=by rw[zt]<;>omega
 unfold zcM
 rw[w1,zrM L (by omega),Option.bind_some,zn (by simp; omega),cond_true,zrE L (by omega),Option.bind_some,zn (by simp; omega),cond_true,zfD k L 0 (by omega) (by omega)]
 simp
theorem zy3 {σ:Sb} (hsh:zad σ (List.range 24)=true) {L:List zg} {T:List jI} {C:List zg} (hL:∀ l∈L,Cds l.2) (hT:∀ r∈T,Cds r) (hC:∀ l∈C,Cds l.2) (h1:L.length≤1000) (h2:T.length≤1000) (h3:C.length≤1000) :
  zcv (zdr σ) L T C=some (zcp σ L,T.map (zdf σ),zcp σ C):=by
 rw[zqz (zhj hsh) (fun l hl=>(hL l hl).near) (fun r hr=>(hT r hr).near) (fun l hl=>(hC l hl).near) h1 h2 h3,
  zkA fun l hl c hc=>((hL l hl).2 c hc).1,zkA fun l hl c hc=>((hC l hl).2 c hc).1,zse fun r hr c hc=>((hT r hr).2 c hc).1]
theorem zxZ {a0:List zm} {σ:Sb} (hs:SignOk a0) (hsh:zad σ (List.range 24)=true) {L:List zg} {T:List jI} {C:List zg} (hL:∀ l∈L,Cds l.2) (hT:∀ r∈T,Cds r) (hC:∀ l∈C,Cds l.2) (h1:L.length≤1000) (h2:T.length≤1000) (h3:C.length≤1000) (k:Int) :
  ((ze8 a0 (zdr σ) L T C).bind fun r40=>cond (!r40.2.2.1) (zcL k) (some (r40.1,r40.2.1,true,(0:Int),r40.2.2.2)))=znb a0 σ L T C k:=by
 unfold ze8 znb
 rw[zy3 hsh hL hT hC h1 h2 h3,Option.bind_some]
 simp only
 rw[yn,Option.bind_some]
 cases hm:zeQ a0 (zcp σ L) (T.map (zdf σ)) (zcp σ C) with
 | false=>rfl
 | true =>
  obtain⟨l1,l2,l3,l4⟩:=zrb hs hm
  rw[Bool.not_true,cond_false,zET (znB hs hm) (by omega) (by omega) (by omega) l4]
  rfl
end
end Go.Abs.Q
namespace Go.Abs.Q
open Go Go.Abs
section
theorem zhq (L:List zg) (T:List jI) (C:List zg) (i:Int):zee L T C i=some (q9 L i):=by
 unfold zee q9
 by_cases h:i≥0
 ·rw[decide_eq_true h,cond_true,Bool.true_and]
 ·rw[decide_eq_false h,cond_false,Bool.false_and]
end
end Go.Abs.Q
namespace Go.Abs.Q
open Go Go.Abs
def zbA (rec:(jS×jI×Int×Int)→Option Int) (x:(jS×jI×Int×Int)):Option Int :=
 cond (decide (x.2.2.2<((List.length x.2.1:Nat):Int)))
 ((gx x.2.1 x.2.2.2).bind fun e4 =>
  cond (decide (e4<0))
  (rec (x.1,x.2.1,(IntKind.wrap .i64 (x.2.2.1+1)),(IntKind.wrap .i64 (x.2.2.2+1))))
  ((gx x.2.1 x.2.2.2).bind fun e5 =>
   (gx x.1 e5).bind fun e6 =>
   rec (x.1,x.2.1,(IntKind.wrap .i64 (x.2.2.1+e6.2.2.2)),(IntKind.wrap .i64 (x.2.2.2+1)))))
 (some x.2.2.1)
def ze6 (a0:jS) (a1:jI):Option Int :=
 ((lp zbA zd) (a0,a1,0,0)).bind fun r8 =>
 some r8
def zby (rec:(jI×jI×Int×Int×Int)→Option Int) (x:(jI×jI×Int×Int×Int)):Option Int :=
 cond (decide (x.2.2.2.2<((List.length x.2.1:Nat):Int)))
 ((gx x.2.1 x.2.2.2.2).bind fun e5 =>
  cond (e5==(IntKind.wrap .i64 ((-1) - x.2.2.1)))
  (rec (x.1,x.2.1,x.2.2.1,(IntKind.wrap .i64 (x.2.2.2.1 - 1)),(IntKind.wrap .i64 (x.2.2.2.2+1))))
  (rec (x.1,x.2.1,x.2.2.1,x.2.2.2.1,(IntKind.wrap .i64 (x.2.2.2.2+1)))))
 (some x.2.2.2.1)
def zbB (rec:(jI×jI×Int×Int×Int)→Option Int) (x:(jI×jI×Int×Int×Int)):Option Int :=
 cond (decide (x.2.2.2.2<((List.length x.1:Nat):Int)))
 ((gx x.1 x.2.2.2.2).bind fun e2 =>
  cond (e2==(IntKind.wrap .i64 ((-1) - x.2.2.1)))
  (rec (x.1,x.2.1,x.2.2.1,(IntKind.wrap .i64 (x.2.2.2.1+1)),(IntKind.wrap .i64 (x.2.2.2.2+1))))
  (rec (x.1,x.2.1,x.2.2.1,x.2.2.2.1,(IntKind.wrap .i64 (x.2.2.2.2+1)))))
 (some x.2.2.2.1)
def zaU (rec:(jI×jI×Int)→Option (Unit⊕Bool)) (x:(jI×jI×Int)):Option (Unit⊕Bool) :=
 cond (decide (x.2.2≤23))
 (((lp zbB zd) (x.1,x.2.1,x.2.2,0,0)).bind fun r7 =>
  ((lp zby zd) (x.1,x.2.1,x.2.2,r7,0)).bind fun r8 =>
  cond (decide (r8<0))
  (some (Sum.inr false))
  (rec (x.1,x.2.1,(IntKind.wrap .i64 (x.2.2+1)))))
 (some (Sum.inl ()))
def zht (a0:jI) (a1:jI):Option Bool :=
 ((lp zaU zd) (a0,a1,0)).bind fun r12 =>
 qb r12
 (fun _z13=>some true)
 (fun z14=>some z14)
def zcf (rf:((jS×jI×jI)→Option Bool)) (rec:(jS×jR×jR×Int)→Option (Unit⊕Bool)) (x:(jS×jR×jR×Int)):Option (Unit⊕Bool) :=
 cond (decide (x.2.2.2<((List.length x.2.1:Nat):Int)))
 ((gx x.2.1 x.2.2.2).bind fun e20 =>
  (gx x.2.2.1 x.2.2.2).bind fun e21 =>
  (zbP e20 e21).bind fun r22 =>
  cond (!r22)
  ((gx x.2.1 x.2.2.2).bind fun e23 =>
   (gx x.2.2.1 x.2.2.2).bind fun e24 =>
   (rf (x.1,e23,e24)).bind fun r25 =>
   some (Sum.inr r25))
  (rec (x.1,x.2.1,x.2.2.1,(IntKind.wrap .i64 (x.2.2.2+1)))))
 (some (Sum.inl ()))
def zis (rf:((jS×jI×jI)→Option Bool)) (a0:jS) (a1:jI) (a2:jI):Option Bool :=
 (ze6 a0 a1).bind fun r29 =>
 (ze6 a0 a2).bind fun r30 =>
 (zht a1 a2).bind fun r31 =>
 cond (!r31)
 (some false)
 (cond (decide (r29<r30))
  (some false)
  (cond (decide (r29>r30))
   (cond (decide (r29>r30))
    (some true)
    ((gx a1 0).bind fun e32 =>
     (gx a2 0).bind fun e33 =>
     some (decide (e32>e33))))
   ((gx a1 0).bind fun e34 =>
    (gx a2 0).bind fun e35 =>
    cond (e34 != e35)
    (cond (decide (r29>r30))
     (some true)
     ((gx a1 0).bind fun e36 =>
      (gx a2 0).bind fun e37 =>
      some (decide (e36>e37))))
    ((zbR a1 (some 1) none).bind fun y38 =>
     (zR a0 y38).bind fun r39 =>
     (zbR a2 (some 1) none).bind fun y40 =>
     (zR a0 y40).bind fun r41 =>
     ((lp (zcf rf) zd) (a0,r39,r41,0)).bind fun r42 =>
     qb r42
     (fun _z43=>some false)
     (fun z44=>some z44)))))
def zkm (rf:((jS×jI×jI)→Option Bool)):((jS×jI×jI)→Option Bool) :=
 fun (x:(jS×jI×jI))=>zis rf x.1 x.2.1 x.2.2
def zko:((jS×jI×jI)→Option Bool):=fun _=>none
def zeq (k:Nat):((jS×jI×jI)→Option Bool):=lpR zko zkm k
def ziz (a0:jS) (a1:jI) (a2:jI):Option Bool:=(zeq zd) (a0,a1,a2)
def zcX (a0:jS) (a1:jI) (a2:jI):Option Int :=
 (zbP a1 a2).bind fun r4 =>
 cond r4
 (some 1)
 ((ziz a0 a1 a2).bind fun r5 =>
  cond r5
  (some 2)
  ((ziz a0 a2 a1).bind fun r6 =>
   cond r6
   (some 0)
   (some 3)))
end Go.Abs.Q
namespace Go.Abs.Q
open Go Go.Abs
def qc (s0:jS):List Int→Int→Option Int
 | [],s2=>some s2
 | e::es,s2 =>
  cond (decide (e<0))
  (qc s0 es (IntKind.wrap .i64 (s2+1)))
  ((gx s0 e).bind fun e6 =>
   qc s0 es (IntKind.wrap .i64 (s2+e6.2.2.2)))
theorem zhH (s0:jS) (s1:jI) (s2:Int) (hl:List.length s1≤maxLen):lp zbA zd (s0,s1,s2,0)=qc s0 s1 s2:=zac zbA (fun i s2=>(s0,s1,s2,i)) (fun es i s2=>qc s0 es s2) hl (fun r i s2 h=>by unfold zbA qc; simp only[h,cond_false]) (fun r i s2 e es h g w k=>by unfold zbA qc; simp only[h,cond_true,g,Option.bind_some,w,k]) s2
def yA (s2:Int):List Int→Int→Option Int
 | [],s3=>some s3
 | e::es,s3 =>
  cond (e==(IntKind.wrap .i64 ((-1) - s2)))
  (yA s2 es (IntKind.wrap .i64 (s3 - 1)))
  (yA s2 es s3)
theorem zhI (s0:jI) (s1:jI) (s2:Int) (s3:Int) (hl:List.length s1≤maxLen):lp zby zd (s0,s1,s2,s3,0)=yA s2 s1 s3:=zac zby (fun i s3=>(s0,s1,s2,s3,i)) (fun es i s3=>yA s2 es s3) hl (fun r i s3 h=>by unfold zby yA; simp only[h,cond_false]) (fun r i s3 e es h g w k=>by unfold zby yA; simp only[h,cond_true,g,Option.bind_some,w,k]) s3
def yy (s2:Int):List Int→Int→Option Int
 | [],s3=>some s3
 | e::es,s3 =>
  cond (e==(IntKind.wrap .i64 ((-1) - s2)))
  (yy s2 es (IntKind.wrap .i64 (s3+1)))
  (yy s2 es s3)
theorem zhF (s0:jI) (s1:jI) (s2:Int) (s3:Int) (hl:List.length s0≤maxLen):lp zbB zd (s0,s1,s2,s3,0)=yy s2 s0 s3:=zac zbB (fun i s3=>(s0,s1,s2,s3,i)) (fun es i s3=>yy s2 es s3) hl (fun r i s3 h=>by unfold zbB yy; simp only[h,cond_false]) (fun r i s3 e es h g w k=>by unfold zbB yy; simp only[h,cond_true,g,Option.bind_some,w,k]) s3
def qW (rf:((jS×jI×jI)→Option Bool)) (s0:jS) (s2:jR):List jI→Nat→Option (Unit⊕Bool)
 | [],_i=>some (Sum.inl ())
 | e::es,i =>
  (gx s2 (i:Int)).bind fun e21 =>
  (zbP e e21).bind fun r22 =>
  cond (!r22)
  ((gx s2 (i:Int)).bind fun e24 =>
   (rf (s0,e,e24)).bind fun r25 =>
   some (Sum.inr r25))
  (qW rf s0 s2 es (i+1))
theorem zid (rf:((jS×jI×jI)→Option Bool)) (s0:jS) (s1:jR) (s2:jR) (hl:List.length s1≤maxLen):lp (zcf rf) zd (s0,s1,s2,0)=qW rf s0 s2 s1 0:=zfg (zcf rf) (fun i=>(s0,s1,s2,i)) (fun es i=>qW rf s0 s2 es i) hl (fun r i h=>by unfold zcf qW; simp only[h,cond_false]) (fun r i e es h g w k=>by unfold zcf qW; simp only[h,cond_true,g,Option.bind_some,w,k])
end Go.Abs.Q
namespace Go.Abs.Q
open Go Go.Abs
section
end
end Go.Abs.Q
namespace Go.Abs.Q
open Go Go.Abs
section
theorem znq (a0:List zm):(es:List Int)→(s:Int)→qc a0 es s=yS a0 es s
 | [],_=>rfl
 | e::es,s=>by
  unfold qc yS
  rw[znq a0 es]
  congr 1
  congr 1
  funext e6
  exact znq a0 es _
theorem zrp (a0:List zm) {r:List Int} (h:r.length≤1000000):ze6 a0 r=zfv a0 r:=by
 unfold ze6 zfv
 rw[zhH _ _ _ (by unfold maxLen; omega),zeL _ _ _ (by unfold maxLen; omega),znq]
def zi3 (r:List Int) (v:Nat):Nat:=r.count (-1 - (v:Int))
theorem zxI (r:List Int) (v:Nat):zi3 r v≤r.length:=List.count_le_length
theorem zi2 (c:Int) (r:List Int) (v:Nat):zi3 (c::r) v=zi3 r v+cond (c == -1 - (v:Int)) 1 0:=by
 unfold zi3
 rw[List.count_cons]
 cases c == -1 - (v:Int)<;>rfl
theorem znT {v:Nat} (hv:v<24):(es:List Int)→(s:Int) → -1000000000≤s→s+es.length≤1000000000→yy (v:Int) es s=some (s+(zi3 es v:Int))
 | [],s,_,_=>by simp [yy,zi3]
 | e::es,s,h0,h1=>by
  simp only[List.length_cons] at h1
  unfold yy
  have w1:IntKind.wrap .i64 ((-1) - (v:Int)) = -1 - (v:Int):=by rw[zt]<;>omega
  have w2:IntKind.wrap .i64 (s+1)=s+1:=by rw[zt]<;>omega
  rw[w1,w2,zi2]
  cases e == -1 - (v:Int) with
  | true=>rw[cond_true,cond_true,znT hv es _ (by omega) (by omega)]; congr 1; omega
  | false=>rw[cond_false,cond_false,znT hv es _ (by omega) (by omega)]; congr 1
theorem znR {v:Nat} (hv:v<24):(es:List Int)→(s:Int) → -1000000000≤s - es.length→s≤1000000000→yA (v:Int) es s=some (s - (zi3 es v:Int))
 | [],s,_,_=>by simp [yA,zi3]
 | e::es,s,h0,h1=>by
  simp only[List.length_cons] at h0
  unfold yA
  have w1:IntKind.wrap .i64 ((-1) - (v:Int)) = -1 - (v:Int):=by rw[zt]<;>omega
  have w2:IntKind.wrap .i64 (s - 1)=s - 1:=by rw[zt]<;>omega
  rw[w1,w2,zi2]
  cases e == -1 - (v:Int) with
  | true=>rw[cond_true,cond_true,znR hv es _ (by omega) (by omega)]; congr 1; omega
  | false=>rw[cond_false,cond_false,znR hv es _ (by omega) (by omega)]; congr 1
def zjg (a b:List Int) (vs:List Nat):Bool:=vs.all fun v=>decide (zi3 b v≤zi3 a v)
theorem zAF {a b:List Int} (ha:a.length≤1000000) (hb:b.length≤1000000):∀(m v k:Nat),24 - v=m→v≤24→m<k→lp zaU k (a,b,(v:Int))=some (cond (zjg a b ((List.range 24).drop v)) (.inl ()) (.inr false)):=by
 intro m
 induction m with
 | zero =>
  intro v k hm hv hk
  obtain⟨k,rfl⟩:∃ k',k=k'+1:=⟨k - 1,by omega⟩
  rw[zK]
  generalize lp zaU k=rec
  unfold zaU
  have:v=24:=by omega
  subst this
  rw[show (List.range 24).drop 24=[] from rfl]
  rfl
 | succ m ih =>
  intro v k hm hv hk
  obtain⟨k,rfl⟩:∃ k',k=k'+1:=⟨k - 1,by omega⟩
  rw[zK]
  have key:=ih (v+1) k (by omega) (by omega) (by omega)
  generalize lp zaU k=rec at key ⊢
  unfold zaU
  have w1:IntKind.wrap .i64 ((v:Int)+1)=((v+1:Nat):Int):=by rw[zt]<;>omega
  have hdr:(List.range 24).drop v=v::(List.range 24).drop (v+1):=by
   rw[List.drop_eq_getElem_cons (by simp; omega)]
   simp
  have hca:=zxI a v
  have hcb:=zxI b v
  simp only[decide_eq_true (show (v:Int)≤23 by omega),cond_true,w1]
  rw[zhF _ _ _ _ (by unfold maxLen; omega),znT (by omega) a 0 (by omega) (by omega),Option.bind_some,zhI _ _ _ _ (by unfold maxLen; omega),znR (by omega) b _ (by omega) (by omega),Option.bind_some,key,hdr]
  unfold zjg
  rw[List.all_cons]
  by_cases hc:zi3 b v≤zi3 a v
  ·rw[decide_eq_false (show ¬(0+(zi3 a v:Int) - (zi3 b v:Int)<0) by omega),cond_false,decide_eq_true hc,Bool.true_and]
  ·rw[decide_eq_true (show 0+(zi3 a v:Int) - (zi3 b v:Int)<0 by omega),cond_true,decide_eq_false hc,Bool.false_and,cond_false]
theorem zyY {a b:List Int} (ha:a.length≤1000000) (hb:b.length≤1000000):zht a b=some (zjg a b (List.range 24)):=by
 unfold zht
 have:=zAF ha hb 24 0 zd rfl (by omega) (by unfold zd; omega)
 rw[show ((0:Nat):Int)=0 from rfl,List.drop_zero] at this
 rw[this]
 cases zjg a b (List.range 24)<;>rfl
theorem znw:(es:List Int)→(xs:List Int)→(∀ c∈es,-24≤c)→xs.length=24→(∀ v,v<24→0≤xs.getD v 0∧xs.getD v 0+es.length≤1000000000)→∃ ys,yM es xs=some ys∧ys.length=24∧∀ v,v<24→ys.getD v 0=xs.getD v 0+(zi3 es v:Int)
 | [],xs,_,hl,_=>⟨xs,rfl,hl,fun v _=>by simp [zi3]⟩
 | c::es,xs,hc,hl,hb=>by
  have hc0:=hc c (List.mem_cons_self ..)
  simp only[List.length_cons] at hb
  unfold yM
  by_cases h0:c<0
  ·obtain⟨u,rfl⟩:∃ u:Nat,c = -1 - (u:Int):=⟨(-1 - c).toNat,by omega⟩
   have hu:u<24:=by omega
   have hbu:=hb u hu
   have hg:xs[u]? = some (xs.getD u 0):=by
    rw[List.getD_eq_getElem?_getD,List.getElem?_eq_getElem (by omega)]
    rfl
   have w1:IntKind.wrap .i64 (xs.getD u 0+1)=xs.getD u 0+1:=by rw[zt]<;>omega
   rw[decide_eq_true h0,cond_true,zaE (by omega) (by omega),Option.bind_some,show -1 - (-1 - (u:Int))=(u:Int) from by omega,qd hu,Option.bind_some,hg,Option.bind_some,Option.bind_some,hg,Option.bind_some,w1]
   obtain⟨ys,g1,g2,g3⟩:=znw es (xs.set u (xs.getD u 0+1)) (fun d hd=>hc d (List.mem_cons_of_mem _ hd)) (by rw[List.length_set]; exact hl) (fun v hv=>by
    rw[zdo (by omega)]
    have:=hb v hv
    split<;>omega)
   refine ⟨ys,g1,g2,fun v hv => ?_⟩
   rw[g3 v hv,zdo (by omega),zi2]
   by_cases hvu:v=u
   ·subst hvu
    rw[if_pos rfl,show ((-1 - (v:Int)) == -1 - (v:Int))=true from by simp,cond_true]
    omega
   ·rw[if_neg hvu,show ((-1 - (u:Int)) == -1 - (v:Int))=false from by simp; omega,cond_false]
    omega
  ·rw[decide_eq_false h0,cond_false]
   obtain⟨ys,g1,g2,g3⟩:=znw es xs (fun d hd=>hc d (List.mem_cons_of_mem _ hd)) hl (fun v hv=>by have:=hb v hv; omega)
   refine ⟨ys,g1,g2,fun v hv => ?_⟩
   rw[g3 v hv,zi2,show (c == -1 - (v:Int))=false from by simp; omega,cond_false]
   omega
theorem zrr {r:List Int} (hl:r.length≤1000000) (hc:∀ c∈r,-24≤c):∃ ys,zed r=some ys∧ys.length=24∧∀ v,v<24→ys.getD v 0=(zi3 r v:Int):=by
 have hz:∀ v,(List.replicate 24 (0:Int)).getD v 0=0:=fun v=>by
  rw[List.getD_eq_getElem?_getD,List.getElem?_replicate]
  split<;>rfl
 obtain⟨ys,g1,g2,g3⟩:=znw r (List.replicate 24 (0:Int)) hc (by simp) (fun v _=>by rw[hz]; omega)
 refine ⟨ys,?_,g2,fun v hv=>by rw[g3 v hv,hz]; omega⟩
 unfold zed
 rw[zgK _ _ (by unfold maxLen; omega),g1,Option.bind_some,g2]
 rfl
theorem zss {a b xs ys:List Int} (hx:xs.length=24) (hy:ys.length=24) (gx:∀ v,v<24→xs.getD v 0=(zi3 a v:Int)) (gy:∀ v,v<24→ys.getD v 0=(zi3 b v:Int)):∀(m v k:Nat),24 - v=m→v≤24→m<k→lp q8 k ((v:Int),xs,ys)=some (cond (zjg a b ((List.range 24).drop v)) (.inl ()) (.inr false)):=by
 intro m
 induction m with
 | zero =>
  intro v k hm hv hk
  obtain⟨k,rfl⟩:∃ k',k=k'+1:=⟨k - 1,by omega⟩
  rw[zK]
  generalize lp q8 k=rec
  unfold q8
  have:v=24:=by omega
  subst this
  rw[show (List.range 24).drop 24=[] from rfl]
  rfl
 | succ m ih =>
  intro v k hm hv hk
  obtain⟨k,rfl⟩:∃ k',k=k'+1:=⟨k - 1,by omega⟩
  rw[zK]
  have key:=ih (v+1) k (by omega) (by omega) (by omega)
  generalize lp q8 k=rec at key ⊢
  unfold q8
  have w1:IntKind.wrap .i64 ((v:Int)+1)=((v+1:Nat):Int):=by rw[zt]<;>omega
  have hdr:(List.range 24).drop v=v::(List.range 24).drop (v+1):=by
   rw[List.drop_eq_getElem_cons (by simp; omega)]
   simp
  have h1:xs[v]? = some (zi3 a v:Int):=by
   rw[← gx v (by omega),List.getD_eq_getElem?_getD,List.getElem?_eq_getElem (by omega)]
   rfl
  have h2:ys[v]? = some (zi3 b v:Int):=by
   rw[← gy v (by omega),List.getD_eq_getElem?_getD,List.getElem?_eq_getElem (by omega)]
   rfl
  simp only[decide_eq_true (show (v:Int)<24 by omega),cond_true,w1,qd (show v<24 by omega),Option.bind_some,h1,h2]
  rw[key,hdr]
  unfold zjg
  rw[List.all_cons]
  by_cases hc:zi3 b v≤zi3 a v
  ·rw[decide_eq_false (show ¬((zi3 a v:Int)<(zi3 b v:Int)) by omega),cond_false,decide_eq_true hc,Bool.true_and]
  ·rw[decide_eq_true (show (zi3 a v:Int)<(zi3 b v:Int) by omega),cond_true,decide_eq_false hc,Bool.false_and,cond_false]
theorem zwh {a b:List Int} (ha:a.length≤1000000) (hb:b.length≤1000000) (ca:∀ c∈a,-24≤c) (cb:∀ c∈b,-24≤c):zeO a b=some (zjg a b (List.range 24)):=by
 obtain⟨xs,h1,h2,h3⟩:=zrr ha ca
 obtain⟨ys,g1,g2,g3⟩:=zrr hb cb
 unfold zeO
 rw[h1,Option.bind_some,g1,Option.bind_some]
 have:=zss (a:=a) (b:=b) h2 g2 h3 g3 24 0 zd rfl (by omega) (by unfold zd; omega)
 rw[show ((0:Nat):Int)=0 from rfl,List.drop_zero] at this
 rw[show Nat.beq (List.length (List.replicate 24 (0:Int))) 24=true from by simp,cond_true,cond_true,this]
 cases zjg a b (List.range 24)<;>rfl
end
end Go.Abs.Q
namespace Go.Abs.Q
open Go Go.Abs
section
structure HF (a0:List zm) (a:List Int) (c:Int) (ts:List Tm):Prop where
 eq:a=c::zb ts
 ok:okR a0 24 ts
 len:a.length≤1000
 low : -24≤c
 sym:0≤c→∃ e,gx a0 c=some e
theorem zvq {a0:List zm} (hs:SignOk a0) {t:Tm} (ho:t.ok a0 24) (hl:t.codes.length≤1000):∃ c ts,HF a0 t.codes c ts∧(∀ d us u,u=t→u.codes=d::zb us→True)∧zaQ ts<t.size:=by
 cases t with
 | v n =>
  have hn:n<24:=ho
  exact ⟨-1 - (n:Int),[],⟨rfl,trivial,hl,by omega,fun h=>by omega⟩,fun _ _ _ _ _=>trivial,by simp [zaQ,Tm.size]⟩
 | f c as =>
  obtain⟨e,he,-⟩:=zrW hs ho.1
  exact ⟨(c:Int),as,⟨rfl,ho.2,hl,by omega,fun _=>⟨e,he⟩⟩,fun _ _ _ _ _=>trivial,by simp [Tm.size]⟩
mutual
theorem Tm.syms {a0:List zm} (hs:SignOk a0):(t:Tm)→t.ok a0 24→∀ c∈t.codes,-24≤c∧(0≤c→∃ e,gx a0 c=some e)
 | .v n,ho,c,hc=>by
  have hn:n<24:=ho
  have hc:c = -1 - (n:Int):=by simpa[Tm.codes] using hc
  exact ⟨by omega,fun h=>by omega⟩
 | .f d as,ho,c,hc=>by
  rcases List.mem_cons.1 (show c∈(d:Int)::zb as from hc) with rfl | hc
  ·obtain⟨e,he,-⟩:=zrW hs ho.1
   exact ⟨by omega,fun _=>⟨e,he⟩⟩
  ·exact zDZ hs as ho.2 c hc
theorem zDZ {a0:List zm} (hs:SignOk a0):(ts:List Tm)→okR a0 24 ts→∀ c∈zb ts,-24≤c∧(0≤c→∃ e,gx a0 c=some e)
 | [],_,_,hc=>by simp [zb] at hc
 | t::ts,ho,c,hc=>by
  rcases List.mem_append.1 (show c∈t.codes++zb ts from hc) with hc | hc
  ·exact Tm.syms hs t ho.1 c hc
  ·exact zDZ hs ts ho.2 c hc
end
theorem HF.syms {a0:List zm} (hs:SignOk a0) {a:List Int} {c:Int} {ts:List Tm} (h:HF a0 a c ts):∀ d∈a,-24≤d∧(0≤d→∃ e,gx a0 d=some e):=fun d hd=>by
 rw[h.eq] at hd
 rcases List.mem_cons.1 hd with rfl | hd
 ·exact ⟨h.low,h.sym⟩
 ·exact zDZ hs ts h.ok d hd
theorem zj7 {a0:List zm}:(es:List Int)→(s:Int)→(∀ d∈es,-24≤d∧(0≤d→∃ e,gx a0 d=some e))→∃ r,yS a0 es s=some r
 | [],s,_=>⟨s,rfl⟩
 | e::es,s,h=>by
  unfold yS
  have ih:=fun s=>zj7 es s fun d hd=>h d (List.mem_cons_of_mem _ hd)
  by_cases h0:e<0
  ·rw[decide_eq_true h0]; exact ih _
  ·obtain⟨x,hx⟩:=(h e (List.mem_cons_self ..)).2 (by omega)
   rw[decide_eq_false h0,cond_false,hx]
   exact ih _
theorem HF.sum {a0:List zm} (hs:SignOk a0) {a:List Int} {c:Int} {ts:List Tm} (h:HF a0 a c ts):∃ r,zfv a0 a=some r:=by
 have:=h.len
 obtain⟨r,hr⟩:=zj7 a 0 (h.syms hs)
 refine ⟨r,?_⟩
 unfold zfv
 rw[zeL _ _ _ (by unfold maxLen; omega),hr]
 rfl
def zhM:List Tm→List Tm→Option (Tm×Tm)
 | t::ts,u::us=>if t.codes=u.codes then zhM ts us else some (t,u)
 | _,_=>none
theorem zl9:{ts us:List Tm}→{p:Tm×Tm}→zhM ts us=some p→p.1∈ts∧p.2∈us∧p.1.codes≠p.2.codes
 | [],_,_,h=>by cases h
 | _::_,[],_,h=>by cases h
 | t::ts,u::us,p,h=>by
  unfold zhM at h
  split at h
  ·obtain⟨h1,h2,h3⟩:=zl9 h
   exact ⟨List.mem_cons_of_mem _ h1,List.mem_cons_of_mem _ h2,h3⟩
  ·rename_i hne
   injection h with h
   subst h
   exact ⟨List.mem_cons_self ..,List.mem_cons_self ..,hne⟩
theorem zme:{ts us:List Tm}→ts.length=us.length→zhM ts us=none→zb ts=zb us
 | [],[],_,_=>rfl
 | [],_::_,h,_=>by simp at h
 | _::_,[],h,_=>by simp at h
 | t::ts,u::us,hl,h=>by
  unfold zhM at h
  split at h
  ·rename_i he
   show t.codes++zb ts=u.codes++zb us
   rw[he,zme (by simpa using hl) h]
  ·cases h
theorem zpC {usA:List Tm} (hsm:∀ t∈usA,t.codes.length≤1000):(ts us:List Tm)→(i:Nat)→usA.drop i=us→ts.length=us.length→(∀ t∈ts,t.codes.length≤1000)→yr (usA.map Tm.codes) (ts.map Tm.codes) i=some (match zhM ts us with
  | none=>.inl ()
  | some p=>.inr (p.1.codes,p.2.codes))
 | [],[],i,_,_,_=>rfl
 | [],_::_,_,_,h,_=>by simp at h
 | _::_,[],_,_,h,_=>by simp at h
 | t::ts,u::us,i,hd,hl,hsmt=>by
  have hi:=qP hd
  have hg:=zB hd
  have ht:=hsmt t (List.mem_cons_self ..)
  rw[List.map_cons]
  unfold yr zhM
  rw[List.length_map,decide_eq_true (show (i:Int)<(usA.length:Int) by omega),cond_true,zab,List.getElem?_map,hg]
  simp only[Option.map_some,Option.bind_some]
  rw[zcB (by unfold maxLen; omega),Option.bind_some]
  by_cases he:t.codes=u.codes
  ·rw[decide_eq_true he,Bool.not_true,cond_false,if_pos he]
   exact zpC hsm ts us (i+1) (zw hd) (by simpa using hl) fun t h=>hsmt t (List.mem_cons_of_mem _ h)
  ·rw[decide_eq_false he,Bool.not_false,cond_true,if_neg he]
theorem zvQ {a0:List zm} {rf:(List zm×List Int×List Int)→Option Bool} {usA:List Tm}:(ts us:List Tm)→(i:Nat)→usA.drop i=us→ts.length=us.length→(∀ t∈ts,t.codes.length≤1000)→qW rf a0 (usA.map Tm.codes) (ts.map Tm.codes) i=(match zhM ts us with
  | none=>some (.inl ())
  | some p=>(rf (a0,p.1.codes,p.2.codes)).bind fun r=>some (.inr r))
 | [],[],i,_,_,_=>rfl
 | [],_::_,_,_,h,_=>by simp at h
 | _::_,[],_,_,h,_=>by simp at h
 | t::ts,u::us,i,hd,hl,hsmt=>by
  have hg:=zB hd
  have ht:=hsmt t (List.mem_cons_self ..)
  rw[List.map_cons]
  unfold qW zhM
  rw[zab,List.getElem?_map,hg]
  simp only[Option.map_some,Option.bind_some]
  rw[ziB (by omega),Option.bind_some]
  by_cases he:t.codes=u.codes
  ·rw[decide_eq_true he,Bool.not_true,cond_false,if_pos he]
   exact zvQ ts us (i+1) (zw hd) (by simpa using hl) fun t h=>hsmt t (List.mem_cons_of_mem _ h)
  ·rw[decide_eq_false he,Bool.not_false,cond_true,if_neg he]
end
end Go.Abs.Q
namespace Go.Abs.Q
open Go Go.Abs
section
theorem zrX {a0:List zm} (hs:SignOk a0) {t u:Tm} (ht:t.ok a0 24) (hu:u.ok a0 24) (hlt:t.codes.length≤1000) (hlu:u.codes.length≤1000):∃ c ts d us,HF a0 t.codes c ts∧HF a0 u.codes d us∧(c=d→ts.length=us.length):=by
 obtain⟨c,ts,h1,-,-⟩:=zvq hs ht hlt
 obtain⟨d,us,h2,-,-⟩:=zvq hs hu hlu
 have inj:∀{c c':Int} {r r':List Int},c::r=c'::r'→c=c'∧r=r':=fun h=>by injection h with a b; exact ⟨a,b⟩
 refine ⟨c,ts,d,us,h1,h2,fun hcd => ?_⟩
 cases t with
 | v n =>
  obtain⟨e1,e2⟩:=inj (show (-1 - (n:Int))::[]=c::zb ts from h1.eq)
  have e3:ts=[]:=zdd (a0:=a0) _ ts [] (Nat.le_refl _) h1.ok trivial e2.symm
  cases u with
  | v m =>
   obtain⟨-,e5⟩:=inj (show (-1 - (m:Int))::[]=d::zb us from h2.eq)
   have e6:us=[]:=zdd (a0:=a0) _ us [] (Nat.le_refl _) h2.ok trivial e5.symm
   rw[e3,e6]
  | f q bs =>
   obtain⟨e4,-⟩:=inj (show (q:Int)::zb bs=d::zb us from h2.eq)
   omega
 | f p as =>
  obtain⟨e1,e2⟩:=inj (show (p:Int)::zb as=c::zb ts from h1.eq)
  have e3:as=ts:=zdd (a0:=a0) _ as ts (Nat.le_refl _) ht.2 h1.ok e2
  cases u with
  | v m =>
   obtain⟨e4,-⟩:=inj (show (-1 - (m:Int))::[]=d::zb us from h2.eq)
   omega
  | f q bs =>
   obtain⟨e4,e5⟩:=inj (show (q:Int)::zb bs=d::zb us from h2.eq)
   have e6:bs=us:=zdd (a0:=a0) _ bs us (Nat.le_refl _) hu.2 h2.ok e5
   have hpq:p=q:=by omega
   subst hpq
   have h3:=ht.1
   have h4:=hu.1
   rw[h3] at h4
   injection h4 with h4
   rw[← e3,← e6,h4]
theorem zAu {a0:List zm} (hs:SignOk a0):∀(n:Nat) (a b:List Int) (c d:Int) (ts us:List Tm),a.length≤n→HF a0 a c ts→HF a0 b d us→(c=d→ts.length=us.length)→a≠b→∀ k k',n<k→n<k' →
  ∃(r:Bool) (z:Unit⊕Bool),zeq k (a0,a,b)=some r∧lp zcE k' (a0,a,b)=some z∧qb z (fun _=>false) (fun x=>x)=r:=by
 intro n
 induction n with
 | zero =>
  intro a b c d ts us hn h
  rw[h.eq] at hn
  simp at hn
 | succ n ih =>
  intro a b c d ts us hn ha hb har hne k k' hk hk'
  obtain⟨k,rfl⟩:∃ q,k=q+1:=⟨k - 1,by omega⟩
  obtain⟨k',rfl⟩:∃ q,k'=q+1:=⟨k' - 1,by omega⟩
  show ∃ r z,zis (zeq k) a0 a b=some r∧_
  rw[zK]
  have key:=fun a b c d ts us h1 h2 h3 h4 h5=>ih a b c d ts us h1 h2 h3 h4 h5 k k' (by omega) (by omega)
  generalize lp zcE k'=rec at key ⊢
  have la:=ha.len
  have lb:=hb.len
  obtain⟨x,hx⟩:=ha.sum hs
  obtain⟨y,hy⟩:=hb.sum hs
  unfold zis zcE
  simp only
  have hnn:nn a=some a:=by rw[ha.eq]; rfl
  rw[zrp a0 (by omega),hx,Option.bind_some,zrp a0 (by omega),hy,Option.bind_some,zyY (by omega) (by omega),Option.bind_some,hnn,Option.bind_some,Option.bind_some,Bool.not_false,cond_true,
   zwh (by omega) (by omega) (fun e he=>(ha.syms hs e he).1) (fun e he=>(hb.syms hs e he).1),Option.bind_some]
  cases zjg a b (List.range 24) with
  | false=>exact ⟨false,.inl (),rfl,rfl,rfl⟩
  | true =>
   rw[Bool.not_true,cond_false,cond_true]
   simp only[Option.bind_some]
   by_cases hxy:x=y
   ·subst hxy
    rw[decide_eq_false (Int.lt_irrefl x),show (x != x)=false from by simp]
    simp only[cond_false]
    have ga:gx a 0=some c:=by rw[ha.eq]; rfl
    have gb:gx b 0=some d:=by rw[hb.eq]; rfl
    simp only[ga,gb,Option.bind_some]
    by_cases hcd:c=d
    ·subst hcd
     have hl:=har rfl
     rw[show (c != c)=false from by simp,cond_false,cond_false]
     have ea:=ha.eq
     have eb:=hb.eq
     have hlt:(zb ts).length+1=a.length:=by rw[ea]; rfl
     have hlu:(zb us).length+1=b.length:=by rw[eb]; rfl
     have sa:zbR a (some 1) none=some (zb ts):=by rw[ea]; exact zdj _ _
     have sb:zbR b (some 1) none=some (zb us):=by rw[eb]; exact zdj _ _
     have ct:∀ t∈ts,t.codes.length≤1000:=fun t h=>by have:=zeA h; omega
     have cu:∀ t∈us,t.codes.length≤1000:=fun t h=>by have:=zeA h; omega
     have cuts1:=yu ts ha.ok
     have cuts2:=yu us hb.ok
     have lts:=zhA cuts1
     have lus:=zhA cuts2
     rw[List.length_map] at lts lus
     have pa:=zaX hs (a1:=zb ts) (by omega) cuts1
     have pb:=zaX hs (a1:=zb us) (by omega) cuts2
     have ta:=zbS hs (a1:=zb ts) (by omega) cuts1
     have tb:=zbS hs (a1:=zb us) (by omega) cuts2
     unfold zgF
     simp only[sa,sb,pa,pb,ta,tb,Option.bind_some]
     rw[zgo _ _ (by rw[List.length_map]; unfold maxLen; omega),zpC cu ts us 0 rfl hl ct,Option.bind_some,
      zid _ _ _ _ (by rw[List.length_map]; unfold maxLen; omega),zvQ ts us 0 rfl hl ct]
     cases hf:zhM ts us with
     | none =>
      exfalso
      exact hne (by rw[ea,eb,zme hl hf])
     | some p =>
      obtain⟨q1,q2,q3⟩:=zl9 hf
      obtain⟨c1,ts1,d1,us1,f1,f2,f3⟩:=zrX hs (zbw.1 ha.ok _ q1) (zbw.1 hb.ok _ q2) (ct _ q1) (cu _ q2)
      have:=zeA q1
      obtain⟨r,z,g1,g2,g3⟩:=key p.1.codes p.2.codes c1 d1 ts1 us1 (by omega) f1 f2 f3 q3
      refine ⟨r,z,?_,g2,g3⟩
      simp only
      rw[g1]
      rfl
    ·rw[show (c != d)=true from by simp [hcd],cond_true,cond_true]
     exact ⟨decide (c>d),.inr (decide (c>d)),rfl,rfl,rfl⟩
   ·rw[show (x != y)=true from by simp [hxy],cond_true]
    by_cases hlt:x<y
    ·rw[decide_eq_true hlt,cond_true]
     refine ⟨false,.inr (decide (x>y)),rfl,rfl,?_⟩
     rw[decide_eq_false (show ¬ x>y by omega)]
     rfl
    ·rw[decide_eq_false hlt,cond_false,decide_eq_true (show x>y by omega),cond_true]
     exact ⟨true,.inr true,rfl,rfl,rfl⟩
end
end Go.Abs.Q
namespace Go.Abs.Q
open Go Go.Abs
section
theorem zwv {a0:List zm} (hs:SignOk a0) {a b:List Int} {c d:Int} {ts us:List Tm} (ha:HF a0 a c ts) (hb:HF a0 b d us) (har:c=d→ts.length=us.length) (hne:a≠b):∃ r,ziz a0 a b=some r∧qS a0 a b=some r:=by
 have la:=ha.len
 obtain⟨r,z,h1,h2,h3⟩:=zAu hs a.length a b c d ts us (Nat.le_refl _) ha hb har hne zd zd (by unfold zd; omega) (by unfold zd; omega)
 refine ⟨r,h1,?_⟩
 unfold qS
 rw[h2,Option.bind_some,← h3]
 cases z<;>rfl
def zjP (a0:List zm) (a b:List Int):Option (Int×Int) :=
 (yq a b).bind fun r34=>cond r34 (some (1,0)) ((qS a0 a b).bind fun r35=>cond r35 (some (2,0)) ((qS a0 b a).bind fun r36=>cond r36 (some (0,0)) (some (3,0))))
theorem zzb {a0:List zm} (hs:SignOk a0) {a b:List Int} {c d:Int} {ts us:List Tm} (ha:HF a0 a c ts) (hb:HF a0 b d us) (har:c=d→ts.length=us.length):∃ k,zcX a0 a b=some k∧zjP a0 a b=some (k,0):=by
 have la:=ha.len
 unfold zcX zjP
 rw[ziB (by omega),Option.bind_some,zcB (by unfold maxLen; omega),Option.bind_some]
 by_cases he:a=b
 ·rw[decide_eq_true he]; exact ⟨1,rfl,rfl⟩
 ·rw[decide_eq_false he,cond_false,cond_false]
  obtain⟨r,h1,h2⟩:=zwv hs ha hb har he
  rw[h1,h2,Option.bind_some,Option.bind_some]
  cases r with
  | true=>exact ⟨2,rfl,rfl⟩
  | false =>
   obtain⟨r',g1,g2⟩:=zwv hs hb ha (fun h=>(har h.symm).symm) (Ne.symm he)
   rw[cond_false,cond_false,g1,g2,Option.bind_some,Option.bind_some]
   cases r' with
   | true=>exact ⟨0,rfl,rfl⟩
   | false=>exact ⟨3,rfl,rfl⟩
theorem znY {a0:List zm} (hs:SignOk a0) {t u:Tm} (ht:t.ok a0 24) (hu:u.ok a0 24) (hlt:t.codes.length≤1000) (hlu:u.codes.length≤1000):∃ k,zcX a0 t.codes u.codes=some k∧zjP a0 t.codes u.codes=some (k,0):=by
 obtain⟨c,ts,d,us,h1,h2,h3⟩:=zrX hs ht hu hlt hlu
 exact zzb hs h1 h2 h3
end
end Go.Abs.Q
namespace Go.Abs.Q
open Go Go.Abs
section
end
end Go.Abs.Q
namespace Go.Abs.Q
open Go Go.Abs
section
end
end Go.Abs.Q
namespace Go.Abs.Q
open Go Go.Abs
section
end
end Go.Abs.Q
namespace Go.Abs.Q
open Go Go.Abs
section
end
end Go.Abs.Q
namespace Go.Abs.Q
open Go Go.Abs
end Go.Abs.Q
namespace Go.Abs.Q
open Go Go.Abs
section
def zi6 (L:List zg) (T:List jI) (C:List zg):Prop:=zZ L T C L T C=some true
theorem ztF:zi6 [] [] []:=by
 unfold zi6
 exact zbL (by simp) (by simp) (by simp) (by simp) (by simp) (by simp)
theorem zAz {a0:List zm} {L:List zg} {T:List jI} {C:List zg} (h:zeQ a0 L T C=true):zeQ a0 (zeo L T C).1 (zeo L T C).2.1 (zeo L T C).2.2=true:=by
 obtain⟨Lt,Tt,Ct,rfl,rfl,rfl,hL,hT,hC⟩:=zzC h
 obtain⟨L1,T1,C1,ρ,e,-,-,-,hm,-⟩:=zq6 h hL hT hC
 rw[e]
 exact hm
def OkR (a0:List zm) (o:Option zpO):Prop:=∃ r,o=some r∧zi6 r.1 r.2.1 r.2.2.2.2∧(r.2.2.1=true→r.2.2.2.1=0→zeQ a0 r.1 r.2.1 r.2.2.2.2=true)
theorem zfE {a0:List zm} {o:Option zpO} {k:Int} (h:o=zcL k):OkR a0 o:=⟨_,h,ztF,fun h=>by cases h⟩
theorem zsz {a0:List zm} {σ:Sb} {L:List zg} {T:List jI} {C:List zg} {k:Int}:OkR a0 (znb a0 σ L T C k):=by
 unfold znb
 cases hm:zeQ a0 (zcp σ L) (T.map (zdf σ)) (zcp σ C) with
 | true=>exact ⟨_,rfl,zsm hm,fun _ _=>zAz hm⟩
 | false=>exact zfE rfl
theorem zpV {L:List zg} {T:List jI} {C:List zg} (h1:L.length≤1048576) (h1m:∀ l∈L,l.2.length≤1048576) (h2:T.length≤1048576) (h2m:∀ l∈T,l.length≤1048576) (h3:C.length≤1048576) (h3m:∀ l∈C,l.2.length≤1048576) :
  qr L T C=some (L,T,C)∧zi6 L T C:=by
 refine ⟨?_,?_⟩
 ·unfold qr
  rw[zgi (fun l hl=>Nat.le_trans (h1m l hl) (by decide)) (Nat.le_trans h1 (by decide)),zkr (fun l hl=>Nat.le_trans (h2m l hl) (by decide)) (Nat.le_trans h2 (by decide)),zgi (fun l hl=>Nat.le_trans (h3m l hl) (by decide)) (Nat.le_trans h3 (by decide))]
  rfl
 ·have hM:1048576≤maxLen:=by decide
  exact zbL (Nat.le_trans h1 hM) (fun e he=>Nat.le_trans (h1m e he) hM) (Nat.le_trans h2 hM) (fun e he=>Nat.le_trans (h2m e he) hM) (Nat.le_trans h3 hM) (fun e he=>Nat.le_trans (h3m e he) hM)
theorem zyl {L:List zg} {T:List jI} {C:List zg} (h1:Go.Abs.wt (.sl zdL) L≤1048576) (h2:Go.Abs.wt (.sl (.one (.sl (.one (.int .i64))))) T≤1048576) (h3:Go.Abs.wt (.sl zdL) C≤1048576):qr L T C=some (L,T,C)∧zi6 L T C:=by
 obtain⟨l1,m1⟩:=zwW h1
 obtain⟨l2,m2⟩:=zFo h2
 obtain⟨l3,m3⟩:=zwW h3
 exact zpV l1 m1 l2 m2 l3 m3
end
end Go.Abs.Q
namespace Go.Abs.Q
open Go Go.Abs
end Go.Abs.Q
namespace Go.Abs.Q
open Go Go.Abs
section
abbrev zKu:=Int×Int×Int×Int×Int×Int×Int×List zg×List jI×List zg
section
variable {a0:List zm} {L:List zg} {T:List jI} {C:List zg} (hmay:zeQ a0 L T C=true)
include hmay
end
end
end Go.Abs.Q
namespace Go.Abs.Q
open Go Go.Abs
section
section
variable {a0:List zm} {L:List zg} {T:List jI} {C:List zg} (hmay:zeQ a0 L T C=true)
include hmay
end
end
end Go.Abs.Q
namespace Go.Abs.Q
open Go Go.Abs
end Go.Abs.Q
namespace Go.Abs.Q
open Go Go.Abs
end Go.Abs.Q
namespace Go.Abs.Q
open Go Go.Abs
section
end
end Go.Abs.Q
namespace Go.Abs.Q
open Go Go.Abs
def zbJ (a0:jQ) (_a1:jR) (_a2:jQ) (a3:Int) (a4:Bool):Option Bool :=
 cond (decide (a3≥0))
 (cond (decide (a3<((List.length a0:Nat):Int)))
  ((gx a0 a3).bind fun e4 =>
   (gx e4.2 0).bind fun e5 =>
   cond (e5==0)
   ((gx a0 a3).bind fun e6 =>
    some (e6.1==a4))
   (some false))
  (some false))
 (some false)
def zcO (a0:jS) (a1:jQ) (a2:jR) (a3:jQ) (a4:jQ) (a5:jR) (a6:jQ):Option (Bool×jQ×jR×jQ) :=
 (yV a0 a1 a2 a3).bind fun r14 =>
 cond (decide (((List.length r14.2:Nat):Int)>0))
 ((inR (IntKind.wrap .i64 (((List.length r14.2:Nat):Int) - 1)) (List.length r14.2)).bind fun k15 =>
  (r14.2[k15]?).bind fun x16 =>
  (yV a0 a4 a5 a6).bind fun r17 =>
  cond (decide (((List.length r17.2:Nat):Int)>0))
  ((inR (IntKind.wrap .i64 (((List.length r17.2:Nat):Int) - 1)) (List.length r17.2)).bind fun k18 =>
   (r17.2[k18]?).bind fun x19 =>
   cond (decide ((IntKind.wrap .i64 (x19+(IntKind.wrap .i64 (x16+1))))>23))
   (some (false,([]:jQ),([]:jR),([]:jQ)))
   ((zz a4 a5 a6 (IntKind.wrap .i64 (x16+1))).bind fun r20 =>
    some (true,r20.1,r20.2.1,r20.2.2)))
  ((zz a4 a5 a6 (IntKind.wrap .i64 (x16+1))).bind fun r21 =>
   some (true,r21.1,r21.2.1,r21.2.2)))
 ((yV a0 a4 a5 a6).bind fun r22 =>
  cond (decide (((List.length r22.2:Nat):Int)>0))
  ((inR (IntKind.wrap .i64 (((List.length r22.2:Nat):Int) - 1)) (List.length r22.2)).bind fun k23 =>
   (r22.2[k23]?).bind fun x24 =>
   cond (decide ((IntKind.wrap .i64 (x24+0))>23))
   (some (false,([]:jQ),([]:jR),([]:jQ)))
   ((zz a4 a5 a6 0).bind fun r25 =>
    some (true,r25.1,r25.2.1,r25.2.2)))
  ((zz a4 a5 a6 0).bind fun r26 =>
   some (true,r26.1,r26.2.1,r26.2.2)))
def zcK (a0:jS) (a1:jI):Option jR :=
 (zbR a1 (some 1) none).bind fun y3 =>
 (za1 a0 y3).bind fun r4 =>
 some r4
def zh6 (a0:jS) (a1:jI) (a2:jI):Option Bool :=
 (zbI a0 a1 a2).bind fun r2 =>
 cond (r2.1 != 2)
 (some (r2.1 != 3))
 (some false)
def zhh (a0:jS) (a1:jI) (a2:Int) (a3:jI):Option jI :=
 (zcu a0 a1 a2).bind fun r5 =>
 (zbR a1 none (some a2)).bind fun y6 =>
 (zbR a1 (some r5.1) none).bind fun y7 =>
 (zcF ([y6,a3,y7]:List jI)).bind fun r8 =>
 some r8
def zdm (a0:jS) (a1:jQ) (a2:jR) (a3:jQ) (a4:Int) (a5:Int) (a6:jQ) (a7:jR) (a8:jQ) (a9:Int) (a10:Int):Option (jQ×jR×Bool×Int×jQ) :=
 (gx a6 a9).bind fun e28 =>
 (gx e28.2 a10).bind fun e29 =>
 cond (decide (e29<0))
 (some (([]:jQ),([]:jR),false,0,([]:jQ)))
 ((zcO a0 a1 a2 a3 a6 a7 a8).bind fun r30 =>
  cond (!r30.1)
  (some (([]:jQ),([]:jR),false,1501,([]:jQ)))
  ((gx a1 a4).bind fun e31 =>
   (zcK a0 e31.2).bind fun r32 =>
   (inR a9 (List.length r30.2.1)).bind fun k33 =>
   (r30.2.1[k33]?).bind fun x34 =>
   (zcu a0 x34.2 a10).bind fun r35 =>
   (inR a5 (List.length r32)).bind fun k36 =>
   (r32[k36]?).bind fun x37 =>
   (zbR x34.2 (some a10) (some r35.1)).bind fun y38 =>
   (zcZ a0 x37 y38).bind fun r39 =>
   cond (r39.2.1 != 0)
   (some (([]:jQ),([]:jR),false,1502,([]:jQ)))
   (cond (!r39.1)
    (some (([]:jQ),([]:jR),false,0,([]:jQ)))
    ((inR a5 (List.length r32)).bind fun k40 =>
     (r32[k40]?).bind fun x41 =>
     (zjt r39.2.2 x41).bind fun r42 =>
     (inR (IntKind.wrap .i64 (1 - a5)) (List.length r32)).bind fun k43 =>
     (r32[k43]?).bind fun x44 =>
     (zjt r39.2.2 x44).bind fun r45 =>
     cond (decide (((List.length r42:Nat):Int)>48))
     (some (([]:jQ),([]:jR),false,1502,([]:jQ)))
     (cond (decide (((List.length r45:Nat):Int)>48))
      (some (([]:jQ),([]:jR),false,1502,([]:jQ)))
      ((zh6 a0 r42 r45).bind fun r46 =>
       cond r46
       (some (([]:jQ),([]:jR),false,0,([]:jQ)))
       ((inR (IntKind.wrap .i64 (1 - a5)) (List.length r32)).bind fun k47 =>
        (r32[k47]?).bind fun x48 =>
        (zhh a0 x34.2 a10 x48).bind fun r49 =>
        (inR a9 (List.length r30.2.1)).bind fun k50 =>
        (r30.2.1[k50]?).bind fun x51 =>
        (zdF a1 a2 a3 a4 (List.set r30.2.1 k50 (x51.1,r49)) r30.2.2.1 r30.2.2.2 (-1)).bind fun r52 =>
        (zft r39.2.2 r52.2.1 r52.1 r52.2.2).bind fun r53 =>
        (zcz a0 r53.1 r53.2.1 r53.2.2).bind fun r54 =>
        cond (r54.2.2.1 != 0)
        (some (([]:jQ),([]:jR),false,1502,([]:jQ)))
        (some (r54.1,r54.2.1,true,0,r54.2.2.2)))))))))
def zeB (a0:jS) (a1:jQ) (a2:jR) (a3:jQ) (a4:Int) (a5:Int) (a6:jQ) (a7:jR) (a8:jQ) (a9:Int) (a10:Int):Option (jQ×jR×Bool×Int×jQ) :=
 (zaM a0 a1 a2 a3).bind fun r8 =>
 cond (!r8)
 (some (([]:jQ),([]:jR),false,1500,([]:jQ)))
 ((zaM a0 a6 a7 a8).bind fun r9 =>
  cond (!r9)
  (some (([]:jQ),([]:jR),false,1500,([]:jQ)))
  ((zbJ a1 a2 a3 a4 false).bind fun r10 =>
   cond (!r10)
   (some (([]:jQ),([]:jR),false,1500,([]:jQ)))
   (cond (a5 != 0)
    (cond (a5 != 1)
     (some (([]:jQ),([]:jR),false,1500,([]:jQ)))
     (cond (decide (a9<0))
      (some (([]:jQ),([]:jR),false,1500,([]:jQ)))
      (cond (decide (a9≥((List.length a6:Nat):Int)))
       (some (([]:jQ),([]:jR),false,1500,([]:jQ)))
       (cond (decide (a10<1))
        (some (([]:jQ),([]:jR),false,1500,([]:jQ)))
        ((gx a6 a9).bind fun e11 =>
         cond (decide (a10≥((List.length e11.2:Nat):Int)))
         (some (([]:jQ),([]:jR),false,1500,([]:jQ)))
         ((zdm a0 a1 a2 a3 a4 a5 a6 a7 a8 a9 a10).bind fun r12 =>
          some (r12.1,r12.2.1,r12.2.2.1,r12.2.2.2.1,r12.2.2.2.2)))))))
    (cond (decide (a9<0))
     (some (([]:jQ),([]:jR),false,1500,([]:jQ)))
     (cond (decide (a9≥((List.length a6:Nat):Int)))
      (some (([]:jQ),([]:jR),false,1500,([]:jQ)))
      (cond (decide (a10<1))
       (some (([]:jQ),([]:jR),false,1500,([]:jQ)))
       ((gx a6 a9).bind fun e13 =>
        cond (decide (a10≥((List.length e13.2:Nat):Int)))
        (some (([]:jQ),([]:jR),false,1500,([]:jQ)))
        ((zdm a0 a1 a2 a3 a4 a5 a6 a7 a8 a9 a10).bind fun r14 =>
         some (r14.1,r14.2.1,r14.2.2.1,r14.2.2.2.1,r14.2.2.2.2)))))))))
def zbT (a0:jQ) (a1:jR) (a2:jQ) (a3:Int):Option Bool :=
 (zee a0 a1 a2 a3).bind fun r5 =>
 cond r5
 ((gx a0 a3).bind fun e6 =>
  cond (!e6.1)
  ((gx a0 a3).bind fun e7 =>
   (gx e7.2 0).bind fun e8 =>
   some (e8==0))
  (some false))
 (some false)
def zd4 (a0:jI) (a1:Int) (a2:Int) (a3:jI):Option jI :=
 (zbR a0 none (some a1)).bind fun y3 =>
 cond (yB (List.length ([]:List Int)+List.length y3) 8)
 (cond (yB (List.length (([]:List Int)++y3)+List.length a3) 8)
  ((zbR a0 (some a2) none).bind fun y4 =>
   cond (yB (List.length ((([]:List Int)++y3)++a3)+List.length y4) 8)
   (some (((([]:List Int)++y3)++a3)++y4))
   (none))
  (none))
 (none)
def yl (a0:jS) (a1:jQ) (a2:jR) (a3:jQ) (a4:Int) (a5:Int) (a6:jQ) (a7:jR) (a8:jQ) (a9:Int) (a10:Int):Option (jQ×jR×Bool×Int×jQ) :=
 (zhm a0 a1 a2 a3).bind fun r30 =>
 cond (!r30)
 (some (([]:jQ),([]:jR),false,1500,([]:jQ)))
 ((zhm a0 a6 a7 a8).bind fun r31 =>
  cond (!r31)
  (some (([]:jQ),([]:jR),false,1500,([]:jQ)))
  ((zbT a1 a2 a3 a4).bind fun r32 =>
   cond (!r32)
   (some (([]:jQ),([]:jR),false,1500,([]:jQ)))
   (cond (decide (a5<0))
    (some (([]:jQ),([]:jR),false,1500,([]:jQ)))
    (cond (decide (a5>1))
     (some (([]:jQ),([]:jR),false,1500,([]:jQ)))
     ((zee a6 a7 a8 a9).bind fun r33 =>
      cond (!r33)
      (some (([]:jQ),([]:jR),false,1500,([]:jQ)))
      (cond (decide (a10<1))
       (some (([]:jQ),([]:jR),false,1500,([]:jQ)))
       ((gx a6 a9).bind fun e34 =>
        cond (decide (a10≥((List.length e34.2:Nat):Int)))
        (some (([]:jQ),([]:jR),false,1500,([]:jQ)))
        ((gx a6 a9).bind fun e35 =>
         (gx e35.2 a10).bind fun e36 =>
         cond (decide (e36<0))
         (some (([]:jQ),([]:jR),false,0,([]:jQ)))
         ((zc7 a1 a2 a3 a6 a7 a8).bind fun r37 =>
          cond (!r37.2.2.1)
          (some (([]:jQ),([]:jR),false,1501,([]:jQ)))
          ((gx a1 a4).bind fun e38 =>
           (zbR e38.2 (some 1) none).bind fun y39 =>
           (zR a0 y39).bind fun r40 =>
           (inR a5 (List.length r40)).bind fun k41 =>
           (r40[k41]?).bind fun x42 =>
           (inR (IntKind.wrap .i64 (1 - a5)) (List.length r40)).bind fun k43 =>
           (r40[k43]?).bind fun x44 =>
           (gx r37.1 a9).bind fun e45 =>
           (zfY a0 e45.2 a10).bind fun r46 =>
           (zbR e45.2 (some a10) (some r46)).bind fun y47 =>
           (zbD a0 x42 y47).bind fun r48 =>
           cond (!r48.2.1)
           (some (([]:jQ),([]:jR),false,1502,([]:jQ)))
           (cond (!r48.1)
            (some (([]:jQ),([]:jR),false,0,([]:jQ)))
            ((zbC r48.2.2 x42).bind fun r49 =>
             (zbC r48.2.2 x44).bind fun r50 =>
             cond (decide (((List.length r49:Nat):Int)>48))
             (some (([]:jQ),([]:jR),false,1502,([]:jQ)))
             (cond (decide (((List.length r50:Nat):Int)>48))
              (some (([]:jQ),([]:jR),false,1502,([]:jQ)))
              ((zcX a0 r49 r50).bind fun r51 =>
               cond (r51==0)
               (some (([]:jQ),([]:jR),false,0,([]:jQ)))
               (cond (r51==1)
                (some (([]:jQ),([]:jR),false,0,([]:jQ)))
                ((zcM a1 a4).bind fun r52 =>
                 cond (yB (List.length r52+List.length r37.1) 32)
                 ((gx r37.1 a9).bind fun e53 =>
                  (zd4 e45.2 a10 r46 x44).bind fun r54 =>
                  (inR (IntKind.wrap .i64 ((IntKind.wrap .i64 (((List.length a1:Nat):Int) - 1))+a9)) (List.length (r52++r37.1))).bind fun k55 =>
                  ((r52++r37.1)[k55]?).bind fun _x56 =>
                  (zhz (List.set (r52++r37.1) k55 (e53.1,r54)) a1 a2 a3 r37.1 r37.2.1 r37.2.2.2).bind fun r57 =>
                  (ze8 a0 r48.2.2 r57.1 r57.2.1 r57.2.2).bind fun r58 =>
                  cond (!r58.2.2.1)
                  (some (([]:jQ),([]:jR),false,1502,([]:jQ)))
                  (some (r58.1,r58.2.1,true,0,r58.2.2.2)))
                 (none)))))))))))))))))
def zcW:Option jS :=
 some ([(([61]:Str),0,2,1),(([97]:Str),1,0,1),(([98]:Str),1,0,2),(([102]:Str),1,1,1),(([103]:Str),1,2,3),(([112]:Str),0,1,1),(([114]:Str),0,2,2)]:List zm)
def zl6 (a0:jS) (a1:jQ) (a2:jR) (a3:jQ) (a4:Int):Option (jQ×jR×Bool×Int×jQ) :=
 (gx a1 a4).bind fun e11 =>
 (zcK a0 e11.2).bind fun r12 =>
 (inR 0 (List.length r12)).bind fun k13 =>
 (r12[k13]?).bind fun x14 =>
 (inR 1 (List.length r12)).bind fun k15 =>
 (r12[k15]?).bind fun x16 =>
 (zcZ a0 x14 x16).bind fun r17 =>
 cond (r17.2.1 != 0)
 (some (([]:jQ),([]:jR),false,1502,([]:jQ)))
 (cond (!r17.1)
  (some (([]:jQ),([]:jR),false,0,([]:jQ)))
  ((zdF a1 a2 a3 a4 ([]:jQ) ([]:jR) ([]:jQ) (-1)).bind fun r18 =>
   (zft r17.2.2 r18.2.1 r18.1 r18.2.2).bind fun r19 =>
   (zcz a0 r19.1 r19.2.1 r19.2.2).bind fun r20 =>
   cond (r20.2.2.1 != 0)
   (some (([]:jQ),([]:jR),false,1502,([]:jQ)))
   (some (r20.1,r20.2.1,true,0,r20.2.2.2))))
def zh0 (a0:jS) (a1:jQ) (a2:jR) (a3:jQ) (a4:Int):Option (jQ×jR×Bool×Int×jQ) :=
 (zaM a0 a1 a2 a3).bind fun r4 =>
 cond (!r4)
 (some (([]:jQ),([]:jR),false,1500,([]:jQ)))
 ((zbJ a1 a2 a3 a4 true).bind fun r5 =>
  cond (!r5)
  (some (([]:jQ),([]:jR),false,1500,([]:jQ)))
  ((zl6 a0 a1 a2 a3 a4).bind fun r6 =>
   some (r6.1,r6.2.1,r6.2.2.1,r6.2.2.2.1,r6.2.2.2.2)))
def zik (a0:Int) (a1:jQ) (a2:jR) (a3:jQ):Option Bool :=
 (zbJ a1 a2 a3 a0 false).bind fun r2 =>
 some (!r2)
def zdD (rec:(jI×Int×Int×jQ×jR×jQ)→Option (Unit⊕Int)) (x:(jI×Int×Int×jQ×jR×jQ)):Option (Unit⊕Int) :=
 cond (decide (x.2.2.1<x.2.1))
 ((gx x.1 x.2.2.1).bind fun e3 =>
  (zik e3 x.2.2.2.1 x.2.2.2.2.1 x.2.2.2.2.2).bind fun r4 =>
  cond r4
  (some (Sum.inr x.2.2.1))
  (rec (x.1,x.2.1,(IntKind.wrap .i64 (x.2.2.1+1)),x.2.2.2.1,x.2.2.2.2.1,x.2.2.2.2.2)))
 (some (Sum.inl ()))
def zez (a0:jI) (a1:jQ) (a2:jR) (a3:jQ):Option Int :=
 ((lp zdD zd) (a0,((List.length a0:Nat):Int),0,a1,a2,a3)).bind fun r8 =>
 qb r8
 (fun _z9=>some (-1))
 (fun z10=>some z10)
def zcT (rec:(Int×Int×jI×jQ×jR×jQ)→Option (Int×jI)) (x:(Int×Int×jI×jQ×jR×jQ)):Option (Int×jI) :=
 cond (decide (x.2.1<((List.length x.2.2.1:Nat):Int)))
 ((inR x.2.1 (List.length x.2.2.1)).bind fun k12 =>
  (x.2.2.1[k12]?).bind fun x13 =>
  (zik x13 x.2.2.2.1 x.2.2.2.2.1 x.2.2.2.2.2).bind fun r14 =>
  cond (!r14)
  ((inR x.1 (List.length x.2.2.1)).bind fun k15 =>
   (x.2.2.1[k15]?).bind fun _x16 =>
   rec ((IntKind.wrap .i64 (x.1+1)),(IntKind.wrap .i64 (x.2.1+1)),(List.set x.2.2.1 k15 x13),x.2.2.2.1,x.2.2.2.2.1,x.2.2.2.2.2))
  (rec (x.1,(IntKind.wrap .i64 (x.2.1+1)),x.2.2.1,x.2.2.2.1,x.2.2.2.2.1,x.2.2.2.2.2)))
 (some (x.1,x.2.2.1))
def zec (a0:jI) (a1:jQ) (a2:jR) (a3:jQ):Option jI :=
 (zez a0 a1 a2 a3).bind fun r19 =>
 cond (r19==(-1))
 (some a0)
 (((lp zcT zd) (r19,(IntKind.wrap .i64 (r19+1)),a0,a1,a2,a3)).bind fun r20 =>
  cond (decide (0≤r20.1))
  (cond (decide (r20.1≤((List.length r20.2:Nat):Int)))
   (cond (decide (((List.length r20.2:Nat):Int)≤((List.length r20.2:Nat):Int)))
    ((zbR (clr r20.2 (0+Int.toNat r20.1) (Int.toNat ((List.length r20.2:Nat):Int) - Int.toNat r20.1)) none (some r20.1)).bind fun y21 =>
     some y21)
    (none))
   (none))
  (none))
def zk1 (rec:(jS×Int×Int×jI×Int×Int×Int×Int×jI×Int×Int×Int×jI×Int×Int×jQ×jR×jQ×jQ×jR×jQ×jS×Int×jT)→Option (jS×Int×jT)) (x:(jS×Int×Int×jI×Int×Int×Int×Int×jI×Int×Int×Int×jI×Int×Int×jQ×jR×jQ×jQ×jR×jQ×jS×Int×jT)):Option (jS×Int×jT) :=
 (gx x.2.2.2.2.2.2.2.2.2.2.2.2.2.2.2.2.2.2.1 x.2.2.2.2.2.2.1).bind fun e17 =>
 cond (decide (x.2.2.2.2.2.2.2.1<((List.length e17.2:Nat):Int)))
 ((zdm x.1 x.2.2.2.2.2.2.2.2.2.2.2.2.2.2.2.1 x.2.2.2.2.2.2.2.2.2.2.2.2.2.2.2.2.1 x.2.2.2.2.2.2.2.2.2.2.2.2.2.2.2.2.2.1 x.2.2.2.2.1 x.2.2.2.2.2.1 x.2.2.2.2.2.2.2.2.2.2.2.2.2.2.2.2.2.2.1 x.2.2.2.2.2.2.2.2.2.2.2.2.2.2.2.2.2.2.2.1 x.2.2.2.2.2.2.2.2.2.2.2.2.2.2.2.2.2.2.2.2.1 x.2.2.2.2.2.2.1 x.2.2.2.2.2.2.2.1).bind fun r18 =>
  (zcP 3 x.2.1 x.2.2.2.2.1 x.2.2.2.2.2.1 x.2.2.1 x.2.2.2.2.2.2.1 x.2.2.2.2.2.2.2.1 ([]:jQ) ([]:jR) ([]:jQ) r18.1 r18.2.1 r18.2.2.2.2 r18.2.2.1 r18.2.2.2.1 x.2.2.2.2.2.2.2.2.2.2.2.2.2.2.2.2.2.2.2.2.2.1 x.2.2.2.2.2.2.2.2.2.2.2.2.2.2.2.2.2.2.2.2.2.2.1 x.2.2.2.2.2.2.2.2.2.2.2.2.2.2.2.2.2.2.2.2.2.2.2).bind fun r19 =>
  rec (x.1,x.2.1,x.2.2.1,x.2.2.2.1,x.2.2.2.2.1,x.2.2.2.2.2.1,x.2.2.2.2.2.2.1,(IntKind.wrap .i64 (x.2.2.2.2.2.2.2.1+1)),x.2.2.2.2.2.2.2.2.1,x.2.2.2.2.2.2.2.2.2.1,x.2.2.2.2.2.2.2.2.2.2.1,x.2.2.2.2.2.2.2.2.2.2.2.1,x.2.2.2.2.2.2.2.2.2.2.2.2.1,x.2.2.2.2.2.2.2.2.2.2.2.2.2.1,x.2.2.2.2.2.2.2.2.2.2.2.2.2.2.1,x.2.2.2.2.2.2.2.2.2.2.2.2.2.2.2.1,x.2.2.2.2.2.2.2.2.2.2.2.2.2.2.2.2.1,x.2.2.2.2.2.2.2.2.2.2.2.2.2.2.2.2.2.1,x.2.2.2.2.2.2.2.2.2.2.2.2.2.2.2.2.2.2.1,x.2.2.2.2.2.2.2.2.2.2.2.2.2.2.2.2.2.2.2.1,x.2.2.2.2.2.2.2.2.2.2.2.2.2.2.2.2.2.2.2.2.1,r19.1,r19.2.1,r19.2.2))
 (some (x.2.2.2.2.2.2.2.2.2.2.2.2.2.2.2.2.2.2.2.2.2.1,x.2.2.2.2.2.2.2.2.2.2.2.2.2.2.2.2.2.2.2.2.2.2.1,x.2.2.2.2.2.2.2.2.2.2.2.2.2.2.2.2.2.2.2.2.2.2.2))
def zlG (rec:(jS×Int×Int×jI×Int×Int×jI×Int×Int×Int×jI×Int×Int×jQ×jR×jQ×jQ×jR×jQ×jS×Int×jT)→Option (jS×Int×jT)) (x:(jS×Int×Int×jI×Int×Int×jI×Int×Int×Int×jI×Int×Int×jQ×jR×jQ×jQ×jR×jQ×jS×Int×jT)):Option (jS×Int×jT) :=
 cond (decide (x.2.2.2.2.2.2.2.2.2.2.2.2.1<x.2.2.2.2.2.2.2.2.2.2.2.1))
 ((gx x.2.2.2.2.2.2.2.2.2.2.1 x.2.2.2.2.2.2.2.2.2.2.2.2.1).bind fun e26 =>
  (gx x.2.2.2.2.2.2.2.2.2.2.2.2.2.2.2.2.1 e26).bind fun e27 =>
  cond (decide (1<((List.length e27.2:Nat):Int)))
  ((zdm x.1 x.2.2.2.2.2.2.2.2.2.2.2.2.2.1 x.2.2.2.2.2.2.2.2.2.2.2.2.2.2.1 x.2.2.2.2.2.2.2.2.2.2.2.2.2.2.2.1 x.2.2.2.2.1 x.2.2.2.2.2.1 x.2.2.2.2.2.2.2.2.2.2.2.2.2.2.2.2.1 x.2.2.2.2.2.2.2.2.2.2.2.2.2.2.2.2.2.1 x.2.2.2.2.2.2.2.2.2.2.2.2.2.2.2.2.2.2.1 e26 1).bind fun r28 =>
   (zcP 3 x.2.1 x.2.2.2.2.1 x.2.2.2.2.2.1 x.2.2.1 e26 1 ([]:jQ) ([]:jR) ([]:jQ) r28.1 r28.2.1 r28.2.2.2.2 r28.2.2.1 r28.2.2.2.1 x.2.2.2.2.2.2.2.2.2.2.2.2.2.2.2.2.2.2.2.1 x.2.2.2.2.2.2.2.2.2.2.2.2.2.2.2.2.2.2.2.2.1 x.2.2.2.2.2.2.2.2.2.2.2.2.2.2.2.2.2.2.2.2.2).bind fun r29 =>
   (((lp zk1 zd) (x.1,x.2.1,x.2.2.1,x.2.2.2.1,x.2.2.2.2.1,x.2.2.2.2.2.1,e26,2,x.2.2.2.2.2.2.1,x.2.2.2.2.2.2.2.1,x.2.2.2.2.2.2.2.2.1,x.2.2.2.2.2.2.2.2.2.1,x.2.2.2.2.2.2.2.2.2.2.1,x.2.2.2.2.2.2.2.2.2.2.2.1,x.2.2.2.2.2.2.2.2.2.2.2.2.1,x.2.2.2.2.2.2.2.2.2.2.2.2.2.1,x.2.2.2.2.2.2.2.2.2.2.2.2.2.2.1,x.2.2.2.2.2.2.2.2.2.2.2.2.2.2.2.1,x.2.2.2.2.2.2.2.2.2.2.2.2.2.2.2.2.1,x.2.2.2.2.2.2.2.2.2.2.2.2.2.2.2.2.2.1,x.2.2.2.2.2.2.2.2.2.2.2.2.2.2.2.2.2.2.1,r29.1,r29.2.1,r29.2.2))).bind fun r30 =>
   rec (x.1,x.2.1,x.2.2.1,x.2.2.2.1,x.2.2.2.2.1,x.2.2.2.2.2.1,x.2.2.2.2.2.2.1,x.2.2.2.2.2.2.2.1,x.2.2.2.2.2.2.2.2.1,x.2.2.2.2.2.2.2.2.2.1,x.2.2.2.2.2.2.2.2.2.2.1,x.2.2.2.2.2.2.2.2.2.2.2.1,(IntKind.wrap .i64 (x.2.2.2.2.2.2.2.2.2.2.2.2.1+1)),x.2.2.2.2.2.2.2.2.2.2.2.2.2.1,x.2.2.2.2.2.2.2.2.2.2.2.2.2.2.1,x.2.2.2.2.2.2.2.2.2.2.2.2.2.2.2.1,x.2.2.2.2.2.2.2.2.2.2.2.2.2.2.2.2.1,x.2.2.2.2.2.2.2.2.2.2.2.2.2.2.2.2.2.1,x.2.2.2.2.2.2.2.2.2.2.2.2.2.2.2.2.2.2.1,r30.1,r30.2.1,r30.2.2))
  (rec (x.1,x.2.1,x.2.2.1,x.2.2.2.1,x.2.2.2.2.1,x.2.2.2.2.2.1,x.2.2.2.2.2.2.1,x.2.2.2.2.2.2.2.1,x.2.2.2.2.2.2.2.2.1,x.2.2.2.2.2.2.2.2.2.1,x.2.2.2.2.2.2.2.2.2.2.1,x.2.2.2.2.2.2.2.2.2.2.2.1,(IntKind.wrap .i64 (x.2.2.2.2.2.2.2.2.2.2.2.2.1+1)),x.2.2.2.2.2.2.2.2.2.2.2.2.2.1,x.2.2.2.2.2.2.2.2.2.2.2.2.2.2.1,x.2.2.2.2.2.2.2.2.2.2.2.2.2.2.2.1,x.2.2.2.2.2.2.2.2.2.2.2.2.2.2.2.2.1,x.2.2.2.2.2.2.2.2.2.2.2.2.2.2.2.2.2.1,x.2.2.2.2.2.2.2.2.2.2.2.2.2.2.2.2.2.2.1,x.2.2.2.2.2.2.2.2.2.2.2.2.2.2.2.2.2.2.2.1,x.2.2.2.2.2.2.2.2.2.2.2.2.2.2.2.2.2.2.2.2.1,x.2.2.2.2.2.2.2.2.2.2.2.2.2.2.2.2.2.2.2.2.2)))
 (some (x.2.2.2.2.2.2.2.2.2.2.2.2.2.2.2.2.2.2.2.1,x.2.2.2.2.2.2.2.2.2.2.2.2.2.2.2.2.2.2.2.2.1,x.2.2.2.2.2.2.2.2.2.2.2.2.2.2.2.2.2.2.2.2.2))
def zlV (rec:(jS×Int×Int×jI×Int×jI×Int×Int×Int×jQ×jR×jQ×jQ×jR×jQ×jS×Int×jT)→Option (jS×Int×jT)) (x:(jS×Int×Int×jI×Int×jI×Int×Int×Int×jQ×jR×jQ×jQ×jR×jQ×jS×Int×jT)):Option (jS×Int×jT) :=
 cond (decide (x.2.2.2.2.2.2.2.2.1<2))
 (((lp zlG zd) (x.1,x.2.1,x.2.2.1,x.2.2.2.1,x.2.2.2.2.1,x.2.2.2.2.2.2.2.2.1,x.2.2.2.2.2.1,x.2.2.2.2.2.2.1,x.2.2.2.2.2.2.2.1,x.2.2.2.2.2.2.2.2.1,x.2.2.2.1,((List.length x.2.2.2.1:Nat):Int),0,x.2.2.2.2.2.2.2.2.2.1,x.2.2.2.2.2.2.2.2.2.2.1,x.2.2.2.2.2.2.2.2.2.2.2.1,x.2.2.2.2.2.2.2.2.2.2.2.2.1,x.2.2.2.2.2.2.2.2.2.2.2.2.2.1,x.2.2.2.2.2.2.2.2.2.2.2.2.2.2.1,x.2.2.2.2.2.2.2.2.2.2.2.2.2.2.2.1,x.2.2.2.2.2.2.2.2.2.2.2.2.2.2.2.2.1,x.2.2.2.2.2.2.2.2.2.2.2.2.2.2.2.2.2)).bind fun r33 =>
  rec (x.1,x.2.1,x.2.2.1,x.2.2.2.1,x.2.2.2.2.1,x.2.2.2.2.2.1,x.2.2.2.2.2.2.1,x.2.2.2.2.2.2.2.1,(IntKind.wrap .i64 (x.2.2.2.2.2.2.2.2.1+1)),x.2.2.2.2.2.2.2.2.2.1,x.2.2.2.2.2.2.2.2.2.2.1,x.2.2.2.2.2.2.2.2.2.2.2.1,x.2.2.2.2.2.2.2.2.2.2.2.2.1,x.2.2.2.2.2.2.2.2.2.2.2.2.2.1,x.2.2.2.2.2.2.2.2.2.2.2.2.2.2.1,r33.1,r33.2.1,r33.2.2))
 (some (x.2.2.2.2.2.2.2.2.2.2.2.2.2.2.2.1,x.2.2.2.2.2.2.2.2.2.2.2.2.2.2.2.2.1,x.2.2.2.2.2.2.2.2.2.2.2.2.2.2.2.2.2))
def zlg (rec:(jS×Int×Int×jI×jI×Int×Int×jQ×jR×jQ×jQ×jR×jQ×jS×Int×jT)→Option (jS×Int×jT)) (x:(jS×Int×Int×jI×jI×Int×Int×jQ×jR×jQ×jQ×jR×jQ×jS×Int×jT)):Option (jS×Int×jT) :=
 cond (decide (x.2.2.2.2.2.2.1<x.2.2.2.2.2.1))
 ((gx x.2.2.2.2.1 x.2.2.2.2.2.2.1).bind fun e37 =>
  ((lp zlV zd) (x.1,x.2.1,x.2.2.1,x.2.2.2.1,e37,x.2.2.2.2.1,x.2.2.2.2.2.1,x.2.2.2.2.2.2.1,0,x.2.2.2.2.2.2.2.1,x.2.2.2.2.2.2.2.2.1,x.2.2.2.2.2.2.2.2.2.1,x.2.2.2.2.2.2.2.2.2.2.1,x.2.2.2.2.2.2.2.2.2.2.2.1,x.2.2.2.2.2.2.2.2.2.2.2.2.1,x.2.2.2.2.2.2.2.2.2.2.2.2.2.1,x.2.2.2.2.2.2.2.2.2.2.2.2.2.2.1,x.2.2.2.2.2.2.2.2.2.2.2.2.2.2.2)).bind fun r38 =>
  rec (x.1,x.2.1,x.2.2.1,x.2.2.2.1,x.2.2.2.2.1,x.2.2.2.2.2.1,(IntKind.wrap .i64 (x.2.2.2.2.2.2.1+1)),x.2.2.2.2.2.2.2.1,x.2.2.2.2.2.2.2.2.1,x.2.2.2.2.2.2.2.2.2.1,x.2.2.2.2.2.2.2.2.2.2.1,x.2.2.2.2.2.2.2.2.2.2.2.1,x.2.2.2.2.2.2.2.2.2.2.2.2.1,r38.1,r38.2.1,r38.2.2))
 (some (x.2.2.2.2.2.2.2.2.2.2.2.2.2.1,x.2.2.2.2.2.2.2.2.2.2.2.2.2.2.1,x.2.2.2.2.2.2.2.2.2.2.2.2.2.2.2))
def zrG (a0:jS) (a1:jQ) (a2:jR) (a3:jQ) (a4:Int) (a5:jQ) (a6:jR) (a7:jQ) (a8:Int):Option (Int×Int×jT) :=
 (zaM a0 a1 a2 a3).bind fun r40 =>
 cond (!r40)
 (some (0,1500,([]:jT)))
 ((zaM a0 a5 a6 a7).bind fun r41 =>
  cond (!r41)
  (some (0,1500,([]:jT)))
  ((znJ a0 a1).bind fun r42 =>
   (znJ a0 a5).bind fun r43 =>
   (zec r42.2 a1 a2 a3).bind fun r44 =>
   ((lp zlg zd) (a0,a4,a8,r43.2,r44,((List.length r44:Nat):Int),0,a1,a2,a3,a5,a6,a7,a0,0,([]:jT))).bind fun r45 =>
   some (r45.2.1,0,r45.2.2)))
def zhV:Option Bool :=
 (zcW).bind fun r19 =>
 (zeB r19 ([(false,([0,3,(-1),1]:List Int))]:List zg) ([]:jR) ([]:jQ) 0 0 ([(false,([5,3,2]:List Int))]:List zg) ([([(-1)]:List Int)]:List jI) ([]:jQ) 0 1).bind fun r20 =>
 (zcW).bind fun r21 =>
 (zeB r21 ([(false,([0,3,(-1),1]:List Int))]:List zg) ([]:jR) ([]:jQ) 0 1 ([(false,([5,3,2]:List Int))]:List zg) ([([(-1)]:List Int)]:List jI) ([]:jQ) 0 2).bind fun r22 =>
 (zcW).bind fun r23 =>
 (zh0 r23 ([(true,([0,(-1),2]:List Int))]:List zg) ([([(-1)]:List Int)]:List jI) ([]:jQ) 0).bind fun r24 =>
 (zcW).bind fun r25 =>
 (zrG r25 ([(false,([0,3,(-1),1]:List Int))]:List zg) ([]:jR) ([]:jQ) 1 ([(false,([5,3,2]:List Int))]:List zg) ([([(-1)]:List Int)]:List jI) ([]:jQ) 2).bind fun r26 =>
 (zcW).bind fun r27 =>
 (zh0 r27 ([(false,([0,3,(-1),1]:List Int))]:List zg) ([]:jR) ([]:jQ) 0).bind fun r28 =>
 cond r20.2.2.1
 ((zeJ r20.2.2.2.1).bind fun r29 =>
  cond (r29==0)
  ((zZ r20.1 r20.2.1 r20.2.2.2.2 ([(false,([5,1]:List Int))]:List zg) ([([(-1)]:List Int)]:List jI) ([]:jQ)).bind fun r30 =>
   cond r30
   (cond (!r22.2.2.1)
    ((zeJ r22.2.2.2.1).bind fun r31 =>
     cond (r31==0)
     (cond r24.2.2.1
      ((zeJ r24.2.2.2.1).bind fun r32 =>
       cond (r32==0)
       ((zZ r24.1 r24.2.1 r24.2.2.2.2 ([]:jQ) ([([2]:List Int)]:List jI) ([]:jQ)).bind fun r33 =>
        cond r33
        ((zeJ r26.2.1).bind fun r34 =>
         cond (r34==0)
         (cond (r26.1==0)
          ((zhO r26.2.2 ([(3,1,0,0,2,0,1,([(false,([5,1]:List Int))]:List zg),([([(-1)]:List Int)]:List jI),([]:jQ))]:List jU)).bind fun r35 =>
           cond r35
           ((zeJ r28.2.2.2.1).bind fun r36 =>
            some (r36==1500))
           (some false))
          (some false))
         (some false))
        (some false))
       (some false))
      (some false))
     (some false))
    (some false))
   (some false))
  (some false))
 (some false)
def zbq (a0:jS) (a1:jQ) (a2:jR) (a3:jQ) (a4:Int) (a5:Int) (a6:jQ) (a7:jR) (a8:jQ) (a9:Int) (a10:Int):Option Bool :=
 (qr a1 a2 a3).bind fun r10 =>
 (qr a6 a7 a8).bind fun r11 =>
 (zeB a0 a1 a2 a3 a4 a5 a6 a7 a8 a9 a10).bind fun r12 =>
 (yl a0 a1 a2 a3 a4 a5 a6 a7 a8 a9 a10).bind fun r13 =>
 (zZ r12.1 r12.2.1 r12.2.2.2.2 r13.1 r13.2.1 r13.2.2.2.2).bind fun r14 =>
 cond (!r14)
 (some false)
 (cond (!(r12.2.2.1==r13.2.2.1))
  (some false)
  ((zeJ r12.2.2.2.1).bind fun r15 =>
   cond (r15 != r13.2.2.2.1)
   (some false)
   ((zZ a1 a2 a3 r10.1 r10.2.1 r10.2.2).bind fun r16 =>
    cond r16
    ((zZ a6 a7 a8 r11.1 r11.2.1 r11.2.2).bind fun r17 =>
     cond r17
     ((zhV).bind fun r18 =>
      some r18)
     (some false))
    (some false))))
end Go.Abs.Q
namespace Go.Abs.Q
open Go Go.Abs
section
inductive RT (t u:Tm):Tm→Tm→Prop
 | here:RT t u t u
 | arg (c:Nat) (l r:List Tm) {a b:Tm}:RT t u a b→RT t u (.f c (l++a::r)) (.f c (l++b::r))
theorem zmb:(ts:List Tm)→(p:Nat)→p<(zb ts).length→∃ l a r,ts=l++a::r∧(zb l).length≤p∧p<(zb l).length+a.codes.length
 | [],p,h=>by simp [zb] at h
 | t::ts,p,h=>by
  simp only[zb,List.length_append] at h
  by_cases hp:p<t.codes.length
  ·exact ⟨[],t,ts,rfl,Nat.zero_le _,by simpa[zb] using hp⟩
  ·obtain⟨l,a,r,rfl,h1,h2⟩:=zmb ts (p - t.codes.length) (by omega)
   exact ⟨t::l,a,r,rfl,by simp only[zb,List.length_append]; omega,by simp only[zb,List.length_append]; omega⟩
theorem zvU {a0:List zm} {N:Nat} {l r:List Tm} {a:Tm} (h:okR a0 N (l++a::r)):a.ok a0 N:=zbw.1 h a (by simp)
theorem zvr {a0:List zm}:∀(n:Nat) (a:Tm) (p:Nat),a.size≤n→a.ok a0 24→p<a.codes.length→∃ t:Tm,t.ok a0 24∧(∃ x y,a.codes=x++t.codes++y∧x.length=p∧∀ u:Tm,∃ b,RT t u a b∧b.codes=x++u.codes++y)
 | 0,a,p,h,_,_=>by have:=a.size_pos; omega
 | n+1,a,0,_,ho,_=>⟨a,ho,[],[],by simp,rfl,fun u=>⟨u,.here,by simp⟩⟩
 | n+1,.v m,p+1,_,_,h=>by simp [Tm.codes] at h
 | n+1,.f c as,p+1,hn,ho,h=>by
  simp only[Tm.codes,List.length_cons] at h
  obtain⟨l,a,r,rfl,h1,h2⟩:=zmb as p (by omega)
  simp only[Tm.size,zpd,zaQ] at hn
  obtain⟨t,h3,x,y,h4,h5,h6⟩:=zvr n a (p - (zb l).length) (by omega) (zvU ho.2) (by omega)
  refine ⟨t,h3,(c:Int)::zb l++x,y++zb r,?_,?_,fun u => ?_⟩
  ·simp only[Tm.codes,zc6,zb,h4]; simp
  ·simp only[List.cons_append,List.length_cons,List.length_append]; omega
  ·obtain⟨b,g1,g2⟩:=h6 u
   refine ⟨.f c (l++b::r),.arg c l r g1,?_⟩
   simp only[Tm.codes,zc6,zb,g2]; simp
def RR (t u:Tm) (ts us:List Tm):Prop:=∃ l a b r,ts=l++a::r∧us=l++b::r∧RT t u a b
theorem zG7 {a0:List zm} {ts:List Tm} {p:Nat} (ho:okR a0 24 ts) (h:p<(zb ts).length):∃ t:Tm,t.ok a0 24∧∃ x y,zb ts=x++t.codes++y∧x.length=p∧∀ u:Tm,∃ us,RR t u ts us∧zb us=x++u.codes++y:=by
 obtain⟨l,a,r,rfl,h1,h2⟩:=zmb ts p h
 obtain⟨t,h3,x,y,h4,h5,h6⟩:=zvr a.size a (p - (zb l).length) (Nat.le_refl _) (zvU ho) (by omega)
 refine ⟨t,h3,zb l++x,y++zb r,by simp only[zc6,zb,h4]; simp,by simp only[List.length_append]; omega,fun u => ?_⟩
 obtain⟨b,g1,g2⟩:=h6 u
 exact ⟨l++b::r,⟨l,a,b,r,rfl,rfl,g1⟩,by simp only[zc6,zb,g2]; simp⟩
theorem RT.ok {a0:List zm} {N:Nat} {t u a b:Tm} (h:RT t u a b) (hu:u.ok a0 N) (ha:a.ok a0 N):b.ok a0 N:=by
 induction h with
 | here=>exact hu
 | arg c l r h ih =>
  refine ⟨by have:=ha.1; simpa using this,zbw.2 fun w hw => ?_⟩
  have h2:=zbw.1 ha.2
  rcases List.mem_append.1 hw with hw | hw
  ·exact h2 w (List.mem_append_left _ hw)
  ·rcases List.mem_cons.1 hw with rfl | hw
   ·exact ih (h2 _ (by simp))
   ·exact h2 w (by simp [hw])
theorem RR.ok {a0:List zm} {N:Nat} {t u:Tm} {ts us:List Tm} (h:RR t u ts us) (hu:u.ok a0 N) (ha:okR a0 N ts):okR a0 N us:=by
 obtain⟨l,a,b,r,rfl,rfl,h⟩:=h
 refine zbw.2 fun w hw => ?_
 have h2:=zbw.1 ha
 rcases List.mem_append.1 hw with hw | hw
 ·exact h2 w (List.mem_append_left _ hw)
 ·rcases List.mem_cons.1 hw with rfl | hw
  ·exact h.ok hu (h2 _ (by simp))
  ·exact h2 w (by simp [hw])
theorem RR.len {t u:Tm} {ts us:List Tm} (h:RR t u ts us):us.length=ts.length:=by
 obtain⟨l,a,b,r,rfl,rfl,h⟩:=h
 simp
theorem zB0 {a0:List zm} {t:Tm} (ht:t.ok a0 24) (x y:List Int):sk a0 1 ((x++t.codes++y).drop x.length)=some t.codes.length:=by
 rw[List.append_assoc,List.drop_left]
 exact zq3 y (t.sk_codes ht)
theorem zsh {a0:List zm} (hs:SignOk a0) {t:Tm} (ht:t.ok a0 24) (x y:List Int) (hl:(x++t.codes++y).length≤1000):zcu a0 (x++t.codes++y) (x.length:Int)=some (((x.length+t.codes.length:Nat):Int),true):=by
 rw[zeG hs _ (by omega),zB0 ht]
theorem zDH {a0:List zm} (hs:SignOk a0) {t:Tm} (ht:t.ok a0 24) (x y:List Int) (hl:(x++t.codes++y).length≤1000):zfY a0 (x++t.codes++y) (x.length:Int)=some ((x.length+t.codes.length:Nat):Int):=by
 rw[zkS hs _ (by omega) _ (by simp only[List.length_append]; omega),zB0 ht]
 rfl
theorem zD9 (x z y:List Int):zbR (x++z++y) (some (x.length:Int)) (some ((x.length+z.length:Nat):Int))=some z:=by
 show slc (x++z++y) (x.length:Int) ((x.length+z.length:Nat):Int)=_
 unfold slc
 rw[decide_eq_true (show (0:Int)≤(x.length:Int) by omega),decide_eq_true (show (x.length:Int)≤((x.length+z.length:Nat):Int) by omega),decide_eq_true (show ((x.length+z.length:Nat):Int)≤(((x++z++y).length:Nat):Int) by simp only[List.length_append]; omega)]
 simp only[cond_true,Int.toNat_natCast]
 have e:(x++z++y).take (x.length+z.length)=x++z:=by rw[show x.length+z.length=(x++z).length by simp,List.take_left]
 rw[e,List.drop_left]
theorem zuk (x z y:List Int):zbR (x++z++y) none (some (x.length:Int))=some x:=by
 rw[zrM _ (by simp only[List.length_append]; omega)]
 simp
theorem zy0 (x z y:List Int):zbR (x++z++y) (some ((x.length+z.length:Nat):Int)) none=some y:=by
 rw[zrE _ (by simp only[List.length_append]; omega)]
 rw[show x.length+z.length=(x++z).length by simp,List.drop_left]
theorem zj2 {a0:List zm} (hb:zcD a0=true) {t:Tm} (ht:t.ok a0 24) (hl:t.codes.length≤48):zen a0 t.codes=some true:=by
 have h:=yu (a0:=a0) [t] ⟨ht,trivial⟩
 have e:zb [t]=t.codes:=by simp [zb]
 rw[e] at h
 unfold zen
 rw[ze0,Option.bind_some]
 unfold zbn
 rw[hb,decide_eq_true hl]
 simp only[Bool.and_self,cond_true,h]
 rfl
theorem zkR (a0:List zm) (xs:List Int):∃ b,za2 a0 xs=some b:=⟨_,zhN a0 xs⟩
theorem zAC {a0:List zm} {a b:List Int} {k:Int} (h:zjP a0 a b=some (k,0)):k=0∨k=1∨k=2∨k=3:=by
 unfold zjP at h
 simp only[Option.bind_eq_some_iff] at h
 obtain⟨r,-,h⟩:=h
 cases r with
 | true=>injection h with h; injection h with h; exact .inr (.inl h.symm)
 | false =>
  simp only[cond_false,Option.bind_eq_some_iff] at h
  obtain⟨r,-,h⟩:=h
  cases r with
  | true=>injection h with h; injection h with h; exact .inr (.inr (.inl h.symm))
  | false =>
   simp only[cond_false,Option.bind_eq_some_iff] at h
   obtain⟨r,-,h⟩:=h
   cases r with
   | true=>injection h with h; injection h with h; exact .inl h.symm
   | false=>injection h with h; injection h with h; exact .inr (.inr (.inr h.symm))
theorem znN {a0:List zm} (hb:zcD a0=true) {t u:Tm} (ht:t.ok a0 24) (hu:u.ok a0 24) (hlt:t.codes.length≤48) (hlu:u.codes.length≤48):∃ k,zcX a0 t.codes u.codes=some k∧zbI a0 t.codes u.codes=some (k,0)∧zjP a0 t.codes u.codes=some (k,0)∧(k=0∨k=1∨k=2∨k=3):=by
 obtain⟨k,h1,h2⟩:=znY (zhx hb) ht hu (by omega) (by omega)
 refine ⟨k,h1,?_,h2,zAC h2⟩
 rw[← h2]
 obtain⟨b1,e1⟩:=zkR a0 t.codes
 obtain⟨b2,e2⟩:=zkR a0 u.codes
 unfold zbI
 rw[zj2 hb ht hlt,zj2 hb hu hlu,e1,e2]
 cases b1<;>cases b2<;>rfl
end
end Go.Abs.Q
namespace Go.Abs.Q
open Go Go.Abs
section
theorem zmL (a0:List zm) (L:List zg) (T:List jI) (C:List zg) (L':List zg) (T':List jI) (C':List zg) :
  zcO a0 L T C L' T' C'=(zcH a0 L T C L' T' C').bind fun r=>some (r.2.2.1,r.1,r.2.1,r.2.2.2):=by
 have half:∀(n:Int),((yV a0 L' T' C').bind fun r17 =>
   cond (decide (((List.length r17.2:Nat):Int)>0))
   ((inR (IntKind.wrap .i64 (((List.length r17.2:Nat):Int) - 1)) (List.length r17.2)).bind fun k18 =>
    (r17.2[k18]?).bind fun x19 =>
    cond (decide ((IntKind.wrap .i64 (x19+n))>23))
    (some (false,([]:jQ),([]:jR),([]:jQ)))
    ((zz L' T' C' n).bind fun r20=>some (true,r20.1,r20.2.1,r20.2.2)))
   ((zz L' T' C' n).bind fun r21=>some (true,r21.1,r21.2.1,r21.2.2))) =
  ((yV a0 L' T' C').bind fun r17 =>
   cond (decide (((List.length r17.2:Nat):Int)>0))
   ((inR (IntKind.wrap .i64 (((List.length r17.2:Nat):Int) - 1)) (List.length r17.2)).bind fun k18 =>
    (r17.2[k18]?).bind fun x19 =>
    cond (decide ((IntKind.wrap .i64 (x19+n))>23))
    (some (([]:jQ),([]:jR),false,([]:jQ)))
    ((zz L' T' C' n).bind fun r20=>some (r20.1,r20.2.1,true,r20.2.2)))
   ((zz L' T' C' n).bind fun r21=>some (r21.1,r21.2.1,true,r21.2.2))).bind fun r=>some (r.2.2.1,r.1,r.2.1,r.2.2.2):=by
  intro n
  cases yV a0 L' T' C' with
  | none=>rfl
  | some r17 =>
   simp only[Option.bind_some]
   have fin:((zz L' T' C' n).bind fun r20=>some (true,r20.1,r20.2.1,r20.2.2))=((zz L' T' C' n).bind fun r20=>some (r20.1,r20.2.1,true,r20.2.2)).bind fun r=>some (r.2.2.1,r.1,r.2.1,r.2.2.2):=by
    cases zz L' T' C' n<;>rfl
   cases decide (((List.length r17.2:Nat):Int)>0) with
   | false=>exact fin
   | true =>
    simp only[cond_true]
    cases inR (IntKind.wrap .i64 (((List.length r17.2:Nat):Int) - 1)) (List.length r17.2) with
    | none=>rfl
    | some k18 =>
     simp only[Option.bind_some]
     cases r17.2[k18]? with
     | none=>rfl
     | some x19 =>
      simp only[Option.bind_some]
      cases decide (IntKind.wrap .i64 (x19+n)>23) with
      | true=>rfl
      | false=>exact fin
 unfold zcO zcH
 cases yV a0 L T C with
 | none=>rfl
 | some r14 =>
  simp only[Option.bind_some]
  cases decide (((List.length r14.2:Nat):Int)>0) with
  | false=>exact half 0
  | true =>
   simp only[cond_true]
   cases inR (IntKind.wrap .i64 (((List.length r14.2:Nat):Int) - 1)) (List.length r14.2) with
   | none=>rfl
   | some k15 =>
    simp only[Option.bind_some]
    cases r14.2[k15]? with
    | none=>rfl
    | some x16=>exact half _
theorem zk5:(es:List zg)→(i:Nat)→zN (-1) es i=es
 | [],_=>rfl
 | e::es,i=>by
  unfold zN
  rw[show ((i:Int) != -1)=true from by simp,cond_true,zk5 es (i+1)]
theorem zon {L:List zg} {i:Int} (h:q9 L i=true):(zN i L 0).length+1=L.length:=by
 unfold q9 at h
 simp only[Bool.and_eq_true,decide_eq_true_eq] at h
 obtain⟨k,rfl⟩:∃ k:Nat,i=(k:Int):=⟨i.toNat,by omega⟩
 rw[zfD k L 0 (by omega) (by omega)]
 simp; omega
theorem zAy {side:Int} (hside:side=0∨side=1) (s0 s1:Tm):∃(ks kt:Nat) (fr to:Tm),inR side 2=some ks∧inR (IntKind.wrap .i64 (1 - side)) 2=some kt∧([s0.codes,s1.codes])[ks]? = some fr.codes∧([s0.codes,s1.codes])[kt]? = some to.codes ∧
  ((side=0∧fr=s0∧to=s1)∨(side=1∧fr=s1∧to=s0))∧decide (side<0)=false∧decide (side>1)=false:=by
 rcases hside with rfl | rfl
 ·exact ⟨0,1,s0,s1,rfl,rfl,rfl,rfl,.inl ⟨rfl,rfl,rfl⟩,rfl,rfl⟩
 ·exact ⟨1,0,s1,s0,rfl,rfl,rfl,rfl,.inr ⟨rfl,rfl,rfl⟩,rfl,rfl⟩
def PSpec (a0:List zm) (L:List zg) (T:List jI) (C:List zg) (i:Int) (fr to:Tm) (L':List zg) (T':List jI) (C':List zg) (j:Int) (n':Bool) (A':List Int) (at':Nat) (o:Option zpO):Prop :=
 (∃ v,A'[at']? = some v∧v<0∧o=zcL 0) ∨
 ∃(v:Int) (b c:Nat) (us:List Tm),A'[at']? = some v∧0≤v∧b≤24∧TopV (ym L T C) (b:Int)∧A'=(c:Int)::zb us∧okR a0 24 us ∧
  ((o=zcL 1501∧∃ x,zgc (ym L' T' C') x∧23<x+(b:Int)) ∨
   ((∀ x,zgc (ym L' T' C') x→x+(b:Int)≤23)∧∃(t:Tm) (x y:List Int),t.ok a0 24∧zb (us.map (Tm.up b))=x++t.codes++y∧at'=x.length+1∧okR a0 24 (us.map (Tm.up b))∧(∀ u:Tm,∃ ws,RR t u (us.map (Tm.up b)) ws∧zb ws=x++u.codes++y) ∧
    ((o=zcL 0∧∀ θ,¬ Sol θ ([fr].zip [t])) ∨
    ∃ σ,Mgu σ ([fr].zip [t])∧(∀ x,x<24→(σ x).ok a0 24) ∧
     ((o=zcL 1502∧(zad σ (List.range 24)=false∨48<(fr.sub σ).codes.length∨48<(to.sub σ).codes.length)) ∨
      (zad σ (List.range 24)=true∧(fr.sub σ).codes.length≤48∧(to.sub σ).codes.length≤48∧∃ k,zbI a0 (fr.sub σ).codes (to.sub σ).codes=some (k,0) ∧
       ((o=zcL 0∧(k=0∨k=1)) ∨
       (o=znb a0 σ (zN i L 0++(zgq (b:Int) L').set j.toNat (n',(c:Int)::(x++to.codes++y))) (zq8 b T T') (zql b C C') 1502∧(k=2∨k=3))))))))
theorem zbM (t:Tm):t.codes=zb [t]:=by simp [zb]
theorem zw5 {α:Type} {x y:α}:{xs:List α}→{i:Nat}→y∈xs.set i x→y∈xs∨y=x
 | [],i,h=>by simp at h
 | z::zs,0,h=>by
  rcases List.mem_cons.1 h with h | h
  ·exact .inr h
  ·exact .inl (List.mem_cons_of_mem _ h)
 | z::zs,i+1,h=>by
  rcases List.mem_cons.1 h with h | h
  ·exact .inl (h▸List.mem_cons_self ..)
  ·rcases zw5 h with h | h
   ·exact .inl (List.mem_cons_of_mem _ h)
   ·exact .inr h
theorem zAA {a0:List zm} {A:List Int} (h:zdC a0 A=true) (h0:gx A 0=some 0):∃ s0 s1:Tm,A=0::zb [s0,s1]∧s0.ok a0 24∧s1.ok a0 24∧(zb [s0,s1]).length≤48:=by
 obtain⟨c,ts,e,rfl,ho,he,-,hlen,hl48,hb⟩:=ziE h
 rw[qf,List.getElem?_cons_zero] at h0
 injection h0 with h0
 obtain rfl:c=0:=by omega
 rw[(zhx hb).eq] at he
 injection he with he
 subst he
 match ts,hlen,ho,hl48 with
 | [],hlen,_,_=>exact absurd hlen (by decide)
 | [_],hlen,_,_=>exact absurd hlen (by show ¬(((1:Nat):Int)=(2:Int)); decide)
 | _::_::_::_,hlen,_,_=>simp only[List.length_cons] at hlen; exact absurd hlen (by show ¬(_=(2:Int)); omega)
 | [s0,s1],_,ho,hl48=>exact ⟨s0,s1,rfl,ho.1,ho.2.1,hl48⟩
theorem zAx {a0:List zm} (hs:SignOk a0) {s0 s1:Tm} (h0:s0.ok a0 24) (h1:s1.ok a0 24) (hl:(zb [s0,s1]).length≤48):zcK a0 (0::zb [s0,s1])=some [s0.codes,s1.codes]∧zR a0 (zb [s0,s1])=some [s0.codes,s1.codes]:=by
 have hc:=yu (a0:=a0) [s0,s1] ⟨h0,h1,trivial⟩
 refine ⟨?_,zaX hs (by omega) hc⟩
 unfold zcK
 rw[zdj,Option.bind_some,zbS hs (by omega) hc]
 rfl
theorem zvp {σ:Sb} (t:Tm) (h:∀ c∈t.codes,-24≤c):onB (zdr σ) t.codes=(t.sub σ).codes:=by
 rw[zq9 h,Tm.codes_sub]
 rfl
theorem zvk {a0:List zm} {L:List zg} {T:List jI} {C:List zg} {L':List zg} {T':List jI} {C':List zg} (h:zeQ a0 L T C=true) (h':zeQ a0 L' T' C'=true) {i j:Int} {n':Bool} {A A':List Int}
  (hi:gx L i=some (false,A)) (h0:gx A 0=some 0) (hj:gx L' j=some (n',A')) {side:Int} (hside:side=0∨side=1) {at':Nat} (h1:1≤at') (h2:at'<A'.length) :
  ∃ s0 s1 fr to:Tm,A=0::zb [s0,s1]∧s0.ok a0 24∧s1.ok a0 24∧((side=0∧fr=s0∧to=s1)∨(side=1∧fr=s1∧to=s0))∧∃ o,zdm a0 L T C i side L' T' C' j (at':Int)=o∧yl a0 L T C i side L' T' C' j (at':Int)=o∧PSpec a0 L T C i fr to L' T' C' j n' A' at' o:=by
 obtain⟨hsb,l1,l2,l3,l4,l5,l6,-⟩:=za7 h
 obtain⟨-,l1',l2',l3',l4',l5',l6',-⟩:=za7 h'
 have hs:=zhx hsb
 obtain⟨s0,s1,rfl,ok0,ok1,hA48⟩:=zAA (List.all_eq_true.1 l4 _ (zkT hi)) h0
 obtain⟨c,us,e',rfl,ho',he',-,hlen',hl48',-⟩:=ziE (List.all_eq_true.1 l4' (n',A') (zkT hj))
 obtain⟨ks,kt,fr,to,e1,e2,e3,e4,hft,hsd1,hsd2⟩:=zAy hside s0 s1
 refine ⟨s0,s1,fr,to,rfl,ok0,ok1,hft,?_⟩
 obtain⟨sd1,sd2⟩:=zAx hs ok0 ok1 hA48
 have hcd:=znB hs h
 have hcd':=znB hs h'
 have hcA:Cds (0::zb [s0,s1]):=hcd _ (zas (zkT hi))
 have hs0:s0.codes.length+s1.codes.length≤48:=by simpa[zb] using hA48
 have hfr:fr.ok a0 24∧fr.codes.length≤48∧∀ c∈fr.codes,-24≤c∧c≤1000000:=by
  rcases hft with ⟨-,rfl,rfl⟩ | ⟨-,rfl,rfl⟩
  ·exact ⟨ok0,by omega,fun c hc=>hcA.2 c (by simp [zb,hc])⟩
  ·exact ⟨ok1,by omega,fun c hc=>hcA.2 c (by simp [zb,hc])⟩
 have hto:to.ok a0 24∧to.codes.length≤48∧∀ c∈to.codes,-24≤c∧c≤1000000:=by
  rcases hft with ⟨-,rfl,rfl⟩ | ⟨-,rfl,rfl⟩
  ·exact ⟨ok1,by omega,fun c hc=>hcA.2 c (by simp [zb,hc])⟩
  ·exact ⟨ok0,by omega,fun c hc=>hcA.2 c (by simp [zb,hc])⟩
 obtain⟨hjp,hjl,hjm⟩:0≤j∧j<L'.length∧L'[j.toNat]? = some (n',(c:Int)::zb us):=by
  have hj0:=hj
  unfold gx at hj0
  by_cases hn:0≤j
  ·rw[decide_eq_true hn,cond_true] at hj0
   have:=(List.getElem?_eq_some_iff.1 hj0).1
   exact ⟨hn,by omega,hj0⟩
  ·rw[decide_eq_false hn] at hj0; cases hj0
 have hpi:q9 L i=true:=by
  unfold gx at hi
  by_cases hn:0≤i
  ·rw[decide_eq_true hn,cond_true] at hi
   have:=(List.getElem?_eq_some_iff.1 hi).1
   unfold q9
   simp only[Bool.and_eq_true,decide_eq_true_eq]
   omega
  ·rw[decide_eq_false hn] at hi; cases hi
 have hpj:q9 L' j=true:=by
  unfold q9
  simp only[Bool.and_eq_true,decide_eq_true_eq]
  omega
 obtain⟨v,hv⟩:∃ v,((c:Int)::zb us)[at']? = some v:=⟨_,List.getElem?_eq_getElem h2⟩
 have hvat:gx ((c:Int)::zb us) (at':Int)=some v:=by rw[zab]; exact hv
 -- the reference's guards
 have href:yl a0 L T C i side L' T' C' j (at':Int)=(cond (decide (v<0)) (zcL 0)
   ((zc7 L T C L' T' C').bind fun r37 =>
          cond (!r37.2.2.1)
          (zcL 1501)
           ((gx r37.1 j).bind fun e45 =>
           (zfY a0 e45.2 (at':Int)).bind fun r46 =>
           (zbR e45.2 (some (at':Int)) (some r46)).bind fun y47 =>
           (zbD a0 fr.codes y47).bind fun r48 =>
           cond (!r48.2.1)
           (zcL 1502)
           (cond (!r48.1)
            (zcL 0)
            ((zbC r48.2.2 fr.codes).bind fun r49 =>
             (zbC r48.2.2 to.codes).bind fun r50 =>
             cond (decide (((List.length r49:Nat):Int)>48))
             (zcL 1502)
             (cond (decide (((List.length r50:Nat):Int)>48))
              (zcL 1502)
              ((zcX a0 r49 r50).bind fun r51 =>
               cond (r51==0)
               (zcL 0)
               (cond (r51==1)
                (zcL 0)
                ((zcM L i).bind fun r52 =>
                 cond (yB (List.length r52+List.length r37.1) 32)
                 ((gx r37.1 j).bind fun e53 =>
                  (zd4 e45.2 (at':Int) r46 to.codes).bind fun r54 =>
                  (inR (IntKind.wrap .i64 ((IntKind.wrap .i64 (((List.length L:Nat):Int) - 1))+j)) (List.length (r52++r37.1))).bind fun k55 =>
                  ((r52++r37.1)[k55]?).bind fun x56 =>
                  (zhz (List.set (r52++r37.1) k55 (e53.1,r54)) L T C r37.1 r37.2.1 r37.2.2.2).bind fun r57 =>
                  (ze8 a0 r48.2.2 r57.1 r57.2.1 r57.2.2).bind fun r58 =>
                  cond (!r58.2.2.1)
                  (zcL 1502)
                  (some (r58.1,r58.2.1,true,(0:Int),r58.2.2.2)))
                 (none)))))))))):=by
  unfold yl zbT
  rw[yn,h,Option.bind_some,yn,h',Option.bind_some,zhq,hpi,zhq,hpj]
  simp only[Bool.not_true,cond_false,Option.bind_some,cond_true,hi,h0,Bool.not_false,beq_self_eq_true,hsd1,hsd2,hj,hvat]
  rw[decide_eq_false (show ¬((at':Int)<1) by omega),cond_false,decide_eq_false (show ¬((at':Int)≥((List.length ((c:Int)::zb us):Nat):Int)) by omega),cond_false]
  cases decide (v<0) with
  | true=>rfl
  | false =>
   simp only[cond_false,zdj,Option.bind_some,sd2,List.length_cons,List.length_nil,Nat.zero_add,Nat.reduceAdd,e1,e2,e3,e4]
   rfl
 rw[href]
 unfold zdm
 rw[hj,Option.bind_some]
 simp only[hvat,Option.bind_some]
 by_cases hv0:v<0
 ·rw[decide_eq_true hv0]
  exact ⟨zcL 0,rfl,rfl,.inl ⟨v,hv,hv0,rfl⟩⟩
 ·rw[decide_eq_false hv0,cond_false,cond_false]
  obtain⟨b,hb,htop,hap⟩:=apart_spec hs h h'
  have fin:∀{o1 o2:Option zpO} {o:Option zpO},o1=o→o2=o→PSpec a0 L T C i fr to L' T' C' j n' ((c:Int)::zb us) at' o→∃ o,o1=o∧o2=o∧PSpec a0 L T C i fr to L' T' C' j n' ((c:Int)::zb us) at' o:=fun h1 h2 h3=>⟨_,h1,h2,h3⟩
  have mk:=fun {o:Option zpO} (hq:_)=>show PSpec a0 L T C i fr to L' T' C' j n' ((c:Int)::zb us) at' o from .inr ⟨v,b,c,us,hv,by omega,hb,htop,rfl,ho',hq⟩
  rcases hap with ⟨hap,hfar⟩ | ⟨hap,hnear⟩
  ·rcases zkg hs h h' hb htop with ⟨ap,-⟩ | ⟨ap,hn2⟩
   ·rw[zmL,hap,ap]
    exact fin rfl rfl (mk (.inl ⟨rfl,hfar⟩))
   ·obtain⟨x,hx,hfar⟩:=hfar
    have:=hn2 x hx; omega
  ·rcases zkg hs h h' hb htop with ⟨ap,x,hx,hfar⟩ | ⟨ap,-⟩
   ·have:=hnear x hx; omega
   ·rw[zmL,hap,ap]
    simp only[Option.bind_some,Bool.not_true,cond_false]
    have hj2:gx (zgq (b:Int) L') j=some (n',(c:Int)::zb (us.map (Tm.up b))):=by
     have:=zIY (fun l:zg=>(l.1,l.2.map (upC (b:Int)))) hj
     rw[zzZ] at this
     exact this
    have hvar:∀ k:Nat,zjj k us→k+b<24:=fun k hk=>by
     have:=hnear (k:Int) ⟨_,zas (zkT hj),by
      obtain⟨c0,h1,h2,h3⟩:=zfl.2 ⟨k,rfl,hk⟩
      exact ⟨c0,List.mem_cons_of_mem _ h1,h2,h3⟩⟩
     omega
    have hou:=zD1 ho' hvar
    have hlu:(zb (us.map (Tm.up b))).length=(zb us).length:=by rw[← zr8,List.length_map]
    obtain⟨p,rfl⟩:∃ p,at'=p+1:=⟨at' - 1,by omega⟩
    rw[List.length_cons] at h2
    obtain⟨t,ht,x,y,e5,e6,hrep⟩:=zG7 hou (p:=p) (by omega)
    subst e6
    have hlx:x.length+t.codes.length+y.length≤48:=by
     have:=congrArg List.length e5
     simp only[List.length_append] at this
     omega
    have mk2:=fun {o:Option zpO} (hq:_)=>mk (o:=o) (.inr ⟨hnear,t,x,y,ht,e5,rfl,hou,hrep,hq⟩)
    have e7:(c:Int)::zb (us.map (Tm.up b))=((c:Int)::x)++t.codes++y:=by rw[e5]; simp
    have e8:((x.length+1:Nat):Int)=((((c:Int)::x).length:Nat):Int):=by simp
    have hl1:(((c:Int)::x)++t.codes++y).length≤1000:=by simp only[List.length_append,List.length_cons]; omega
    have hjn:inR j (zgq (b:Int) L').length=some j.toNat:=by
     obtain⟨k,rfl⟩:=Int.eq_ofNat_of_zero_le hjp
     exact qd (by simp [zgq]; omega)
    have hjd:(zgq (b:Int) L')[j.toNat]? = some (n',(c:Int)::zb (us.map (Tm.up b))):=by
     have h3:=hj2
     unfold gx at h3
     rwa [decide_eq_true hjp,cond_true] at h3
    rw[hi,Option.bind_some,hj2,Option.bind_some]
    simp only[sd1,Option.bind_some,List.length_cons,List.length_nil,Nat.zero_add,Nat.reduceAdd,e1,e2,e3,e4,hjn,hjd]
    rw[e8,e7,zsh hs ht _ _ hl1,zDH hs ht _ _ hl1]
    simp only[Option.bind_some,zD9]
    rw[zbM fr,zbM t]
    rcases ztu hs (xs:=zb [fr]) (ys:=zb [t]) rfl rfl ⟨hfr.1,trivial⟩ ⟨ht,trivial⟩ hsb (by rw[← zbM]; omega) (by rw[← zbM]; omega) with ⟨hu,hno⟩ | ⟨-,σ,hm,hok,hu⟩
    ·rcases ziX hs (ts:=[fr]) (us:=[t]) ⟨hfr.1,trivial⟩ ⟨ht,trivial⟩ (by rw[← zbM]; omega) (by rw[← zbM]; omega) with ⟨tg,-⟩ | ⟨-,σ',hm',tg⟩
     ·rw[hu,tg]
      exact fin rfl rfl (mk2 (.inl ⟨rfl,hno.resolve_left fun h=>h rfl⟩))
     ·exact absurd hm'.sol (hno.resolve_left (fun h=>h rfl) σ')
    ·rcases ziX hs (ts:=[fr]) (us:=[t]) ⟨hfr.1,trivial⟩ ⟨ht,trivial⟩ (by rw[← zbM]; omega) (by rw[← zbM]; omega) with ⟨tg,hno⟩ | ⟨-,σ',hm',tg⟩
     ·exact absurd hm.sol (hno.resolve_left (fun h=>h rfl) σ)
     ·have:=hm.unique hm'
      subst this
      rw[hu,tg]
      have mk3:=fun {o:Option zpO} (hq:_)=>mk2 (o:=o) (.inr ⟨σ,hm,hok,hq⟩)
      cases hsh:zad σ (List.range 24) with
      | false=>exact fin rfl rfl (mk3 (.inl ⟨rfl,.inl hsh⟩))
      | true =>
       simp only[cond_true,Option.bind_some,show ((0:Int) != 0)=false from rfl,cond_false,Bool.not_true]
       rw[← zbM fr,← zbM t]
       have nfr:zcq fr.codes:=⟨by omega,fun c hc=>by have:=hfr.2.2 c hc; omega⟩
       have nto:zcq to.codes:=⟨by omega,fun c hc=>by have:=hto.2.2 c hc; omega⟩
       rw[ze5 (zhj hsh) nfr.1 nfr.2,zoE (zhj hsh) nfr,ze5 (zhj hsh) nto.1 nto.2,zoE (zhj hsh) nto,zvp fr fun c hc=>(hfr.2.2 c hc).1,zvp to fun c hc=>(hto.2.2 c hc).1]
       simp only[Option.bind_some]
       have okf:(fr.sub σ).ok a0 24:=Tm.ok_sub fr hfr.1 fun x hx=>hok x (Tm.ok_has fr hfr.1 hx)
       have okt:(to.sub σ).ok a0 24:=Tm.ok_sub to hto.1 fun x hx=>hok x (Tm.ok_has to hto.1 hx)
       by_cases g1:48<(fr.sub σ).codes.length
       ·rw[decide_eq_true (show ((List.length (fr.sub σ).codes:Nat):Int)>48 by omega)]
        exact fin rfl rfl (mk3 (.inl ⟨rfl,.inr (.inl g1)⟩))
       ·rw[decide_eq_false (show ¬((List.length (fr.sub σ).codes:Nat):Int)>48 by omega),cond_false,cond_false]
        by_cases g2:48<(to.sub σ).codes.length
        ·rw[decide_eq_true (show ((List.length (to.sub σ).codes:Nat):Int)>48 by omega)]
         exact fin rfl rfl (mk3 (.inl ⟨rfl,.inr (.inr g2)⟩))
        ·rw[decide_eq_false (show ¬((List.length (to.sub σ).codes:Nat):Int)>48 by omega),cond_false,cond_false]
         obtain⟨k,w1,w2,-,w4⟩:=znN hsb okf okt (by omega) (by omega)
         unfold zh6
         rw[w1,w2]
         simp only[Option.bind_some]
         have mk4:=fun {o:Option zpO} (hq:_)=>mk3 (o:=o) (.inr ⟨hsh,by omega,by omega,k,w2,hq⟩)
         by_cases hk:k=0∨k=1
         ·refine fin (o:=zcL 0) ?_ ?_ (mk4 (.inl ⟨rfl,hk⟩))
          ·rcases hk with rfl | rfl<;>rfl
          ·rcases hk with rfl | rfl<;>rfl
         ·have hk2:k=2∨k=3:=by omega
          have hb1:(cond (k != 2) (some (k != 3)) (some false):Option Bool)=some false:=by rcases hk2 with rfl | rfl<;>rfl
          rw[hb1,Option.bind_some,cond_false,show (k==0)=false by simp; omega,show (k==1)=false by simp; omega,cond_false,cond_false]
          unfold zhh zd4
          have hlto:to.codes.length≤48:=hto.2.1
          have hul:(zgq (b:Int) L').length=L'.length:=by simp [zgq]
          have hucl:(zgq (b:Int) C').length=C'.length:=by simp [zgq]
          have hwl:=zon hpi
          rw[zsh hs ht _ _ hl1]
          simp only[Option.bind_some,zuk,zy0]
          rw[zDS (by simp only[List.length_cons]; omega),zpq hpi (by omega),zn (by first | omega | (simp only[List.length_cons,List.length_nil]; omega)),cond_true,zn (by first | omega | (simp only[List.length_append,List.length_cons,List.length_nil]; omega)),cond_true,zn (by first | omega | (simp only[List.length_append,List.length_cons,List.length_nil]; omega)),cond_true]
          simp only[Option.bind_some]
          rw[zn (by first | omega | (simp only[List.length_append,List.length_cons,List.length_nil,List.length_map]; omega)),cond_true]
          have w5:inR (IntKind.wrap .i64 ((IntKind.wrap .i64 (((List.length L:Nat):Int) - 1))+j)) (List.length (zN i L 0++zgq (b:Int) L'))=some ((zN i L 0).length+j.toNat):=by
           rw[show IntKind.wrap .i64 (((List.length L:Nat):Int) - 1)=(((zN i L 0).length:Nat):Int) by rw[zt]<;>omega,show IntKind.wrap .i64 ((((zN i L 0).length:Nat):Int)+j)=(((zN i L 0).length+j.toNat:Nat):Int) by rw[zt]<;>omega]
           exact qd (by rw[List.length_append]; omega)
          have w6:(zN i L 0++zgq (b:Int) L')[(zN i L 0).length+j.toNat]? = some (n',(c:Int)::zb (us.map (Tm.up b))):=by
           rw[List.getElem?_append_right (by omega),show (zN i L 0).length+j.toNat - (zN i L 0).length=j.toNat by omega]
           exact hjd
          rw[w5,Option.bind_some,w6,Option.bind_some,List.set_append_right _ _ (by omega),show (zN i L 0).length+j.toNat - (zN i L 0).length=j.toNat by omega]
          have e9:(((([]:List Int)++(c:Int)::x))++to.codes)++y=(c:Int)::(x++to.codes++y):=by simp
          have e10:(((c:Int)::x)++to.codes)++y=(c:Int)::(x++to.codes++y):=by simp
          rw[e9,e10]
          have hul2:((zgq (b:Int) L').set j.toNat (n',(c:Int)::(x++to.codes++y))).length=L'.length:=by rw[List.length_set]; exact hul
          unfold zhz
          rw[zlt i (-1) (by omega) (by omega) (by omega) (by omega) (by simp; omega) (by omega),Option.bind_some,zk5,
           zn (by first | omega | (simp only[List.length_append,List.length_cons,List.length_nil,List.length_map]; omega)),cond_true,zn (by first | omega | (simp only[List.length_map]; omega)),cond_true,zn (by first | omega | (simp only[List.length_append,List.length_cons,List.length_nil,List.length_map]; omega)),cond_true,zn (by first | omega | (simp only[List.length_append,List.length_cons,List.length_nil,List.length_map]; omega)),cond_true,Option.bind_some]
          have hup:∀ r∈ym L' T' C',Cds (r.map (upC (b:Int))):=fun r hr=>zHu (hcd' r hr) fun x hx=>hnear x ⟨r,hr,hx⟩
          have hupl:∀ ls:List zg,(∀ l∈ls,l.2∈ym L' T' C')→∀ l∈zgq (b:Int) ls,Cds l.2:=fun ls hls l hl=>by
           obtain⟨l0,h0,rfl⟩:=List.mem_map.1 hl
           exact hup _ (hls l0 h0)
          have hA2:Cds ((c:Int)::zb (us.map (Tm.up b))):=hupl L' (fun l hl=>zas hl) _ (zkT hj2)
          have hnew:Cds ((c:Int)::(x++to.codes++y)):=by
           refine ⟨by simp only[List.length_cons,List.length_append]; omega,fun d hd => ?_⟩
           rcases List.mem_cons.1 hd with rfl | hd
           ·exact hA2.2 _ (List.mem_cons_self ..)
           ·rcases List.mem_append.1 hd with hd | hd
            ·rcases List.mem_append.1 hd with hd | hd
             ·exact hA2.2 d (by rw[e5]; simp [hd])
             ·exact hto.2.2 d hd
            ·exact hA2.2 d (by rw[e5]; simp [hd])
          have cL:∀ l∈zN i L 0++(zgq (b:Int) L').set j.toNat (n',(c:Int)::(x++to.codes++y)),Cds l.2:=fun l hl=>by
           rcases List.mem_append.1 hl with hl | hl
           ·exact hcd _ (zas (zhW L 0 hl))
           ·rcases zw5 hl with hl | rfl
            ·exact hupl L' (fun l hl=>zas hl) l hl
            ·exact hnew
          have cT:∀ r∈zq8 b T T',Cds r:=fun r hr=>by
           unfold zq8 at hr
           rcases List.mem_append.1 hr with hr | hr
           ·exact hcd _ (zce hr)
           ·obtain⟨r0,h0,rfl⟩:=List.mem_map.1 hr
            exact hup _ (zce h0)
          have cC:∀ l∈zql b C C',Cds l.2:=fun l hl=>by
           unfold zql at hl
           rcases List.mem_append.1 hl with hl | hl
           ·exact hcd _ (zbE hl)
           ·exact hupl C' (fun l hl=>zbE hl) l hl
          have nL:(zN i L 0++(zgq (b:Int) L').set j.toNat (n',(c:Int)::(x++to.codes++y))).length≤100:=by rw[List.length_append]; omega
          have nT:(zq8 b T T').length≤100:=by unfold zq8; rw[List.length_append,List.length_map]; omega
          have nC:(zql b C C').length≤100:=by unfold zql; rw[List.length_append]; omega
          refine fin ?_ (zxZ (a0:=a0) hs hsh cL cT cC (by omega) (by omega) (by omega) 1502) (mk4 (.inr ⟨rfl,hk2⟩))
          simp only
          rw[show T++T'.map (List.map (upC (b:Int)))=zq8 b T T' from rfl,show C++zgq (b:Int) C'=zql b C C' from rfl,zG6 hsh cL cT cC (by omega) (by omega) (by omega),Option.bind_some,zkp,Option.bind_some]
          unfold znb
          cases zeQ a0 (zcp σ (zN i L 0++(zgq (b:Int) L').set j.toNat (n',(c:Int)::(x++to.codes++y)))) ((zq8 b T T').map (zdf σ)) (zcp σ (zql b C C')) with
          | true=>rfl
          | false=>rfl
end
end Go.Abs.Q
namespace Go.Abs.Q
open Go Go.Abs
section
theorem PSpec.okR {a0:List zm} {L:List zg} {T:List jI} {C:List zg} {i:Int} {fr to:Tm} {L':List zg} {T':List jI} {C':List zg} {j:Int} {n':Bool} {A':List Int} {at':Nat} {o:Option zpO} (h:PSpec a0 L T C i fr to L' T' C' j n' A' at' o):OkR a0 o:=by
 rcases h with ⟨_,_,_,h⟩ | ⟨_,_,_,_,_,_,_,_,_,_,⟨h,_⟩ | ⟨_,_,_,_,_,_,_,_,_,⟨h,_⟩ | ⟨_,_,_,⟨h,_⟩ | ⟨_,_,_,_,_,⟨h,_⟩ | ⟨h,_⟩⟩⟩⟩⟩
 ·exact zfE h
 ·exact zfE h
 ·exact zfE h
 ·exact zfE h
 ·exact zfE h
 ·rw[h]; exact zsz
def eqB (L:List zg) (i:Int) (neg:Bool):Bool:=q9 L i&&(match gx L i with
 | some l=>(gx l.2 0==some 0)&&(l.1==neg)
 | none=>false)
theorem zz4 {L:List zg} {i:Int} {neg:Bool} (h:eqB L i neg=true):∃ A,gx L i=some (neg,A)∧gx A 0=some 0:=by
 unfold eqB at h
 cases hp:q9 L i with
 | false=>rw[hp] at h; cases h
 | true =>
  rw[hp,Bool.true_and] at h
  cases hg:gx L i with
  | none=>rw[hg] at h; cases h
  | some l =>
   rw[hg] at h
   simp only[Bool.and_eq_true,beq_iff_eq] at h
   exact ⟨l.2,by rw[← h.2],h.1⟩
theorem zCS {L:List zg} {i:Int} {n neg:Bool} {A:List Int} (h:gx L i=some (n,A)) (hp:q9 L i=true):eqB L i neg=((gx A 0==some 0)&&(n==neg)):=by
 unfold eqB
 rw[hp,h,Bool.true_and]
theorem zop {a0:List zm} {A:List Int} (h:zdC a0 A=true):∃ c:Nat,gx A 0=some (c:Int):=by
 obtain⟨c,ts,e,rfl,-⟩:=ziE h
 exact ⟨c,by rw[qf]; rfl⟩
theorem zki {a0:List zm} {L:List zg} (hL:∀ l∈L,zdC a0 l.2=true) (T:List jI) (C:List zg) (i:Int) (neg:Bool):zbJ L T C i neg=some (eqB L i neg):=by
 unfold zbJ
 by_cases h0:i≥0
 ·rw[decide_eq_true h0,cond_true]
  by_cases h1:i<((List.length L:Nat):Int)
  ·have hp:q9 L i=true:=by unfold q9; simp only[Bool.and_eq_true,decide_eq_true_eq]; exact ⟨h0,h1⟩
   obtain⟨⟨n,A⟩,hg⟩:=zi7 hp
   obtain⟨c,hc⟩:=zop (hL _ (zkT hg))
   rw[decide_eq_true h1,cond_true,hg,Option.bind_some,hc,Option.bind_some,Option.bind_some,zCS hg hp,hc]
   by_cases e:(c:Int)=0
   ·rw[e]; rfl
   ·rw[show ((c:Int)==0)=false by simpa using e,show (some (c:Int)==some 0)=false by simpa using e]; rfl
  ·have hp:q9 L i=false:=by unfold q9; rw[decide_eq_false h1,Bool.and_false]
   rw[decide_eq_false h1,cond_false]
   unfold eqB
   rw[hp]; rfl
 ·have hp:q9 L i=false:=by unfold q9; rw[decide_eq_false h0,Bool.false_and]
  rw[decide_eq_false h0,cond_false]
  unfold eqB
  rw[hp]; rfl
theorem zaK {a0:List zm} {L:List zg} (hL:∀ l∈L,zdC a0 l.2=true) (T:List jI) (C:List zg) (i:Int):zbT L T C i=some (eqB L i false):=by
 unfold zbT
 rw[zhq,Option.bind_some]
 cases hp:q9 L i with
 | false=>unfold eqB; rw[hp]; rfl
 | true =>
  obtain⟨⟨n,A⟩,hg⟩:=zi7 hp
  obtain⟨c,hc⟩:=zop (hL _ (zkT hg))
  rw[cond_true,hg,Option.bind_some,Option.bind_some,hc,Option.bind_some,zCS hg hp,hc]
  have e:(some (c:Int)==some 0)=((c:Int)==0):=rfl
  rw[e]
  cases n<;>cases (c:Int)==0<;>rfl
theorem zLe (o:Option zpO):(o.bind fun r=>some (r.1,r.2.1,r.2.2.1,r.2.2.2.1,r.2.2.2.2))=o:=by cases o<;>rfl
theorem zuV (a0:List zm) (L:List zg) (T:List jI) (C:List zg) (i side:Int) (L':List zg) (T':List jI) (C':List zg) (j at':Int) :
  yl a0 L T C i side L' T' C' j at'=zeB a0 L T C i side L' T' C' j at'∧OkR a0 (zeB a0 L T C i side L' T' C' j at'):=by
 have bad:∀{o o':Option zpO} {k:Int},o=zcL k→o'=zcL k→o=o'∧OkR a0 o':=fun h h'=>⟨h.trans h'.symm,zfE h'⟩
 have key:zeQ a0 L T C=true→zeQ a0 L' T' C'=true→eqB L i false=true→(side=0∨side=1)→0≤j→j<L'.length→1≤at'→(∀ l,gx L' j=some l→at'<l.2.length)→yl a0 L T C i side L' T' C' j at'=zdm a0 L T C i side L' T' C' j at'∧OkR a0 (zdm a0 L T C i side L' T' C' j at'):=by
  intro h h' he hsd hj0 hj1 ha hal
  obtain⟨A,g1,g2⟩:=zz4 he
  obtain⟨⟨n',A'⟩,g3,-⟩:=zth hj0 hj1
  obtain⟨k,rfl⟩:=Int.eq_ofNat_of_zero_le (show 0≤at' by omega)
  obtain⟨s0,s1,fr,to,-,-,-,-,o,o1,o2,o3⟩:=zvk h h' g1 g2 g3 hsd (show 1≤k by omega) (by have:=hal _ g3; exact Int.ofNat_lt.1 this)
  rw[o1,o2]
  exact ⟨rfl,o3.okR⟩
 unfold zeB
 rw[zdY,Option.bind_some]
 cases h:zeQ a0 L T C with
 | false=>unfold yl; rw[yn,h]; exact bad (k:=1500) rfl rfl
 | true =>
  rw[Bool.not_true,cond_false,zdY,Option.bind_some]
  cases h':zeQ a0 L' T' C' with
  | false=>unfold yl; rw[yn,h,Option.bind_some,yn,h']; exact bad (k:=1500) rfl rfl
  | true =>
   have hL:∀ l∈L,zdC a0 l.2=true:=fun l hl=>List.all_eq_true.1 (za7 h).2.2.2.2.1 l hl
   rw[Bool.not_true,cond_false,zki hL,Option.bind_some]
   cases he:eqB L i false with
   | false=>unfold yl; rw[yn,h,Option.bind_some,yn,h',Option.bind_some,zaK hL,he]; exact bad (k:=1500) rfl rfl
   | true =>
    rw[Bool.not_true,cond_false]
    have refl:∀{b:Bool},(decide (side<0)||decide (side>1))=b→yl a0 L T C i side L' T' C' j at'=cond b (zcL 1500) (yl a0 L T C i side L' T' C' j at'):=by
     intro b hb
     cases b with
     | false=>rfl
     | true =>
      unfold yl
      rw[yn,h,Option.bind_some,yn,h',Option.bind_some,zaK hL,he]
      simp only[Option.bind_some,Bool.not_true,cond_false]
      cases h1:decide (side<0) with
      | true=>rfl
      | false=>rw[h1,Bool.false_or] at hb; rw[hb]; rfl
    have ref2:(side=0∨side=1)→∀{o:Option zpO},o=cond (decide (j<0)) (zcL 1500) (cond (decide (j≥((List.length L':Nat):Int))) (zcL 1500) (cond (decide (at'<1)) (zcL 1500) ((gx L' j).bind fun e11=>cond (decide (at'≥((List.length e11.2:Nat):Int))) (zcL 1500) ((zdm a0 L T C i side L' T' C' j at').bind fun r12=>some (r12.1,r12.2.1,r12.2.2.1,r12.2.2.2.1,r12.2.2.2.2))))) →
      yl a0 L T C i side L' T' C' j at'=o∧OkR a0 o:=by
     intro hsd o ho
     have hsd1:decide (side<0)=false:=by rcases hsd with rfl | rfl<;>rfl
     have hsd2:decide (side>1)=false:=by rcases hsd with rfl | rfl<;>rfl
     have step:yl a0 L T C i side L' T' C' j at'=cond (!q9 L' j) (zcL 1500) (cond (decide (at'<1)) (zcL 1500) ((gx L' j).bind fun e=>cond (decide (at'≥((List.length e.2:Nat):Int))) (zcL 1500) (yl a0 L T C i side L' T' C' j at'))):=by
      cases hp:q9 L' j with
      | false=>unfold yl; rw[yn,h,Option.bind_some,yn,h',Option.bind_some,zaK hL,he,zhq,hp,hsd1,hsd2]; rfl
      | true =>
       rw[Bool.not_true,cond_false]
       cases h1:decide (at'<1) with
       | true=>unfold yl; rw[yn,h,Option.bind_some,yn,h',Option.bind_some,zaK hL,he,zhq,hp,hsd1,hsd2,h1]; rfl
       | false =>
        obtain⟨l,hg⟩:=zi7 hp
        rw[cond_false,hg,Option.bind_some]
        cases h2:decide (at'≥((List.length l.2:Nat):Int)) with
        | true =>
         rw[cond_true]
         unfold yl
         rw[yn,h,Option.bind_some,yn,h',Option.bind_some,zaK hL,he,zhq,hp,hsd1,hsd2,h1,hg]
         simp only[Option.bind_some,Bool.not_true,cond_false,h2]
         rfl
        | false=>rfl
     rw[ho]
     by_cases j0:j<0
     ·have hp:q9 L' j=false:=by unfold q9; rw[decide_eq_false (show ¬ j≥0 by omega),Bool.false_and]
      rw[decide_eq_true j0]
      refine bad (k:=1500) ?_ rfl
      rw[step,hp]; rfl
     ·rw[decide_eq_false j0,cond_false]
      by_cases j1:j≥((List.length L':Nat):Int)
      ·have hp:q9 L' j=false:=by unfold q9; rw[decide_eq_false (show ¬ j<((List.length L':Nat):Int) by omega),Bool.and_false]
       rw[decide_eq_true j1]
       refine bad (k:=1500) ?_ rfl
       rw[step,hp]; rfl
      ·have hp:q9 L' j=true:=by unfold q9; simp only[Bool.and_eq_true,decide_eq_true_eq]; omega
       rw[decide_eq_false j1,cond_false]
       by_cases a1:at'<1
       ·rw[decide_eq_true a1]
        refine bad (k:=1500) ?_ rfl
        rw[step,hp,decide_eq_true a1]; rfl
       ·obtain⟨l,hg⟩:=zi7 hp
        rw[decide_eq_false a1,cond_false,hg,Option.bind_some]
        by_cases a2:at'≥((List.length l.2:Nat):Int)
        ·rw[decide_eq_true a2]
         refine bad (k:=1500) ?_ rfl
         rw[step,hp,decide_eq_false a1,hg,Option.bind_some,decide_eq_true a2]; rfl
        ·rw[decide_eq_false a2,cond_false,zLe]
         exact key h h' he hsd (by omega) (by omega) (by omega) fun l2 hl2=>by
          rw[hg] at hl2; injection hl2 with hl2; subst hl2; omega
    by_cases s0:side=0
    ·rw[show (side != 0)=false by simp [s0],cond_false]
     exact ref2 (.inl s0) rfl
    ·rw[show (side != 0)=true by simp [s0],cond_true]
     by_cases s1:side=1
     ·rw[show (side != 1)=false by simp [s1],cond_false]
      exact ref2 (.inr s1) rfl
     ·rw[show (side != 1)=true by simp [s1],cond_true]
      refine bad (k:=1500) ?_ rfl
      rw[refl (b:=true) (by simp only[Bool.or_eq_true,decide_eq_true_eq]; omega)]
      rfl
end
end Go.Abs.Q
namespace Go.Abs.Q
open Go Go.Abs
section
section
variable {a0:List zm} {L:List zg} (hL:∀ l∈L,zdC a0 l.2=true) (T:List jI) (C:List zg)
include hL
end
end
end Go.Abs.Q
namespace Go.Abs.Q
open Go Go.Abs
section
variable (a0:List zm) (L:List zg) (T:List jI) (C:List zg) (a b:Int) (L':List zg) (T':List jI) (C':List zg)
def zIn (j:Int):Nat:=match gx L' j with
 | some l=>l.2.length
 | none=>0
variable {a0 L T C a b L' T' C'} (h:zeQ a0 L T C=true) (h':zeQ a0 L' T' C'=true)
include h h'
end
end Go.Abs.Q
namespace Go.Abs.Q
open Go Go.Abs
section
section
variable {a0:List zm} {L:List zg} {T:List jI} {C:List zg} {a b:Int} {L':List zg} {T':List jI} {C':List zg} (h:zeQ a0 L T C=true) (h':zeQ a0 L' T' C'=true)
 {P:zKu→Prop} (hP:∀(i side j:Int) (at':Nat) (r:zpO),eqB L i false=true→(side=0∨side=1)→0≤j→j<L'.length→1≤at'→at'<zIn L' j→zeB a0 L T C i side L' T' C' j (at':Int)=some r→r.2.2.1=true→r.2.2.2.1=0→zeQ a0 r.1 r.2.1 r.2.2.2.2=true→zi6 r.1 r.2.1 r.2.2.2.2→P (3,a,i,side,b,j,(at':Int),r.1,r.2.1,r.2.2.2.2))
include h h' hP
end
theorem zmA:zhV=some true:=by kernel_rfl
theorem zks (a0:List zm) (L:List zg) (T:List jI) (C:List zg) (i side:Int) (L':List zg) (T':List jI) (C':List zg) (j at':Int) (hc:qr L T C=some (L,T,C)∧zi6 L T C) (hc':qr L' T' C'=some (L',T',C')∧zi6 L' T' C') :
  zbq a0 L T C i side L' T' C' j at'=some true:=by
 unfold zbq
 have hnum:∀ k:Int,zeJ k=some k:=fun k=>rfl
 obtain⟨e1,r,e2,e3,-⟩:=zuV a0 L T C i side L' T' C' j at'
 have hs:=hc.2
 have hs':=hc'.2
 unfold zi6 at hs hs' e3
 rw[hc.1,Option.bind_some,hc'.1,Option.bind_some,e1,e2,Option.bind_some,Option.bind_some,e3,Option.bind_some]
 simp only[Bool.not_true,cond_false,beq_self_eq_true,hnum,Option.bind_some,bne_self_eq_false,hs,hs',cond_true,zmA]
end
end Go.Abs.Q
namespace Go.Abs.Q
open Go Go.Abs
section
section
variable (a0:List zm) (L:List zg) (T:List jI) (C:List zg) (a:Int)
variable {a0 L T C a} (h:zeQ a0 L T C=true)
include h
end
theorem zqM (x:List zm×List zg×List jI×List zg×Int×Int×List zg×List jI×List zg×Int×Int) (h:wtL [.sl zpN,.sl zdL,.sl (.one (.sl (.one (.int .i64)))),.sl zdL,.int .i64,.int .i64,.sl zdL,.sl (.one (.sl (.one (.int .i64)))),.sl zdL,.int .i64,.int .i64] x≤1048576) :
  zbq x.1 x.2.1 x.2.2.1 x.2.2.2.1 x.2.2.2.2.1 x.2.2.2.2.2.1 x.2.2.2.2.2.2.1 x.2.2.2.2.2.2.2.1 x.2.2.2.2.2.2.2.2.1 x.2.2.2.2.2.2.2.2.2.1 x.2.2.2.2.2.2.2.2.2.2=some true:=by
 have h:Go.Abs.wt (.sl zpN) x.1+(Go.Abs.wt (.sl zdL) x.2.1+(Go.Abs.wt (.sl (.one (.sl (.one (.int .i64))))) x.2.2.1+(Go.Abs.wt (.sl zdL) x.2.2.2.1+(Go.Abs.wt (.int .i64) x.2.2.2.2.1+(Go.Abs.wt (.int .i64) x.2.2.2.2.2.1+(Go.Abs.wt (.sl zdL) x.2.2.2.2.2.2.1+(Go.Abs.wt (.sl (.one (.sl (.one (.int .i64))))) x.2.2.2.2.2.2.2.1+(Go.Abs.wt (.sl zdL) x.2.2.2.2.2.2.2.2.1+(Go.Abs.wt (.int .i64) x.2.2.2.2.2.2.2.2.2.1+Go.Abs.wt (.int .i64) x.2.2.2.2.2.2.2.2.2.2)))))))))≤1048576:=h
 exact zks _ _ _ _ _ _ _ _ _ _ _ (zyl (by omega) (by omega) (by omega)) (zyl (by omega) (by omega) (by omega))
end
end Go.Abs.Q
namespace Go.Abs.Q
open Go Go.Abs
section
theorem zqe {m:Int} {nums:List Int} {env:Nat→Int}:(ts:List Tm)→zpM m nums env ts=ts.map (zob m nums env)
 | []=>rfl
 | t::ts=>by rw[zpM,zqe ts]; rfl
theorem RT.val {m:Int} {nums:List Int} {env:Nat→Int} {t u a b:Tm} (h:RT t u a b) (hv:zob m nums env t=zob m nums env u):zob m nums env a=zob m nums env b:=by
 induction h with
 | here=>exact hv
 | arg c l r h ih=>simp only[zob,zqe,List.map_append,List.map_cons,ih]
theorem RR.val {m:Int} {nums:List Int} {env:Nat→Int} {t u:Tm} {ts us:List Tm} (h:RR t u ts us) (hv:zob m nums env t=zob m nums env u):zpM m nums env ts=zpM m nums env us:=by
 obtain⟨l,a,b,r,rfl,rfl,h⟩:=h
 simp only[zqe,List.map_append,List.map_cons,h.val hv]
section
variable {m:Nat} (hm:0<m) (hm3:m≤3) {nums:List Int} (hn:zoN nums) {a0:List zm} (hs:SignOk a0)
include hm hm3 hn hs
end
end
end Go.Abs.Q
namespace Go.Abs.Q
open Go Go.Abs
section
end
end Go.Abs.Q
namespace Go.Abs.Q
open Go Go.Abs
section
end
end Go.Abs.Q
