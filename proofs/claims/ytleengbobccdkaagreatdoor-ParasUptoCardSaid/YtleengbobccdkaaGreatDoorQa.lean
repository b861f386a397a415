import Derived.Test.YtleengbobccdkaaGreatDoorFc
/-
  What the functions make of plain values, and what the law says of that.
-/
namespace Go.Abs.Q
open Go Go.Abs
abbrev zm:=Str×Int×Int×Int
abbrev zpN:Tys:=.cons .str (.cons (.int .i64) (.cons (.int .i64) (.one (.int .i64))))
abbrev zg:=Bool×List Int
abbrev zdL:Tys:=.cons .bool (.one (.sl (.one (.int .i64))))
abbrev jR:=List (List Int)
abbrev jI:=List Int
abbrev jQ:=List zg
abbrev jS:=List zm
abbrev jT:=List (Int×Int×Int×Int×Int×Int×Int×jQ×jR×jQ)
abbrev jU:=Int×Int×Int×Int×Int×Int×Int×jQ×jR×jQ
def zd8 (a0:Int):Option Bool :=
 cond (decide (a0≥97))
 (some (decide (a0≤122)))
 (some false)
def zba (rec:(Str×Int×Int)→Option (Unit⊕Bool)) (x:(Str×Int×Int)):Option (Unit⊕Bool) :=
 cond (decide (x.2.2<x.2.1))
 ((gx x.1 x.2.2).bind fun c7 =>
  (zd8 ((UInt8.toNat c7:Nat):Int)).bind fun r8 =>
  cond (!r8)
  ((gx x.1 x.2.2).bind fun c9 =>
   cond (decide (((UInt8.toNat c9:Nat):Int)<48))
   (some (Sum.inr false))
   ((gx x.1 x.2.2).bind fun c10 =>
    cond (decide (((UInt8.toNat c10:Nat):Int)>57))
    (some (Sum.inr false))
    (rec (x.1,x.2.1,(IntKind.wrap .i64 (x.2.2+1))))))
  (rec (x.1,x.2.1,(IntKind.wrap .i64 (x.2.2+1)))))
 (some (Sum.inl ()))
def zfu (a0:Str):Option Bool :=
 cond (a0==([]:Str))
 (some false)
 (cond (decide (((List.length a0:Nat):Int)>8))
  (some false)
  ((gx a0 0).bind fun c14 =>
   (zd8 ((UInt8.toNat c14:Nat):Int)).bind fun r15 =>
   cond (!r15)
   (some false)
   (((lp zba zd) (a0,((List.length a0:Nat):Int),0)).bind fun r16 =>
    qb r16
    (fun _z17=>some true)
    (fun z18=>some z18))))
def zek (a0:Str) (a1:Int) (a2:Int) (a3:Int):Option Bool :=
 (zfu a0).bind fun r2 =>
 cond r2
 (cond (decide (a1≥0))
  (cond (decide (a1≤2))
   (cond (decide (a2≥0))
    (cond (decide (a2≤3))
     (cond (decide (a3≥1))
      (some (decide (a3≤20)))
      (some false))
     (some false))
    (some false))
   (some false))
  (some false))
 (some false)
def zca (rec:(jS×Str×Int×Int)→Option (Unit⊕Int)) (x:(jS×Str×Int×Int)):Option (Unit⊕Int) :=
 cond (decide (x.2.2.2<x.2.2.1))
 ((gx x.1 x.2.2.2).bind fun e2 =>
  cond (e2.1==x.2.1)
  (some (Sum.inr x.2.2.2))
  (rec (x.1,x.2.1,x.2.2.1,(IntKind.wrap .i64 (x.2.2.2+1)))))
 (some (Sum.inl ()))
def zg9 (a0:jS) (a1:Str):Option Int :=
 ((lp zca zd) (a0,a1,((List.length a0:Nat):Int),0)).bind fun r6 =>
 qb r6
 (fun _z7=>some (-1))
 (fun z8=>some z8)
def zbV (rec:(jS×Int)→Option (Unit⊕Bool)) (x:(jS×Int)):Option (Unit⊕Bool) :=
 cond (decide (x.2<((List.length x.1:Nat):Int)))
 ((gx x.1 x.2).bind fun e6 =>
  (zek e6.1 e6.2.1 e6.2.2.1 e6.2.2.2).bind fun r7 =>
  cond (!r7)
  (some (Sum.inr false))
  ((gx x.1 x.2).bind fun e8 =>
   (zg9 x.1 e8.1).bind fun r9 =>
   cond (r9 != x.2)
   (some (Sum.inr false))
   (rec (x.1,(IntKind.wrap .i64 (x.2+1))))))
 (some (Sum.inl ()))
def zhB (a0:jS):Option Bool :=
 cond (decide (((List.length a0:Nat):Int)<1))
 (some false)
 (cond (decide (((List.length a0:Nat):Int)>20))
  (some false)
  ((gx a0 0).bind fun e13 =>
   cond (!(cond (eqS e13.1 [61]) (cond (eqI e13.2.1 0) (cond (eqI e13.2.2.1 2) (cond (eqI e13.2.2.2 1) true false) false) false) false))
   (some false)
   (((lp zbV zd) (a0,1)).bind fun r14 =>
    qb r14
    (fun _z15=>some true)
    (fun z16=>some z16))))
def zgB (a0:(Option jI)):Option jI :=
 cond (Option.isNone a0)
 (some ([]:jI))
 (cond (yB (List.length ([]:List Int)+List.length (Option.getD a0 [])) 8)
  (some (([]:List Int)++(Option.getD a0 [])))
  (none))
def zml:Option jI :=
 some ([]:jI)
def zbz (a0:jI):Option jI:=zgB (some a0)
def zT (a0:Int):Option Int :=
 some (IntKind.wrap .i64 ((-1) - a0))
def zhg (a0:jS) (a1:Int):Option (Int×Bool) :=
 cond (decide (a1<0))
 ((zT 23).bind fun r4 =>
  some (0,(decide (a1≥r4))))
 (cond (decide (a1≥((List.length a0:Nat):Int)))
  (some (0,false))
  ((gx a0 a1).bind fun e5 =>
   cond (e5.2.1==0)
   (some (0,false))
   ((gx a0 a1).bind fun e6 =>
    some (e6.2.2.1,true))))
def zbv (rec:(jS×jI×Int×Int)→Option (Int×Bool)) (x:(jS×jI×Int×Int)):Option (Int×Bool) :=
 cond (decide (x.2.2.1≥((List.length x.2.1:Nat):Int)))
 (some (0,false))
 ((gx x.2.1 x.2.2.1).bind fun e5 =>
  (zhg x.1 e5).bind fun r6 =>
  cond (!r6.2)
  (some (0,false))
  (cond (decide ((IntKind.wrap .i64 (x.2.2.2+(IntKind.wrap .i64 (r6.1 - 1))))>0))
   (rec (x.1,x.2.1,(IntKind.wrap .i64 (x.2.2.1+1)),(IntKind.wrap .i64 (x.2.2.2+(IntKind.wrap .i64 (r6.1 - 1))))))
   (some ((IntKind.wrap .i64 (x.2.2.1+1)),true))))
def zcu (a0:jS) (a1:jI) (a2:Int):Option (Int×Bool) :=
 cond (decide (a2≥((List.length a1:Nat):Int)))
 (some (0,false))
 ((gx a1 a2).bind fun e8 =>
  (zhg a0 e8).bind fun r9 =>
  cond (!r9.2)
  (some (0,false))
  (cond (decide ((IntKind.wrap .i64 (1+(IntKind.wrap .i64 (r9.1 - 1))))>0))
   ((((lp zbv zd) (a0,a1,(IntKind.wrap .i64 (a2+1)),(IntKind.wrap .i64 (1+(IntKind.wrap .i64 (r9.1 - 1))))))).bind fun r10 =>
    some (r10.1,r10.2))
   (some ((IntKind.wrap .i64 (a2+1)),true))))
def zbQ (rec:(jS×jI×Int×jI)→Option zg) (x:(jS×jI×Int×jI)):Option zg :=
 cond (x.2.2.1==((List.length x.2.1:Nat):Int))
 (some (true,x.2.2.2))
 ((zcu x.1 x.2.1 x.2.2.1).bind fun r4 =>
  cond (!r4.2)
  (some (false,([]:jI)))
  (cond (yB (List.length x.2.2.2+List.length ([x.2.2.1]:List Int)) 8)
   (rec (x.1,x.2.1,r4.1,(x.2.2.2++([x.2.2.1]:List Int))))
   (none)))
def zc0 (a0:jS) (a1:jI):Option zg :=
 (zhB a0).bind fun r6 =>
 cond (!r6)
 (some (false,([]:jI)))
 (cond (decide (((List.length a1:Nat):Int)>48))
  (some (false,([]:jI)))
  (cond (0==((List.length a1:Nat):Int))
   (some (true,([]:jI)))
   ((zcu a0 a1 0).bind fun r7 =>
    cond (!r7.2)
    (some (false,([]:jI)))
    (cond (yB (List.length ([0]:List Int)) 8)
     ((((lp zbQ zd) (a0,a1,r7.1,([0]:List Int)))).bind fun r8 =>
      some (r8.1,r8.2))
     (none)))))
def za2 (a0:jS) (a1:jI):Option Bool :=
 cond (((List.length a1:Nat):Int)==0)
 (some false)
 ((gx a1 0).bind fun e9 =>
  cond (decide (e9<0))
  (some false)
  ((gx a1 0).bind fun e10 =>
   cond (decide (e10≥((List.length a0:Nat):Int)))
   (some false)
   ((gx a1 0).bind fun e11 =>
    (gx a0 e11).bind fun e12 =>
    cond (e12.2.1 != 0)
    (some false)
    ((zbR a1 (some 1) none).bind fun y13 =>
     (zc0 a0 y13).bind fun r14 =>
     cond r14.1
     ((gx a1 0).bind fun e15 =>
      (gx a0 e15).bind fun e16 =>
      some (((List.length r14.2:Nat):Int)==e16.2.2.1))
     (some false)))))
def zig (a0:jS) (_a1:Bool) (a2:jI):Option Bool :=
 (za2 a0 a2).bind fun r2 =>
 some r2
def qT (rec:(jS×Int×jQ×Int×Int)→Option (Int⊕(Int×Bool))) (x:(jS×Int×jQ×Int×Int)):Option (Int⊕(Int×Bool)) :=
 cond (decide (x.2.2.2.2<x.2.2.2.1))
 ((gx x.2.2.1 x.2.2.2.2).bind fun e3 =>
  (zig x.1 e3.1 e3.2).bind fun r4 =>
  cond (!r4)
  (some (Sum.inr (0,false)))
  (rec (x.1,(IntKind.wrap .i64 (x.2.1+((List.length e3.2:Nat):Int))),x.2.2.1,x.2.2.2.1,(IntKind.wrap .i64 (x.2.2.2.2+1)))))
 (some (Sum.inl x.2.1))
def zbO (a0:jS) (a1:jQ):Option (Int×Bool) :=
 ((lp qT zd) (a0,0,a1,((List.length a1:Nat):Int),0)).bind fun r8 =>
 qb r8
 (fun z9=>some (z9,true))
 (fun z10=>some (z10.1,z10.2))
def zf0 (a0:jS) (a1:jI):Option (Int×Int) :=
 (zc0 a0 a1).bind fun r2 =>
 cond (!r2.1)
 (some (0,200))
 (some (((List.length r2.2:Nat):Int),0))
def qR (rec:(jS×Int×Int×jR×Int×Int)→Option (Int⊕(Int×Bool))) (x:(jS×Int×Int×jR×Int×Int)):Option (Int⊕(Int×Bool)) :=
 cond (decide (x.2.2.2.2.2<x.2.2.2.2.1))
 ((gx x.2.2.2.1 x.2.2.2.2.2).bind fun e3 =>
  (zf0 x.1 e3).bind fun r4 =>
  cond (x.2.2.2.2.2==0)
  (cond (r4.2 != 0)
   (some (Sum.inr (0,false)))
   (cond (r4.1 != r4.1)
    (some (Sum.inr (0,false)))
    (rec (x.1,(IntKind.wrap .i64 (x.2.1+((List.length e3:Nat):Int))),r4.1,x.2.2.2.1,x.2.2.2.2.1,(IntKind.wrap .i64 (x.2.2.2.2.2+1))))))
  (cond (r4.2 != 0)
   (some (Sum.inr (0,false)))
   (cond (r4.1 != x.2.2.1)
    (some (Sum.inr (0,false)))
    (rec (x.1,(IntKind.wrap .i64 (x.2.1+((List.length e3:Nat):Int))),x.2.2.1,x.2.2.2.1,x.2.2.2.2.1,(IntKind.wrap .i64 (x.2.2.2.2.2+1)))))))
 (some (Sum.inl x.2.1))
def zdl (a0:jS) (a1:jR):Option (Int×Bool) :=
 ((lp qR zd) (a0,0,0,a1,((List.length a1:Nat):Int),0)).bind fun r8 =>
 qb r8
 (fun z9=>some (z9,true))
 (fun z10=>some (z10.1,z10.2))
def zaM (a0:jS) (a1:jQ) (a2:jR) (a3:jQ):Option Bool :=
 (zhB a0).bind fun r5 =>
 cond (!r5)
 (some false)
 (cond (decide (((List.length a1:Nat):Int)>5))
  (some false)
  (cond (decide (((List.length a2:Nat):Int)>3))
   (some false)
   (cond (decide (((List.length a3:Nat):Int)>3))
    (some false)
    ((zbO a0 a1).bind fun r6 =>
     (zdl a0 a2).bind fun r7 =>
     (zbO a0 a3).bind fun r8 =>
     cond r6.2
     (cond r7.2
      (cond r8.2
       (some (decide ((IntKind.wrap .i64 ((IntKind.wrap .i64 (r6.1+r7.1))+r8.1))≤240)))
       (some false))
      (some false))
     (some false)))))
def zaO (rec:(jI×jI×Int×Int)→Option (Unit⊕Bool)) (x:(jI×jI×Int×Int)):Option (Unit⊕Bool) :=
 cond (decide (x.2.2.2<x.2.2.1))
 ((gx x.1 x.2.2.2).bind fun e3 =>
  (gx x.2.1 x.2.2.2).bind fun e4 =>
  cond (e3 != e4)
  (some (Sum.inr false))
  (rec (x.1,x.2.1,x.2.2.1,(IntKind.wrap .i64 (x.2.2.2+1)))))
 (some (Sum.inl ()))
def yq (a0:jI) (a1:jI):Option Bool :=
 cond (((List.length a0:Nat):Int) != ((List.length a1:Nat):Int))
 (some false)
 (((lp zaO zd) (a0,a1,((List.length a0:Nat):Int),0)).bind fun r8 =>
  qb r8
  (fun _z9=>some true)
  (fun z10=>some z10))
def zkw (a0:Bool) (a1:jI) (a2:Bool) (a3:jI):Option Bool :=
 cond (a0==a2)
 ((yq a1 a3).bind fun r2 =>
  some r2)
 (some false)
def zdi (a0:Bool) (a1:jI) (a2:Bool) (a3:jI):Option Bool :=
 (zkw a2 a3 a0 a1).bind fun r2 =>
 some r2
def qm (rec:(jQ×Int×Int×Bool×jI)→Option (Unit⊕Int)) (x:(jQ×Int×Int×Bool×jI)):Option (Unit⊕Int) :=
 cond (decide (x.2.2.1<x.2.1))
 ((gx x.1 x.2.2.1).bind fun e3 =>
  (zdi e3.1 e3.2 x.2.2.2.1 x.2.2.2.2).bind fun r4 =>
  cond r4
  (some (Sum.inr x.2.2.1))
  (rec (x.1,x.2.1,(IntKind.wrap .i64 (x.2.2.1+1)),x.2.2.2.1,x.2.2.2.2)))
 (some (Sum.inl ()))
def zdP (a0:jQ) (a1:Bool) (a2:jI):Option Int :=
 ((lp qm zd) (a0,((List.length a0:Nat):Int),0,a1,a2)).bind fun r8 =>
 qb r8
 (fun _z9=>some (-1))
 (fun z10=>some z10)
def qZ (a0:jQ) (a1:Bool) (a2:jI):Option Bool :=
 (zdP a0 a1 a2).bind fun r2 =>
 some (decide (r2≥0))
def zbj (rec:(jQ×Int×Int×jQ)→Option jQ) (x:(jQ×Int×Int×jQ)):Option jQ :=
 cond (decide (x.2.2.1<x.2.1))
 ((gx x.1 x.2.2.1).bind fun e5 =>
  (qZ x.2.2.2 e5.1 e5.2).bind fun r6 =>
  cond (!r6)
  (cond (yB (List.length x.2.2.2+List.length ([(e5.1,e5.2)]:List zg)) 32)
   (rec (x.1,x.2.1,(IntKind.wrap .i64 (x.2.2.1+1)),(x.2.2.2++([(e5.1,e5.2)]:List zg))))
   (none))
  (rec (x.1,x.2.1,(IntKind.wrap .i64 (x.2.2.1+1)),x.2.2.2)))
 (some x.2.2.2)
def zet (a0:jQ):Option jQ :=
 ((lp zbj zd) (a0,((List.length a0:Nat):Int),0,([]:jQ))).bind fun r8 =>
 some r8
def zdk (a0:jI) (a1:jI):Option Bool :=
 (yq a1 a0).bind fun r2 =>
 some r2
def yK (rec:(jR×Int×Int×jI)→Option (Unit⊕Int)) (x:(jR×Int×Int×jI)):Option (Unit⊕Int) :=
 cond (decide (x.2.2.1<x.2.1))
 ((gx x.1 x.2.2.1).bind fun e3 =>
  (zdk e3 x.2.2.2).bind fun r4 =>
  cond r4
  (some (Sum.inr x.2.2.1))
  (rec (x.1,x.2.1,(IntKind.wrap .i64 (x.2.2.1+1)),x.2.2.2)))
 (some (Sum.inl ()))
def zcI (a0:jR) (a1:jI):Option Int :=
 ((lp yK zd) (a0,((List.length a0:Nat):Int),0,a1)).bind fun r8 =>
 qb r8
 (fun _z9=>some (-1))
 (fun z10=>some z10)
def qu (a0:jR) (a1:jI):Option Bool :=
 (zcI a0 a1).bind fun r2 =>
 some (decide (r2≥0))
def yD (rec:(Int×Int×jI×Int×jI)→Option (jI×Int×jI)) (x:(Int×Int×jI×Int×jI)):Option (jI×Int×jI) :=
 cond (decide (x.2.1<x.1))
 ((inR x.2.1 (List.length x.2.2.2.2)).bind fun k33 =>
  (x.2.2.2.2[k33]?).bind fun x34 =>
  cond (decide (x34≥0))
  (rec (x.1,(IntKind.wrap .i64 (x.2.1+1)),x.2.2.1,x.2.2.2.1,x.2.2.2.2))
  ((zT x34).bind fun r35 =>
   (inR r35 24).bind fun k36 =>
   (x.2.2.1[k36]?).bind fun x37 =>
   cond (x37==0)
   ((zT x34).bind fun r38 =>
    (inR r38 24).bind fun k39 =>
    (x.2.2.1[k39]?).bind fun _x40 =>
    (zT x34).bind fun r41 =>
    (inR r41 24).bind fun k42 =>
    ((List.set x.2.2.1 k39 (IntKind.wrap .i64 (x.2.2.2.1+1)))[k42]?).bind fun x43 =>
    (inR x.2.1 (List.length x.2.2.2.2)).bind fun k44 =>
    (x.2.2.2.2[k44]?).bind fun _x45 =>
    rec (x.1,(IntKind.wrap .i64 (x.2.1+1)),(List.set x.2.2.1 k39 (IntKind.wrap .i64 (x.2.2.2.1+1))),(IntKind.wrap .i64 (x.2.2.2.1+1)),(List.set x.2.2.2.2 k44 (zFC .i64 x43))))
   ((zT x34).bind fun r46 =>
    (inR r46 24).bind fun k47 =>
    (x.2.2.1[k47]?).bind fun x48 =>
    (inR x.2.1 (List.length x.2.2.2.2)).bind fun k49 =>
    (x.2.2.2.2[k49]?).bind fun _x50 =>
    rec (x.1,(IntKind.wrap .i64 (x.2.1+1)),x.2.2.1,x.2.2.2.1,(List.set x.2.2.2.2 k49 (zFC .i64 x48))))))
 (some (x.2.2.1,x.2.2.2.1,x.2.2.2.2))
def yz (a0:jI) (a1:jI) (a2:Int):Option (jI×jI×Int) :=
 (zbz a0).bind fun r52 =>
 ((lp yD zd) (((List.length r52:Nat):Int),0,a1,a2,r52)).bind fun r53 =>
 cond (Nat.beq (List.length a1) (List.length r53.1)&&true)
 (some (r53.2.2,r53.1,r53.2.1))
 (none)
def zam (rec:(jQ×Int×Int×jI×Int×jQ×jR×jQ)→Option (jI×Int×jQ×jR×jQ)) (x:(jQ×Int×Int×jI×Int×jQ×jR×jQ)):Option (jI×Int×jQ×jR×jQ) :=
 cond (decide (x.2.2.1<x.2.1))
 ((gx x.1 x.2.2.1).bind fun e19 =>
  (yz e19.2 x.2.2.2.1 x.2.2.2.2.1).bind fun r20 =>
  cond (yB (List.length x.2.2.2.2.2.2.2+List.length ([(e19.1,r20.1)]:List zg)) 32)
  (rec (x.1,x.2.1,(IntKind.wrap .i64 (x.2.2.1+1)),r20.2.1,r20.2.2,x.2.2.2.2.2.1,x.2.2.2.2.2.2.1,(x.2.2.2.2.2.2.2++([(e19.1,r20.1)]:List zg))))
  (none))
 (some (x.2.2.2.1,x.2.2.2.2.1,x.2.2.2.2.2.1,x.2.2.2.2.2.2.1,x.2.2.2.2.2.2.2))
def zal (rec:(jR×Int×Int×jI×Int×jQ×jR×jQ×jQ×jR)→Option (jI×Int×jQ×jR)) (x:(jR×Int×Int×jI×Int×jQ×jR×jQ×jQ×jR)):Option (jI×Int×jQ×jR) :=
 cond (decide (x.2.2.1<x.2.1))
 ((gx x.1 x.2.2.1).bind fun e12 =>
  (yz e12 x.2.2.2.1 x.2.2.2.2.1).bind fun r13 =>
  cond (yB (List.length x.2.2.2.2.2.2.2.2.2+List.length ([r13.1]:List jI)) 24)
  (rec (x.1,x.2.1,(IntKind.wrap .i64 (x.2.2.1+1)),r13.2.1,r13.2.2,x.2.2.2.2.2.1,x.2.2.2.2.2.2.1,x.2.2.2.2.2.2.2.1,x.2.2.2.2.2.2.2.2.1,(x.2.2.2.2.2.2.2.2.2++([r13.1]:List jI))))
  (none))
 (some (x.2.2.2.1,x.2.2.2.2.1,x.2.2.2.2.2.2.2.2.1,x.2.2.2.2.2.2.2.2.2))
def zao (rec:(jQ×Int×Int×jI×Int×jQ×jR×jQ×jQ)→Option (jI×Int×jQ)) (x:(jQ×Int×Int×jI×Int×jQ×jR×jQ×jQ)):Option (jI×Int×jQ) :=
 cond (decide (x.2.2.1<x.2.1))
 ((gx x.1 x.2.2.1).bind fun e5 =>
  (yz e5.2 x.2.2.2.1 x.2.2.2.2.1).bind fun r6 =>
  cond (yB (List.length x.2.2.2.2.2.2.2.2+List.length ([(e5.1,r6.1)]:List zg)) 32)
  (rec (x.1,x.2.1,(IntKind.wrap .i64 (x.2.2.1+1)),r6.2.1,r6.2.2,x.2.2.2.2.2.1,x.2.2.2.2.2.2.1,x.2.2.2.2.2.2.2.1,(x.2.2.2.2.2.2.2.2++([(e5.1,r6.1)]:List zg))))
  (none))
 (some (x.2.2.2.1,x.2.2.2.2.1,x.2.2.2.2.2.2.2.2))
def zfT (a0:jQ) (a1:jR) (a2:jQ) (a3:jI) (a4:Int):Option (jQ×jR×jQ×jI×Int) :=
 ((lp zao zd) (a0,((List.length a0:Nat):Int),0,a3,a4,a0,a1,a2,([]:jQ))).bind fun r22 =>
 ((lp zal zd) (a1,((List.length a1:Nat):Int),0,r22.1,r22.2.1,a0,a1,a2,r22.2.2,([]:jR))).bind fun r23 =>
 ((lp zam zd) (a2,((List.length a2:Nat):Int),0,r23.1,r23.2.1,r23.2.2.1,r23.2.2.2,([]:jQ))).bind fun r24 =>
 cond (Nat.beq (List.length a3) (List.length r24.1)&&true)
 (some (r24.2.2.1,r24.2.2.2.1,r24.2.2.2.2,r24.1,r24.2.1))
 (none)
def zbk (rec:(jR×Int×Int×jQ×jQ×jR)→Option (jQ×jQ×jR)) (x:(jR×Int×Int×jQ×jQ×jR)):Option (jQ×jQ×jR) :=
 cond (decide (x.2.2.1<x.2.1))
 ((gx x.1 x.2.2.1).bind fun e7 =>
  (qu x.2.2.2.2.2 e7).bind fun r8 =>
  cond (!r8)
  (cond (yB (List.length x.2.2.2.2.2+List.length ([e7]:List jI)) 24)
   (rec (x.1,x.2.1,(IntKind.wrap .i64 (x.2.2.1+1)),x.2.2.2.1,x.2.2.2.2.1,(x.2.2.2.2.2++([e7]:List jI))))
   (none))
  (rec (x.1,x.2.1,(IntKind.wrap .i64 (x.2.2.1+1)),x.2.2.2.1,x.2.2.2.2.1,x.2.2.2.2.2)))
 (some (x.2.2.2.1,x.2.2.2.2.1,x.2.2.2.2.2))
def zfL (a0:jQ) (a1:jR) (a2:jQ):Option (jQ×jR×jQ) :=
 (zet a0).bind fun r11 =>
 (zet a2).bind fun r12 =>
 ((lp zbk zd) (a1,((List.length a1:Nat):Int),0,r11,r12,([]:jR))).bind fun r13 =>
 (zfT r13.1 r13.2.2 r13.2.1 (List.replicate 24 (0:Int)) 0).bind fun r14 =>
 some (r14.1,r14.2.1,r14.2.2.1)
def zcz (a0:jS) (a1:jQ) (a2:jR) (a3:jQ):Option (jQ×jR×Int×jQ) :=
 (zaM a0 a1 a2 a3).bind fun r3 =>
 cond (!r3)
 (some (([]:jQ),([]:jR),800,([]:jQ)))
 ((zfL a1 a2 a3).bind fun r4 =>
  some (r4.1,r4.2.1,0,r4.2.2))
def zbN (rec:(jS×jI×Int×jR)→Option (jR⊕jR)) (x:(jS×jI×Int×jR)):Option (jR⊕jR) :=
 cond (decide (x.2.2.1<((List.length x.2.1:Nat):Int)))
 ((zcu x.1 x.2.1 x.2.2.1).bind fun r5 =>
  cond (!r5.2)
  (some (Sum.inr x.2.2.2))
  ((zbR x.2.1 (some x.2.2.1) (some r5.1)).bind fun y6 =>
   cond (yB (List.length x.2.2.2+List.length ([y6]:List jI)) 24)
   (rec (x.1,x.2.1,r5.1,(x.2.2.2++([y6]:List jI))))
   (none)))
 (some (Sum.inl x.2.2.2))
def za1 (a0:jS) (a1:jI):Option jR :=
 ((lp zbN zd) (a0,a1,0,([]:jR))).bind fun r10 =>
 qb r10
 (fun z11=>some z11)
 (fun z12=>some z12)
def zeJ (a0:Int):Option Int :=
 some a0
def zag (rec:(jI×jI×Int)→Option (Unit⊕Bool)) (x:(jI×jI×Int)):Option (Unit⊕Bool) :=
 cond (decide (x.2.2<((List.length x.1:Nat):Int)))
 ((gx x.1 x.2.2).bind fun e3 =>
  (gx x.2.1 x.2.2).bind fun e4 =>
  cond (e3 != e4)
  (some (Sum.inr false))
  (rec (x.1,x.2.1,(IntKind.wrap .i64 (x.2.2+1)))))
 (some (Sum.inl ()))
def zaV (a0:jI) (a1:jI):Option Bool :=
 cond (((List.length a0:Nat):Int) != ((List.length a1:Nat):Int))
 (some false)
 (((lp zag zd) (a0,a1,0)).bind fun r8 =>
  qb r8
  (fun _z9=>some true)
  (fun z10=>some z10))
def zai (rec:(jQ×jQ×Int)→Option (Unit⊕Bool)) (x:(jQ×jQ×Int)):Option (Unit⊕Bool) :=
 cond (decide (x.2.2<((List.length x.1:Nat):Int)))
 ((gx x.1 x.2.2).bind fun e6 =>
  (gx x.2.1 x.2.2).bind fun e7 =>
  cond (!(e6.1==e7.1))
  (some (Sum.inr false))
  ((gx x.1 x.2.2).bind fun e8 =>
   (gx x.2.1 x.2.2).bind fun e9 =>
   (zaV e8.2 e9.2).bind fun r10 =>
   cond (!r10)
   (some (Sum.inr false))
   (rec (x.1,x.2.1,(IntKind.wrap .i64 (x.2.2+1))))))
 (some (Sum.inl ()))
def zcN (a0:jQ) (a1:jQ):Option Bool :=
 cond (((List.length a0:Nat):Int) != ((List.length a1:Nat):Int))
 (some false)
 (((lp zai zd) (a0,a1,0)).bind fun r14 =>
  qb r14
  (fun _z15=>some true)
  (fun z16=>some z16))
def zaj (rec:(jR×jR×Int)→Option (Unit⊕Bool)) (x:(jR×jR×Int)):Option (Unit⊕Bool) :=
 cond (decide (x.2.2<((List.length x.1:Nat):Int)))
 ((gx x.1 x.2.2).bind fun e4 =>
  (gx x.2.1 x.2.2).bind fun e5 =>
  (zaV e4 e5).bind fun r6 =>
  cond (!r6)
  (some (Sum.inr false))
  (rec (x.1,x.2.1,(IntKind.wrap .i64 (x.2.2+1)))))
 (some (Sum.inl ()))
def zd3 (a0:jR) (a1:jR):Option Bool :=
 cond (((List.length a0:Nat):Int) != ((List.length a1:Nat):Int))
 (some false)
 (((lp zaj zd) (a0,a1,0)).bind fun r10 =>
  qb r10
  (fun _z11=>some true)
  (fun z12=>some z12))
def zZ (a0:jQ) (a1:jR) (a2:jQ) (a3:jQ) (a4:jR) (a5:jQ):Option Bool :=
 (zcN a0 a3).bind fun r4 =>
 cond r4
 ((zd3 a1 a4).bind fun r5 =>
  cond r5
  ((zcN a2 a5).bind fun r6 =>
   some r6)
  (some false))
 (some false)
end Go.Abs.Q
namespace Go.Abs.Q
open Go Go.Abs
section
theorem zK {X Y:Type} (s:(X→Option Y)→X→Option Y) (k:Nat):lp s (k+1)=s (lp s k):=rfl
theorem zab {α:Type} (xs:List α) (i:Nat):gx xs (i:Int)=xs[i]? := by
 unfold gx
 rw[show decide ((0:Int)≤(i:Int))=true from by simp]
 rfl
theorem qf {α:Type} (xs:List α):gx xs 0=xs[0]? := zab xs 0
theorem zth {α:Type} {xs:List α} {i:Int} (h0:0≤i) (h:i<xs.length):∃ x,gx xs i=some x∧x∈xs∧xs[i.toNat]? = some x:=by
 have hi:i.toNat<xs.length:=by omega
 refine ⟨xs[i.toNat],?_,List.getElem_mem hi,List.getElem?_eq_getElem hi⟩
 unfold gx
 rw[show decide ((0:Int)≤i)=true from by simp; omega,cond_true,List.getElem?_eq_getElem hi]
theorem qd {i l:Nat} (h:i<l):inR (i:Int) l=some i:=by
 unfold inR
 simp [h]
theorem zt {n:Int} (h1 : -9223372036854775808≤n) (h2:n≤9223372036854775807):IntKind.wrap .i64 n=n:=by
 simp [IntKind.wrap,IntKind.signed,IntKind.bits]
 omega
theorem zjp {i l:Nat} (h:i<l) (hl:l≤maxLen):IntKind.wrap .i64 ((i:Int)+1)=((i+1:Nat):Int):=by
 unfold maxLen at hl
 rw[zt]<;>omega
theorem zih {i l:Nat} (h:i<l):decide ((i:Int)<(l:Int))=true:=by simp [h]
theorem zhD {i l:Nat} (h:l≤i):decide ((i:Int)<(l:Int))=false:=by simp; omega
theorem zb1 {α:Type} {xs:List α} {i:Nat} (h:xs.drop i=[]):xs.length≤i:=by simpa using h
theorem qP {α:Type} {xs es:List α} {e:α} {i:Nat} (h:xs.drop i=e::es):i<xs.length:=by
 rw[← Nat.not_le]
 intro hn
 rw[List.drop_eq_nil_iff.2 hn] at h
 cases h
theorem zB {α:Type} {xs es:List α} {e:α} {i:Nat} (h:xs.drop i=e::es):xs[i]? = some e:=by
 have:=congrArg (·[0]?) h
 simpa using this
theorem zw {α:Type} {xs es:List α} {e:α} {i:Nat} (h:xs.drop i=e::es):xs.drop (i+1)=es:=by
 rw[← List.drop_drop,h]
 rfl
end
end Go.Abs.Q
namespace Go.Abs.Q
open Go Go.Abs
theorem zfg {A R T:Type} {xs:List A} (f:(T→Option R)→T→Option R) (mk:Int→T) (go:List A→Nat→Option R) (hl:List.length xs≤maxLen)
  (h0:∀(r:T→Option R) (i:Nat),decide ((i:Int)<((List.length xs:Nat):Int))=false→f r (mk (i:Int))=go [] i)
  (h1:∀(r:T→Option R) (i:Nat) e es,decide ((i:Int)<((List.length xs:Nat):Int))=true→gx xs (i:Int)=some e→IntKind.wrap .i64 ((i:Int)+1)=((i+1:Nat):Int)→(r (mk ((i+1:Nat):Int))=go es (i+1))→f r (mk (i:Int))=go (e::es) i)
   : lp f zd (mk 0)=go xs 0:=by
 have key:∀(es:List A) (i k:Nat),xs.drop i=es→es.length<k→lp f k (mk (i:Int))=go es i:=by
  intro es
  induction es with
  | nil =>
   intro i k h hk
   obtain⟨k,rfl⟩:∃ k',k=k'+1:=⟨k - 1,by omega⟩
   exact h0 _ i (zhD (zb1 h))
  | cons e es ih =>
   intro i k h hk
   obtain⟨k,rfl⟩:∃ k',k=k'+1:=⟨k - 1,by omega⟩
   have hi:=qP h
   exact h1 _ i e es (zih hi) ((zab xs i).trans (zB h)) (zjp hi hl) (ih (i+1) k (zw h) (Nat.lt_of_succ_lt_succ hk))
 exact key xs 0 zd rfl (Nat.lt_of_le_of_lt hl (by decide))
theorem zac {A S0 R T:Type} {xs:List A} (f:(T→Option R)→T→Option R) (mk:Int→S0→T) (go:List A→Nat→S0→Option R) (hl:List.length xs≤maxLen)
  (h0:∀(r:T→Option R) (i:Nat) s0,decide ((i:Int)<((List.length xs:Nat):Int))=false→f r (mk (i:Int) s0)=go [] i s0)
  (h1:∀(r:T→Option R) (i:Nat) s0 e es,decide ((i:Int)<((List.length xs:Nat):Int))=true→gx xs (i:Int)=some e→IntKind.wrap .i64 ((i:Int)+1)=((i+1:Nat):Int)→(∀ s0,r (mk ((i+1:Nat):Int) s0)=go es (i+1) s0)→f r (mk (i:Int) s0)=go (e::es) i s0)
  (s0:S0):lp f zd (mk 0 s0)=go xs 0 s0:=by
 have key:∀(es:List A) (i k:Nat) s0,xs.drop i=es→es.length<k→lp f k (mk (i:Int) s0)=go es i s0:=by
  intro es
  induction es with
  | nil =>
   intro i k s0 h hk
   obtain⟨k,rfl⟩:∃ k',k=k'+1:=⟨k - 1,by omega⟩
   exact h0 _ i s0 (zhD (zb1 h))
  | cons e es ih =>
   intro i k s0 h hk
   obtain⟨k,rfl⟩:∃ k',k=k'+1:=⟨k - 1,by omega⟩
   have hi:=qP h
   exact h1 _ i s0 e es (zih hi) ((zab xs i).trans (zB h)) (zjp hi hl) (fun s0=>ih (i+1) k s0 (zw h) (Nat.lt_of_succ_lt_succ hk))
 exact key xs 0 zd s0 rfl (Nat.lt_of_le_of_lt hl (by decide))
theorem zI7 {A S0 S1 R T:Type} {xs:List A} (f:(T→Option R)→T→Option R) (mk:Int→S0→S1→T) (go:List A→Nat→S0→S1→Option R) (hl:List.length xs≤maxLen)
  (h0:∀(r:T→Option R) (i:Nat) s0 s1,decide ((i:Int)<((List.length xs:Nat):Int))=false→f r (mk (i:Int) s0 s1)=go [] i s0 s1)
  (h1:∀(r:T→Option R) (i:Nat) s0 s1 e es,decide ((i:Int)<((List.length xs:Nat):Int))=true→gx xs (i:Int)=some e→IntKind.wrap .i64 ((i:Int)+1)=((i+1:Nat):Int)→(∀ s0 s1,r (mk ((i+1:Nat):Int) s0 s1)=go es (i+1) s0 s1)→f r (mk (i:Int) s0 s1)=go (e::es) i s0 s1)
  (s0:S0) (s1:S1):lp f zd (mk 0 s0 s1)=go xs 0 s0 s1:=by
 have key:∀(es:List A) (i k:Nat) s0 s1,xs.drop i=es→es.length<k→lp f k (mk (i:Int) s0 s1)=go es i s0 s1:=by
  intro es
  induction es with
  | nil =>
   intro i k s0 s1 h hk
   obtain⟨k,rfl⟩:∃ k',k=k'+1:=⟨k - 1,by omega⟩
   exact h0 _ i s0 s1 (zhD (zb1 h))
  | cons e es ih =>
   intro i k s0 s1 h hk
   obtain⟨k,rfl⟩:∃ k',k=k'+1:=⟨k - 1,by omega⟩
   have hi:=qP h
   exact h1 _ i s0 s1 e es (zih hi) ((zab xs i).trans (zB h)) (zjp hi hl) (fun s0 s1=>ih (i+1) k s0 s1 (zw h) (Nat.lt_of_succ_lt_succ hk))
 exact key xs 0 zd s0 s1 rfl (Nat.lt_of_le_of_lt hl (by decide))
theorem zzx {A S0 S1 S2 R T:Type} {xs:List A} (f:(T→Option R)→T→Option R) (mk:Int→S0→S1→S2→T) (go:List A→Nat→S0→S1→S2→Option R) (hl:List.length xs≤maxLen)
  (h0:∀(r:T→Option R) (i:Nat) s0 s1 s2,decide ((i:Int)<((List.length xs:Nat):Int))=false→f r (mk (i:Int) s0 s1 s2)=go [] i s0 s1 s2)
  (h1:∀(r:T→Option R) (i:Nat) s0 s1 s2 e es,decide ((i:Int)<((List.length xs:Nat):Int))=true→gx xs (i:Int)=some e→IntKind.wrap .i64 ((i:Int)+1)=((i+1:Nat):Int)→(∀ s0 s1 s2,r (mk ((i+1:Nat):Int) s0 s1 s2)=go es (i+1) s0 s1 s2)→f r (mk (i:Int) s0 s1 s2)=go (e::es) i s0 s1 s2)
  (s0:S0) (s1:S1) (s2:S2):lp f zd (mk 0 s0 s1 s2)=go xs 0 s0 s1 s2:=by
 have key:∀(es:List A) (i k:Nat) s0 s1 s2,xs.drop i=es→es.length<k→lp f k (mk (i:Int) s0 s1 s2)=go es i s0 s1 s2:=by
  intro es
  induction es with
  | nil =>
   intro i k s0 s1 s2 h hk
   obtain⟨k,rfl⟩:∃ k',k=k'+1:=⟨k - 1,by omega⟩
   exact h0 _ i s0 s1 s2 (zhD (zb1 h))
  | cons e es ih =>
   intro i k s0 s1 s2 h hk
   obtain⟨k,rfl⟩:∃ k',k=k'+1:=⟨k - 1,by omega⟩
   have hi:=qP h
   exact h1 _ i s0 s1 s2 e es (zih hi) ((zab xs i).trans (zB h)) (zjp hi hl) (fun s0 s1 s2=>ih (i+1) k s0 s1 s2 (zw h) (Nat.lt_of_succ_lt_succ hk))
 exact key xs 0 zd s0 s1 s2 rfl (Nat.lt_of_le_of_lt hl (by decide))
end Go.Abs.Q
namespace Go.Abs.Q
open Go Go.Abs
def zQ:List UInt8→Option (Unit⊕Bool)
 | []=>some (Sum.inl ())
 | e::es =>
  (zd8 ((UInt8.toNat e:Nat):Int)).bind fun r8 =>
  cond (!r8)
  (cond (decide (((UInt8.toNat e:Nat):Int)<48))
   (some (Sum.inr false))
   (cond (decide (((UInt8.toNat e:Nat):Int)>57))
    (some (Sum.inr false))
    (zQ es)))
  (zQ es)
theorem zg0 (s0:Str) (hl:List.length s0≤maxLen):lp zba zd (s0,((List.length s0:Nat):Int),0)=zQ s0:=zfg zba (fun i=>(s0,((List.length s0:Nat):Int),i)) (fun es i=>zQ es) hl (fun r i h=>by unfold zba zQ; simp only[h,cond_false]) (fun r i e es h g w k=>by unfold zba zQ; simp only[h,cond_true,g,Option.bind_some,w,k])
def yX (s1:Str):List zm→Nat→Option (Unit⊕Int)
 | [],_i=>some (Sum.inl ())
 | e::es,i =>
  cond (e.1==s1)
  (some (Sum.inr (i:Int)))
  (yX s1 es (i+1))
theorem zio (s0:jS) (s1:Str) (hl:List.length s0≤maxLen):lp zca zd (s0,s1,((List.length s0:Nat):Int),0)=yX s1 s0 0:=zfg zca (fun i=>(s0,s1,((List.length s0:Nat):Int),i)) (fun es i=>yX s1 es i) hl (fun r i h=>by unfold zca yX; simp only[h,cond_false]) (fun r i e es h g w k=>by unfold zca yX; simp only[h,cond_true,g,Option.bind_some,w,k])
def zbf (s0:jS):List zm→Nat→Option (Unit⊕Bool)
 | [],_i=>some (Sum.inl ())
 | e::es,i =>
  (zek e.1 e.2.1 e.2.2.1 e.2.2.2).bind fun r7 =>
  cond (!r7)
  (some (Sum.inr false))
  ((zg9 s0 e.1).bind fun r9 =>
   cond (r9 != (i:Int))
   (some (Sum.inr false))
   (zbf s0 es (i+1)))
theorem zjl (s0:jS) (hl:List.length s0≤maxLen):∀(es:List zm) (i:Nat) (k:Nat),s0.drop i=es→es.length<k→lp zbV k (s0,(i:Int))=zbf s0 es i:=by
 intro es
 induction es with
 | nil =>
  intro i k h hk
  obtain⟨k,rfl⟩:∃ k',k=k'+1:=⟨k - 1,by omega⟩
  rw[zK]
  generalize lp zbV k=rec
  unfold zbV zbf
  simp only[zhD (zb1 h),cond_false]
 | cons e es ih =>
  intro i k h hk
  obtain⟨k,rfl⟩:∃ k',k=k'+1:=⟨k - 1,by omega⟩
  rw[zK]
  have hi:=qP h
  have hk2:es.length<k:=Nat.lt_of_succ_lt_succ hk
  have key:=fun (_:Unit)=>ih (i+1) k (zw h) hk2
  generalize lp zbV k=rec at key ⊢
  unfold zbV zbf
  simp only[zih hi,cond_true,zab,zB h,Option.bind_some,zjp hi hl,key ()]
def zS (s0:jS):List zg→Int→Option (Int⊕(Int×Bool))
 | [],s1=>some (Sum.inl s1)
 | e::es,s1 =>
  (zig s0 e.1 e.2).bind fun r4 =>
  cond (!r4)
  (some (Sum.inr (0,false)))
  (zS s0 es (IntKind.wrap .i64 (s1+((List.length e.2:Nat):Int))))
theorem ze3 (s0:jS) (s2:jQ) (s1:Int) (hl:List.length s2≤maxLen):lp qT zd (s0,s1,s2,((List.length s2:Nat):Int),0)=zS s0 s2 s1:=zac qT (fun i s1=>(s0,s1,s2,((List.length s2:Nat):Int),i)) (fun es i s1=>zS s0 es s1) hl (fun r i s1 h=>by unfold qT zS; simp only[h,cond_false]) (fun r i s1 e es h g w k=>by unfold qT zS; simp only[h,cond_true,g,Option.bind_some,w,k]) s1
def zC (s0:jS):List jI→Nat→Int→Int→Option (Int⊕(Int×Bool))
 | [],_i,s1,_s2=>some (Sum.inl s1)
 | e::es,i,s1,s2 =>
  (zf0 s0 e).bind fun r4 =>
  cond ((i:Int)==0)
  (cond (r4.2 != 0)
   (some (Sum.inr (0,false)))
   (cond (r4.1 != r4.1)
    (some (Sum.inr (0,false)))
    (zC s0 es (i+1) (IntKind.wrap .i64 (s1+((List.length e:Nat):Int))) r4.1)))
  (cond (r4.2 != 0)
   (some (Sum.inr (0,false)))
   (cond (r4.1 != s2)
    (some (Sum.inr (0,false)))
    (zC s0 es (i+1) (IntKind.wrap .i64 (s1+((List.length e:Nat):Int))) s2)))
theorem zfj (s0:jS) (s3:jR) (s1:Int) (s2:Int) (hl:List.length s3≤maxLen):lp qR zd (s0,s1,s2,s3,((List.length s3:Nat):Int),0)=zC s0 s3 0 s1 s2:=zI7 qR (fun i s1 s2=>(s0,s1,s2,s3,((List.length s3:Nat):Int),i)) (fun es i s1 s2=>zC s0 es i s1 s2) hl (fun r i s1 s2 h=>by unfold qR zC; simp only[h,cond_false]) (fun r i s1 s2 e es h g w k=>by unfold qR zC; simp only[h,cond_true,g,Option.bind_some,w,k]) s1 s2
def yU (s1:jI):List Int→Nat→Option (Unit⊕Bool)
 | [],_i=>some (Sum.inl ())
 | e::es,i =>
  (gx s1 (i:Int)).bind fun e4 =>
  cond (e != e4)
  (some (Sum.inr false))
  (yU s1 es (i+1))
theorem zgr (s0:jI) (s1:jI) (hl:List.length s0≤maxLen):lp zaO zd (s0,s1,((List.length s0:Nat):Int),0)=yU s1 s0 0:=zfg zaO (fun i=>(s0,s1,((List.length s0:Nat):Int),i)) (fun es i=>yU s1 es i) hl (fun r i h=>by unfold zaO yU; simp only[h,cond_false]) (fun r i e es h g w k=>by unfold zaO yU; simp only[h,cond_true,g,Option.bind_some,w,k])
def zU (s3:Bool) (s4:jI):List zg→Nat→Option (Unit⊕Int)
 | [],_i=>some (Sum.inl ())
 | e::es,i =>
  (zdi e.1 e.2 s3 s4).bind fun r4 =>
  cond r4
  (some (Sum.inr (i:Int)))
  (zU s3 s4 es (i+1))
theorem zex (s0:jQ) (s3:Bool) (s4:jI) (hl:List.length s0≤maxLen):lp qm zd (s0,((List.length s0:Nat):Int),0,s3,s4)=zU s3 s4 s0 0:=zfg qm (fun i=>(s0,((List.length s0:Nat):Int),i,s3,s4)) (fun es i=>zU s3 s4 es i) hl (fun r i h=>by unfold qm zU; simp only[h,cond_false]) (fun r i e es h g w k=>by unfold qm zU; simp only[h,cond_true,g,Option.bind_some,w,k])
def yH:List zg→jQ→Option jQ
 | [],s3=>some s3
 | e::es,s3 =>
  (qZ s3 e.1 e.2).bind fun r6 =>
  cond (!r6)
  (cond (yB (List.length s3+List.length ([(e.1,e.2)]:List zg)) 32)
   (yH es (s3++([(e.1,e.2)]:List zg)))
   (none))
  (yH es s3)
theorem zg2 (s0:jQ) (s3:jQ) (hl:List.length s0≤maxLen):lp zbj zd (s0,((List.length s0:Nat):Int),0,s3)=yH s0 s3:=zac zbj (fun i s3=>(s0,((List.length s0:Nat):Int),i,s3)) (fun es i s3=>yH es s3) hl (fun r i s3 h=>by unfold zbj yH; simp only[h,cond_false]) (fun r i s3 e es h g w k=>by unfold zbj yH; simp only[h,cond_true,g,Option.bind_some,w,k]) s3
def zI (s3:jI):List jI→Nat→Option (Unit⊕Int)
 | [],_i=>some (Sum.inl ())
 | e::es,i =>
  (zdk e s3).bind fun r4 =>
  cond r4
  (some (Sum.inr (i:Int)))
  (zI s3 es (i+1))
theorem zd1 (s0:jR) (s3:jI) (hl:List.length s0≤maxLen):lp yK zd (s0,((List.length s0:Nat):Int),0,s3)=zI s3 s0 0:=zfg yK (fun i=>(s0,((List.length s0:Nat):Int),i,s3)) (fun es i=>zI s3 es i) hl (fun r i h=>by unfold yK zI; simp only[h,cond_false]) (fun r i e es h g w k=>by unfold yK zI; simp only[h,cond_true,g,Option.bind_some,w,k])
def yb (s5:jQ) (s6:jR):List zg→jI→Int→jQ→Option (jI×Int×jQ×jR×jQ)
 | [],s3,s4,s7=>some (s3,s4,s5,s6,s7)
 | e::es,s3,s4,s7 =>
  (yz e.2 s3 s4).bind fun r20 =>
  cond (yB (List.length s7+List.length ([(e.1,r20.1)]:List zg)) 32)
  (yb s5 s6 es r20.2.1 r20.2.2 (s7++([(e.1,r20.1)]:List zg)))
  (none)
theorem zf2 (s0:jQ) (s5:jQ) (s6:jR) (s3:jI) (s4:Int) (s7:jQ) (hl:List.length s0≤maxLen):lp zam zd (s0,((List.length s0:Nat):Int),0,s3,s4,s5,s6,s7)=yb s5 s6 s0 s3 s4 s7:=zzx zam (fun i s3 s4 s7=>(s0,((List.length s0:Nat):Int),i,s3,s4,s5,s6,s7)) (fun es i s3 s4 s7=>yb s5 s6 es s3 s4 s7) hl (fun r i s3 s4 s7 h=>by unfold zam yb; simp only[h,cond_false]) (fun r i s3 s4 s7 e es h g w k=>by unfold zam yb; simp only[h,cond_true,g,Option.bind_some,w,k]) s3 s4 s7
def yc (s8:jQ):List jI→jI→Int→jR→Option (jI×Int×jQ×jR)
 | [],s3,s4,s9=>some (s3,s4,s8,s9)
 | e::es,s3,s4,s9 =>
  (yz e s3 s4).bind fun r13 =>
  cond (yB (List.length s9+List.length ([r13.1]:List jI)) 24)
  (yc s8 es r13.2.1 r13.2.2 (s9++([r13.1]:List jI)))
  (none)
theorem zfx (s0:jR) (s5:jQ) (s6:jR) (s7:jQ) (s8:jQ) (s3:jI) (s4:Int) (s9:jR) (hl:List.length s0≤maxLen):lp zal zd (s0,((List.length s0:Nat):Int),0,s3,s4,s5,s6,s7,s8,s9)=yc s8 s0 s3 s4 s9:=zzx zal (fun i s3 s4 s9=>(s0,((List.length s0:Nat):Int),i,s3,s4,s5,s6,s7,s8,s9)) (fun es i s3 s4 s9=>yc s8 es s3 s4 s9) hl (fun r i s3 s4 s9 h=>by unfold zal yc; simp only[h,cond_false]) (fun r i s3 s4 s9 e es h g w k=>by unfold zal yc; simp only[h,cond_true,g,Option.bind_some,w,k]) s3 s4 s9
def yf:List zg→jI→Int→jQ→Option (jI×Int×jQ)
 | [],s3,s4,s8=>some (s3,s4,s8)
 | e::es,s3,s4,s8 =>
  (yz e.2 s3 s4).bind fun r6 =>
  cond (yB (List.length s8+List.length ([(e.1,r6.1)]:List zg)) 32)
  (yf es r6.2.1 r6.2.2 (s8++([(e.1,r6.1)]:List zg)))
  (none)
theorem zfA (s0:jQ) (s5:jQ) (s6:jR) (s7:jQ) (s3:jI) (s4:Int) (s8:jQ) (hl:List.length s0≤maxLen):lp zao zd (s0,((List.length s0:Nat):Int),0,s3,s4,s5,s6,s7,s8)=yf s0 s3 s4 s8:=zzx zao (fun i s3 s4 s8=>(s0,((List.length s0:Nat):Int),i,s3,s4,s5,s6,s7,s8)) (fun es i s3 s4 s8=>yf es s3 s4 s8) hl (fun r i s3 s4 s8 h=>by unfold zao yf; simp only[h,cond_false]) (fun r i s3 s4 s8 e es h g w k=>by unfold zao yf; simp only[h,cond_true,g,Option.bind_some,w,k]) s3 s4 s8
def yN (s3:jQ) (s4:jQ):List jI→jR→Option (jQ×jQ×jR)
 | [],s5=>some (s3,s4,s5)
 | e::es,s5 =>
  (qu s5 e).bind fun r8 =>
  cond (!r8)
  (cond (yB (List.length s5+List.length ([e]:List jI)) 24)
   (yN s3 s4 es (s5++([e]:List jI)))
   (none))
  (yN s3 s4 es s5)
theorem zgH (s0:jR) (s3:jQ) (s4:jQ) (s5:jR) (hl:List.length s0≤maxLen):lp zbk zd (s0,((List.length s0:Nat):Int),0,s3,s4,s5)=yN s3 s4 s0 s5:=zac zbk (fun i s5=>(s0,((List.length s0:Nat):Int),i,s3,s4,s5)) (fun es i s5=>yN s3 s4 es s5) hl (fun r i s5 h=>by unfold zbk yN; simp only[h,cond_false]) (fun r i s5 e es h g w k=>by unfold zbk yN; simp only[h,cond_true,g,Option.bind_some,w,k]) s5
def yF (s1:jI):List Int→Nat→Option (Unit⊕Bool)
 | [],_i=>some (Sum.inl ())
 | e::es,i =>
  (gx s1 (i:Int)).bind fun e4 =>
  cond (e != e4)
  (some (Sum.inr false))
  (yF s1 es (i+1))
theorem zfy (s0:jI) (s1:jI) (hl:List.length s0≤maxLen):lp zag zd (s0,s1,0)=yF s1 s0 0:=zfg zag (fun i=>(s0,s1,i)) (fun es i=>yF s1 es i) hl (fun r i h=>by unfold zag yF; simp only[h,cond_false]) (fun r i e es h g w k=>by unfold zag yF; simp only[h,cond_true,g,Option.bind_some,w,k])
def yE (s1:jQ):List zg→Nat→Option (Unit⊕Bool)
 | [],_i=>some (Sum.inl ())
 | e::es,i =>
  (gx s1 (i:Int)).bind fun e7 =>
  cond (!(e.1==e7.1))
  (some (Sum.inr false))
  ((gx s1 (i:Int)).bind fun e9 =>
   (zaV e.2 e9.2).bind fun r10 =>
   cond (!r10)
   (some (Sum.inr false))
   (yE s1 es (i+1)))
theorem zfQ (s0:jQ) (s1:jQ) (hl:List.length s0≤maxLen):lp zai zd (s0,s1,0)=yE s1 s0 0:=zfg zai (fun i=>(s0,s1,i)) (fun es i=>yE s1 es i) hl (fun r i h=>by unfold zai yE; simp only[h,cond_false]) (fun r i e es h g w k=>by unfold zai yE; simp only[h,cond_true,g,Option.bind_some,w,k])
def yC (s1:jR):List jI→Nat→Option (Unit⊕Bool)
 | [],_i=>some (Sum.inl ())
 | e::es,i =>
  (gx s1 (i:Int)).bind fun e5 =>
  (zaV e e5).bind fun r6 =>
  cond (!r6)
  (some (Sum.inr false))
  (yC s1 es (i+1))
theorem zf7 (s0:jR) (s1:jR) (hl:List.length s0≤maxLen):lp zaj zd (s0,s1,0)=yC s1 s0 0:=zfg zaj (fun i=>(s0,s1,i)) (fun es i=>yC s1 es i) hl (fun r i h=>by unfold zaj yC; simp only[h,cond_false]) (fun r i e es h g w k=>by unfold zaj yC; simp only[h,cond_true,g,Option.bind_some,w,k])
end Go.Abs.Q
namespace Go.Abs.Q
open Go Go.Abs
section
def ziY (n:Int):Bool:=decide (97≤n)&&decide (n≤122)
theorem zdZ (n:Int):zd8 n=some (ziY n):=by
 unfold zd8 ziY
 by_cases h:n≥97<;>simp [h]
def ztt (e:UInt8):Bool:=ziY ((UInt8.toNat e:Nat):Int)||(decide (48≤((UInt8.toNat e:Nat):Int))&&decide (((UInt8.toNat e:Nat):Int)≤57))
theorem zpA (es:List UInt8):zQ es=some (cond (es.all ztt) (.inl ()) (.inr false)):=by
 induction es with
 | nil=>rfl
 | cons e es ih =>
  unfold zQ
  rw[zdZ,Option.bind_some,ih,List.all_cons]
  unfold ztt
  cases h:ziY ((UInt8.toNat e:Nat):Int) with
  | true=>simp
  | false =>
   by_cases h1:((UInt8.toNat e:Nat):Int)<48
   ·have:¬(48≤((UInt8.toNat e:Nat):Int)):=by omega
    simp only[Bool.not_false,cond_true,decide_eq_true h1,decide_eq_false this,Bool.false_and,Bool.or_false,cond_false]
   ·have h3:48≤((UInt8.toNat e:Nat):Int):=by omega
    by_cases h2:((UInt8.toNat e:Nat):Int)>57
    ·have:¬(((UInt8.toNat e:Nat):Int)≤57):=by omega
     simp only[Bool.not_false,cond_true,decide_eq_false h1,decide_eq_true h2,decide_eq_false this,Bool.and_false,Bool.false_and,Bool.or_false,cond_false]
    ·have h4:((UInt8.toNat e:Nat):Int)≤57:=by omega
     simp only[Bool.not_false,cond_true,decide_eq_false h1,decide_eq_false h2,decide_eq_true h3,decide_eq_true h4,Bool.and_true,Bool.true_and,Bool.or_true,cond_false]
def zgX (s:Str):Bool:=match s with
 | []=>false
 | c::_=>decide (s.length≤8)&&ziY ((UInt8.toNat c:Nat):Int)&&s.all ztt
theorem zmj (s:Str):zfu s=some (zgX s):=by
 unfold zfu zgX
 cases s with
 | nil=>rfl
 | cons c r =>
  rw[show ((c::r:Str)==([]:Str))=false from rfl,cond_false]
  by_cases h:(c::r).length≤8
  ·have h1:¬(((List.length (c::r):Nat):Int)>8):=by omega
   rw[decide_eq_false h1,cond_false,qf,List.getElem?_cons_zero,Option.bind_some,zdZ,Option.bind_some,zg0 _ (by unfold maxLen; omega),zpA,decide_eq_true h]
   dsimp only
   cases ziY ((UInt8.toNat c:Nat):Int) with
   | false=>rfl
   | true=>cases (c::r).all ztt<;>rfl
  ·have h1:((List.length (c::r):Nat):Int)>8:=by omega
   rw[decide_eq_true h1,decide_eq_false h]
   rfl
def zwG (e:zm):Bool:=zgX e.1&&decide (0≤e.2.1)&&decide (e.2.1≤2)&&decide (0≤e.2.2.1)&&decide (e.2.2.1≤3)&&decide (1≤e.2.2.2)&&decide (e.2.2.2≤20)
theorem zmw (e:zm):zek e.1 e.2.1 e.2.2.1 e.2.2.2=some (zwG e):=by
 unfold zek zwG
 rw[zmj,Option.bind_some]
 cases zgX e.1<;>simp only[cond_true,cond_false,Bool.true_and,Bool.false_and,ge_iff_le]
 cases decide (0≤e.2.1)<;>simp only[cond_true,cond_false,Bool.true_and,Bool.false_and]
 cases decide (e.2.1≤2)<;>simp only[cond_true,cond_false,Bool.true_and,Bool.false_and]
 cases decide (0≤e.2.2.1)<;>simp only[cond_true,cond_false,Bool.true_and,Bool.false_and]
 cases decide (e.2.2.1≤3)<;>simp only[cond_true,cond_false,Bool.true_and,Bool.false_and]
 cases decide (1≤e.2.2.2)<;>simp only[cond_true,cond_false,Bool.true_and,Bool.false_and]
def zyZ (o:Option Nat):Int:=match o with
 | some i=>(i:Int)
 | none => -1
theorem zx7 (nm:Str) (es:List zm) (i:Nat):yX nm es i=some (match es.findIdx? (fun e=>e.1==nm) with
  | some j=>.inr ((i+j:Nat):Int)
  | none=>.inl ()):=by
 induction es generalizing i with
 | nil=>rfl
 | cons e es ih =>
  unfold yX
  rw[List.findIdx?_cons]
  cases h:(e.1==nm) with
  | true=>simp
  | false =>
   rw[cond_false,ih]
   cases es.findIdx? (fun e=>e.1==nm) with
   | none=>rfl
   | some j=>simp; omega
theorem zo3 (a0:List zm) (nm:Str) (h:a0.length≤maxLen):zg9 a0 nm=some (zyZ (a0.findIdx? (fun e=>e.1==nm))):=by
 unfold zg9
 rw[zio _ _ h,zx7]
 cases a0.findIdx? (fun e=>e.1==nm) with
 | none=>rfl
 | some j=>simp [qb,zyZ]
def zjH (a0:List zm):List zm→Nat→Bool
 | [],_=>true
 | e::es,i=>zwG e&&(zyZ (a0.findIdx? (fun d=>d.1==e.1))==(i:Int))&&zjH a0 es (i+1)
theorem zGk (a0:List zm) (h:a0.length≤maxLen) (es:List zm) (i:Nat):zbf a0 es i=some (cond (zjH a0 es i) (.inl ()) (.inr false)):=by
 induction es generalizing i with
 | nil=>rfl
 | cons e es ih =>
  unfold zbf zjH
  rw[zmw,Option.bind_some,zo3 _ _ h,Option.bind_some,ih,bne]
  cases zwG e with
  | false=>rfl
  | true =>
   cases (zyZ (a0.findIdx? (fun d=>d.1==e.1))==(i:Int)) with
   | false=>rfl
   | true=>simp
def zpQ:zm:=([61],0,2,1)
def eqQ (e:zm):Bool:=cond (eqS e.1 [61]) (cond (eqI e.2.1 0) (cond (eqI e.2.2.1 2) (cond (eqI e.2.2.2 1) true false) false) false) false
theorem zDL (e:zm):eqQ e=true↔e=zpQ:=by
 obtain⟨a,b,c,d⟩:=e
 unfold eqQ zpQ eqS eqI
 cases h1:(a==([61]:List UInt8))<;>cases h2:(b==0)<;>cases h3:(c==2)<;>cases h4:(d==1)<;>simp_all
def zcD (a0:List zm):Bool:=match a0 with
 | []=>false
 | e::es=>decide (a0.length≤20)&&eqQ e&&zjH a0 es 1
theorem zlu (a0:List zm):zhB a0=some (zcD a0):=by
 unfold zhB zcD
 cases a0 with
 | nil=>rfl
 | cons e es =>
  rw[decide_eq_false (show ¬(((List.length (e::es):Nat):Int)<1) by rw[List.length_cons]; omega),cond_false]
  by_cases h:(e::es).length≤20
  ·have h1:¬(((List.length (e::es):Nat):Int)>20):=by omega
   have hm:(e::es).length≤maxLen:=by unfold maxLen; omega
   rw[decide_eq_false h1,cond_false,qf,List.getElem?_cons_zero,Option.bind_some,decide_eq_true h]
   show cond (!(eqQ e)) _ _=some (true&&eqQ e&&zjH (e::es) es 1)
   cases eqQ e with
   | false=>rfl
   | true =>
    have:=zjl (e::es) hm es 1 zd rfl (by simp [zd]; simp at h; omega)
    simp only[Bool.not_true,cond_false]
    rw[show ((1:Int))=((1:Nat):Int) from rfl,this,zGk _ hm]
    cases zjH (e::es) es 1<;>rfl
  ·have h1:((List.length (e::es):Nat):Int)>20:=by omega
   rw[decide_eq_true h1,decide_eq_false h]
   rfl
theorem zrL {a0:List zm}:{es:List zm}→{i:Nat}→zjH a0 es i=true→∀(j:Nat) e,es[j]? = some e→zwG e=true∧zyZ (a0.findIdx? (fun d=>d.1==e.1))=((i+j:Nat):Int)
 | [],_,_,j,e,he=>by simp at he
 | d::es,i,h,0,e,he=>by
  injection he with he; subst he
  simp only[zjH,Bool.and_eq_true] at h
  exact ⟨h.1.1,by simpa using h.1.2⟩
 | d::es,i,h,j+1,e,he=>by
  simp only[zjH,Bool.and_eq_true] at h
  have:=zrL h.2 j e (by simpa using he)
  exact ⟨this.1,by rw[this.2]; omega⟩
structure SignOk (a0:List zm):Prop where
 pos:1≤a0.length
 len:a0.length≤20
 eq:a0[0]? = some zpQ
 sym:∀(i:Nat) e,a0[i+1]? = some e→zwG e=true∧zyZ (a0.findIdx? (fun d=>d.1==e.1))=((i+1:Nat):Int)
theorem zhx {a0:List zm} (h:zcD a0=true):SignOk a0:=by
 unfold zcD at h
 cases a0 with
 | nil=>cases h
 | cons e es =>
  simp only[Bool.and_eq_true,decide_eq_true_eq] at h
  exact ⟨by simp,h.1.1,by rw[List.getElem?_cons_zero,(zDL e).1 h.1.2],fun i d hd=>by
   have:=zrL h.2 i d (by simpa using hd)
   exact ⟨this.1,by rw[this.2]; omega⟩⟩
theorem SignOk.max {a0:List zm} (h:SignOk a0):a0.length≤maxLen:=Nat.le_trans h.len (by unfold maxLen; omega)
theorem zxx {e:zm} (h:zwG e=true):zgX e.1=true∧0≤e.2.1∧e.2.1≤2∧0≤e.2.2.1∧e.2.2.1≤3∧1≤e.2.2.2∧e.2.2.2≤20:=by
 unfold zwG at h
 simp only[Bool.and_eq_true,decide_eq_true_eq] at h
 exact ⟨h.1.1.1.1.1.1,h.1.1.1.1.1.2,h.1.1.1.1.2,h.1.1.1.2,h.1.1.2,h.1.2,h.2⟩
theorem zp2 {s:Str} (h:zgX s=true):1≤s.length∧s.length≤8:=by
 unfold zgX at h
 cases s with
 | nil=>cases h
 | cons c r =>
  simp only[Bool.and_eq_true,decide_eq_true_eq] at h
  exact ⟨by simp,h.1.1⟩
theorem SignOk.at {a0:List zm} (h:SignOk a0) {i:Nat} {e:zm} (he:a0[i]? = some e):1≤e.1.length∧e.1.length≤8∧0≤e.2.1∧e.2.1≤2∧0≤e.2.2.1∧e.2.2.1≤3:=by
 cases i with
 | zero =>
  rw[h.eq] at he
  injection he with he; subst he
  decide
 | succ i =>
  obtain⟨h1,h2,h3,h4,h5,_⟩:=zxx (h.sym i e he).1
  have:=zp2 h1
  exact ⟨this.1,this.2,h2,h3,h4,h5⟩
def zbY (a0:List zm) (x:Int):Option Nat :=
 cond (decide (x<0)) (cond (decide (-24≤x)) (some 0) none) (match a0[x.toNat]? with
  | some e=>cond (e.2.1==0) none (some e.2.2.1.toNat)
  | none=>none)
def nOk (o:Option Nat):Int×Bool:=match o with
 | some k=>((k:Int),true)
 | none=>(0,false)
theorem zaE {x:Int} (h1 : -9223372036854775808≤x) (h2:x≤9223372036854775807):zT x=some (-1 - x):=by
 unfold zT
 rw[zt]<;>omega
theorem zj8 {a0:List zm} (h:SignOk a0) (x:Int):zhg a0 x=some (nOk (zbY a0 x)):=by
 unfold zhg zbY
 by_cases h0:x<0
 ·rw[decide_eq_true h0,cond_true,cond_true,zaE (by omega) (by omega),Option.bind_some]
  by_cases h1 : -24≤x
  ·rw[decide_eq_true h1,decide_eq_true (show x ≥ -1 - 23 by omega)]; rfl
  ·rw[decide_eq_false h1,decide_eq_false (show ¬(x ≥ -1 - 23) by omega)]; rfl
 ·rw[decide_eq_false h0,cond_false,cond_false]
  by_cases h1:x≥((List.length a0:Nat):Int)
  ·rw[decide_eq_true h1,cond_true,List.getElem?_eq_none (by omega)]; rfl
  ·obtain⟨e,he1,he2,he3⟩:=zth (xs:=a0) (i:=x) (by omega) (by omega)
   have:=h.at he3
   rw[decide_eq_false h1,cond_false,he1,Option.bind_some,he3]
   cases he:(e.2.1==0) with
   | true=>simp only[he,cond_true]; rfl
   | false =>
    simp only[he,cond_false,Option.bind_some]
    unfold nOk
    simp only[Option.some.injEq,Prod.mk.injEq,and_true]
    omega
theorem zn7 {a0:List zm} (h:SignOk a0) {x:Int} {k:Nat} (hk:zbY a0 x=some k):k≤3:=by
 unfold zbY at hk
 by_cases h0:x<0
 ·rw[decide_eq_true h0,cond_true] at hk
  by_cases h1 : -24≤x
  ·rw[decide_eq_true h1] at hk; injection hk with hk; omega
  ·rw[decide_eq_false h1] at hk; cases hk
 ·rw[decide_eq_false h0,cond_false] at hk
  cases he:a0[x.toNat]? with
  | none=>rw[he] at hk; cases hk
  | some e =>
   rw[he] at hk
   have:=h.at he
   simp only at hk
   cases hz:(e.2.1==0) with
   | true=>rw[hz] at hk; cases hk
   | false=>rw[hz] at hk; injection hk with hk; omega
def sk (a0:List zm):Nat→List Int→Option Nat
 | 0,_=>some 0
 | _+1,[]=>none
 | n+1,x::xs=>match zbY a0 x with
  | none=>none
  | some k=>(sk a0 (n+k) xs).map (· + 1)
theorem zlp {a0:List zm}:{xs:List Int}→{n k:Nat}→sk a0 n xs=some k→k≤xs.length∧(0<n→0<k)∧n≤k
 | [],0,k,h=>by simp [sk] at h; omega
 | [],n+1,k,h=>by simp [sk] at h
 | x::xs,0,k,h=>by simp [sk] at h; omega
 | x::xs,n+1,k,h=>by
  unfold sk at h
  cases ha:zbY a0 x with
  | none=>rw[ha] at h; cases h
  | some m =>
   rw[ha] at h
   simp only[Option.map_eq_some_iff] at h
   obtain⟨j,hj,rfl⟩:=h
   have:=zlp hj
   rw[List.length_cons]
   omega
theorem zsx {a0:List zm} (h:SignOk a0) (a1:List Int) (hl:a1.length≤1099511627776):∀(m i n:Nat) (k:Nat),a1.length - i=m→0<n→n≤1+3*i→m<k →
  lp zbv k (a0,a1,(i:Int),(n:Int))=some (match sk a0 n (a1.drop i) with
   | some j=>(((i+j:Nat):Int),true)
   | none=>(0,false)):=by
 intro m
 induction m with
 | zero =>
  intro i n k hm hn hni hk
  obtain⟨k,rfl⟩:∃ k',k=k'+1:=⟨k - 1,by omega⟩
  rw[zK]
  generalize lp zbv k=rec
  unfold zbv
  simp only[decide_eq_true (show ((i:Int)≥((List.length a1:Nat):Int)) by omega),cond_true,List.drop_eq_nil_iff.2 (show a1.length≤i by omega)]
  obtain⟨n,rfl⟩:∃ n',n=n'+1:=⟨n - 1,by omega⟩
  rfl
 | succ m ih =>
  intro i n k hm hn hni hk
  obtain⟨k,rfl⟩:∃ k',k=k'+1:=⟨k - 1,by omega⟩
  have hi:i<a1.length:=by omega
  rw[zK]
  have key:=fun n' h1 h2=>ih (i+1) n' k (by omega) h1 h2 (by omega)
  generalize lp zbv k=rec at key ⊢
  unfold zbv
  obtain⟨n,rfl⟩:∃ n',n=n'+1:=⟨n - 1,by omega⟩
  simp only[decide_eq_false (show ¬((i:Int)≥((List.length a1:Nat):Int)) by omega),cond_false,zab,List.getElem?_eq_getElem hi,Option.bind_some,zj8 h,List.drop_eq_getElem_cons hi,sk]
  cases ha:zbY a0 a1[i] with
  | none=>simp [nOk]
  | some q =>
   have hq:=zn7 h ha
   have e1:IntKind.wrap .i64 ((q:Int) - 1)=(q:Int) - 1:=zt (by omega) (by omega)
   have e2:IntKind.wrap .i64 (((n+1:Nat):Int)+((q:Int) - 1))=((n+q:Nat):Int):=by rw[zt]<;>omega
   have e3:IntKind.wrap .i64 ((i:Int)+1)=((i+1:Nat):Int):=by rw[zt]<;>omega
   simp only[nOk,Bool.not_true,cond_false,e1,e2,e3]
   by_cases hp:0<n+q
   ·rw[decide_eq_true (show ((n+q:Nat):Int)>0 by omega),cond_true,key _ hp (by omega)]
    cases sk a0 (n+q) (a1.drop (i+1)) with
    | none=>rfl
    | some j=>simp only[Option.map_some]; rw[show i+1+j=i+(j+1) from by omega]
   ·rw[decide_eq_false (show ¬(((n+q:Nat):Int)>0) by omega),cond_false]
    have:n+q=0:=by omega
    rw[this]
    simp [sk]
theorem zeG {a0:List zm} (h:SignOk a0) (a1:List Int) (hl:a1.length≤1099511627776) (i:Nat):zcu a0 a1 (i:Int)=some (match sk a0 1 (a1.drop i) with
   | some j=>(((i+j:Nat):Int),true)
   | none=>(0,false)):=by
 unfold zcu
 by_cases hi:i<a1.length
 ·simp only[decide_eq_false (show ¬((i:Int)≥((List.length a1:Nat):Int)) by omega),cond_false,zab,List.getElem?_eq_getElem hi,Option.bind_some,zj8 h,List.drop_eq_getElem_cons hi,sk]
  cases ha:zbY a0 a1[i] with
  | none=>simp [nOk]
  | some q =>
   have hq:=zn7 h ha
   have e1:IntKind.wrap .i64 ((q:Int) - 1)=(q:Int) - 1:=zt (by omega) (by omega)
   have e2:IntKind.wrap .i64 (1+((q:Int) - 1))=((q:Nat):Int):=by rw[zt]<;>omega
   have e3:IntKind.wrap .i64 ((i:Int)+1)=((i+1:Nat):Int):=by rw[zt]<;>omega
   simp only[nOk,Bool.not_true,cond_false,e1,e2,e3]
   by_cases hp:0<q
   ·rw[decide_eq_true (show (q:Int)>0 by omega),cond_true,zsx h a1 hl (a1.length - (i+1)) (i+1) q zd rfl hp (by omega) (by unfold zd; omega),Nat.zero_add]
    cases sk a0 q (a1.drop (i+1)) with
    | none=>rfl
    | some j=>simp only[Option.map_some,Option.bind_some]; rw[show i+1+j=i+(j+1) from by omega]
   ·rw[decide_eq_false (show ¬((q:Int)>0) by omega),cond_false]
    have:q=0:=by omega
    subst this
    simp [sk]
 ·simp only[decide_eq_true (show ((i:Int)≥((List.length a1:Nat):Int)) by omega),cond_true,List.drop_eq_nil_iff.2 (show a1.length≤i by omega)]
  rfl
end
end Go.Abs.Q
namespace Go.Abs.Q
open Go Go.Abs
section
def zq1 (a0:List zm):Nat→List Int→Option jR
 | _,[]=>some []
 | 0,_::_=>none
 | n+1,x::xs=>match sk a0 1 (x::xs) with
  | none=>none
  | some k=>(zq1 a0 n ((x::xs).drop k)).map ((x::xs).take k :: ·)
def zkn (a0:List zm) (xs:List Int):Option jR:=zq1 a0 xs.length xs
theorem zmF {a0:List zm}:{n m:Nat}→{xs:List Int}→xs.length≤n→n≤m→zq1 a0 m xs=zq1 a0 n xs
 | n,m,[],_,_=>by cases n<;>cases m<;>rfl
 | 0,_,_::_,h,_=>by simp at h
 | n+1,0,_::_,_,h=>by omega
 | n+1,m+1,x::xs,h,hm=>by
  unfold zq1
  cases hk:sk a0 1 (x::xs) with
  | none=>rfl
  | some k =>
   have:=zlp hk
   simp only
   rw[zmF (n:=n) (m:=m) (by simp at h ⊢; omega) (by omega)]
theorem zkD (a0:List zm):zkn a0 []=some []:=rfl
theorem zdv {a0:List zm} {xs:List Int} (h:xs≠[]):zkn a0 xs=match sk a0 1 xs with
  | none=>none
  | some k=>(zkn a0 (xs.drop k)).map (xs.take k :: ·):=by
 cases xs with
 | nil=>exact absurd rfl h
 | cons x xs =>
  show zq1 a0 (xs.length+1) (x::xs)=_
  unfold zq1
  cases hk:sk a0 1 (x::xs) with
  | none=>rfl
  | some k =>
   have:=zlp hk
   simp only
   unfold zkn
   rw[zmF (n:=((x::xs).drop k).length) (m:=xs.length) (Nat.le_refl _) (by simp; omega)]
theorem zyE {a0:List zm}:{xs:List Int}→{n k:Nat}→sk a0 n xs=some k→sk a0 n (xs.take k)=some k
 | [],0,k,h=>by simp [sk] at h; subst h; rfl
 | [],n+1,k,h=>by simp [sk] at h
 | x::xs,0,k,h=>by simp [sk] at h; subst h; rfl
 | x::xs,n+1,k,h=>by
  unfold sk at h
  cases ha:zbY a0 x with
  | none=>rw[ha] at h; cases h
  | some m =>
   rw[ha] at h
   simp only[Option.map_eq_some_iff] at h
   obtain⟨j,hj,rfl⟩:=h
   rw[List.take_succ_cons]
   unfold sk
   rw[ha]
   simp only[zyE hj,Option.map_some]
theorem zgv {a0:List zm}:∀(n:Nat) (xs:List Int) (ps:List jI),xs.length≤n→zkn a0 xs=some ps→ps.flatten=xs∧∀ p∈ps,p≠[]∧sk a0 1 p=some p.length:=by
 intro n
 induction n with
 | zero =>
  intro xs ps h hc
  obtain rfl:xs=[]:=List.length_eq_zero_iff.1 (by omega)
  injection hc with hc; subst hc
  exact ⟨rfl,fun p hp=>by cases hp⟩
 | succ n ih =>
  intro xs ps h hc
  by_cases hx:xs=[]
  ·subst hx
   injection hc with hc; subst hc
   exact ⟨rfl,fun p hp=>by cases hp⟩
  ·rw[zdv hx] at hc
   cases hk:sk a0 1 xs with
   | none=>rw[hk] at hc; cases hc
   | some k =>
    rw[hk] at hc
    simp only[Option.map_eq_some_iff] at hc
    obtain⟨qs,hq,rfl⟩:=hc
    have hle:=zlp hk
    obtain⟨h1,h2⟩:=ih _ qs (by simp; omega) hq
    refine ⟨by rw[List.flatten_cons,h1,List.take_append_drop],fun p hp => ?_⟩
    rcases List.mem_cons.1 hp with rfl | hp
    ·have hl:(xs.take k).length=k:=by simp; omega
     exact ⟨fun e=>by rw[e] at hl; simp at hl; omega,by rw[hl]; exact zyE hk⟩
    ·exact h2 p hp
def zeR:Nat→List jI→List Int
 | _,[]=>[]
 | i,p::ps=>(i:Int)::zeR (i+p.length) ps
theorem zgW:(i:Nat)→(ps:List jI)→(zeR i ps).length=ps.length
 | _,[]=>rfl
 | i,p::ps=>by simp [zeR,zgW (i+p.length) ps]
theorem zn {n b:Nat} (h:n*b≤140737488351232):yB n b=true:=by simpa[yB] using h
theorem zoq {a0:List zm} (h:SignOk a0) (a1:List Int) (hl:a1.length≤1099511627776):∀(m i:Nat) (acc:List Int) (k:Nat),a1.length - i=m→i≤a1.length→acc.length≤i→m<k →
  lp zbQ k (a0,a1,(i:Int),acc)=some (match zkn a0 (a1.drop i) with
   | some ps=>(true,acc++zeR i ps)
   | none=>(false,[])):=by
 intro m
 induction m using Nat.strongRecOn with
 | _ m ih =>
  intro i acc k hm hi hacc hk
  obtain⟨k,rfl⟩:∃ k',k=k'+1:=⟨k - 1,by omega⟩
  rw[zK]
  have key:=fun j acc' (h1:i<j) h2 h3=>ih (a1.length - j) (by omega) j acc' k rfl h2 h3 (by omega)
  generalize lp zbQ k=rec at key ⊢
  unfold zbQ
  by_cases he:i=a1.length
  ·subst he
   simp [zkD,zeR]
  ·have hlt:i<a1.length:=by omega
   have hne:a1.drop i≠[]:=by simp; omega
   simp only[show (((i:Int))==((List.length a1:Nat):Int))=false from by simp; omega,cond_false,zeG h a1 hl,Option.bind_some,zdv hne]
   cases hs:sk a0 1 (a1.drop i) with
   | none=>rfl
   | some j =>
    have hj:=zlp hs
    rw[List.length_drop] at hj
    simp only[Bool.not_true,cond_false,List.length_singleton,zn (show (acc.length+1)*8≤140737488351232 by omega),cond_true]
    rw[key (i+j) _ (by omega) (by omega) (by simp; omega),List.drop_drop]
    cases zkn a0 (a1.drop (i+j)) with
    | none=>rfl
    | some ps =>
     simp only[Option.map_some,zeR]
     rw[List.length_take,List.length_drop,Nat.min_eq_left (by omega)]
     simp
def zbn (a0:List zm) (a1:List Int):Option jR:=cond (zcD a0&&decide (a1.length≤48)) (zkn a0 a1) none
theorem ze0 (a0:List zm) (a1:List Int):zc0 a0 a1=some (match zbn a0 a1 with
  | some ps=>(true,zeR 0 ps)
  | none=>(false,[])):=by
 unfold zc0 zbn
 rw[zlu,Option.bind_some]
 cases hs:zcD a0 with
 | false=>rfl
 | true =>
  have h:=zhx hs
  by_cases hl:a1.length≤48
  ·simp only[Bool.not_true,cond_false,decide_eq_false (show ¬(((List.length a1:Nat):Int)>48) by omega),decide_eq_true hl,Bool.and_true,cond_true]
   by_cases h0:a1=[]
   ·subst h0; rfl
   ·have hpos:0<a1.length:=List.length_pos_iff.2 h0
    simp only[show ((0:Int)==((List.length a1:Nat):Int))=false from by simp; omega,cond_false]
    have e:=zeG h a1 (by omega) 0
    rw[show ((0:Nat):Int)=0 from rfl] at e
    rw[e,Option.bind_some,List.drop_zero,zdv h0]
    cases hk:sk a0 1 a1 with
    | none=>rfl
    | some j =>
     have hj:=zlp hk
     simp only[Bool.not_true,cond_false,Nat.zero_add,List.length_singleton,zn (show 1*8≤140737488351232 by omega),cond_true]
     rw[zoq h a1 (by omega) (a1.length - j) j [0] zd rfl (by omega) (by simp; omega) (by unfold zd; omega)]
     cases zkn a0 (a1.drop j) with
     | none=>rfl
     | some ps=>simp [zeR,Nat.min_eq_left hj.1]
  ·simp only[Bool.not_true,cond_false,decide_eq_true (show (((List.length a1:Nat):Int)>48) by omega),decide_eq_false hl,Bool.and_false,cond_true]
def zdC (a0:List zm) (xs:List Int):Bool:=match xs with
 | []=>false
 | x::r=>decide (0≤x)&&(match a0[x.toNat]? with
  | none=>false
  | some e=>(e.2.1==0)&&(match zbn a0 r with
   | none=>false
   | some ps=>((ps.length:Nat):Int)==e.2.2.1))
theorem zdj {α:Type} (x:α) (r:List α):zbR (x::r) (some 1) none=some r:=by
 show slc (x::r) 1 ((x::r).length:Int)=some r
 unfold slc
 simp only[List.length_cons]
 rw[decide_eq_true (show (0:Int)≤1 by omega),decide_eq_true (show (1:Int)≤((r.length+1:Nat):Int) by omega),decide_eq_true (show ((r.length+1:Nat):Int)≤((r.length+1:Nat):Int) by omega)]
 simp
theorem zhN (a0:List zm) (xs:List Int):za2 a0 xs=some (zdC a0 xs):=by
 unfold za2 zdC
 cases xs with
 | nil=>rfl
 | cons x r =>
  simp only[show ((((x::r).length:Nat):Int)==0)=false from by simp; omega,cond_false,qf,List.getElem?_cons_zero,Option.bind_some]
  by_cases h0:x<0
  ·rw[decide_eq_true h0,decide_eq_false (show ¬(0≤x) by omega)]; rfl
  ·rw[decide_eq_false h0,decide_eq_true (show 0≤x by omega),cond_false,Bool.true_and]
   by_cases h1:x≥((List.length a0:Nat):Int)
   ·rw[decide_eq_true h1,List.getElem?_eq_none (by omega)]; rfl
   ·obtain⟨e,he1,he2,he3⟩:=zth (xs:=a0) (i:=x) (by omega) (by omega)
    simp only[decide_eq_false h1,cond_false,he1,he3,Option.bind_some,bne]
    cases hk:(e.2.1==0) with
    | false=>rfl
    | true =>
     simp only[Bool.not_true,cond_false,zdj,Option.bind_some,ze0,Bool.true_and]
     cases zbn a0 r with
     | none=>rfl
     | some ps=>simp [zgW]
def zl (xs:List jI):Nat:=(xs.map List.length).sum
def zdN (a0:List zm) (ls:List zg):Bool:=ls.all fun l=>zdC a0 l.2
theorem zpI {a0:List zm} {xs:List Int} (h:zdC a0 xs=true):xs.length≤49:=by
 unfold zdC at h
 cases xs with
 | nil=>cases h
 | cons x r =>
  simp only[Bool.and_eq_true] at h
  cases he:a0[x.toNat]? with
  | none=>rw[he] at h; simp at h
  | some e =>
   rw[he] at h
   simp only[Bool.and_eq_true] at h
   cases hb:zbn a0 r with
   | none=>rw[hb] at h; simp at h
   | some ps =>
    unfold zbn at hb
    cases hl:decide (r.length≤48) with
    | false=>rw[hl,Bool.and_false] at hb; cases hb
    | true=>rw[decide_eq_true_eq] at hl; simp; omega
theorem zvX (a0:List zm):(es:List zg)→(t:Nat)→t+49*es.length≤1099511627776→zS a0 es (t:Int)=some (cond (zdN a0 es) (.inl ((t+zl (es.map (·.2)):Nat):Int)) (.inr (0,false)))
 | [],t,_=>by simp [zS,zdN,zl]
 | e::es,t,h=>by
  unfold zS zig zdN
  rw[zhN,Option.bind_some,Option.bind_some,List.all_cons]
  cases ha:zdC a0 e.2 with
  | false=>rfl
  | true =>
   have hl:=zpI ha
   rw[List.length_cons] at h
   have e1:IntKind.wrap .i64 ((t:Int)+((List.length e.2:Nat):Int))=((t+e.2.length:Nat):Int):=by rw[zt]<;>omega
   rw[e1]
   have:=zvX a0 es (t+e.2.length) (by omega)
   unfold zdN at this
   simp only[Bool.not_true,cond_false,Bool.true_and,this]
   rw[show t+e.2.length+zl (es.map (·.2))=t+zl ((e::es).map (·.2)) from by simp [zl]; omega]
theorem zfm (a0:List zm) (ls:List zg) (h:ls.length≤1000000000):zbO a0 ls=some (cond (zdN a0 ls) (((zl (ls.map (·.2)):Nat):Int),true) (0,false)):=by
 unfold zbO
 rw[ze3 _ _ _ (by unfold maxLen; omega),show ((0:Int))=((0:Nat):Int) from rfl,zvX a0 ls 0 (by omega)]
 cases zdN a0 ls with
 | false=>rfl
 | true=>simp [qb]
def zgt (a0:List zm) (xs:List Int):Option Nat:=(zbn a0 xs).map List.length
theorem zf1 (a0:List zm) (xs:List Int):zf0 a0 xs=some (match zgt a0 xs with
  | some n=>((n:Int),0)
  | none=>(0,200)):=by
 unfold zf0 zgt
 rw[ze0,Option.bind_some]
 cases zbn a0 xs with
 | none=>rfl
 | some ps=>simp [zgW]
theorem ziD {a0:List zm} {xs:List Int} {n:Nat} (h:zgt a0 xs=some n):xs.length≤48:=by
 unfold zgt zbn at h
 cases hl:decide (xs.length≤48) with
 | false=>rw[hl,Bool.and_false] at h; cases h
 | true=>rw[decide_eq_true_eq] at hl; exact hl
def zfW (a0:List zm) (rs:List jI):Bool:=match rs with
 | []=>true
 | r::rs=>match zgt a0 r with
  | none=>false
  | some n=>rs.all fun q=>zgt a0 q==some n
theorem zxi (a0:List zm) (w:Nat):(es:List jI)→(i t:Nat)→t+49*es.length≤1099511627776→zC a0 es (i+1) (t:Int) (w:Int)=some (cond (es.all fun q=>zgt a0 q==some w) (.inl ((t+zl es:Nat):Int)) (.inr (0,false)))
 | [],i,t,_=>by simp [zC,zl]
 | e::es,i,t,h=>by
  unfold zC
  rw[zf1,Option.bind_some,List.all_cons]
  rw[show ((((i+1:Nat):Int))==0)=false from by simp; omega,cond_false]
  cases hr:zgt a0 e with
  | none=>rfl
  | some n =>
   have hl:=ziD hr
   rw[List.length_cons] at h
   have e1:IntKind.wrap .i64 ((t:Int)+((List.length e:Nat):Int))=((t+e.length:Nat):Int):=by rw[zt]<;>omega
   have:=zxi a0 w es (i+1) (t+e.length) (by omega)
   simp only[e1,this]
   by_cases hn:n=w
   ·subst hn
    simp [zl,Nat.add_assoc]
   ·have h1:((n:Int) != (w:Int))=true:=by simp; omega
    have h2:(some n==some w)=false:=by simpa using hn
    simp [h1,h2]
theorem zjM (a0:List zm) (rs:List jI) (h:rs.length≤1000000000):zdl a0 rs=some (cond (zfW a0 rs) (((zl rs:Nat):Int),true) (0,false)):=by
 unfold zdl
 rw[zfj _ _ _ _ (by unfold maxLen; omega)]
 cases rs with
 | nil=>rfl
 | cons r rs =>
  unfold zC zfW
  rw[zf1,Option.bind_some]
  rw[show ((((0:Nat):Int))==0)=true from rfl,cond_true]
  dsimp only
  cases hr:zgt a0 r with
  | none=>rfl
  | some n =>
   have hl:=ziD hr
   rw[List.length_cons] at h
   have e1:IntKind.wrap .i64 (0+((List.length r:Nat):Int))=((r.length:Nat):Int):=by rw[zt]<;>omega
   have:=zxi a0 n rs 0 r.length (by omega)
   simp only[e1,this]
   cases hb:rs.all fun q=>zgt a0 q==some n with
   | false=>simp [qb]
   | true=>simp [qb,zl]
def zeQ (a0:List zm) (a1:List zg) (a2:List jI) (a3:List zg):Bool :=
 zcD a0&&decide (a1.length≤5)&&decide (a2.length≤3)&&decide (a3.length≤3)&&zdN a0 a1&&zfW a0 a2&&zdN a0 a3&&decide (zl (a1.map (·.2))+zl a2+zl (a3.map (·.2))≤240)
theorem zja {a0:List zm}:(ls:List zg)→zdN a0 ls=true→zl (ls.map (·.2))≤49*ls.length
 | [],_=>by simp [zl]
 | l::ls,h=>by
  unfold zdN at h
  rw[List.all_cons,Bool.and_eq_true] at h
  have h1:=zpI h.1
  have h2:=zja ls h.2
  unfold zl at h2 ⊢
  simp only[List.map_cons,List.sum_cons,List.length_cons]
  omega
theorem zrf {a0:List zm} (rs:List jI) (h:zfW a0 rs=true):zl rs≤49*rs.length:=by
 cases rs with
 | nil=>simp [zl]
 | cons r rs =>
  unfold zfW at h
  dsimp only at h
  cases hr:zgt a0 r with
  | none=>rw[hr] at h; cases h
  | some n =>
   rw[hr] at h
   have h1:=ziD hr
   have h2:∀ qs:List jI,(qs.all fun q=>zgt a0 q==some n)=true→zl qs≤49*qs.length:=by
    intro qs
    induction qs with
    | nil=>intro _; simp [zl]
    | cons q qs ih =>
     intro hq
     rw[List.all_cons,Bool.and_eq_true] at hq
     have h3:=ih hq.2
     have h4:=ziD (by simpa using hq.1)
     unfold zl at h3 ⊢
     simp only[List.map_cons,List.sum_cons,List.length_cons]
     omega
   have h5:=h2 rs h
   unfold zl at h5 ⊢
   simp only[List.map_cons,List.sum_cons,List.length_cons]
   omega
theorem zdY (a0:List zm) (a1:List zg) (a2:List jI) (a3:List zg):zaM a0 a1 a2 a3=some (zeQ a0 a1 a2 a3):=by
 unfold zaM zeQ
 rw[zlu,Option.bind_some]
 cases zcD a0 with
 | false=>rfl
 | true =>
  by_cases h1:a1.length≤5
  ·by_cases h2:a2.length≤3
   ·by_cases h3:a3.length≤3
    ·simp only[Bool.not_true,cond_false,decide_eq_false (show ¬(((List.length a1:Nat):Int)>5) by omega),decide_eq_false (show ¬(((List.length a2:Nat):Int)>3) by omega),decide_eq_false (show ¬(((List.length a3:Nat):Int)>3) by omega),
      decide_eq_true h1,decide_eq_true h2,decide_eq_true h3,zfm a0 a1 (by omega),zjM a0 a2 (by omega),zfm a0 a3 (by omega),Option.bind_some,Bool.true_and]
     cases hb1:zdN a0 a1 with
     | false=>rfl
     | true =>
      cases hb2:zfW a0 a2 with
      | false=>rfl
      | true =>
       cases hb3:zdN a0 a3 with
       | false=>rfl
       | true =>
        have s1:=zja a1 hb1
        have s2:=zrf a2 hb2
        have s3:=zja a3 hb3
        simp only[cond_true,Bool.true_and]
        have e1:IntKind.wrap .i64 (((zl (a1.map (·.2)):Nat):Int)+((zl a2:Nat):Int))=((zl (a1.map (·.2))+zl a2:Nat):Int):=by rw[zt]<;>omega
        have e2:IntKind.wrap .i64 (((zl (a1.map (·.2))+zl a2:Nat):Int)+((zl (a3.map (·.2)):Nat):Int))=((zl (a1.map (·.2))+zl a2+zl (a3.map (·.2)):Nat):Int):=by rw[zt]<;>omega
        simp only[e1,e2,Option.some.injEq,decide_eq_decide]
        omega
    ·simp only[Bool.not_true,cond_false,decide_eq_false (show ¬(((List.length a1:Nat):Int)>5) by omega),decide_eq_false (show ¬(((List.length a2:Nat):Int)>3) by omega),decide_eq_true (show (((List.length a3:Nat):Int)>3) by omega),decide_eq_false h3,cond_true,Bool.and_false,Bool.false_and]
   ·simp only[Bool.not_true,cond_false,decide_eq_false (show ¬(((List.length a1:Nat):Int)>5) by omega),decide_eq_true (show (((List.length a2:Nat):Int)>3) by omega),decide_eq_false h2,cond_true,Bool.and_false,Bool.false_and]
  ·simp only[Bool.not_true,cond_false,decide_eq_true (show (((List.length a1:Nat):Int)>5) by omega),decide_eq_false h1,cond_true,Bool.and_false,Bool.false_and]
end
end Go.Abs.Q
namespace Go.Abs.Q
open Go Go.Abs
section
theorem zAQ {a0:List zm}:{xs:List Int}→{n m k:Nat}→sk a0 (n+m) xs=some k→∃ j,sk a0 n xs=some j∧j≤k∧sk a0 m (xs.drop j)=some (k - j)
 | xs,0,m,k,h=>⟨0,by cases xs<;>rfl,Nat.zero_le _,by simpa using h⟩
 | [],n+1,m,k,h=>by rw[show n+1+m=n+m+1 from by omega] at h; simp [sk] at h
 | x::xs,n+1,m,k,h=>by
  rw[show n+1+m=n+m+1 from by omega] at h
  unfold sk at h
  cases ha:zbY a0 x with
  | none=>rw[ha] at h; cases h
  | some q =>
   rw[ha] at h
   simp only[Option.map_eq_some_iff] at h
   obtain⟨j,hj,rfl⟩:=h
   rw[show n+m+q=(n+q)+m from by omega] at hj
   obtain⟨i,h1,h2,h3⟩:=zAQ hj
   refine ⟨i+1,?_,by omega,?_⟩
   ·unfold sk; rw[ha]; simp only[h1,Option.map_some]
   ·rw[List.drop_succ_cons,h3]; congr 1; omega
theorem zD2 {a0:List zm}:∀(n:Nat) (xs:List Int),sk a0 n xs=some xs.length→∃ ps,zkn a0 xs=some ps∧ps.length=n:=by
 intro n
 induction n with
 | zero =>
  intro xs h
  have:xs.length=0:=by cases xs<;>simp [sk] at h ⊢
  obtain rfl:=List.length_eq_zero_iff.1 this
  exact ⟨[],rfl,rfl⟩
 | succ n ih =>
  intro xs h
  rw[Nat.add_comm] at h
  obtain⟨j,h1,h2,h3⟩:=zAQ h
  have hj:=zlp h1
  have hne:xs≠[]:=fun e=>by subst e; simp at hj; omega
  obtain⟨ps,h4,h5⟩:=ih (xs.drop j) (by rw[h3,List.length_drop])
  refine ⟨xs.take j::ps,?_,by simp [h5]⟩
  rw[zdv hne,h1]
  dsimp only
  rw[h4]; rfl
theorem zqV {a0:List zm} {p:List Int} (h:sk a0 1 p=some p.length):∃ x r q,p=x::r∧zbY a0 x=some q∧sk a0 q r=some r.length:=by
 cases p with
 | nil=>simp [sk] at h
 | cons x r =>
  unfold sk at h
  cases ha:zbY a0 x with
  | none=>rw[ha] at h; cases h
  | some q =>
   rw[ha] at h
   simp only[Option.map_eq_some_iff,Nat.zero_add] at h
   obtain⟨j,hj,he⟩:=h
   rw[List.length_cons] at he
   exact ⟨x,r,q,rfl,ha,by rw[hj]; congr 1; omega⟩
theorem zpr {a0:List zm} (h:SignOk a0) (a1:List Int) (hl:a1.length≤1099511627776):∀(m i:Nat) (acc ps:List jI) (k:Nat),a1.length - i=m→i≤a1.length→acc.length≤i→zkn a0 (a1.drop i)=some ps→m<k →
  lp zbN k (a0,a1,(i:Int),acc)=some (.inl (acc++ps)):=by
 intro m
 induction m using Nat.strongRecOn with
 | _ m ih =>
  intro i acc ps k hm hi hacc hc hk
  obtain⟨k,rfl⟩:∃ k',k=k'+1:=⟨k - 1,by omega⟩
  rw[zK]
  have key:=fun j acc' ps' (h1:i<j) h2 h3 h4=>ih (a1.length - j) (by omega) j acc' ps' k rfl h2 h3 h4 (by omega)
  generalize lp zbN k=rec at key ⊢
  unfold zbN
  by_cases he:i=a1.length
  ·subst he
   rw[List.drop_length,zkD] at hc
   injection hc with hc; subst hc
   simp
  ·have hlt:i<a1.length:=by omega
   have hne:a1.drop i≠[]:=by simp; omega
   rw[zdv hne] at hc
   simp only[decide_eq_true (show (i:Int)<((List.length a1:Nat):Int) by omega),cond_true,zeG h a1 hl,Option.bind_some]
   cases hs:sk a0 1 (a1.drop i) with
   | none=>rw[hs] at hc; cases hc
   | some j =>
    rw[hs] at hc
    simp only[Option.map_eq_some_iff] at hc
    obtain⟨qs,hq,rfl⟩:=hc
    have hj:=zlp hs
    rw[List.length_drop] at hj
    have e1:zbR a1 (some (i:Int)) (some ((i+j:Nat):Int))=some ((a1.drop i).take j):=by
     show slc a1 _ _=_
     unfold slc
     rw[decide_eq_true (show (0:Int)≤(i:Int) by omega),decide_eq_true (show (i:Int)≤((i+j:Nat):Int) by omega),decide_eq_true (show ((i+j:Nat):Int)≤((a1.length:Nat):Int) by omega)]
     simp only[cond_true,Int.toNat_natCast,Option.some.injEq]
     rw[List.drop_take]; congr 1; omega
    simp only[Bool.not_true,cond_false,e1,Option.bind_some,List.length_singleton,zn (show (acc.length+1)*24≤140737488351232 by omega),cond_true]
    rw[List.drop_drop] at hq
    rw[key (i+j) _ qs (by omega) (by omega) (by simp; omega) hq]
    simp
theorem zbS {a0:List zm} (h:SignOk a0) {a1:List Int} (hl:a1.length≤1099511627776) {ps:List jI} (hc:zkn a0 a1=some ps):za1 a0 a1=some ps:=by
 unfold za1
 have:=zpr h a1 hl a1.length 0 [] ps zd rfl (Nat.zero_le _) (Nat.zero_le _) hc (by unfold zd; omega)
 rw[show ((0:Nat):Int)=0 from rfl] at this
 rw[this]
 rfl
theorem zhA {a0:List zm} {xs:List Int} {ps:List jI} (h:zkn a0 xs=some ps):ps.length≤xs.length:=by
 obtain⟨h1,h2⟩:=zgv xs.length xs ps (Nat.le_refl _) h
 have h3:∀ qs:List jI,(∀ p∈qs,p≠[])→qs.length≤qs.flatten.length:=by
  intro qs
  induction qs with
  | nil=>intro _; simp
  | cons q qs ih =>
   intro hq
   have:=ih fun p hp=>hq p (by simp [hp])
   have h4:=List.length_pos_iff.2 (hq q (by simp))
   simp only[List.flatten_cons,List.length_append,List.length_cons]
   omega
 have:=h3 ps fun p hp=>(h2 p hp).1
 rw[h1] at this
 exact this
theorem zo1 {a0:List zm} {x:Int} {q:Nat} (h:zbY a0 x=some q) (hx:x<0) : -24≤x∧q=0:=by
 unfold zbY at h
 rw[decide_eq_true hx,cond_true] at h
 cases hd:decide (-24≤x) with
 | false=>rw[hd] at h; cases h
 | true=>rw[hd] at h; injection h with h; exact ⟨of_decide_eq_true hd,h.symm⟩
theorem zpD {a0:List zm} {x:Int} {q:Nat} (h:zbY a0 x=some q) (hx:¬ x<0):∃ e,gx a0 x=some e∧a0[x.toNat]? = some e∧e.2.1≠0∧q=e.2.2.1.toNat:=by
 unfold zbY at h
 rw[decide_eq_false hx,cond_false] at h
 cases he:a0[x.toNat]? with
 | none=>rw[he] at h; cases h
 | some e =>
  rw[he] at h
  have hg:gx a0 x=some e:=by
   unfold gx
   rw[decide_eq_true (show 0≤x by omega),cond_true,he]
  dsimp only at h
  cases hz:(e.2.1==0) with
  | true=>rw[hz] at h; cases h
  | false=>rw[hz] at h; injection h with h; exact ⟨e,hg,rfl,by simpa using hz,h.symm⟩
end
end Go.Abs.Q
namespace Go.Abs.Q
open Go Go.Abs
section
theorem zhl {a0:List zm} {xs:List Int} (h:zdC a0 xs=true):∃ x r e ps,xs=x::r∧0≤x∧a0[x.toNat]? = some e∧gx a0 x=some e∧e.2.1=0∧zcD a0=true∧r.length≤48∧zkn a0 r=some ps∧((ps.length:Nat):Int)=e.2.2.1:=by
 unfold zdC at h
 cases xs with
 | nil=>cases h
 | cons x r =>
  simp only[Bool.and_eq_true,decide_eq_true_eq] at h
  obtain⟨h0,h⟩:=h
  cases he:a0[x.toNat]? with
  | none=>rw[he] at h; cases h
  | some e =>
   rw[he] at h
   simp only[Bool.and_eq_true] at h
   obtain⟨h1,h⟩:=h
   cases hb:zbn a0 r with
   | none=>rw[hb] at h; cases h
   | some ps =>
    rw[hb] at h
    unfold zbn at hb
    cases hs:zcD a0 with
    | false=>rw[hs] at hb; cases hb
    | true =>
     cases hl:decide (r.length≤48) with
     | false=>rw[hs,hl] at hb; cases hb
     | true =>
      rw[hs,hl] at hb
      refine ⟨x,r,e,ps,rfl,h0,he,?_,by simpa using h1,rfl,of_decide_eq_true hl,hb,by simpa using h⟩
      unfold gx
      rw[decide_eq_true h0,cond_true,he]
theorem zlD {a0:List zm} {r:List Int} {n:Nat} (h:zgt a0 r=some n):∃ ps,zkn a0 r=some ps∧ps.length=n∧r.length≤48∧zcD a0=true:=by
 have hl:=ziD h
 unfold zgt zbn at h
 cases hs:zcD a0 with
 | false=>rw[hs] at h; cases h
 | true =>
  rw[hs,decide_eq_true hl] at h
  simp only[Bool.and_true,cond_true,Option.map_eq_some_iff] at h
  obtain⟨ps,h1,h2⟩:=h
  exact ⟨ps,h1,h2,hl,rfl⟩
theorem zi8 {a0:List zm} {rs:List jI} (h:zfW a0 rs=true):∃ n,∀ r∈rs,zgt a0 r=some n:=by
 cases rs with
 | nil=>exact ⟨0,fun r hr=>by cases hr⟩
 | cons r rs =>
  unfold zfW at h
  dsimp only at h
  cases hr:zgt a0 r with
  | none=>rw[hr] at h; cases h
  | some n =>
   rw[hr] at h
   refine ⟨n,fun q hq => ?_⟩
   rcases List.mem_cons.1 hq with rfl | hq
   ·exact hr
   ·simpa using List.all_eq_true.1 h q hq
theorem za7 {a0:List zm} {a1:List zg} {a2:List jI} {a3:List zg} (h:zeQ a0 a1 a2 a3=true):zcD a0=true∧a1.length≤5∧a2.length≤3∧a3.length≤3∧zdN a0 a1=true∧zfW a0 a2=true∧zdN a0 a3=true∧zl (a1.map (·.2))+zl a2+zl (a3.map (·.2))≤240:=by
 unfold zeQ at h
 simp only[Bool.and_eq_true,decide_eq_true_eq] at h
 exact ⟨h.1.1.1.1.1.1.1,h.1.1.1.1.1.1.2,h.1.1.1.1.1.2,h.1.1.1.1.2,h.1.1.1.2,h.1.1.2,h.1.2,h.2⟩
theorem zE4 {a0:List zm} {a1:List zg} {a2:List jI} {a3:List zg} (h1:zcD a0=true) (h2:a1.length≤5) (h3:a2.length≤3) (h4:a3.length≤3) (h5:zdN a0 a1=true) (h6:zfW a0 a2=true) (h7:zdN a0 a3=true)
  (h8:zl (a1.map (·.2))+zl a2+zl (a3.map (·.2))≤240):zeQ a0 a1 a2 a3=true:=by
 unfold zeQ
 simp only[h1,decide_eq_true h2,decide_eq_true h3,decide_eq_true h4,h5,h6,h7,decide_eq_true h8,Bool.and_self]
end
end Go.Abs.Q
namespace Go.Abs.Q
open Go Go.Abs
section
def bad (t:UInt8):Bool:=t==111||t==114||t==105||t==102||t==38
end
end Go.Abs.Q
namespace Go.Abs.Q
open Go Go.Abs
section
theorem zIU {α:Type} (s:List α) {i j:Nat} (hij:i≤j) (h:j≤s.length):zbR s (some (i:Int)) (some (j:Int))=some ((s.drop i).take (j - i)):=by
 show slc s _ _=_
 unfold slc
 rw[decide_eq_true (show (0:Int)≤(i:Int) by omega),decide_eq_true (show (i:Int)≤(j:Int) by omega),decide_eq_true (show (j:Int)≤((s.length:Nat):Int) by omega)]
 simp only[cond_true,Int.toNat_natCast,Option.some.injEq]
 rw[List.drop_take]
end
end Go.Abs.Q
namespace Go.Abs.Q
open Go Go.Abs
def za0 (a0:jI):Option jI :=
 cond (yB (List.length ([]:List Int)+List.length a0) 8)
 (some (([]:List Int)++a0))
 (none)
def zae (rec:(jQ×Int×jQ)→Option jQ) (x:(jQ×Int×jQ)):Option jQ :=
 cond (decide (x.2.1<((List.length x.1:Nat):Int)))
 ((gx x.1 x.2.1).bind fun e7 =>
  (gx x.1 x.2.1).bind fun e8 =>
  (za0 e8.2).bind fun r9 =>
  cond (yB (List.length x.2.2+List.length ([(e7.1,r9)]:List zg)) 32)
  (rec (x.1,(IntKind.wrap .i64 (x.2.1+1)),(x.2.2++([(e7.1,r9)]:List zg))))
  (none))
 (some x.2.2)
def zcG (a0:jQ):Option jQ :=
 ((lp zae zd) (a0,0,([]:jQ))).bind fun r11 =>
 some r11
def zap (rec:(jR×Int×jR)→Option jR) (x:(jR×Int×jR)):Option jR :=
 cond (decide (x.2.1<((List.length x.1:Nat):Int)))
 ((gx x.1 x.2.1).bind fun e5 =>
  (za0 e5).bind fun r6 =>
  cond (yB (List.length x.2.2+List.length ([r6]:List jI)) 24)
  (rec (x.1,(IntKind.wrap .i64 (x.2.1+1)),(x.2.2++([r6]:List jI))))
  (none))
 (some x.2.2)
def zdU (a0:jR):Option jR :=
 ((lp zap zd) (a0,0,([]:jR))).bind fun r8 =>
 some r8
def qr (a0:jQ) (a1:jR) (a2:jQ):Option (jQ×jR×jQ) :=
 (zcG a0).bind fun r4 =>
 (zdU a1).bind fun r5 =>
 (zcG a2).bind fun r6 =>
 some (r4,r5,r6)
def ze7 (a0:Int):Option Bool :=
 cond (decide (a0≥97))
 (some (decide (a0≤122)))
 (some false)
def zbe (rec:(Int×Str×Int×Int×Int)→Option (Unit⊕Bool)) (x:(Int×Str×Int×Int×Int)):Option (Unit⊕Bool) :=
 cond (decide (x.1<((List.length x.2.1:Nat):Int)))
 ((gx x.2.1 x.1).bind fun c7 =>
  (ze7 ((UInt8.toNat c7:Nat):Int)).bind fun r8 =>
  cond (!r8)
  ((gx x.2.1 x.1).bind fun c9 =>
   cond (decide (((UInt8.toNat c9:Nat):Int)<48))
   (some (Sum.inr false))
   ((gx x.2.1 x.1).bind fun c10 =>
    cond (decide (((UInt8.toNat c10:Nat):Int)>57))
    (some (Sum.inr false))
    (rec ((IntKind.wrap .i64 (x.1+1)),x.2.1,x.2.2.1,x.2.2.2.1,x.2.2.2.2))))
  (rec ((IntKind.wrap .i64 (x.1+1)),x.2.1,x.2.2.1,x.2.2.2.1,x.2.2.2.2)))
 (some (Sum.inl ()))
def zeg (a0:Str) (a1:Int) (a2:Int) (a3:Int):Option Bool :=
 cond (decide (((List.length a0:Nat):Int)<1))
 (some false)
 (cond (decide (((List.length a0:Nat):Int)>8))
  (some false)
  ((gx a0 0).bind fun c14 =>
   (ze7 ((UInt8.toNat c14:Nat):Int)).bind fun r15 =>
   cond (!r15)
   (some false)
   (((lp zbe zd) (0,a0,a1,a2,a3)).bind fun r16 =>
    qb r16
    (fun _z17=>cond (decide (a1≥0))
     (cond (decide (a1≤2))
      (cond (decide (a2≥0))
       (cond (decide (a2≤3))
        (cond (decide (a3≥1))
         (some (decide (a3≤20)))
         (some false))
        (some false))
       (some false))
      (some false))
     (some false))
    (fun z18=>some z18))))
def zcg (rec:(jS×Str×Int)→Option (Unit⊕Int)) (x:(jS×Str×Int)):Option (Unit⊕Int) :=
 cond (decide (x.2.2<((List.length x.1:Nat):Int)))
 ((gx x.1 x.2.2).bind fun e2 =>
  cond (e2.1==x.2.1)
  (some (Sum.inr x.2.2))
  (rec (x.1,x.2.1,(IntKind.wrap .i64 (x.2.2+1)))))
 (some (Sum.inl ()))
def zgA (a0:jS) (a1:Str):Option Int :=
 ((lp zcg zd) (a0,a1,0)).bind fun r6 =>
 qb r6
 (fun _z7=>some (-1))
 (fun z8=>some z8)
def q7 (rec:(jS×Int)→Option (Unit⊕Bool)) (x:(jS×Int)):Option (Unit⊕Bool) :=
 cond (decide (x.2<((List.length x.1:Nat):Int)))
 ((gx x.1 x.2).bind fun e6 =>
  (zeg e6.1 e6.2.1 e6.2.2.1 e6.2.2.2).bind fun r7 =>
  cond (!r7)
  (some (Sum.inr false))
  ((gx x.1 x.2).bind fun e8 =>
   (zgA x.1 e8.1).bind fun r9 =>
   cond (r9 != x.2)
   (some (Sum.inr false))
   (rec (x.1,(IntKind.wrap .i64 (x.2+1))))))
 (some (Sum.inl ()))
def zdw (a0:jS):Option Bool :=
 cond (decide (((List.length a0:Nat):Int)<1))
 (some false)
 (cond (decide (((List.length a0:Nat):Int)>20))
  (some false)
  ((gx a0 0).bind fun e13 =>
   cond (!(cond (eqS e13.1 ([61]:Str)) (cond (eqI e13.2.1 0) (cond (eqI e13.2.2.1 2) (cond (eqI e13.2.2.2 1) true false) false) false) false))
   (some false)
   (((lp q7 zd) (a0,1)).bind fun r14 =>
    qb r14
    (fun _z15=>some true)
    (fun z16=>some z16))))
def zbZ (rec:(jS×jI×Int×Int)→Option (Int⊕Int)) (x:(jS×jI×Int×Int)):Option (Int⊕Int) :=
 cond (decide (x.2.2.1>0))
 (cond (decide (x.2.2.2≥((List.length x.2.1:Nat):Int)))
  (some (Sum.inr (-1)))
  ((gx x.2.1 x.2.2.2).bind fun e8 =>
   cond (decide (e8<(-24)))
   (some (Sum.inr (-1)))
   ((gx x.2.1 x.2.2.2).bind fun e9 =>
    cond (decide (e9≥((List.length x.1:Nat):Int)))
    (some (Sum.inr (-1)))
    ((gx x.2.1 x.2.2.2).bind fun e10 =>
     cond (decide (e10≥0))
     ((gx x.2.1 x.2.2.2).bind fun e11 =>
      (gx x.1 e11).bind fun e12 =>
      cond (e12.2.1==0)
      (some (Sum.inr (-1)))
      ((gx x.2.1 x.2.2.2).bind fun e13 =>
       (gx x.1 e13).bind fun e14 =>
       rec (x.1,x.2.1,(IntKind.wrap .i64 ((IntKind.wrap .i64 (x.2.2.1 - 1))+e14.2.2.1)),(IntKind.wrap .i64 (x.2.2.2+1)))))
     (rec (x.1,x.2.1,(IntKind.wrap .i64 (x.2.2.1 - 1)),(IntKind.wrap .i64 (x.2.2.2+1))))))))
 (some (Sum.inl x.2.2.2))
def zfY (a0:jS) (a1:jI) (a2:Int):Option Int :=
 ((lp zbZ zd) (a0,a1,1,a2)).bind fun r18 =>
 qb r18
 (fun z19=>some z19)
 (fun z20=>some z20)
def zcA (rec:(jS×jI×Int×Int)→Option (Int⊕Int)) (x:(jS×jI×Int×Int)):Option (Int⊕Int) :=
 cond (decide (x.2.2.2<((List.length x.2.1:Nat):Int)))
 ((zfY x.1 x.2.1 x.2.2.2).bind fun r2 =>
  cond (decide (r2<0))
  (some (Sum.inr (-1)))
  (rec (x.1,x.2.1,(IntKind.wrap .i64 (x.2.2.1+1)),r2)))
 (some (Sum.inl x.2.2.1))
def zcm (a0:jS) (a1:jI):Option Int :=
 cond (decide (((List.length a1:Nat):Int)>48))
 (some (-1))
 (((lp zcA zd) (a0,a1,0,0)).bind fun r6 =>
  qb r6
  (fun z7=>some z7)
  (fun z8=>some z8))
def zfG (a0:jS) (a1:jI):Option Bool :=
 cond (decide (((List.length a1:Nat):Int)>0))
 ((gx a1 0).bind fun e9 =>
  cond (decide (e9≥0))
  ((gx a1 0).bind fun e10 =>
   cond (decide (e10<((List.length a0:Nat):Int)))
   ((gx a1 0).bind fun e11 =>
    (gx a0 e11).bind fun e12 =>
    cond (e12.2.1==0)
    ((zbR a1 (some 1) none).bind fun y13 =>
     (zcm a0 y13).bind fun r14 =>
     (gx a1 0).bind fun e15 =>
     (gx a0 e15).bind fun e16 =>
     some (r14==e16.2.2.1))
    (some false))
   (some false))
  (some false))
 (some false)
def zb3 (a0:jS) (_a1:Bool) (a2:jI):Option Bool :=
 (zdw a0).bind fun r3 =>
 cond r3
 ((zfG a0 a2).bind fun r4 =>
  some r4)
 (some false)
def zb7 (rec:(Int×jQ×jR×jQ×jR)→Option jR) (x:(Int×jQ×jR×jQ×jR)):Option jR :=
 cond (decide (x.1<((List.length x.2.2.2.1:Nat):Int)))
 ((gx x.2.2.2.1 x.1).bind fun e9 =>
  cond (yB (List.length x.2.2.2.2+List.length ([e9.2]:List jI)) 24)
  (rec ((IntKind.wrap .i64 (x.1+1)),x.2.1,x.2.2.1,x.2.2.2.1,(x.2.2.2.2++([e9.2]:List jI))))
  (none))
 (some x.2.2.2.2)
def zcj (rec:(Int×jQ×jR×jQ×jR)→Option jR) (x:(Int×jQ×jR×jQ×jR)):Option jR :=
 cond (decide (x.1<((List.length x.2.2.1:Nat):Int)))
 ((gx x.2.2.1 x.1).bind fun e6 =>
  cond (yB (List.length x.2.2.2.2+List.length ([e6]:List jI)) 24)
  (rec ((IntKind.wrap .i64 (x.1+1)),x.2.1,x.2.2.1,x.2.2.2.1,(x.2.2.2.2++([e6]:List jI))))
  (none))
 (some x.2.2.2.2)
def zci (rec:(Int×jQ×jR×jQ×jR)→Option jR) (x:(Int×jQ×jR×jQ×jR)):Option jR :=
 cond (decide (x.1<((List.length x.2.1:Nat):Int)))
 ((gx x.2.1 x.1).bind fun e3 =>
  cond (yB (List.length x.2.2.2.2+List.length ([e3.2]:List jI)) 24)
  (rec ((IntKind.wrap .i64 (x.1+1)),x.2.1,x.2.2.1,x.2.2.2.1,(x.2.2.2.2++([e3.2]:List jI))))
  (none))
 (some x.2.2.2.2)
def zfb (a0:jQ) (a1:jR) (a2:jQ):Option jR :=
 ((lp zci zd) (0,a0,a1,a2,([]:jR))).bind fun r11 =>
 ((lp zcj zd) (0,a0,a1,a2,r11)).bind fun r12 =>
 ((lp zb7 zd) (0,a0,a1,a2,r12)).bind fun r13 =>
 some r13
def zc1 (rec:(jR×Int×Int)→Option Int) (x:(jR×Int×Int)):Option Int :=
 cond (decide (x.2.2<((List.length x.1:Nat):Int)))
 ((gx x.1 x.2.2).bind fun e26 =>
  rec (x.1,(IntKind.wrap .i64 (x.2.1+((List.length e26:Nat):Int))),(IntKind.wrap .i64 (x.2.2+1))))
 (some x.2.1)
def zcY (rec:(jS×Int×jQ×jR×jQ)→Option (Unit⊕Bool)) (x:(jS×Int×jQ×jR×jQ)):Option (Unit⊕Bool) :=
 cond (decide (x.2.1<((List.length x.2.2.2.1:Nat):Int)))
 ((gx x.2.2.2.1 x.2.1).bind fun e18 =>
  (zcm x.1 e18).bind fun r19 =>
  cond (decide (r19<0))
  (some (Sum.inr false))
  ((gx x.2.2.2.1 0).bind fun e20 =>
   (zcm x.1 e20).bind fun r21 =>
   cond (r19 != r21)
   (some (Sum.inr false))
   (rec (x.1,(IntKind.wrap .i64 (x.2.1+1)),x.2.2.1,x.2.2.2.1,x.2.2.2.2))))
 (some (Sum.inl ()))
def zc4 (rec:(jS×Int×jQ×jR×jQ)→Option (Unit⊕Bool)) (x:(jS×Int×jQ×jR×jQ)):Option (Unit⊕Bool) :=
 cond (decide (x.2.1<((List.length x.2.2.2.2:Nat):Int)))
 ((gx x.2.2.2.2 x.2.1).bind fun e10 =>
  (zb3 x.1 e10.1 e10.2).bind fun r11 =>
  cond (!r11)
  (some (Sum.inr false))
  (rec (x.1,(IntKind.wrap .i64 (x.2.1+1)),x.2.2.1,x.2.2.2.1,x.2.2.2.2)))
 (some (Sum.inl ()))
def zc9 (rec:(jS×Int×jQ×jR×jQ)→Option (Unit⊕Bool)) (x:(jS×Int×jQ×jR×jQ)):Option (Unit⊕Bool) :=
 cond (decide (x.2.1<((List.length x.2.2.1:Nat):Int)))
 ((gx x.2.2.1 x.2.1).bind fun e4 =>
  (zb3 x.1 e4.1 e4.2).bind fun r5 =>
  cond (!r5)
  (some (Sum.inr false))
  (rec (x.1,(IntKind.wrap .i64 (x.2.1+1)),x.2.2.1,x.2.2.2.1,x.2.2.2.2)))
 (some (Sum.inl ()))
def zhm (a0:jS) (a1:jQ) (a2:jR) (a3:jQ):Option Bool :=
 (zdw a0).bind fun r31 =>
 cond (!r31)
 (some false)
 (cond (decide (((List.length a1:Nat):Int)>5))
  (some false)
  (cond (decide (((List.length a3:Nat):Int)>3))
   (some false)
   (cond (decide (((List.length a2:Nat):Int)>3))
    (some false)
    (((lp zc9 zd) (a0,0,a1,a2,a3)).bind fun r32 =>
     qb r32
     (fun _z33=>((lp zc4 zd) (a0,0,a1,a2,a3)).bind fun r34 =>
      qb r34
      (fun _z35=>((lp zcY zd) (a0,0,a1,a2,a3)).bind fun r36 =>
       qb r36
       (fun _z37=>(zfb a1 a2 a3).bind fun r38 =>
        ((lp zc1 zd) (r38,0,0)).bind fun r39 =>
        some (decide (r39≤240)))
       (fun z40=>some z40))
      (fun z41=>some z41))
     (fun z42=>some z42)))))
def zaB (rec:(jS×jI×Int×Int)→Option Int) (x:(jS×jI×Int×Int)):Option Int :=
 cond (decide (x.2.2.1>0))
 ((gx x.2.1 x.2.2.2).bind fun e4 =>
  cond (decide (e4≥0))
  ((gx x.2.1 x.2.2.2).bind fun e5 =>
   (gx x.1 e5).bind fun e6 =>
   rec (x.1,x.2.1,(IntKind.wrap .i64 ((IntKind.wrap .i64 (x.2.2.1 - 1))+e6.2.2.1)),(IntKind.wrap .i64 (x.2.2.2+1))))
  (rec (x.1,x.2.1,(IntKind.wrap .i64 (x.2.2.1 - 1)),(IntKind.wrap .i64 (x.2.2.2+1)))))
 (some x.2.2.2)
def zfC (a0:jS) (a1:jI) (a2:Int):Option Int :=
 ((lp zaB zd) (a0,a1,1,a2)).bind fun r8 =>
 some r8
def zcJ (rec:(jS×jI×Int×jR)→Option jR) (x:(jS×jI×Int×jR)):Option jR :=
 cond (decide (x.2.2.1<((List.length x.2.1:Nat):Int)))
 ((zfC x.1 x.2.1 x.2.2.1).bind fun r5 =>
  (zbR x.2.1 (some x.2.2.1) (some r5)).bind fun y6 =>
  cond (yB (List.length x.2.2.2+List.length ([y6]:List jI)) 24)
  (rec (x.1,x.2.1,r5,(x.2.2.2++([y6]:List jI))))
  (none))
 (some x.2.2.2)
def zR (a0:jS) (a1:jI):Option jR :=
 ((lp zcJ zd) (a0,a1,0,([]:jR))).bind fun r8 =>
 some r8
end Go.Abs.Q
namespace Go.Abs.Q
open Go Go.Abs
def z6:List zg→jQ→Option jQ
 | [],s2=>some s2
 | e::es,s2 =>
  (za0 e.2).bind fun r9 =>
  cond (yB (List.length s2+List.length ([(e.1,r9)]:List zg)) 32)
  (z6 es (s2++([(e.1,r9)]:List zg)))
  (none)
theorem zfB (s0:jQ) (s2:jQ) (hl:List.length s0≤maxLen):lp zae zd (s0,0,s2)=z6 s0 s2:=zac zae (fun i s2=>(s0,i,s2)) (fun es i s2=>z6 es s2) hl (fun r i s2 h=>by unfold zae z6; simp only[h,cond_false]) (fun r i s2 e es h g w k=>by unfold zae z6; simp only[h,cond_true,g,Option.bind_some,w,k]) s2
def z5:List jI→jR→Option jR
 | [],s2=>some s2
 | e::es,s2 =>
  (za0 e).bind fun r6 =>
  cond (yB (List.length s2+List.length ([r6]:List jI)) 24)
  (z5 es (s2++([r6]:List jI)))
  (none)
theorem zfP (s0:jR) (s2:jR) (hl:List.length s0≤maxLen):lp zap zd (s0,0,s2)=z5 s0 s2:=zac zap (fun i s2=>(s0,i,s2)) (fun es i s2=>z5 es s2) hl (fun r i s2 h=>by unfold zap z5; simp only[h,cond_false]) (fun r i s2 e es h g w k=>by unfold zap z5; simp only[h,cond_true,g,Option.bind_some,w,k]) s2
def yk:List UInt8→Option (Unit⊕Bool)
 | []=>some (Sum.inl ())
 | e::es =>
  (ze7 ((UInt8.toNat e:Nat):Int)).bind fun r8 =>
  cond (!r8)
  (cond (decide (((UInt8.toNat e:Nat):Int)<48))
   (some (Sum.inr false))
   (cond (decide (((UInt8.toNat e:Nat):Int)>57))
    (some (Sum.inr false))
    (yk es)))
  (yk es)
theorem zg8 (s1:Str) (s2:Int) (s3:Int) (s4:Int) (hl:List.length s1≤maxLen):lp zbe zd (0,s1,s2,s3,s4)=yk s1:=zfg zbe (fun i=>(i,s1,s2,s3,s4)) (fun es i=>yk es) hl (fun r i h=>by unfold zbe yk; simp only[h,cond_false]) (fun r i e es h g w k=>by unfold zbe yk; simp only[h,cond_true,g,Option.bind_some,w,k])
def q4 (s1:Str):List zm→Nat→Option (Unit⊕Int)
 | [],_i=>some (Sum.inl ())
 | e::es,i =>
  cond (e.1==s1)
  (some (Sum.inr (i:Int)))
  (q4 s1 es (i+1))
theorem zil (s0:jS) (s1:Str) (hl:List.length s0≤maxLen):lp zcg zd (s0,s1,0)=q4 s1 s0 0:=zfg zcg (fun i=>(s0,s1,i)) (fun es i=>q4 s1 es i) hl (fun r i h=>by unfold zcg q4; simp only[h,cond_false]) (fun r i e es h g w k=>by unfold zcg q4; simp only[h,cond_true,g,Option.bind_some,w,k])
def qD (s0:jS):List zm→Nat→Option (Unit⊕Bool)
 | [],_i=>some (Sum.inl ())
 | e::es,i =>
  (zeg e.1 e.2.1 e.2.2.1 e.2.2.2).bind fun r7 =>
  cond (!r7)
  (some (Sum.inr false))
  ((zgA s0 e.1).bind fun r9 =>
   cond (r9 != (i:Int))
   (some (Sum.inr false))
   (qD s0 es (i+1)))
theorem zhc (s0:jS) (hl:List.length s0≤maxLen):∀(es:List zm) (i:Nat) (k:Nat),s0.drop i=es→es.length<k→lp q7 k (s0,(i:Int))=qD s0 es i:=by
 intro es
 induction es with
 | nil =>
  intro i k h hk
  obtain⟨k,rfl⟩:∃ k',k=k'+1:=⟨k - 1,by omega⟩
  rw[zK]
  generalize lp q7 k=rec
  unfold q7 qD
  simp only[zhD (zb1 h),cond_false]
 | cons e es ih =>
  intro i k h hk
  obtain⟨k,rfl⟩:∃ k',k=k'+1:=⟨k - 1,by omega⟩
  rw[zK]
  have hi:=qP h
  have hk2:es.length<k:=Nat.lt_of_succ_lt_succ hk
  have key:=fun (_:Unit)=>ih (i+1) k (zw h) hk2
  generalize lp q7 k=rec at key ⊢
  unfold q7 qD
  simp only[zih hi,cond_true,zab,zB h,Option.bind_some,zjp hi hl,key ()]
def qw:List zg→jR→Option jR
 | [],s4=>some s4
 | e::es,s4 =>
  cond (yB (List.length s4+List.length ([e.2]:List jI)) 24)
  (qw es (s4++([e.2]:List jI)))
  (none)
theorem zin (s1:jQ) (s2:jR) (s3:jQ) (s4:jR) (hl:List.length s3≤maxLen):lp zb7 zd (0,s1,s2,s3,s4)=qw s3 s4:=zac zb7 (fun i s4=>(i,s1,s2,s3,s4)) (fun es i s4=>qw es s4) hl (fun r i s4 h=>by unfold zb7 qw; simp only[h,cond_false]) (fun r i s4 e es h g w k=>by unfold zb7 qw; simp only[h,cond_true,g,Option.bind_some,w,k]) s4
def qz:List jI→jR→Option jR
 | [],s4=>some s4
 | e::es,s4 =>
  cond (yB (List.length s4+List.length ([e]:List jI)) 24)
  (qz es (s4++([e]:List jI)))
  (none)
theorem zhX (s1:jQ) (s2:jR) (s3:jQ) (s4:jR) (hl:List.length s2≤maxLen):lp zcj zd (0,s1,s2,s3,s4)=qz s2 s4:=zac zcj (fun i s4=>(i,s1,s2,s3,s4)) (fun es i s4=>qz es s4) hl (fun r i s4 h=>by unfold zcj qz; simp only[h,cond_false]) (fun r i s4 e es h g w k=>by unfold zcj qz; simp only[h,cond_true,g,Option.bind_some,w,k]) s4
def qB:List zg→jR→Option jR
 | [],s4=>some s4
 | e::es,s4 =>
  cond (yB (List.length s4+List.length ([e.2]:List jI)) 24)
  (qB es (s4++([e.2]:List jI)))
  (none)
theorem zh2 (s1:jQ) (s2:jR) (s3:jQ) (s4:jR) (hl:List.length s1≤maxLen):lp zci zd (0,s1,s2,s3,s4)=qB s1 s4:=zac zci (fun i s4=>(i,s1,s2,s3,s4)) (fun es i s4=>qB es s4) hl (fun r i s4 h=>by unfold zci qB; simp only[h,cond_false]) (fun r i s4 e es h g w k=>by unfold zci qB; simp only[h,cond_true,g,Option.bind_some,w,k]) s4
def qM:List jI→Int→Option Int
 | [],s1=>some s1
 | e::es,s1 =>
  qM es (IntKind.wrap .i64 (s1+((List.length e:Nat):Int)))
theorem ziF (s0:jR) (s1:Int) (hl:List.length s0≤maxLen):lp zc1 zd (s0,s1,0)=qM s0 s1:=zac zc1 (fun i s1=>(s0,s1,i)) (fun es i s1=>qM es s1) hl (fun r i s1 h=>by unfold zc1 qM; simp only[h,cond_false]) (fun r i s1 e es h g w k=>by unfold zc1 qM; simp only[h,cond_true,g,Option.bind_some,w,k]) s1
def qO (s0:jS) (s3:jR):List jI→Option (Unit⊕Bool)
 | []=>some (Sum.inl ())
 | e::es =>
  (zcm s0 e).bind fun r19 =>
  cond (decide (r19<0))
  (some (Sum.inr false))
  ((gx s3 0).bind fun e20 =>
   (zcm s0 e20).bind fun r21 =>
   cond (r19 != r21)
   (some (Sum.inr false))
   (qO s0 s3 es))
theorem ziQ (s0:jS) (s2:jQ) (s3:jR) (s4:jQ) (hl:List.length s3≤maxLen):lp zcY zd (s0,0,s2,s3,s4)=qO s0 s3 s3:=zfg zcY (fun i=>(s0,i,s2,s3,s4)) (fun es i=>qO s0 s3 es) hl (fun r i h=>by unfold zcY qO; simp only[h,cond_false]) (fun r i e es h g w k=>by unfold zcY qO; simp only[h,cond_true,g,Option.bind_some,w,k])
def zaA (s0:jS):List zg→Option (Unit⊕Bool)
 | []=>some (Sum.inl ())
 | e::es =>
  (zb3 s0 e.1 e.2).bind fun r11 =>
  cond (!r11)
  (some (Sum.inr false))
  (zaA s0 es)
theorem zi0 (s0:jS) (s2:jQ) (s3:jR) (s4:jQ) (hl:List.length s4≤maxLen):lp zc4 zd (s0,0,s2,s3,s4)=zaA s0 s4:=zfg zc4 (fun i=>(s0,i,s2,s3,s4)) (fun es i=>zaA s0 es) hl (fun r i h=>by unfold zc4 zaA; simp only[h,cond_false]) (fun r i e es h g w k=>by unfold zc4 zaA; simp only[h,cond_true,g,Option.bind_some,w,k])
def zaC (s0:jS):List zg→Option (Unit⊕Bool)
 | []=>some (Sum.inl ())
 | e::es =>
  (zb3 s0 e.1 e.2).bind fun r5 =>
  cond (!r5)
  (some (Sum.inr false))
  (zaC s0 es)
theorem ziN (s0:jS) (s2:jQ) (s3:jR) (s4:jQ) (hl:List.length s2≤maxLen):lp zc9 zd (s0,0,s2,s3,s4)=zaC s0 s2:=zfg zc9 (fun i=>(s0,i,s2,s3,s4)) (fun es i=>zaC s0 es) hl (fun r i h=>by unfold zc9 zaC; simp only[h,cond_false]) (fun r i e es h g w k=>by unfold zc9 zaC; simp only[h,cond_true,g,Option.bind_some,w,k])
end Go.Abs.Q
namespace Go.Abs.Q
open Go Go.Abs
section
theorem zjf (n:Int):ze7 n=some (ziY n):=zdZ n
theorem ztv (es:List UInt8):yk es=some (cond (es.all ztt) (.inl ()) (.inr false)):=by
 have:∀ es,yk es=zQ es:=by
  intro es
  induction es with
  | nil=>rfl
  | cons e es ih =>
   unfold yk zQ
   rw[zjf,zdZ,ih]
 rw[this,zpA]
theorem zmC (e:zm):zeg e.1 e.2.1 e.2.2.1 e.2.2.2=some (zwG e):=by
 obtain⟨s,a,b,c⟩:=e
 unfold zeg zwG zgX
 dsimp only
 cases s with
 | nil=>rfl
 | cons x r =>
  rw[decide_eq_false (show ¬(((List.length (x::r):Nat):Int)<1) by rw[List.length_cons]; omega),cond_false]
  by_cases h:(x::r).length≤8
  ·rw[decide_eq_false (show ¬(((List.length (x::r):Nat):Int)>8) by omega),cond_false,qf,List.getElem?_cons_zero,Option.bind_some,zjf,Option.bind_some,zg8 _ _ _ _ (by unfold maxLen; omega),ztv,decide_eq_true h]
   dsimp only
   cases ziY ((UInt8.toNat x:Nat):Int) with
   | false=>rfl
   | true =>
    cases (x::r).all ztt with
    | false=>rfl
    | true =>
     simp only[Bool.not_true,cond_false,cond_true,Option.bind_some,zcy,Bool.true_and,Bool.and_true,ge_iff_le]
     cases decide (0≤a)<;>simp only[cond_true,cond_false,Bool.true_and,Bool.false_and]
     cases decide (a≤2)<;>simp only[cond_true,cond_false,Bool.true_and,Bool.false_and]
     cases decide (0≤b)<;>simp only[cond_true,cond_false,Bool.true_and,Bool.false_and]
     cases decide (b≤3)<;>simp only[cond_true,cond_false,Bool.true_and,Bool.false_and]
     cases decide (1≤c)<;>simp only[cond_true,cond_false,Bool.true_and,Bool.false_and]
  ·rw[decide_eq_true (show (((List.length (x::r):Nat):Int)>8) by omega),decide_eq_false h]
   rfl
theorem zou (a0:List zm) (nm:Str) (h:a0.length≤maxLen):zgA a0 nm=some (zyZ (a0.findIdx? (fun e=>e.1==nm))):=by
 have:∀ es i,q4 nm es i=yX nm es i:=by
  intro es
  induction es with
  | nil=>intro i; rfl
  | cons e es ih=>intro i; unfold q4 yX; rw[ih]
 unfold zgA
 rw[zil _ _ h,this,zx7]
 cases a0.findIdx? (fun e=>e.1==nm) with
 | none=>rfl
 | some j=>simp [qb,zyZ]
theorem zDY (a0:List zm) (h:a0.length≤maxLen) (es:List zm) (i:Nat):qD a0 es i=some (cond (zjH a0 es i) (.inl ()) (.inr false)):=by
 induction es generalizing i with
 | nil=>rfl
 | cons e es ih =>
  unfold qD zjH
  rw[zmC,Option.bind_some,zou _ _ h,Option.bind_some,ih,bne]
  cases zwG e with
  | false=>rfl
  | true =>
   cases (zyZ (a0.findIdx? (fun d=>d.1==e.1))==(i:Int)) with
   | false=>rfl
   | true=>simp
theorem zgL (a0:List zm):zdw a0=some (zcD a0):=by
 unfold zdw zcD
 cases a0 with
 | nil=>rfl
 | cons e es =>
  rw[decide_eq_false (show ¬(((List.length (e::es):Nat):Int)<1) by rw[List.length_cons]; omega),cond_false]
  by_cases h:(e::es).length≤20
  ·have h1:¬(((List.length (e::es):Nat):Int)>20):=by omega
   have hm:(e::es).length≤maxLen:=by unfold maxLen; omega
   rw[decide_eq_false h1,cond_false,qf,List.getElem?_cons_zero,Option.bind_some,decide_eq_true h]
   show cond (!(eqQ e)) _ _=some (true&&eqQ e&&zjH (e::es) es 1)
   cases eqQ e with
   | false=>rfl
   | true =>
    have:=zhc (e::es) hm es 1 zd rfl (by simp [zd]; simp at h; omega)
    simp only[Bool.not_true,cond_false]
    rw[show ((1:Int))=((1:Nat):Int) from rfl,this,zDY _ hm]
    cases zjH (e::es) es 1<;>rfl
  ·have h1:((List.length (e::es):Nat):Int)>20:=by omega
   rw[decide_eq_true h1,decide_eq_false h]
   rfl
theorem zuW {a0:List zm} (h:SignOk a0) (a1:List Int) (hl:a1.length≤1099511627776):∀(m i n:Nat) (k:Nat),a1.length - i=m→i≤a1.length→n≤1+3*i→m+1<k →
  lp zbZ k (a0,a1,(n:Int),(i:Int))=some (match sk a0 n (a1.drop i) with
   | some j=>.inl ((i+j:Nat):Int)
   | none=>.inr (-1)):=by
 intro m
 induction m with
 | zero =>
  intro i n k hm hi hni hk
  obtain⟨k,rfl⟩:∃ k',k=k'+1:=⟨k - 1,by omega⟩
  rw[zK]
  generalize lp zbZ k=rec
  unfold zbZ
  rw[List.drop_eq_nil_iff.2 (show a1.length≤i by omega)]
  cases n with
  | zero=>simp [sk]
  | succ n =>
   simp only[decide_eq_true (show ((n+1:Nat):Int)>0 by omega),cond_true,decide_eq_true (show ((i:Int)≥((List.length a1:Nat):Int)) by omega)]
   rfl
 | succ m ih =>
  intro i n k hm hi hni hk
  obtain⟨k,rfl⟩:∃ k',k=k'+1:=⟨k - 1,by omega⟩
  have hi:i<a1.length:=by omega
  rw[zK]
  have key:=fun n' h1=>ih (i+1) n' k (by omega) (by omega) h1 (by omega)
  generalize lp zbZ k=rec at key ⊢
  unfold zbZ
  cases n with
  | zero=>simp [sk]
  | succ n =>
   have e1:IntKind.wrap .i64 (((n+1:Nat):Int) - 1)=(n:Int):=by rw[zt]<;>omega
   have e3:IntKind.wrap .i64 ((i:Int)+1)=((i+1:Nat):Int):=by rw[zt]<;>omega
   simp only[decide_eq_true (show ((n+1:Nat):Int)>0 by omega),cond_true,decide_eq_false (show ¬((i:Int)≥((List.length a1:Nat):Int)) by omega),cond_false,zab,List.getElem?_eq_getElem hi,Option.bind_some,List.drop_eq_getElem_cons hi,sk,e1,e3]
   generalize a1[i]=x
   unfold zbY
   by_cases h0:x<0
   ·rw[decide_eq_true h0,cond_true]
    by_cases h1 : -24≤x
    ·rw[decide_eq_false (show ¬(x < -24) by omega),cond_false,decide_eq_false (show ¬(x≥((List.length a0:Nat):Int)) by omega),cond_false,decide_eq_false (show ¬(x≥0) by omega),cond_false,decide_eq_true h1,cond_true,key n (by omega)]
     dsimp only
     rw[Nat.add_zero]
     cases sk a0 n (a1.drop (i+1)) with
     | none=>rfl
     | some j=>simp only[Option.map_some]; rw[show i+1+j=i+(j+1) from by omega]
    ·rw[decide_eq_true (show x < -24 by omega),decide_eq_false h1]; rfl
   ·rw[decide_eq_false h0,decide_eq_false (show ¬(x < -24) by omega),cond_false,cond_false]
    by_cases h1:x≥((List.length a0:Nat):Int)
    ·rw[decide_eq_true h1,cond_true,List.getElem?_eq_none (by omega)]
    ·obtain⟨e,he1,he2,he3⟩:=zth (xs:=a0) (i:=x) (by omega) (by omega)
     have hat:=h.at he3
     rw[decide_eq_false h1,cond_false,decide_eq_true (show x≥0 by omega),cond_true,he1,Option.bind_some,he3]
     dsimp only
     cases hk0:(e.2.1==0) with
     | true=>rfl
     | false =>
      have e2:IntKind.wrap .i64 ((n:Int)+e.2.2.1)=((n+e.2.2.1.toNat:Nat):Int):=by rw[zt]<;>omega
      simp only[cond_false,Option.bind_some,e2]
      rw[key _ (by omega)]
      cases sk a0 (n+e.2.2.1.toNat) (a1.drop (i+1)) with
      | none=>rfl
      | some j=>simp only[Option.map_some]; rw[show i+1+j=i+(j+1) from by omega]
def zya (o:Option Nat):Int:=match o with
 | some k=>(k:Int)
 | none => -1
theorem zkS {a0:List zm} (h:SignOk a0) (a1:List Int) (hl:a1.length≤1099511627776) (i:Nat) (hi:i≤a1.length):zfY a0 a1 (i:Int)=some (zya ((sk a0 1 (a1.drop i)).map (i + ·))):=by
 unfold zfY
 rw[show (1:Int)=((1:Nat):Int) from rfl,zuW h a1 hl (a1.length - i) i 1 zd rfl hi (by omega) (by unfold zd; omega)]
 cases sk a0 1 (a1.drop i) with
 | none=>rfl
 | some j=>rfl
theorem zqw {a0:List zm} (h:SignOk a0) (a1:List Int) (hl:a1.length≤1099511627776):∀(m i n k:Nat),a1.length - i=m→i≤a1.length→n≤i→m<k →
  lp zcA k (a0,a1,(n:Int),(i:Int))=some (match zkn a0 (a1.drop i) with
   | some ps=>.inl ((n+ps.length:Nat):Int)
   | none=>.inr (-1)):=by
 intro m
 induction m using Nat.strongRecOn with
 | _ m ih =>
  intro i n k hm hi hn hk
  obtain⟨k,rfl⟩:∃ k',k=k'+1:=⟨k - 1,by omega⟩
  rw[zK]
  have key:=fun j n' (h1:i<j) h2 h3=>ih (a1.length - j) (by omega) j n' k rfl h2 h3 (by omega)
  generalize lp zcA k=rec at key ⊢
  unfold zcA
  by_cases he:i=a1.length
  ·subst he
   simp [zkD]
  ·have hlt:i<a1.length:=by omega
   have hne:a1.drop i≠[]:=by simp; omega
   simp only[zih hlt,cond_true,zkS h a1 hl i hi,Option.bind_some,zdv hne]
   cases hs:sk a0 1 (a1.drop i) with
   | none=>rfl
   | some j =>
    have hj:=zlp hs
    rw[List.length_drop] at hj
    have e1:IntKind.wrap .i64 ((n:Int)+1)=((n+1:Nat):Int):=by rw[zt]<;>omega
    rw[show zya (Option.map (fun x=>i+x) (some j))=((i+j:Nat):Int) from rfl,decide_eq_false (show ¬(((i+j:Nat):Int)<0) by omega),cond_false,e1]
    rw[key (i+j) (n+1) (by omega) (by omega) (by omega)]
    dsimp only
    rw[List.drop_drop]
    cases zkn a0 (a1.drop (i+j)) with
    | none=>rfl
    | some ps=>simp only[Option.map_some,List.length_cons]; rw[show n+1+ps.length=n+(ps.length+1) from by omega]
theorem zfR {a0:List zm} (hs:zcD a0=true) (a1:List Int):zcm a0 a1=some (zya (zgt a0 a1)):=by
 have h:=zhx hs
 unfold zcm zgt zbn
 rw[hs,Bool.true_and]
 by_cases hl:a1.length≤48
 ·have:=zqw h a1 (by omega) a1.length 0 0 zd rfl (Nat.zero_le _) (Nat.le_refl _) (by unfold zd; omega)
  rw[show ((0:Nat):Int)=0 from rfl,List.drop_zero] at this
  rw[decide_eq_false (show ¬(((List.length a1:Nat):Int)>48) by omega),decide_eq_true hl,cond_false,cond_true,this]
  cases zkn a0 a1 with
  | none=>rfl
  | some ps=>simp [qb,zya]
 ·rw[decide_eq_true (show (((List.length a1:Nat):Int)>48) by omega),decide_eq_false hl]; rfl
theorem zmz {a0:List zm} (hs:zcD a0=true) (xs:List Int):zfG a0 xs=some (zdC a0 xs):=by
 have h:=zhx hs
 unfold zfG zdC
 cases xs with
 | nil=>rfl
 | cons x r =>
  simp only[decide_eq_true (show (((x::r).length:Nat):Int)>0 by simp<;>omega),cond_true,qf,List.getElem?_cons_zero,Option.bind_some]
  by_cases h0:x<0
  ·rw[decide_eq_false (show ¬(x≥0) by omega)]; rfl
  ·rw[decide_eq_true (show x≥0 by omega),cond_true,Bool.true_and]
   by_cases h1:x≥((List.length a0:Nat):Int)
   ·rw[decide_eq_false (show ¬(x<((List.length a0:Nat):Int)) by omega),List.getElem?_eq_none (by omega)]; rfl
   ·obtain⟨e,he1,he2,he3⟩:=zth (xs:=a0) (i:=x) (by omega) (by omega)
    have hat:=h.at he3
    simp only[decide_eq_true (show x<((List.length a0:Nat):Int) by omega),cond_true,he1,he3,Option.bind_some]
    cases hk:(e.2.1==0) with
    | false=>rfl
    | true =>
     simp only[cond_true,zdj,Option.bind_some,zfR hs,Bool.true_and]
     unfold zgt
     cases zbn a0 r with
     | none =>
      have:((-1:Int)==e.2.2.1)=false:=by simp; omega
      simp [zya,this]
     | some ps=>rfl
theorem ztA {a0:List zm} {xs:List Int} (h:zdC a0 xs=true):zcD a0=true:=by
 obtain⟨_,_,_,_,_,_,_,_,_,hs,_⟩:=zhl h
 exact hs
theorem zmk (a0:List zm) (b:Bool) (xs:List Int):zb3 a0 b xs=some (zdC a0 xs):=by
 unfold zb3
 rw[zgL,Option.bind_some]
 cases hs:zcD a0 with
 | true=>rw[cond_true,zmz hs]; rfl
 | false =>
  cases ha:zdC a0 xs with
  | false=>rfl
  | true=>rw[ztA ha] at hs; cases hs
theorem zva (s:List zg):(es:List zg)→(acc:List jI)→acc.length+es.length≤1000000→qw es acc=some (acc++es.map (·.2))∧qB es acc=some (acc++es.map (·.2))
 | [],acc,_=>⟨by simp [qw],by simp [qB]⟩
 | e::es,acc,h=>by
  rw[List.length_cons] at h
  obtain⟨k1,k2⟩:=zva s es (acc++[e.2]) (by simp; omega)
  unfold qw qB
  rw[zn (show (acc.length+[e.2].length)*24≤140737488351232 by simp; omega),cond_true,cond_true,k1,k2]
  simp
theorem zBu:(es:List jI)→(acc:List jI)→acc.length+es.length≤1000000→qz es acc=some (acc++es)
 | [],acc,_=>by simp [qz]
 | e::es,acc,h=>by
  rw[List.length_cons] at h
  have k1:=zBu es (acc++[e]) (by simp; omega)
  unfold qz
  rw[zn (show (acc.length+[e].length)*24≤140737488351232 by simp; omega),cond_true,k1]
  simp
theorem zgJ (a1:List zg) (a2:List jI) (a3:List zg) (h1:a1.length≤1000) (h2:a2.length≤1000) (h3:a3.length≤1000):zfb a1 a2 a3=some (a1.map (·.2)++a2++a3.map (·.2)):=by
 unfold zfb
 rw[zh2 _ _ _ _ (by unfold maxLen; omega),(zva [] a1 [] (by simp; omega)).2,Option.bind_some,zhX _ _ _ _ (by unfold maxLen; omega),zBu a2 _ (by simp; omega),Option.bind_some,
  zin _ _ _ _ (by unfold maxLen; omega),(zva [] a3 _ (by simp; omega)).1]
 simp
theorem zvo:(es:List jI)→(t:Nat)→t+zl es≤1000000000000→qM es (t:Int)=some ((t+zl es:Nat):Int)
 | [],t,_=>by simp [qM,zl]
 | e::es,t,h=>by
  have hs:zl (e::es)=e.length+zl es:=by simp [zl]
  rw[hs] at h
  unfold qM
  have e1:IntKind.wrap .i64 ((t:Int)+((List.length e:Nat):Int))=((t+e.length:Nat):Int):=by rw[zt]<;>omega
  rw[e1,zvo es (t+e.length) (by omega),hs]
  congr 2
  omega
theorem znS (a0:List zm):(es:List zg)→zaC a0 es=some (cond (zdN a0 es) (.inl ()) (.inr false))∧zaA a0 es=some (cond (zdN a0 es) (.inl ()) (.inr false))
 | []=>⟨rfl,rfl⟩
 | e::es=>by
  obtain⟨k1,k2⟩:=znS a0 es
  unfold zaC zaA
  rw[zmk,k1,k2]
  unfold zdN
  rw[List.all_cons]
  cases zdC a0 e.2<;>exact ⟨rfl,rfl⟩
theorem zrN {a0:List zm} (hs:zcD a0=true) (s3:List jI) (r:List Int) (h0:s3[0]? = some r):(es:List jI)→qO a0 s3 es=some (cond (es.all fun q=>(zgt a0 q).isSome&&(zgt a0 q==zgt a0 r)) (.inl ()) (.inr false))
 | []=>rfl
 | e::es=>by
  unfold qO
  rw[zfR hs,Option.bind_some,qf,h0,Option.bind_some,zfR hs,Option.bind_some,zrN hs s3 r h0 es,List.all_cons]
  cases h1:zgt a0 e with
  | none=>rfl
  | some n =>
   rw[show zya (some n)=(n:Int) from rfl,decide_eq_false (show ¬((n:Int)<0) by omega),cond_false]
   cases h2:zgt a0 r with
   | none =>
    rw[show (((n:Int)) != zya none)=true from by simp [zya]<;>omega]
    rfl
   | some k =>
    by_cases hn:n=k
    ·subst hn; simp [zya]
    ·have e1:(((n:Int)) != zya (some k))=true:=by simp [zya]; omega
     have e2:(some n==some k)=false:=by simpa using hn
     rw[e1,e2]; simp
theorem zte {a0:List zm} (r:List Int) (rs:List jI):((r::rs).all fun q=>(zgt a0 q).isSome&&(zgt a0 q==zgt a0 r))=zfW a0 (r::rs):=by
 unfold zfW
 dsimp only
 cases hr:zgt a0 r with
 | none=>simp [hr]
 | some n =>
  rw[List.all_cons,hr]
  simp only[Option.isSome_some,beq_self_eq_true,Bool.true_and]
  congr 1
  funext q
  cases zgt a0 q<;>simp
theorem yn (a0:List zm) (a1:List zg) (a2:List jI) (a3:List zg):zhm a0 a1 a2 a3=some (zeQ a0 a1 a2 a3):=by
 unfold zhm zeQ
 rw[zgL,Option.bind_some]
 cases hs:zcD a0 with
 | false=>rfl
 | true =>
  by_cases h1:a1.length≤5
  ·by_cases h3:a3.length≤3
   ·by_cases h2:a2.length≤3
    ·simp only[Bool.not_true,cond_false,decide_eq_false (show ¬(((List.length a1:Nat):Int)>5) by omega),decide_eq_false (show ¬(((List.length a2:Nat):Int)>3) by omega),decide_eq_false (show ¬(((List.length a3:Nat):Int)>3) by omega),
      decide_eq_true h1,decide_eq_true h2,decide_eq_true h3,Bool.true_and]
     rw[ziN _ _ _ _ (by unfold maxLen; omega),(znS a0 a1).1]
     cases hb1:zdN a0 a1 with
     | false=>rfl
     | true =>
      simp only[cond_true,Option.bind_some,zcy,Bool.true_and]
      rw[zi0 _ _ _ _ (by unfold maxLen; omega),(znS a0 a3).2]
      cases hb3:zdN a0 a3 with
      | false=>simp [qb]
      | true =>
       simp only[cond_true,Option.bind_some,zcy,Bool.and_true]
       rw[ziQ _ _ _ _ (by unfold maxLen; omega)]
       have hrows:qO a0 a2 a2=some (cond (zfW a0 a2) (.inl ()) (.inr false)):=by
        cases a2 with
        | nil=>rfl
        | cons r rs=>rw[zrN hs (r::rs) r rfl (r::rs),zte]
       rw[hrows]
       cases hb2:zfW a0 a2 with
       | false=>rfl
       | true =>
        have s1:=zja a1 hb1
        have s2:=zrf a2 hb2
        have s3:=zja a3 hb3
        have hsum:zl (a1.map (·.2)++a2++a3.map (·.2))=zl (a1.map (·.2))+zl a2+zl (a3.map (·.2)):=by simp [zl]; omega
        simp only[cond_true,Option.bind_some,zcy,zgJ a1 a2 a3 (by omega) (by omega) (by omega),Bool.true_and]
        rw[ziF _ _ (by simp only[List.length_append,List.length_map]; unfold maxLen; omega),show (0:Int)=((0:Nat):Int) from rfl,zvo _ 0 (by rw[hsum]; omega),Option.bind_some,Nat.zero_add,hsum]
        simp only[Option.some.injEq,decide_eq_decide]
        omega
    ·simp only[Bool.not_true,cond_false,decide_eq_false (show ¬(((List.length a1:Nat):Int)>5) by omega),decide_eq_false (show ¬(((List.length a3:Nat):Int)>3) by omega),decide_eq_true (show (((List.length a2:Nat):Int)>3) by omega),decide_eq_false h2,cond_true,Bool.and_false,Bool.false_and]
   ·simp only[Bool.not_true,cond_false,decide_eq_false (show ¬(((List.length a1:Nat):Int)>5) by omega),decide_eq_true (show (((List.length a3:Nat):Int)>3) by omega),decide_eq_false h3,cond_true,Bool.and_false,Bool.false_and]
  ·simp only[Bool.not_true,cond_false,decide_eq_true (show (((List.length a1:Nat):Int)>5) by omega),decide_eq_false h1,cond_true,Bool.and_false,Bool.false_and]
end
end Go.Abs.Q
namespace Go.Abs.Q
open Go Go.Abs
section
theorem zoX {a0:List zm} (h:SignOk a0) (a1:List Int) (hl:a1.length≤1099511627776):∀(m i n j k:Nat),a1.length - i=m→i≤a1.length→n≤1+3*i→sk a0 n (a1.drop i)=some j→m+1<k →
  lp zaB k (a0,a1,(n:Int),(i:Int))=some ((i+j:Nat):Int):=by
 intro m
 induction m with
 | zero =>
  intro i n j k hm hi hni hs hk
  obtain⟨k,rfl⟩:∃ k',k=k'+1:=⟨k - 1,by omega⟩
  rw[zK]
  generalize lp zaB k=rec
  unfold zaB
  rw[List.drop_eq_nil_iff.2 (show a1.length≤i by omega)] at hs
  cases n with
  | zero =>
   simp [sk] at hs
   subst hs
   simp
  | succ n=>simp [sk] at hs
 | succ m ih =>
  intro i n j k hm hi hni hs hk
  obtain⟨k,rfl⟩:∃ k',k=k'+1:=⟨k - 1,by omega⟩
  have hi:i<a1.length:=by omega
  rw[zK]
  have key:=fun n' j' h1 h2=>ih (i+1) n' j' k (by omega) (by omega) h1 h2 (by omega)
  generalize lp zaB k=rec at key ⊢
  unfold zaB
  cases n with
  | zero =>
   simp [sk] at hs
   subst hs
   simp
  | succ n =>
   have e1:IntKind.wrap .i64 (((n+1:Nat):Int) - 1)=(n:Int):=by rw[zt]<;>omega
   have e3:IntKind.wrap .i64 ((i:Int)+1)=((i+1:Nat):Int):=by rw[zt]<;>omega
   rw[List.drop_eq_getElem_cons hi] at hs
   simp only[sk] at hs
   simp only[decide_eq_true (show ((n+1:Nat):Int)>0 by omega),cond_true,zab,List.getElem?_eq_getElem hi,Option.bind_some,e1,e3]
   generalize a1[i]=x at hs
   cases ha:zbY a0 x with
   | none=>rw[ha] at hs; cases hs
   | some q =>
    rw[ha] at hs
    simp only[Option.map_eq_some_iff] at hs
    obtain⟨j',hj',rfl⟩:=hs
    by_cases h0:x<0
    ·obtain⟨_,rfl⟩:=zo1 ha h0
     rw[decide_eq_false (show ¬(x≥0) by omega),cond_false,key n j' (by omega) hj']
     rw[show i+1+j'=i+(j'+1) from by omega]
    ·obtain⟨e,he1,he2,he3,rfl⟩:=zpD ha h0
     have hat:=h.at he2
     have e2:IntKind.wrap .i64 ((n:Int)+e.2.2.1)=((n+e.2.2.1.toNat:Nat):Int):=by rw[zt]<;>omega
     rw[decide_eq_true (show x≥0 by omega),cond_true,he1,Option.bind_some,e2,key _ j' (by omega) hj']
     rw[show i+1+j'=i+(j'+1) from by omega]
theorem zmn {a0:List zm} (h:SignOk a0) (a1:List Int) (hl:a1.length≤1099511627776) (i j:Nat) (hi:i≤a1.length) (hs:sk a0 1 (a1.drop i)=some j):zfC a0 a1 (i:Int)=some ((i+j:Nat):Int):=by
 unfold zfC
 rw[show (1:Int)=((1:Nat):Int) from rfl,zoX h a1 hl (a1.length - i) i 1 j zd rfl hi (by omega) hs (by unfold zd; omega)]
 rfl
theorem zqu {a0:List zm} (h:SignOk a0) (a1:List Int) (hl:a1.length≤1099511627776):∀(m i:Nat) (acc ps:List jI) (k:Nat),a1.length - i=m→i≤a1.length→acc.length≤i→zkn a0 (a1.drop i)=some ps→m<k →
  lp zcJ k (a0,a1,(i:Int),acc)=some (acc++ps):=by
 intro m
 induction m using Nat.strongRecOn with
 | _ m ih =>
  intro i acc ps k hm hi hacc hc hk
  obtain⟨k,rfl⟩:∃ k',k=k'+1:=⟨k - 1,by omega⟩
  rw[zK]
  have key:=fun j acc' ps' (h1:i<j) h2 h3 h4=>ih (a1.length - j) (by omega) j acc' ps' k rfl h2 h3 h4 (by omega)
  generalize lp zcJ k=rec at key ⊢
  unfold zcJ
  by_cases he:i=a1.length
  ·subst he
   rw[List.drop_length,zkD] at hc
   injection hc with hc; subst hc
   simp
  ·have hlt:i<a1.length:=by omega
   have hne:a1.drop i≠[]:=by simp; omega
   rw[zdv hne] at hc
   cases hs:sk a0 1 (a1.drop i) with
   | none=>rw[hs] at hc; cases hc
   | some j =>
    rw[hs] at hc
    simp only[Option.map_eq_some_iff] at hc
    obtain⟨qs,hq,rfl⟩:=hc
    have hj:=zlp hs
    rw[List.length_drop] at hj
    have e1:zbR a1 (some (i:Int)) (some ((i+j:Nat):Int))=some ((a1.drop i).take j):=by
     rw[zIU a1 (by omega) (by omega),show i+j - i=j from by omega]
    simp only[decide_eq_true (show (i:Int)<((List.length a1:Nat):Int) by omega),cond_true,zmn h a1 hl i j hi hs,Option.bind_some,e1,List.length_singleton,zn (show (acc.length+1)*24≤140737488351232 by omega)]
    rw[List.drop_drop] at hq
    rw[key (i+j) _ qs (by omega) (by omega) (by simp; omega) hq]
    simp
theorem zaX {a0:List zm} (h:SignOk a0) {a1:List Int} (hl:a1.length≤1099511627776) {ps:List jI} (hc:zkn a0 a1=some ps):zR a0 a1=some ps:=by
 unfold zR
 have:=zqu h a1 hl a1.length 0 [] ps zd rfl (Nat.zero_le _) (Nat.zero_le _) hc (by unfold zd; omega)
 rw[show ((0:Nat):Int)=0 from rfl] at this
 rw[this]
 rfl
end
end Go.Abs.Q
namespace Go.Abs.Q
open Go Go.Abs
section
def InB (a0:List zm) (xs:List Int):Prop:=∀ x∈xs,x<(a0.length:Int)
theorem zge {xs:List Int} (h:xs.length≤1000000000):za0 xs=some xs:=by
 unfold za0
 rw[zn (by simp only[List.length_nil]; omega)]; rfl
theorem zk2:(es acc:List zg)→(∀ l∈es,l.2.length≤1000000000)→acc.length+es.length≤1000000000→z6 es acc=some (acc++es)
 | [],acc,_,_=>by simp [z6]
 | e::es,acc,h,hl=>by
  rw[List.length_cons] at hl
  unfold z6
  rw[zge (h e (by simp)),Option.bind_some,zn (by simp only[List.length_cons,List.length_nil]; omega),cond_true,zk2 es _ (fun l hl=>h l (by simp [hl])) (by simp; omega)]
  simp
theorem zgi {ls:List zg} (h:∀ l∈ls,l.2.length≤1000000000) (hl:ls.length≤1000000000):zcG ls=some ls:=by
 unfold zcG
 rw[zfB _ _ (by unfold maxLen; omega),zk2 ls [] h (by simp; omega)]
 rfl
theorem zma:(es acc:List jI)→(∀ l∈es,l.length≤1000000000)→acc.length+es.length≤1000000000→z5 es acc=some (acc++es)
 | [],acc,_,_=>by simp [z5]
 | e::es,acc,h,hl=>by
  rw[List.length_cons] at hl
  unfold z5
  rw[zge (h e (by simp)),Option.bind_some,zn (by simp only[List.length_cons,List.length_nil]; omega),cond_true,zma es _ (fun l hl=>h l (by simp [hl])) (by simp; omega)]
  simp
theorem zkr {ls:List jI} (h:∀ l∈ls,l.length≤1000000000) (hl:ls.length≤1000000000):zdU ls=some ls:=by
 unfold zdU
 rw[zfP _ _ (by unfold maxLen; omega),zma ls [] h (by simp; omega)]
 rfl
end
end Go.Abs.Q
namespace Go.Abs.Q
open Go Go.Abs
section
theorem zlT (ys:List Int):(es:List Int)→(i:Nat)→es.length=(ys.drop i).length→yF ys es i=some (cond (decide (es=ys.drop i)) (.inl ()) (.inr false))
 | [],i,h=>by
  have:ys.drop i=[]:=List.length_eq_zero_iff.1 h.symm
  rw[this]; rfl
 | e::es,i,h=>by
  unfold yF
  rw[List.length_cons,List.length_drop] at h
  have hi:i<ys.length:=by omega
  rw[zab,List.getElem?_eq_getElem hi,Option.bind_some,List.drop_eq_getElem_cons hi,zlT ys es (i+1) (by rw[List.length_drop]; omega)]
  generalize ys[i]=y
  by_cases he:e=y
  ·subst he
   rw[show (e != e)=false from by simp,cond_false]
   simp
  ·rw[show (e != y)=true from by simpa using he,cond_true]
   rw[decide_eq_false (by intro h; injection h with h1 h2; exact he h1)]
   rfl
theorem zgg {xs ys:List Int} (h:xs.length≤maxLen):zaV xs ys=some (decide (xs=ys)):=by
 unfold zaV
 by_cases hl:xs.length=ys.length
 ·rw[show (((List.length xs:Nat):Int) != ((List.length ys:Nat):Int))=false from by simp [hl],cond_false,zfy _ _ h,zlT ys xs 0 hl,List.drop_zero]
  cases decide (xs=ys)<;>rfl
 ·rw[show (((List.length xs:Nat):Int) != ((List.length ys:Nat):Int))=true from by simp; omega,cond_true,decide_eq_false (by intro h; subst h; exact hl rfl)]
theorem zla (ys:List zg):(es:List zg)→(i:Nat)→es.length=(ys.drop i).length→(∀ e∈es,e.2.length≤maxLen)→yE ys es i=some (cond (decide (es=ys.drop i)) (.inl ()) (.inr false))
 | [],i,h,_=>by
  have:ys.drop i=[]:=List.length_eq_zero_iff.1 h.symm
  rw[this]; rfl
 | e::es,i,h,hm=>by
  unfold yE
  rw[List.length_cons,List.length_drop] at h
  have hi:i<ys.length:=by omega
  rw[zab,List.getElem?_eq_getElem hi,Option.bind_some,List.drop_eq_getElem_cons hi,zla ys es (i+1) (by rw[List.length_drop]; omega) (fun x hx=>hm x (by simp [hx]))]
  generalize ys[i]=y
  obtain⟨a,b⟩:=e
  obtain⟨c,d⟩:=y
  have hb:b.length≤maxLen:=hm (a,b) (by simp)
  simp only[Option.bind_some,zgg hb]
  by_cases h1:a=c
  ·subst h1
   by_cases h2:b=d
   ·subst h2
    simp
   ·have:¬((a,b)::es=(a,d)::ys.drop (i+1)):=fun h=>by injection h with h _; injection h with _ h; exact h2 h
    simp [h2,this]
  ·have:¬((a,b)::es=(c,d)::ys.drop (i+1)):=fun h=>by injection h with h _; injection h with h _; exact h1 h
   have h3:(a==c)=false:=by simpa using h1
   rw[h3,decide_eq_false this]; rfl
theorem zgh {xs ys:List zg} (h:xs.length≤maxLen) (hm:∀ e∈xs,e.2.length≤maxLen):zcN xs ys=some (decide (xs=ys)):=by
 unfold zcN
 by_cases hl:xs.length=ys.length
 ·rw[show (((List.length xs:Nat):Int) != ((List.length ys:Nat):Int))=false from by simp [hl],cond_false,zfQ _ _ h,zla ys xs 0 hl hm,List.drop_zero]
  cases decide (xs=ys)<;>rfl
 ·rw[show (((List.length xs:Nat):Int) != ((List.length ys:Nat):Int))=true from by simp; omega,cond_true,decide_eq_false (by intro h; subst h; exact hl rfl)]
theorem zlN (ys:List jI):(es:List jI)→(i:Nat)→es.length=(ys.drop i).length→(∀ e∈es,e.length≤maxLen)→yC ys es i=some (cond (decide (es=ys.drop i)) (.inl ()) (.inr false))
 | [],i,h,_=>by
  have:ys.drop i=[]:=List.length_eq_zero_iff.1 h.symm
  rw[this]; rfl
 | e::es,i,h,hm=>by
  unfold yC
  rw[List.length_cons,List.length_drop] at h
  have hi:i<ys.length:=by omega
  rw[zab,List.getElem?_eq_getElem hi,Option.bind_some,List.drop_eq_getElem_cons hi,zgg (hm e (by simp)),Option.bind_some,zlN ys es (i+1) (by rw[List.length_drop]; omega) (fun x hx=>hm x (by simp [hx]))]
  generalize ys[i]=y
  by_cases h1:e=y
  ·subst h1
   simp
  ·have:¬(e::es=y::ys.drop (i+1)):=fun h=>by injection h with h _; exact h1 h
   rw[decide_eq_false h1,decide_eq_false this]; rfl
theorem zkt {xs ys:List jI} (h:xs.length≤maxLen) (hm:∀ e∈xs,e.length≤maxLen):zd3 xs ys=some (decide (xs=ys)):=by
 unfold zd3
 by_cases hl:xs.length=ys.length
 ·rw[show (((List.length xs:Nat):Int) != ((List.length ys:Nat):Int))=false from by simp [hl],cond_false,zf7 _ _ h,zlN ys xs 0 hl hm,List.drop_zero]
  cases decide (xs=ys)<;>rfl
 ·rw[show (((List.length xs:Nat):Int) != ((List.length ys:Nat):Int))=true from by simp; omega,cond_true,decide_eq_false (by intro h; subst h; exact hl rfl)]
theorem zbL {a0:List zg} {a1:List jI} {a2:List zg} (h0:a0.length≤maxLen) (h0m:∀ e∈a0,e.2.length≤maxLen) (h1:a1.length≤maxLen) (h1m:∀ e∈a1,e.length≤maxLen) (h2:a2.length≤maxLen) (h2m:∀ e∈a2,e.2.length≤maxLen) :
  zZ a0 a1 a2 a0 a1 a2=some true:=by
 unfold zZ
 rw[zgh h0 h0m,zkt h1 h1m,zgh h2 h2m]
 simp
theorem zDm {α:Type} {f:α→Nat} {xs:List α} {x:α} (h:x∈xs):f x≤(xs.map f).sum:=by
 induction xs with
 | nil=>cases h
 | cons y ys ih =>
  simp only[List.map_cons,List.sum_cons]
  rcases List.mem_cons.1 h with rfl | h
  ·omega
  ·have:=ih h; omega
theorem zBD {α:Type} {f:α→Nat} (hf:∀ x,1≤f x) (xs:List α):xs.length≤(xs.map f).sum:=by
 induction xs with
 | nil=>simp
 | cons y ys ih =>
  simp only[List.map_cons,List.sum_cons,List.length_cons]
  have:=hf y
  omega
theorem zyH (xs:List Int):wt (.sl (.one (.int .i64))) xs=xs.length+1:=by
 show (List.map (fun _=>1) xs).sum+1=_
 congr 1
 induction xs with
 | nil=>rfl
 | cons y ys ih=>simp only[List.map_cons,List.sum_cons,List.length_cons,ih]; omega
theorem zFu (l:zg):wtT zdL l=l.2.length+2:=by
 show 1+wt (.sl (.one (.int .i64))) l.2=_
 rw[zyH]; omega
theorem zwW {ls:List zg} {b:Nat} (h:wt (.sl zdL) ls≤b):ls.length≤b∧∀ l∈ls,l.2.length≤b:=by
 have e:(wtT zdL:zg→Nat)=fun l=>l.2.length+2:=funext zFu
 have h:(List.map (wtT zdL:zg→Nat) ls).sum+1≤b:=h
 rw[e] at h
 replace h:(List.map (fun l:zg=>l.2.length+2) ls).sum+1≤b:=h
 have h1:=zBD (f:=fun l:zg=>l.2.length+2) (fun l=>by omega) ls
 refine ⟨by omega,fun l hl => ?_⟩
 have:=zDm (f:=fun l:zg=>l.2.length+2) hl
 omega
theorem zFo {rs:List jI} {b:Nat} (h:wt (.sl (.one (.sl (.one (.int .i64))))) rs≤b):rs.length≤b∧∀ l∈rs,l.length≤b:=by
 have e:(wtT (.one (.sl (.one (.int .i64)))):List Int→Nat)=fun l=>l.length+1:=funext zyH
 have h:(List.map (wtT (.one (.sl (.one (.int .i64)))):List Int→Nat) rs).sum+1≤b:=h
 rw[e] at h
 replace h:(List.map (fun l:List Int=>l.length+1) rs).sum+1≤b:=h
 have h1:=zBD (f:=fun l:List Int=>l.length+1) (fun l=>by omega) rs
 refine ⟨by omega,fun l hl => ?_⟩
 have:=zDm (f:=fun l:List Int=>l.length+1) hl
 omega
end
end Go.Abs.Q
namespace Go.Abs.Q
open Go Go.Abs
end Go.Abs.Q
namespace Go.Abs.Q
open Go Go.Abs
end Go.Abs.Q
namespace Go.Abs.Q
open Go Go.Abs
section
end
end Go.Abs.Q
namespace Go.Abs.Q
open Go Go.Abs
def y5 (rec:(jR×jR×Int×Int×(List (jI×Int×jI×Int))×jI×Int×jI×Int)→Option (List (jI×Int×jI×Int))) (x:(jR×jR×Int×Int×(List (jI×Int×jI×Int))×jI×Int×jI×Int)):Option (List (jI×Int×jI×Int)) :=
 cond (decide (x.2.2.2.1<x.2.2.1))
 ((gx x.1 x.2.2.2.1).bind fun e7 =>
  (gx x.2.1 x.2.2.2.1).bind fun e8 =>
  cond (yB (List.length x.2.2.2.2.1+List.length ([(e7,x.2.2.2.2.2.2.1,e8,x.2.2.2.2.2.2.2.2)]:List (jI×Int×jI×Int))) 64)
  (rec (x.1,x.2.1,x.2.2.1,(IntKind.wrap .i64 (x.2.2.2.1+1)),(x.2.2.2.2.1++([(e7,x.2.2.2.2.2.2.1,e8,x.2.2.2.2.2.2.2.2)]:List (jI×Int×jI×Int))),x.2.2.2.2.2.1,x.2.2.2.2.2.2.1,x.2.2.2.2.2.2.2.1,x.2.2.2.2.2.2.2.2))
  (none))
 (some x.2.2.2.2.1)
def qi (a0:jI) (a1:Int) (a2:jI) (a3:Int) (a4:jS) (_a5:(List ((Option jI)×Int))) (a6:(List (jI×Int×jI×Int))):Option (List (jI×Int×jI×Int)) :=
 (za1 a4 a0).bind fun r10 =>
 (za1 a4 a2).bind fun r11 =>
 ((lp y5 zd) (r10,r11,((List.length r10:Nat):Int),0,a6,a0,a1,a2,a3)).bind fun r12 =>
 some r12
def yt (_a0:jI) (a1:Int) (a2:Int):Option Int :=
 (zT a2).bind fun r2 =>
 some (IntKind.wrap .i64 (r2+a1))
def zaP (rec:(jS×(List ((Option jI)×Int))×jI×Int×Int)→Option (jI×Int)) (x:(jS×(List ((Option jI)×Int))×jI×Int×Int)):Option (jI×Int) :=
 (gx x.2.2.1 0).bind fun e6 =>
 cond (decide (e6<0))
 ((gx x.2.2.1 0).bind fun e7 =>
  (yt x.2.2.1 x.2.2.2.1 e7).bind fun r8 =>
  (inR r8 48).bind fun k9 =>
  (x.2.1[k9]?).bind fun x10 =>
  cond (Option.isNone x10.1)
  (some (x.2.2.1,x.2.2.2.1))
  (rec (x.1,x.2.1,(Option.getD x10.1 []),x10.2,x.2.2.2.2)))
 (some (x.2.2.1,x.2.2.2.1))
def zaD (a0:jI) (a1:Int) (a2:jS) (a3:(List ((Option jI)×Int))):Option (jI×Int) :=
 ((lp zaP zd) (a2,a3,a0,a1,0)).bind fun r12 =>
 some (r12.1,r12.2)
def qj (rec:(Int×jI×Int×Int×jS×(List ((Option jI)×Int))×jI×Int×(List Bool)×(List (jI×Int)))→Option (((List Bool)×(List (jI×Int)))⊕Bool)) (x:(Int×jI×Int×Int×jS×(List ((Option jI)×Int))×jI×Int×(List Bool)×(List (jI×Int)))):Option (((List Bool)×(List (jI×Int)))⊕Bool) :=
 cond (decide (x.2.2.2.1<x.2.2.1))
 ((gx x.2.1 x.2.2.2.1).bind fun e14 =>
  cond (decide (e14≥0))
  (rec (x.1,x.2.1,x.2.2.1,(IntKind.wrap .i64 (x.2.2.2.1+1)),x.2.2.2.2.1,x.2.2.2.2.2.1,x.2.2.2.2.2.2.1,x.2.2.2.2.2.2.2.1,x.2.2.2.2.2.2.2.2.1,x.2.2.2.2.2.2.2.2.2))
  ((yt x.2.2.2.2.2.2.1 x.2.2.2.2.2.2.2.1 e14).bind fun r15 =>
   cond (r15==x.1)
   (some (Sum.inr true))
   ((inR r15 48).bind fun k16 =>
    (x.2.2.2.2.2.2.2.2.1[k16]?).bind fun x17 =>
    cond (!x17)
    ((inR r15 48).bind fun k18 =>
     (x.2.2.2.2.2.1[k18]?).bind fun x19 =>
     cond (!(Option.isNone x19.1))
     ((inR r15 48).bind fun k20 =>
      (x.2.2.2.2.2.2.2.2.1[k20]?).bind fun _x21 =>
      (inR r15 48).bind fun k22 =>
      (x.2.2.2.2.2.1[k22]?).bind fun x23 =>
      cond (yB (List.length x.2.2.2.2.2.2.2.2.2+List.length ([((Option.getD x23.1 []),x23.2)]:List (jI×Int))) 32)
      (rec (x.1,x.2.1,x.2.2.1,(IntKind.wrap .i64 (x.2.2.2.1+1)),x.2.2.2.2.1,x.2.2.2.2.2.1,x.2.2.2.2.2.2.1,x.2.2.2.2.2.2.2.1,(List.set x.2.2.2.2.2.2.2.2.1 k20 true),(x.2.2.2.2.2.2.2.2.2++([((Option.getD x23.1 []),x23.2)]:List (jI×Int)))))
      (none))
     (rec (x.1,x.2.1,x.2.2.1,(IntKind.wrap .i64 (x.2.2.2.1+1)),x.2.2.2.2.1,x.2.2.2.2.2.1,x.2.2.2.2.2.2.1,x.2.2.2.2.2.2.2.1,x.2.2.2.2.2.2.2.2.1,x.2.2.2.2.2.2.2.2.2)))
    (rec (x.1,x.2.1,x.2.2.1,(IntKind.wrap .i64 (x.2.2.2.1+1)),x.2.2.2.2.1,x.2.2.2.2.2.1,x.2.2.2.2.2.2.1,x.2.2.2.2.2.2.2.1,x.2.2.2.2.2.2.2.2.1,x.2.2.2.2.2.2.2.2.2)))))
 (some (Sum.inl (x.2.2.2.2.2.2.2.2.1,x.2.2.2.2.2.2.2.2.2)))
def qU (rec:(Int×jS×(List ((Option jI)×Int))×jI×Int×(List Bool)×(List (jI×Int)))→Option (Unit⊕Bool)) (x:(Int×jS×(List ((Option jI)×Int))×jI×Int×(List Bool)×(List (jI×Int)))):Option (Unit⊕Bool) :=
 cond (decide (((List.length x.2.2.2.2.2.2:Nat):Int)>0))
 ((inR (IntKind.wrap .i64 (((List.length x.2.2.2.2.2.2:Nat):Int) - 1)) (List.length x.2.2.2.2.2.2)).bind fun k32 =>
  (x.2.2.2.2.2.2[k32]?).bind fun x33 =>
  (zbR x.2.2.2.2.2.2 none (some (IntKind.wrap .i64 (((List.length x.2.2.2.2.2.2:Nat):Int) - 1)))).bind fun y34 =>
  ((lp qj zd) (x.1,x33.1,((List.length x33.1:Nat):Int),0,x.2.1,x.2.2.1,x33.1,x33.2,x.2.2.2.2.2.1,y34)).bind fun r35 =>
  qb r35
  (fun z36=>rec (x.1,x.2.1,x.2.2.1,x33.1,x33.2,z36.1,z36.2))
  (fun z37=>some (Sum.inr z37)))
 (some (Sum.inl ()))
def zbU (a0:Int) (a1:jI) (a2:Int) (a3:jS) (a4:(List ((Option jI)×Int))):Option Bool :=
 ((lp qU zd) (a0,a3,a4,a1,a2,(List.replicate 48 false),([(a1,a2)]:List (jI×Int)))).bind fun r41 =>
 qb r41
 (fun _z42=>some false)
 (fun z43=>some z43)
def y0 (a0:jI) (a1:Int) (a2:jI) (a3:Int) (a4:jS) (a5:(List ((Option jI)×Int))):Option (Bool×jS×(List ((Option jI)×Int))) :=
 (gx a0 0).bind fun e16 =>
 (yt a0 a1 e16).bind fun r17 =>
 (gx a2 0).bind fun e18 =>
 cond (decide (e18≥0))
 ((zbU r17 a2 a3 a4 a5).bind fun r19 =>
  cond r19
  (some (false,a4,a5))
  ((inR r17 48).bind fun k20 =>
   (a5[k20]?).bind fun _x21 =>
   (nn a2).bind fun p22 =>
   some (true,a4,(List.set a5 k20 ((some p22),a3)))))
 ((gx a2 0).bind fun e23 =>
  (yt a2 a3 e23).bind fun r24 =>
  cond (decide (r24>r17))
  ((inR r24 48).bind fun k25 =>
   (a5[k25]?).bind fun _x26 =>
   (nn a0).bind fun p27 =>
   some (true,a4,(List.set a5 k25 ((some p27),a1))))
  (cond (decide (r24<r17))
   ((inR r17 48).bind fun k28 =>
    (a5[k28]?).bind fun _x29 =>
    (nn a2).bind fun p30 =>
    some (true,a4,(List.set a5 k28 ((some p30),a3))))
   (some (true,a4,a5))))
def zv (rec:(jS×(List ((Option jI)×Int))×(List (jI×Int×jI×Int)))→Option (Bool×jS×(List ((Option jI)×Int)))) (x:(jS×(List ((Option jI)×Int))×(List (jI×Int×jI×Int)))):Option (Bool×jS×(List ((Option jI)×Int))) :=
 cond (((List.length x.2.2:Nat):Int)==0)
 (some (true,x.1,x.2.1))
 ((inR (IntKind.wrap .i64 (((List.length x.2.2:Nat):Int) - 1)) (List.length x.2.2)).bind fun k27 =>
  (x.2.2[k27]?).bind fun x28 =>
  (zaD x28.1 x28.2.1 x.1 x.2.1).bind fun r29 =>
  (inR (IntKind.wrap .i64 (((List.length x.2.2:Nat):Int) - 1)) (List.length x.2.2)).bind fun k30 =>
  (x.2.2[k30]?).bind fun x31 =>
  (zaD x31.2.2.1 x31.2.2.2 x.1 x.2.1).bind fun r32 =>
  (zbR x.2.2 none (some (IntKind.wrap .i64 (((List.length x.2.2:Nat):Int) - 1)))).bind fun y33 =>
  (gx r29.1 0).bind fun e34 =>
  cond (decide (e34<0))
  ((y0 r29.1 r29.2 r32.1 r32.2 x.1 x.2.1).bind fun r35 =>
   cond r35.1
   (rec (r35.2.1,r35.2.2,y33))
   (some (false,r35.2.1,r35.2.2)))
  ((gx r32.1 0).bind fun e36 =>
   cond (decide (e36<0))
   ((y0 r32.1 r32.2 r29.1 r29.2 x.1 x.2.1).bind fun r37 =>
    cond r37.1
    (rec (r37.2.1,r37.2.2,y33))
    (some (false,r37.2.1,r37.2.2)))
   ((gx r29.1 0).bind fun e38 =>
    (gx r32.1 0).bind fun e39 =>
    cond (e38 != e39)
    (some (false,x.1,x.2.1))
    ((zbR r29.1 (some 1) none).bind fun y40 =>
     (zbR r32.1 (some 1) none).bind fun y41 =>
     (qi y40 r29.2 y41 r32.2 x.1 x.2.1 y33).bind fun r42 =>
     rec (x.1,x.2.1,r42)))))
def zak (a0:jI) (a1:Int) (a2:jI) (a3:Int) (a4:jS) (a5:(List ((Option jI)×Int))):Option (Bool×jS×(List ((Option jI)×Int))) :=
 (qi a0 a1 a2 a3 a4 a5 ([]:(List (jI×Int×jI×Int)))).bind fun r53 =>
 cond (((List.length r53:Nat):Int)==0)
 (some (true,a4,a5))
 ((inR (IntKind.wrap .i64 (((List.length r53:Nat):Int) - 1)) (List.length r53)).bind fun k54 =>
  (r53[k54]?).bind fun x55 =>
  (zaD x55.1 x55.2.1 a4 a5).bind fun r56 =>
  (inR (IntKind.wrap .i64 (((List.length r53:Nat):Int) - 1)) (List.length r53)).bind fun k57 =>
  (r53[k57]?).bind fun x58 =>
  (zaD x58.2.2.1 x58.2.2.2 a4 a5).bind fun r59 =>
  (zbR r53 none (some (IntKind.wrap .i64 (((List.length r53:Nat):Int) - 1)))).bind fun y60 =>
  (gx r56.1 0).bind fun e61 =>
  cond (decide (e61<0))
  ((y0 r56.1 r56.2 r59.1 r59.2 a4 a5).bind fun r62 =>
   cond r62.1
   ((((lp zv zd) (r62.2.1,r62.2.2,y60))).bind fun r63 =>
    some (r63.1,r63.2.1,r63.2.2))
   (some (false,r62.2.1,r62.2.2)))
  ((gx r59.1 0).bind fun e64 =>
   cond (decide (e64<0))
   ((y0 r59.1 r59.2 r56.1 r56.2 a4 a5).bind fun r65 =>
    cond r65.1
    ((((lp zv zd) (r65.2.1,r65.2.2,y60))).bind fun r66 =>
     some (r66.1,r66.2.1,r66.2.2))
    (some (false,r65.2.1,r65.2.2)))
   ((gx r56.1 0).bind fun e67 =>
    (gx r59.1 0).bind fun e68 =>
    cond (e67 != e68)
    (some (false,a4,a5))
    ((zbR r56.1 (some 1) none).bind fun y69 =>
     (zbR r59.1 (some 1) none).bind fun y70 =>
     (qi y69 r56.2 y70 r59.2 a4 a5 y60).bind fun r71 =>
     (((lp zv zd) (a4,a5,r71))).bind fun r72 =>
     some (r72.1,r72.2.1,r72.2.2)))))
def qK (_a0:(Option jI)) (a1:Int) (a2:Int):Option Int :=
 (zT a2).bind fun r2 =>
 some (IntKind.wrap .i64 (r2+a1))
def yp (rf:(((Option jI)×Int×jS×(List ((Option jI)×Int)))→Option (Option jI))) (rec:((Option jI)×Int×Int×jS×(List ((Option jI)×Int))×(Option jI)×Int×jI)→Option (jI⊕Unit)) (x:((Option jI)×Int×Int×jS×(List ((Option jI)×Int))×(Option jI)×Int×jI)):Option (jI⊕Unit) :=
 cond (decide (x.2.2.1<x.2.1))
 ((gx (Option.getD x.1 []) x.2.2.1).bind fun e27 =>
  cond (decide (e27<0))
  ((qK x.2.2.2.2.2.1 x.2.2.2.2.2.2.1 e27).bind fun r28 =>
   (inR r28 48).bind fun k29 =>
   (x.2.2.2.2.1[k29]?).bind fun x30 =>
   cond (!(Option.isNone x30.1))
   ((qK x.2.2.2.2.2.1 x.2.2.2.2.2.2.1 e27).bind fun r31 =>
    (inR r31 48).bind fun k32 =>
    (x.2.2.2.2.1[k32]?).bind fun x33 =>
    (rf (x33.1,x33.2,x.2.2.2.1,x.2.2.2.2.1)).bind fun r34 =>
    cond (Option.isNone r34)
    (some (Sum.inr ()))
    (cond (decide ((IntKind.wrap .i64 (((List.length x.2.2.2.2.2.2.2:Nat):Int)+((List.length (Option.getD r34 []):Nat):Int)))>48))
     (some (Sum.inr ()))
     (cond (yB (List.length x.2.2.2.2.2.2.2+List.length (Option.getD r34 [])) 8)
      (rec (x.1,x.2.1,(IntKind.wrap .i64 (x.2.2.1+1)),x.2.2.2.1,x.2.2.2.2.1,x.2.2.2.2.2.1,x.2.2.2.2.2.2.1,(x.2.2.2.2.2.2.2++(Option.getD r34 []))))
      (none))))
   ((((nn ([e27]:List Int)).bind fun _ =>
     some false)).bind fun z35 =>
    cond z35
    (some (Sum.inr ()))
    (cond (decide ((IntKind.wrap .i64 (((List.length x.2.2.2.2.2.2.2:Nat):Int)+((List.length ([e27]:List Int):Nat):Int)))>48))
     (some (Sum.inr ()))
     (cond (yB (List.length x.2.2.2.2.2.2.2+List.length ([e27]:List Int)) 8)
      (rec (x.1,x.2.1,(IntKind.wrap .i64 (x.2.2.1+1)),x.2.2.2.1,x.2.2.2.2.1,x.2.2.2.2.2.1,x.2.2.2.2.2.2.1,(x.2.2.2.2.2.2.2++([e27]:List Int))))
      (none)))))
  ((((nn ([e27]:List Int)).bind fun _ =>
    some false)).bind fun z36 =>
   cond z36
   (some (Sum.inr ()))
   (cond (decide ((IntKind.wrap .i64 (((List.length x.2.2.2.2.2.2.2:Nat):Int)+((List.length ([e27]:List Int):Nat):Int)))>48))
    (some (Sum.inr ()))
    (cond (yB (List.length x.2.2.2.2.2.2.2+List.length ([e27]:List Int)) 8)
     (rec (x.1,x.2.1,(IntKind.wrap .i64 (x.2.2.1+1)),x.2.2.2.1,x.2.2.2.2.1,x.2.2.2.2.2.1,x.2.2.2.2.2.2.1,(x.2.2.2.2.2.2.2++([e27]:List Int))))
     (none)))))
 (some (Sum.inl x.2.2.2.2.2.2.2))
def zdg (rf:(((Option jI)×Int×jS×(List ((Option jI)×Int)))→Option (Option jI))) (a0:(Option jI)) (a1:Int) (a2:jS) (a3:(List ((Option jI)×Int))):Option (Option jI) :=
 ((lp (yp rf) zd) (a0,((List.length (Option.getD a0 []):Nat):Int),0,a2,a3,a0,a1,([]:jI))).bind fun r40 =>
 qb r40
 (fun z41=>((nn z41).bind fun z=>some ((2:Nat),some z)).bind fun p42 =>
  some p42.2)
 (fun _z43=>some (none:(Option jI)))
def zgn (rf:(((Option jI)×Int×jS×(List ((Option jI)×Int)))→Option (Option jI))):(((Option jI)×Int×jS×(List ((Option jI)×Int)))→Option (Option jI)) :=
 fun (x:((Option jI)×Int×jS×(List ((Option jI)×Int))))=>zdg rf x.1 x.2.1 x.2.2.1 x.2.2.2
def zgp:(((Option jI)×Int×jS×(List ((Option jI)×Int)))→Option (Option jI)):=fun _=>none
def qh (k:Nat):(((Option jI)×Int×jS×(List ((Option jI)×Int)))→Option (Option jI)):=lpR zgp zgn k
def zer (a0:(Option jI)) (a1:Int) (a2:jS) (a3:(List ((Option jI)×Int))):Option (Option jI):=(qh zd) (a0,a1,a2,a3)
def zax (rec:(Int×jS×(List ((Option jI)×Int))×(List (Int×jI)))→Option ((List (Int×jI))⊕(Bool×Int))) (x:(Int×jS×(List ((Option jI)×Int))×(List (Int×jI)))):Option ((List (Int×jI))⊕(Bool×Int)) :=
 cond (decide (x.1<24))
 ((inR x.1 48).bind fun k16 =>
  (x.2.2.1[k16]?).bind fun x17 =>
  cond (Option.isNone x17.1)
  (rec ((IntKind.wrap .i64 (x.1+1)),x.2.1,x.2.2.1,x.2.2.2))
  ((inR x.1 48).bind fun k18 =>
   (x.2.2.1[k18]?).bind fun x19 =>
   (zer x19.1 x19.2 x.2.1 x.2.2.1).bind fun r20 =>
   cond (Option.isNone r20)
   (some (Sum.inr (false,401)))
   ((zbz (Option.getD r20 [])).bind fun r21 =>
    cond (yB (List.length x.2.2.2+List.length ([(x.1,r21)]:List (Int×jI))) 32)
    (rec ((IntKind.wrap .i64 (x.1+1)),x.2.1,x.2.2.1,(x.2.2.2++([(x.1,r21)]:List (Int×jI)))))
    (none))))
 (some (Sum.inl x.2.2.2))
def zcZ (a0:jS) (a1:jI) (a2:jI):Option (Bool×Int×(List (Int×jI))) :=
 (zf0 a0 a1).bind fun r25 =>
 (zf0 a0 a2).bind fun r26 =>
 cond (r25.2 != 0)
 (some (false,400,([]:(List (Int×jI)))))
 (cond (r26.2 != 0)
  (some (false,400,([]:(List (Int×jI)))))
  (cond (r25.1 != r26.1)
   (some (false,0,([]:(List (Int×jI)))))
   ((zak a1 0 a2 0 a0 (List.replicate 48 ((none:(Option jI)),(0:Int)))).bind fun r27 =>
    cond (!r27.1)
    (some (false,0,([]:(List (Int×jI)))))
    (((lp zax zd) (0,r27.2.1,r27.2.2,([]:(List (Int×jI))))).bind fun r28 =>
     qb r28
     (fun z29=>some (true,0,z29))
     (fun z30=>some (z30.1,z30.2,([]:(List (Int×jI)))))))))
def zfM (a0:Int):Option jR :=
 cond (decide (a0<0))
 (none)
 (cond (decide ((IntKind.wrap .i64 (a0 - 0))>0))
  (cond (eqI 0 0&&eqI 0 0)
   (cond (zrv (IntKind.wrap .i64 (a0 - 0)))
    (cond (yB (Int.toNat (IntKind.wrap .i64 (a0 - 0))) 24)
     ((zbR (List.replicate (Int.toNat (IntKind.wrap .i64 (a0 - 0))) ([]:jI)) none (some 0)).bind fun y2 =>
      some y2)
     (none))
    (none))
   (none))
  (some ([]:jR)))
def zan (rec:((List jR)×Int×Int×jR)→Option jR) (x:((List jR)×Int×Int×jR)):Option jR :=
 cond (decide (x.2.2.1<x.2.1))
 ((gx x.1 x.2.2.1).bind fun e7 =>
  cond (yB (List.length x.2.2.2+List.length e7) 24)
  (rec (x.1,x.2.1,(IntKind.wrap .i64 (x.2.2.1+1)),(x.2.2.2++e7)))
  (none))
 (some x.2.2.2)
def zah (rec:((List jR)×Int×(List jR)×Int×Int)→Option Int) (x:((List jR)×Int×(List jR)×Int×Int)):Option Int :=
 cond (decide (x.2.2.2.2<x.2.2.2.1))
 ((gx x.2.2.1 x.2.2.2.2).bind fun e2 =>
  cond (decide ((IntKind.wrap .i64 (x.2.1+((List.length e2:Nat):Int)))<0))
  (none)
  (rec (x.1,(IntKind.wrap .i64 (x.2.1+((List.length e2:Nat):Int))),x.2.2.1,x.2.2.2.1,(IntKind.wrap .i64 (x.2.2.2.2+1)))))
 (some x.2.1)
def zd0 (a0:(List jR)):Option jR :=
 ((lp zah zd) (a0,0,a0,((List.length a0:Nat):Int),0)).bind fun r9 =>
 (zfM r9).bind fun r10 =>
 ((lp zan zd) (a0,((List.length a0:Nat):Int),0,r10)).bind fun r11 =>
 some r11
def zd2 (a0:Int):Option jQ :=
 cond (decide (a0<0))
 (none)
 (cond (decide ((IntKind.wrap .i64 (a0 - 0))>0))
  (cond (eqI 0 0&&eqI 0 0)
   (cond (zrv (IntKind.wrap .i64 (a0 - 0)))
    (cond (yB (Int.toNat (IntKind.wrap .i64 (a0 - 0))) 32)
     ((zbR (List.replicate (Int.toNat (IntKind.wrap .i64 (a0 - 0))) (false,([]:jI))) none (some 0)).bind fun y2 =>
      some y2)
     (none))
    (none))
   (none))
  (some ([]:jQ)))
def qF (rec:((List jQ)×Int×Int×jQ)→Option jQ) (x:((List jQ)×Int×Int×jQ)):Option jQ :=
 cond (decide (x.2.2.1<x.2.1))
 ((gx x.1 x.2.2.1).bind fun e7 =>
  cond (yB (List.length x.2.2.2+List.length e7) 32)
  (rec (x.1,x.2.1,(IntKind.wrap .i64 (x.2.2.1+1)),(x.2.2.2++e7)))
  (none))
 (some x.2.2.2)
def qG (rec:((List jQ)×Int×(List jQ)×Int×Int)→Option Int) (x:((List jQ)×Int×(List jQ)×Int×Int)):Option Int :=
 cond (decide (x.2.2.2.2<x.2.2.2.1))
 ((gx x.2.2.1 x.2.2.2.2).bind fun e2 =>
  cond (decide ((IntKind.wrap .i64 (x.2.1+((List.length e2:Nat):Int)))<0))
  (none)
  (rec (x.1,(IntKind.wrap .i64 (x.2.1+((List.length e2:Nat):Int))),x.2.2.1,x.2.2.2.1,(IntKind.wrap .i64 (x.2.2.2.2+1)))))
 (some x.2.1)
def zbs (a0:(List jQ)):Option jQ :=
 ((lp qG zd) (a0,0,a0,((List.length a0:Nat):Int),0)).bind fun r9 =>
 (zd2 r9).bind fun r10 =>
 ((lp qF zd) (a0,((List.length a0:Nat):Int),0,r10)).bind fun r11 =>
 some r11
def zaI (rec:(Int×jQ×Int×Int×jR×jQ×jQ)→Option (jR×jQ×jQ)) (x:(Int×jQ×Int×Int×jR×jQ×jQ)):Option (jR×jQ×jQ) :=
 cond (decide (x.2.2.2.1<x.2.2.1))
 ((gx x.2.1 x.2.2.2.1).bind fun e8 =>
  cond (x.2.2.2.1 != x.1)
  (cond (yB (List.length x.2.2.2.2.2.1+List.length ([(e8.1,e8.2)]:List zg)) 32)
   (rec (x.1,x.2.1,x.2.2.1,(IntKind.wrap .i64 (x.2.2.2.1+1)),x.2.2.2.2.1,(x.2.2.2.2.2.1++([(e8.1,e8.2)]:List zg)),x.2.2.2.2.2.2))
   (none))
  (rec (x.1,x.2.1,x.2.2.1,(IntKind.wrap .i64 (x.2.2.2.1+1)),x.2.2.2.2.1,x.2.2.2.2.2.1,x.2.2.2.2.2.2)))
 (some (x.2.2.2.2.1,x.2.2.2.2.2.1,x.2.2.2.2.2.2))
def zaN (rec:(Int×Int×jQ×Int×Int×jQ×jR×jQ×jR×jQ×jQ)→Option (jR×jQ×jQ)) (x:(Int×Int×jQ×Int×Int×jQ×jR×jQ×jR×jQ×jQ)):Option (jR×jQ×jQ) :=
 cond (decide (x.2.2.2.2.1<x.2.2.2.1))
 ((gx x.2.2.1 x.2.2.2.2.1).bind fun e5 =>
  cond (x.2.2.2.2.1 != x.1)
  (cond (yB (List.length x.2.2.2.2.2.2.2.2.2.1+List.length ([(e5.1,e5.2)]:List zg)) 32)
   (rec (x.1,x.2.1,x.2.2.1,x.2.2.2.1,(IntKind.wrap .i64 (x.2.2.2.2.1+1)),x.2.2.2.2.2.1,x.2.2.2.2.2.2.1,x.2.2.2.2.2.2.2.1,x.2.2.2.2.2.2.2.2.1,(x.2.2.2.2.2.2.2.2.2.1++([(e5.1,e5.2)]:List zg)),x.2.2.2.2.2.2.2.2.2.2))
   (none))
  (rec (x.1,x.2.1,x.2.2.1,x.2.2.2.1,(IntKind.wrap .i64 (x.2.2.2.2.1+1)),x.2.2.2.2.2.1,x.2.2.2.2.2.2.1,x.2.2.2.2.2.2.2.1,x.2.2.2.2.2.2.2.2.1,x.2.2.2.2.2.2.2.2.2.1,x.2.2.2.2.2.2.2.2.2.2)))
 (some (x.2.2.2.2.2.2.2.2.1,x.2.2.2.2.2.2.2.2.2.1,x.2.2.2.2.2.2.2.2.2.2))
def zdF (a0:jQ) (a1:jR) (a2:jQ) (a3:Int) (a4:jQ) (a5:jR) (a6:jQ) (a7:Int):Option (jR×jQ×jQ) :=
 (zd0 ([a1,a5]:List jR)).bind fun r10 =>
 (zbs ([a2,a6]:List jQ)).bind fun r11 =>
 ((lp zaN zd) (a3,a7,a0,((List.length a0:Nat):Int),0,a4,a5,a6,r10,([]:jQ),r11)).bind fun r12 =>
 ((lp zaI zd) (a7,a4,((List.length a4:Nat):Int),0,r12.1,r12.2.1,r12.2.2)).bind fun r13 =>
 some (r13.1,r13.2.1,r13.2.2)
def zck (rec:(Int×(List (Int×jI))×Int×Int)→Option (Unit⊕jI)) (x:(Int×(List (Int×jI))×Int×Int)):Option (Unit⊕jI) :=
 cond (decide (x.2.2.2<x.2.2.1))
 ((gx x.2.1 x.2.2.2).bind fun e2 =>
  cond (e2.1==x.1)
  (some (Sum.inr e2.2))
  (rec (x.1,x.2.1,x.2.2.1,(IntKind.wrap .i64 (x.2.2.2+1)))))
 (some (Sum.inl ()))
def zgx (a0:(List (Int×jI))) (a1:Int):Option (Option jI) :=
 ((lp zck zd) (a1,a0,((List.length a0:Nat):Int),0)).bind fun r6 =>
 qb r6
 (fun _z7=>some (none:(Option jI)))
 (fun z8=>(nn z8).bind fun p9 =>
  some (some p9))
def zd7 (rec:((List (Int×jI))×jI×Int×Int×jI)→Option jI) (x:((List (Int×jI))×jI×Int×Int×jI)):Option jI :=
 cond (decide (x.2.2.2.1<x.2.2.1))
 ((gx x.2.1 x.2.2.2.1).bind fun e10 =>
  (zT e10).bind fun r11 =>
  (zgx x.1 r11).bind fun r12 =>
  cond (decide (e10≥0))
  (cond (yB (List.length x.2.2.2.2+List.length ([e10]:List Int)) 8)
   (rec (x.1,x.2.1,x.2.2.1,(IntKind.wrap .i64 (x.2.2.2.1+1)),(x.2.2.2.2++([e10]:List Int))))
   (none))
  (cond (Option.isNone r12)
   (cond (yB (List.length x.2.2.2.2+List.length ([e10]:List Int)) 8)
    (rec (x.1,x.2.1,x.2.2.1,(IntKind.wrap .i64 (x.2.2.2.1+1)),(x.2.2.2.2++([e10]:List Int))))
    (none))
   (cond (yB (List.length x.2.2.2.2+List.length (Option.getD r12 [])) 8)
    (rec (x.1,x.2.1,x.2.2.1,(IntKind.wrap .i64 (x.2.2.2.1+1)),(x.2.2.2.2++(Option.getD r12 []))))
    (none))))
 (some x.2.2.2.2)
def zjt (a0:(List (Int×jI))) (a1:jI):Option jI :=
 ((lp zd7 zd) (a0,a1,((List.length a1:Nat):Int),0,([]:jI))).bind fun r14 =>
 some r14
def qQ (a0:jI) (a1:(List (Int×jI))):Option jI :=
 (zjt a1 a0).bind fun r2 =>
 some r2
def zbd (rec:(jQ×Int×Int×(List (Int×jI))×jQ×jR×jQ)→Option (jQ×jR×jQ)) (x:(jQ×Int×Int×(List (Int×jI))×jQ×jR×jQ)):Option (jQ×jR×jQ) :=
 cond (decide (x.2.2.1<x.2.1))
 ((gx x.1 x.2.2.1).bind fun e19 =>
  (qQ e19.2 x.2.2.2.1).bind fun r20 =>
  cond (yB (List.length x.2.2.2.2.2.2+List.length ([(e19.1,r20)]:List zg)) 32)
  (rec (x.1,x.2.1,(IntKind.wrap .i64 (x.2.2.1+1)),x.2.2.2.1,x.2.2.2.2.1,x.2.2.2.2.2.1,(x.2.2.2.2.2.2++([(e19.1,r20)]:List zg))))
  (none))
 (some (x.2.2.2.2.1,x.2.2.2.2.2.1,x.2.2.2.2.2.2))
def zbb (rec:(jR×Int×Int×(List (Int×jI))×jQ×jR×jQ×jQ×jR)→Option (jQ×jR)) (x:(jR×Int×Int×(List (Int×jI))×jQ×jR×jQ×jQ×jR)):Option (jQ×jR) :=
 cond (decide (x.2.2.1<x.2.1))
 ((gx x.1 x.2.2.1).bind fun e12 =>
  (qQ e12 x.2.2.2.1).bind fun r13 =>
  cond (yB (List.length x.2.2.2.2.2.2.2.2+List.length ([r13]:List jI)) 24)
  (rec (x.1,x.2.1,(IntKind.wrap .i64 (x.2.2.1+1)),x.2.2.2.1,x.2.2.2.2.1,x.2.2.2.2.2.1,x.2.2.2.2.2.2.1,x.2.2.2.2.2.2.2.1,(x.2.2.2.2.2.2.2.2++([r13]:List jI))))
  (none))
 (some (x.2.2.2.2.2.2.2.1,x.2.2.2.2.2.2.2.2))
def zbl (rec:(jQ×Int×Int×(List (Int×jI))×jQ×jR×jQ×jQ)→Option jQ) (x:(jQ×Int×Int×(List (Int×jI))×jQ×jR×jQ×jQ)):Option jQ :=
 cond (decide (x.2.2.1<x.2.1))
 ((gx x.1 x.2.2.1).bind fun e5 =>
  (qQ e5.2 x.2.2.2.1).bind fun r6 =>
  cond (yB (List.length x.2.2.2.2.2.2.2+List.length ([(e5.1,r6)]:List zg)) 32)
  (rec (x.1,x.2.1,(IntKind.wrap .i64 (x.2.2.1+1)),x.2.2.2.1,x.2.2.2.2.1,x.2.2.2.2.2.1,x.2.2.2.2.2.2.1,(x.2.2.2.2.2.2.2++([(e5.1,r6)]:List zg))))
  (none))
 (some x.2.2.2.2.2.2.2)
def zia (a0:jQ) (a1:jR) (a2:jQ) (a3:(List (Int×jI))):Option (jQ×jR×jQ) :=
 ((lp zbl zd) (a0,((List.length a0:Nat):Int),0,a3,a0,a1,a2,([]:jQ))).bind fun r22 =>
 ((lp zbb zd) (a1,((List.length a1:Nat):Int),0,a3,a0,a1,a2,r22,([]:jR))).bind fun r23 =>
 ((lp zbd zd) (a2,((List.length a2:Nat):Int),0,a3,r23.1,r23.2,([]:jQ))).bind fun r24 =>
 some (r24.1,r24.2.1,r24.2.2)
def zft (a0:(List (Int×jI))) (a1:jQ) (a2:jR) (a3:jQ):Option (jQ×jR×jQ) :=
 (zia a1 a2 a3 a0).bind fun r2 =>
 some (r2.1,r2.2.1,r2.2.2)
def zkQ (a0:Bool) (a1:jI) (a2:jS):Option Bool :=
 (zig a2 a0 a1).bind fun r2 =>
 some (!r2)
def zdq (rec:(jQ×Int×Int×jS)→Option (Unit⊕Int)) (x:(jQ×Int×Int×jS)):Option (Unit⊕Int) :=
 cond (decide (x.2.2.1<x.2.1))
 ((gx x.1 x.2.2.1).bind fun e3 =>
  (zkQ e3.1 e3.2 x.2.2.2).bind fun r4 =>
  cond r4
  (some (Sum.inr x.2.2.1))
  (rec (x.1,x.2.1,(IntKind.wrap .i64 (x.2.2.1+1)),x.2.2.2)))
 (some (Sum.inl ()))
def zeF (a0:jQ) (a1:jS):Option Int :=
 ((lp zdq zd) (a0,((List.length a0:Nat):Int),0,a1)).bind fun r8 =>
 qb r8
 (fun _z9=>some (-1))
 (fun z10=>some z10)
def zdt (a0:jQ) (a1:jS):Option Bool :=
 (zeF a0 a1).bind fun r2 =>
 some (decide (r2≥0))
def zen (a0:jS) (a1:jI):Option Bool :=
 (zc0 a0 a1).bind fun r2 =>
 cond r2.1
 (some (((List.length r2.2:Nat):Int)==1))
 (some false)
def za8 (rec:(jI×Int×Int×jI)→Option jI) (x:(jI×Int×Int×jI)):Option jI :=
 cond (decide (x.2.2.1<x.2.1))
 ((gx x.1 x.2.2.1).bind fun e7 =>
  cond (decide (e7<0))
  ((zT e7).bind fun r8 =>
   (inR r8 24).bind fun k9 =>
   (x.2.2.2[k9]?).bind fun x10 =>
   (inR r8 24).bind fun k11 =>
   (x.2.2.2[k11]?).bind fun _x12 =>
   rec (x.1,x.2.1,(IntKind.wrap .i64 (x.2.2.1+1)),(List.set x.2.2.2 k11 (IntKind.wrap .i64 (x10+1)))))
  (rec (x.1,x.2.1,(IntKind.wrap .i64 (x.2.2.1+1)),x.2.2.2)))
 (some x.2.2.2)
def zed (a0:jI):Option jI :=
 ((lp za8 zd) (a0,((List.length a0:Nat):Int),0,(List.replicate 24 (0:Int)))).bind fun r14 =>
 cond (Nat.beq (List.length r14) 24)
 (cond (Nat.beq (List.length r14) 24)
  (cond (Nat.beq (List.length r14) 24)
   (some r14)
   (none))
  (none))
 (none)
def q8 (rec:(Int×jI×jI)→Option (Unit⊕Bool)) (x:(Int×jI×jI)):Option (Unit⊕Bool) :=
 cond (decide (x.1<24))
 ((inR x.1 24).bind fun k11 =>
  (x.2.1[k11]?).bind fun x12 =>
  (inR x.1 24).bind fun k13 =>
  (x.2.2[k13]?).bind fun x14 =>
  cond (decide (x12<x14))
  (some (Sum.inr false))
  (rec ((IntKind.wrap .i64 (x.1+1)),x.2.1,x.2.2)))
 (some (Sum.inl ()))
def zeO (a0:jI) (a1:jI):Option Bool :=
 (zed a0).bind fun r18 =>
 (zed a1).bind fun r19 =>
 cond (Nat.beq (List.length (List.replicate 24 (0:Int))) 24)
 (cond (Nat.beq (List.length (List.replicate 24 (0:Int))) 24)
  (((lp q8 zd) (0,r18,r19)).bind fun r20 =>
   qb r20
   (fun _z21=>some true)
   (fun z22=>some z22))
  (none))
 (none)
def zc2 (rec:(jS×Int×jI×Int×Int)→Option Int) (x:(jS×Int×jI×Int×Int)):Option Int :=
 cond (decide (x.2.2.2.2<x.2.2.2.1))
 ((gx x.2.2.1 x.2.2.2.2).bind fun e3 =>
  cond (decide (e3<0))
  (rec (x.1,(IntKind.wrap .i64 (x.2.1+1)),x.2.2.1,x.2.2.2.1,(IntKind.wrap .i64 (x.2.2.2.2+1))))
  ((gx x.1 e3).bind fun e4 =>
   rec (x.1,(IntKind.wrap .i64 (x.2.1+e4.2.2.2)),x.2.2.1,x.2.2.2.1,(IntKind.wrap .i64 (x.2.2.2.2+1)))))
 (some x.2.1)
def zfv (a0:jS) (a1:jI):Option Int :=
 ((lp zc2 zd) (a0,0,a1,((List.length a1:Nat):Int),0)).bind fun r6 =>
 some r6
def zaL (rec:(jR×jR×Int×Int)→Option (Unit⊕(jI×jI))) (x:(jR×jR×Int×Int)):Option (Unit⊕(jI×jI)) :=
 cond (decide (x.2.2.2<x.2.2.1))
 ((gx x.2.1 x.2.2.2).bind fun e7 =>
  cond (decide (x.2.2.2<((List.length x.1:Nat):Int)))
  ((gx x.1 x.2.2.2).bind fun e8 =>
   (yq e7 e8).bind fun r9 =>
   cond (!r9)
   ((gx x.1 x.2.2.2).bind fun e10 =>
    some (Sum.inr (e7,e10)))
   (rec (x.1,x.2.1,x.2.2.1,(IntKind.wrap .i64 (x.2.2.2+1)))))
  (rec (x.1,x.2.1,x.2.2.1,(IntKind.wrap .i64 (x.2.2.2+1)))))
 (some (Sum.inl ()))
def zgF (a0:jS) (a1:jI) (a2:jI):Option (jI×jI) :=
 (za1 a0 a2).bind fun r14 =>
 (za1 a0 a1).bind fun r15 =>
 ((lp zaL zd) (r14,r15,((List.length r15:Nat):Int),0)).bind fun r16 =>
 qb r16
 (fun _z17=>some (([]:jI),([]:jI)))
 (fun z18=>some (z18.1,z18.2))
def zcE (rec:(jS×jI×jI)→Option (Unit⊕Bool)) (x:(jS×jI×jI)):Option (Unit⊕Bool) :=
 (((nn x.2.1).bind fun _ =>
  some false)).bind fun z23 =>
 cond (!z23)
 ((zeO x.2.1 x.2.2).bind fun r24 =>
  cond r24
  ((zfv x.1 x.2.1).bind fun r25 =>
   (zfv x.1 x.2.2).bind fun r26 =>
   cond (r25 != r26)
   (some (Sum.inr (decide (r25>r26))))
   ((gx x.2.1 0).bind fun e27 =>
    (gx x.2.2 0).bind fun e28 =>
    cond (e27 != e28)
    ((gx x.2.1 0).bind fun e29 =>
     (gx x.2.2 0).bind fun e30 =>
     some (Sum.inr (decide (e29>e30))))
    ((zbR x.2.1 (some 1) none).bind fun y31 =>
     (zbR x.2.2 (some 1) none).bind fun y32 =>
     (zgF x.1 y31 y32).bind fun r33 =>
     rec (x.1,r33.1,r33.2))))
  (some (Sum.inl ())))
 (some (Sum.inl ()))
def qS (a0:jS) (a1:jI) (a2:jI):Option Bool :=
 ((lp zcE zd) (a0,a1,a2)).bind fun r37 =>
 qb r37
 (fun _z38=>some false)
 (fun z39=>some z39)
def zbI (a0:jS) (a1:jI) (a2:jI):Option (Int×Int) :=
 (zen a0 a1).bind fun r19 =>
 cond r19
 ((zen a0 a2).bind fun r20 =>
  (za2 a0 a1).bind fun r21 =>
  cond r21
  ((za2 a0 a2).bind fun r22 =>
   cond (!r20)
   (cond (!r22)
    (some (0,600))
    ((yq a1 a2).bind fun r23 =>
     cond r23
     (some (1,0))
     ((qS a0 a1 a2).bind fun r24 =>
      cond r24
      (some (2,0))
      ((qS a0 a2 a1).bind fun r25 =>
       cond r25
       (some (0,0))
       (some (3,0))))))
   ((yq a1 a2).bind fun r26 =>
    cond r26
    (some (1,0))
    ((qS a0 a1 a2).bind fun r27 =>
     cond r27
     (some (2,0))
     ((qS a0 a2 a1).bind fun r28 =>
      cond r28
      (some (0,0))
      (some (3,0))))))
  (cond (!r20)
   (some (0,600))
   ((yq a1 a2).bind fun r29 =>
    cond r29
    (some (1,0))
    ((qS a0 a1 a2).bind fun r30 =>
     cond r30
     (some (2,0))
     ((qS a0 a2 a1).bind fun r31 =>
      cond r31
      (some (0,0))
      (some (3,0)))))))
 ((za2 a0 a1).bind fun r32 =>
  cond r32
  ((za2 a0 a2).bind fun r33 =>
   cond (!r33)
   (some (0,600))
   ((yq a1 a2).bind fun r34 =>
    cond r34
    (some (1,0))
    ((qS a0 a1 a2).bind fun r35 =>
     cond r35
     (some (2,0))
     ((qS a0 a2 a1).bind fun r36 =>
      cond r36
      (some (0,0))
      (some (3,0))))))
  (some (0,600)))
def zlr (a0:jS) (a1:Bool) (a2:jI) (a3:Bool) (a4:jI):Option (Int×Int) :=
 (zig a0 a1 a2).bind fun r4 =>
 cond (!r4)
 (some (0,700))
 ((zig a0 a3 a4).bind fun r5 =>
  cond (!r5)
  (some (0,700))
  ((zbI a0 a2 a4).bind fun r6 =>
   cond (r6.1 != 1)
   (some (r6.1,0))
   (cond (a1==a3)
    (some (r6.1,0))
    (cond a1
     (some (2,0))
     (some (0,0))))))
def zkZ (a0:Bool) (a1:jI) (a2:jS) (a3:Bool) (a4:jI):Option Bool :=
 (zlr a2 a0 a1 a3 a4).bind fun r2 =>
 some (r2.1==2)
def zdB (rec:(jQ×Int×Int×jS×Bool×jI)→Option (Unit⊕Int)) (x:(jQ×Int×Int×jS×Bool×jI)):Option (Unit⊕Int) :=
 cond (decide (x.2.2.1<x.2.1))
 ((gx x.1 x.2.2.1).bind fun e3 =>
  (zkZ e3.1 e3.2 x.2.2.2.1 x.2.2.2.2.1 x.2.2.2.2.2).bind fun r4 =>
  cond r4
  (some (Sum.inr x.2.2.1))
  (rec (x.1,x.2.1,(IntKind.wrap .i64 (x.2.2.1+1)),x.2.2.2.1,x.2.2.2.2.1,x.2.2.2.2.2)))
 (some (Sum.inl ()))
def zeH (a0:jQ) (a1:jS) (a2:Bool) (a3:jI):Option Int :=
 ((lp zdB zd) (a0,((List.length a0:Nat):Int),0,a1,a2,a3)).bind fun r8 =>
 qb r8
 (fun _z9=>some (-1))
 (fun z10=>some z10)
def zdA (a0:jQ) (a1:jS) (a2:Bool) (a3:jI):Option Bool :=
 (zeH a0 a1 a2 a3).bind fun r2 =>
 some (decide (r2≥0))
def zlF (rec:(jQ×jQ×Int×Int×jS×jI)→Option jI) (x:(jQ×jQ×Int×Int×jS×jI)):Option jI :=
 cond (decide (x.2.2.2.1<x.2.2.1))
 ((gx x.2.1 x.2.2.2.1).bind fun e7 =>
  (zdA x.1 x.2.2.2.2.1 e7.1 e7.2).bind fun r8 =>
  cond (!r8)
  (cond (yB (List.length x.2.2.2.2.2+List.length ([x.2.2.2.1]:List Int)) 8)
   (rec (x.1,x.2.1,x.2.2.1,(IntKind.wrap .i64 (x.2.2.2.1+1)),x.2.2.2.2.1,(x.2.2.2.2.2++([x.2.2.2.1]:List Int))))
   (none))
  (rec (x.1,x.2.1,x.2.2.1,(IntKind.wrap .i64 (x.2.2.2.1+1)),x.2.2.2.2.1,x.2.2.2.2.2)))
 (some x.2.2.2.2.2)
def znJ (a0:jS) (a1:jQ):Option (Int×jI) :=
 (zhB a0).bind fun r10 =>
 cond (!r10)
 (some (700,([]:jI)))
 ((zdt a1 a0).bind fun r11 =>
  cond r11
  (some (700,([]:jI)))
  (((lp zlF zd) (a1,a1,((List.length a1:Nat):Int),0,a0,([]:jI))).bind fun r12 =>
   some (0,r12)))
def zgw (a0:jS) (a1:Bool) (a2:jI):Option Bool :=
 cond a1
 (some false)
 ((gx a2 0).bind fun e9 =>
  cond (e9 != 0)
  (some false)
  ((zbR a2 (some 1) none).bind fun y10 =>
   (za1 a0 y10).bind fun r11 =>
   (inR 0 (List.length r11)).bind fun k12 =>
   (r11[k12]?).bind fun x13 =>
   (inR 1 (List.length r11)).bind fun k14 =>
   (r11[k14]?).bind fun x15 =>
   (yq x13 x15).bind fun r16 =>
   some r16))
def ze4 (a0:Bool) (a1:jI) (a2:Bool) (a3:jI):Option Bool :=
 cond (!(a2==a0))
 ((yq a3 a1).bind fun r2 =>
  some r2)
 (some false)
def zdp (rec:(jQ×Int×Int×Bool×jI)→Option (Unit⊕Int)) (x:(jQ×Int×Int×Bool×jI)):Option (Unit⊕Int) :=
 cond (decide (x.2.2.1<x.2.1))
 ((gx x.1 x.2.2.1).bind fun e3 =>
  (ze4 e3.1 e3.2 x.2.2.2.1 x.2.2.2.2).bind fun r4 =>
  cond r4
  (some (Sum.inr x.2.2.1))
  (rec (x.1,x.2.1,(IntKind.wrap .i64 (x.2.2.1+1)),x.2.2.2.1,x.2.2.2.2)))
 (some (Sum.inl ()))
def zeI (a0:jQ) (a1:Bool) (a2:jI):Option Int :=
 ((lp zdp zd) (a0,((List.length a0:Nat):Int),0,a1,a2)).bind fun r8 =>
 qb r8
 (fun _z9=>some (-1))
 (fun z10=>some z10)
def zdu (a0:jQ) (a1:Bool) (a2:jI):Option Bool :=
 (zeI a0 a1 a2).bind fun r2 =>
 some (decide (r2≥0))
def ze9 (rec:(jS×jQ×Int×Int×jQ×jR×jQ)→Option (Unit⊕(Bool×Int))) (x:(jS×jQ×Int×Int×jQ×jR×jQ)):Option (Unit⊕(Bool×Int)) :=
 cond (decide (x.2.2.2.1<x.2.2.1))
 ((gx x.2.1 x.2.2.2.1).bind fun e5 =>
  (zgw x.1 e5.1 e5.2).bind fun r6 =>
  cond r6
  (some (Sum.inr (true,0)))
  ((zdu x.2.2.2.2.1 e5.1 e5.2).bind fun r7 =>
   cond r7
   (some (Sum.inr (true,0)))
   (rec (x.1,x.2.1,x.2.2.1,(IntKind.wrap .i64 (x.2.2.2.1+1)),x.2.2.2.2.1,x.2.2.2.2.2.1,x.2.2.2.2.2.2))))
 (some (Sum.inl ()))
def zhQ (a0:jS) (a1:jQ) (a2:jR) (a3:jQ):Option (Bool×Int) :=
 (zaM a0 a1 a2 a3).bind fun r11 =>
 cond (!r11)
 (some (false,800))
 (((lp ze9 zd) (a0,a1,((List.length a1:Nat):Int),0,a1,a2,a3)).bind fun r12 =>
  qb r12
  (fun _z13=>some (false,0))
  (fun z14=>some (z14.1,z14.2)))
def zcP (a0:Int) (a1:Int) (a2:Int) (a3:Int) (a4:Int) (a5:Int) (a6:Int) (_a7:jQ) (_a8:jR) (_a9:jQ) (a10:jQ) (a11:jR) (a12:jQ) (a13:Bool) (a14:Int) (a15:jS) (a16:Int) (a17:jT):Option (jS×Int×jT) :=
 cond (a14 != 0)
 (some (a15,(IntKind.wrap .i64 (a16+1)),a17))
 ((zhQ a15 a10 a11 a12).bind fun r2 =>
  cond (!a13)
  (some (a15,a16,a17))
  (cond r2.1
   (some (a15,a16,a17))
   (cond (yB (List.length a17+List.length ([(a0,a1,a2,a3,a4,a5,a6,a10,a11,a12)]:List jU)) 128)
    (some (a15,a16,(a17++([(a0,a1,a2,a3,a4,a5,a6,a10,a11,a12)]:List jU))))
    (none))))
def zjh (a0:Int) (a1:Int) (a2:Int) (a3:Int) (a4:Int) (a5:Int) (a6:Int) (a7:jQ) (a8:jR) (a9:jQ) (a10:Int) (a11:Int) (a12:Int) (a13:Int) (a14:Int) (a15:Int) (a16:Int) (a17:jQ) (a18:jR) (a19:jQ):Option Bool :=
 cond (a0==a10)
 (cond (a1==a11)
  (cond (a2==a12)
   (cond (a3==a13)
    (cond (a4==a14)
     (cond (a5==a15)
      (cond (a6==a16)
       ((zZ a7 a8 a9 a17 a18 a19).bind fun r2 =>
        some r2)
       (some false))
      (some false))
     (some false))
    (some false))
   (some false))
  (some false))
 (some false)
def zff (rec:(jT×jT×Int)→Option (Unit⊕Bool)) (x:(jT×jT×Int)):Option (Unit⊕Bool) :=
 cond (decide (x.2.2<((List.length x.1:Nat):Int)))
 ((gx x.1 x.2.2).bind fun e4 =>
  (gx x.2.1 x.2.2).bind fun e5 =>
  (zjh e4.1 e4.2.1 e4.2.2.1 e4.2.2.2.1 e4.2.2.2.2.1 e4.2.2.2.2.2.1 e4.2.2.2.2.2.2.1 e4.2.2.2.2.2.2.2.1 e4.2.2.2.2.2.2.2.2.1 e4.2.2.2.2.2.2.2.2.2 e5.1 e5.2.1 e5.2.2.1 e5.2.2.2.1 e5.2.2.2.2.1 e5.2.2.2.2.2.1 e5.2.2.2.2.2.2.1 e5.2.2.2.2.2.2.2.1 e5.2.2.2.2.2.2.2.2.1 e5.2.2.2.2.2.2.2.2.2).bind fun r6 =>
  cond (!r6)
  (some (Sum.inr false))
  (rec (x.1,x.2.1,(IntKind.wrap .i64 (x.2.2+1)))))
 (some (Sum.inl ()))
def zhO (a0:jT) (a1:jT):Option Bool :=
 cond (((List.length a0:Nat):Int) != ((List.length a1:Nat):Int))
 (some false)
 (((lp zff zd) (a0,a1,0)).bind fun r10 =>
  qb r10
  (fun _z11=>some true)
  (fun z12=>some z12))
end Go.Abs.Q
namespace Go.Abs.Q
open Go Go.Abs
def zD (s1:jR) (s6:Int) (s8:Int):List jI→Nat→(List (jI×Int×jI×Int))→Option (List (jI×Int×jI×Int))
 | [],_i,s4=>some s4
 | e::es,i,s4 =>
  (gx s1 (i:Int)).bind fun e8 =>
  cond (yB (List.length s4+List.length ([(e,s6,e8,s8)]:List (jI×Int×jI×Int))) 64)
  (zD s1 s6 s8 es (i+1) (s4++([(e,s6,e8,s8)]:List (jI×Int×jI×Int))))
  (none)
theorem zej (s0:jR) (s1:jR) (s5:jI) (s6:Int) (s7:jI) (s8:Int) (s4:(List (jI×Int×jI×Int))) (hl:List.length s0≤maxLen):lp y5 zd (s0,s1,((List.length s0:Nat):Int),0,s4,s5,s6,s7,s8)=zD s1 s6 s8 s0 0 s4:=zac y5 (fun i s4=>(s0,s1,((List.length s0:Nat):Int),i,s4,s5,s6,s7,s8)) (fun es i s4=>zD s1 s6 s8 es i s4) hl (fun r i s4 h=>by unfold y5 zD; simp only[h,cond_false]) (fun r i s4 e es h g w k=>by unfold y5 zD; simp only[h,cond_true,g,Option.bind_some,w,k]) s4
def zi (s0:Int) (s5:(List ((Option jI)×Int))) (s6:jI) (s7:Int):List Int→(List Bool)→(List (jI×Int))→Option (((List Bool)×(List (jI×Int)))⊕Bool)
 | [],s8,s9=>some (Sum.inl (s8,s9))
 | e::es,s8,s9 =>
  cond (decide (e≥0))
  (zi s0 s5 s6 s7 es s8 s9)
  ((yt s6 s7 e).bind fun r15 =>
   cond (r15==s0)
   (some (Sum.inr true))
   ((inR r15 48).bind fun k16 =>
    (s8[k16]?).bind fun x17 =>
    cond (!x17)
    ((inR r15 48).bind fun k18 =>
     (s5[k18]?).bind fun x19 =>
     cond (!(Option.isNone x19.1))
     ((inR r15 48).bind fun k20 =>
      (s8[k20]?).bind fun _x21 =>
      (inR r15 48).bind fun k22 =>
      (s5[k22]?).bind fun x23 =>
      cond (yB (List.length s9+List.length ([((Option.getD x23.1 []),x23.2)]:List (jI×Int))) 32)
      (zi s0 s5 s6 s7 es (List.set s8 k20 true) (s9++([((Option.getD x23.1 []),x23.2)]:List (jI×Int))))
      (none))
     (zi s0 s5 s6 s7 es s8 s9))
    (zi s0 s5 s6 s7 es s8 s9)))
theorem zey (s0:Int) (s1:jI) (s4:jS) (s5:(List ((Option jI)×Int))) (s6:jI) (s7:Int) (s8:(List Bool)) (s9:(List (jI×Int))) (hl:List.length s1≤maxLen):lp qj zd (s0,s1,((List.length s1:Nat):Int),0,s4,s5,s6,s7,s8,s9)=zi s0 s5 s6 s7 s1 s8 s9:=zI7 qj (fun i s8 s9=>(s0,s1,((List.length s1:Nat):Int),i,s4,s5,s6,s7,s8,s9)) (fun es i s8 s9=>zi s0 s5 s6 s7 es s8 s9) hl (fun r i s8 s9 h=>by unfold qj zi; simp only[h,cond_false]) (fun r i s8 s9 e es h g w k=>by unfold qj zi; simp only[h,cond_true,g,Option.bind_some,w,k]) s8 s9
def z1:List jR→jR→Option jR
 | [],s3=>some s3
 | e::es,s3 =>
  cond (yB (List.length s3+List.length e) 24)
  (z1 es (s3++e))
  (none)
theorem zfX (s0:(List jR)) (s3:jR) (hl:List.length s0≤maxLen):lp zan zd (s0,((List.length s0:Nat):Int),0,s3)=z1 s0 s3:=zac zan (fun i s3=>(s0,((List.length s0:Nat):Int),i,s3)) (fun es i s3=>z1 es s3) hl (fun r i s3 h=>by unfold zan z1; simp only[h,cond_false]) (fun r i s3 e es h g w k=>by unfold zan z1; simp only[h,cond_true,g,Option.bind_some,w,k]) s3
def yh:List jR→Int→Option Int
 | [],s1=>some s1
 | e::es,s1 =>
  cond (decide ((IntKind.wrap .i64 (s1+((List.length e:Nat):Int)))<0))
  (none)
  (yh es (IntKind.wrap .i64 (s1+((List.length e:Nat):Int))))
theorem zfU (s0:(List jR)) (s2:(List jR)) (s1:Int) (hl:List.length s2≤maxLen):lp zah zd (s0,s1,s2,((List.length s2:Nat):Int),0)=yh s2 s1:=zac zah (fun i s1=>(s0,s1,s2,((List.length s2:Nat):Int),i)) (fun es i s1=>yh es s1) hl (fun r i s1 h=>by unfold zah yh; simp only[h,cond_false]) (fun r i s1 e es h g w k=>by unfold zah yh; simp only[h,cond_true,g,Option.bind_some,w,k]) s1
def zM:List jQ→jQ→Option jQ
 | [],s3=>some s3
 | e::es,s3 =>
  cond (yB (List.length s3+List.length e) 32)
  (zM es (s3++e))
  (none)
theorem zeV (s0:(List jQ)) (s3:jQ) (hl:List.length s0≤maxLen):lp qF zd (s0,((List.length s0:Nat):Int),0,s3)=zM s0 s3:=zac qF (fun i s3=>(s0,((List.length s0:Nat):Int),i,s3)) (fun es i s3=>zM es s3) hl (fun r i s3 h=>by unfold qF zM; simp only[h,cond_false]) (fun r i s3 e es h g w k=>by unfold qF zM; simp only[h,cond_true,g,Option.bind_some,w,k]) s3
def zL:List jQ→Int→Option Int
 | [],s1=>some s1
 | e::es,s1 =>
  cond (decide ((IntKind.wrap .i64 (s1+((List.length e:Nat):Int)))<0))
  (none)
  (zL es (IntKind.wrap .i64 (s1+((List.length e:Nat):Int))))
theorem zeU (s0:(List jQ)) (s2:(List jQ)) (s1:Int) (hl:List.length s2≤maxLen):lp qG zd (s0,s1,s2,((List.length s2:Nat):Int),0)=zL s2 s1:=zac qG (fun i s1=>(s0,s1,s2,((List.length s2:Nat):Int),i)) (fun es i s1=>zL es s1) hl (fun r i s1 h=>by unfold qG zL; simp only[h,cond_false]) (fun r i s1 e es h g w k=>by unfold qG zL; simp only[h,cond_true,g,Option.bind_some,w,k]) s1
def zX (s0:Int) (s4:jR) (s6:jQ):List zg→Nat→jQ→Option (jR×jQ×jQ)
 | [],_i,s5=>some (s4,s5,s6)
 | e::es,i,s5 =>
  cond ((i:Int) != s0)
  (cond (yB (List.length s5+List.length ([(e.1,e.2)]:List zg)) 32)
   (zX s0 s4 s6 es (i+1) (s5++([(e.1,e.2)]:List zg)))
   (none))
  (zX s0 s4 s6 es (i+1) s5)
theorem zgs (s0:Int) (s1:jQ) (s4:jR) (s6:jQ) (s5:jQ) (hl:List.length s1≤maxLen):lp zaI zd (s0,s1,((List.length s1:Nat):Int),0,s4,s5,s6)=zX s0 s4 s6 s1 0 s5:=zac zaI (fun i s5=>(s0,s1,((List.length s1:Nat):Int),i,s4,s5,s6)) (fun es i s5=>zX s0 s4 s6 es i s5) hl (fun r i s5 h=>by unfold zaI zX; simp only[h,cond_false]) (fun r i s5 e es h g w k=>by unfold zaI zX; simp only[h,cond_true,g,Option.bind_some,w,k]) s5
def zW (s0:Int) (s8:jR) (s10:jQ):List zg→Nat→jQ→Option (jR×jQ×jQ)
 | [],_i,s9=>some (s8,s9,s10)
 | e::es,i,s9 =>
  cond ((i:Int) != s0)
  (cond (yB (List.length s9+List.length ([(e.1,e.2)]:List zg)) 32)
   (zW s0 s8 s10 es (i+1) (s9++([(e.1,e.2)]:List zg)))
   (none))
  (zW s0 s8 s10 es (i+1) s9)
theorem zgu (s0:Int) (s1:Int) (s2:jQ) (s5:jQ) (s6:jR) (s7:jQ) (s8:jR) (s10:jQ) (s9:jQ) (hl:List.length s2≤maxLen):lp zaN zd (s0,s1,s2,((List.length s2:Nat):Int),0,s5,s6,s7,s8,s9,s10)=zW s0 s8 s10 s2 0 s9:=zac zaN (fun i s9=>(s0,s1,s2,((List.length s2:Nat):Int),i,s5,s6,s7,s8,s9,s10)) (fun es i s9=>zW s0 s8 s10 es i s9) hl (fun r i s9 h=>by unfold zaN zW; simp only[h,cond_false]) (fun r i s9 e es h g w k=>by unfold zaN zW; simp only[h,cond_true,g,Option.bind_some,w,k]) s9
def qY (s0:Int):List (Int×jI)→Option (Unit⊕jI)
 | []=>some (Sum.inl ())
 | e::es =>
  cond (e.1==s0)
  (some (Sum.inr e.2))
  (qY s0 es)
theorem zib (s0:Int) (s1:(List (Int×jI))) (hl:List.length s1≤maxLen):lp zck zd (s0,s1,((List.length s1:Nat):Int),0)=qY s0 s1:=zfg zck (fun i=>(s0,s1,((List.length s1:Nat):Int),i)) (fun es i=>qY s0 es) hl (fun r i h=>by unfold zck qY; simp only[h,cond_false]) (fun r i e es h g w k=>by unfold zck qY; simp only[h,cond_true,g,Option.bind_some,w,k])
def qn (s0:(List (Int×jI))):List Int→jI→Option jI
 | [],s4=>some s4
 | e::es,s4 =>
  (zT e).bind fun r11 =>
  (zgx s0 r11).bind fun r12 =>
  cond (decide (e≥0))
  (cond (yB (List.length s4+List.length ([e]:List Int)) 8)
   (qn s0 es (s4++([e]:List Int)))
   (none))
  (cond (Option.isNone r12)
   (cond (yB (List.length s4+List.length ([e]:List Int)) 8)
    (qn s0 es (s4++([e]:List Int)))
    (none))
   (cond (yB (List.length s4+List.length (Option.getD r12 [])) 8)
    (qn s0 es (s4++(Option.getD r12 [])))
    (none)))
theorem zjk (s0:(List (Int×jI))) (s1:jI) (s4:jI) (hl:List.length s1≤maxLen):lp zd7 zd (s0,s1,((List.length s1:Nat):Int),0,s4)=qn s0 s1 s4:=zac zd7 (fun i s4=>(s0,s1,((List.length s1:Nat):Int),i,s4)) (fun es i s4=>qn s0 es s4) hl (fun r i s4 h=>by unfold zd7 qn; simp only[h,cond_false]) (fun r i s4 e es h g w k=>by unfold zd7 qn; simp only[h,cond_true,g,Option.bind_some,w,k]) s4
def yL (s3:(List (Int×jI))) (s4:jQ) (s5:jR):List zg→jQ→Option (jQ×jR×jQ)
 | [],s6=>some (s4,s5,s6)
 | e::es,s6 =>
  (qQ e.2 s3).bind fun r20 =>
  cond (yB (List.length s6+List.length ([(e.1,r20)]:List zg)) 32)
  (yL s3 s4 s5 es (s6++([(e.1,r20)]:List zg)))
  (none)
theorem zgP (s0:jQ) (s3:(List (Int×jI))) (s4:jQ) (s5:jR) (s6:jQ) (hl:List.length s0≤maxLen):lp zbd zd (s0,((List.length s0:Nat):Int),0,s3,s4,s5,s6)=yL s3 s4 s5 s0 s6:=zac zbd (fun i s6=>(s0,((List.length s0:Nat):Int),i,s3,s4,s5,s6)) (fun es i s6=>yL s3 s4 s5 es s6) hl (fun r i s6 h=>by unfold zbd yL; simp only[h,cond_false]) (fun r i s6 e es h g w k=>by unfold zbd yL; simp only[h,cond_true,g,Option.bind_some,w,k]) s6
def yP (s3:(List (Int×jI))) (s7:jQ):List jI→jR→Option (jQ×jR)
 | [],s8=>some (s7,s8)
 | e::es,s8 =>
  (qQ e s3).bind fun r13 =>
  cond (yB (List.length s8+List.length ([r13]:List jI)) 24)
  (yP s3 s7 es (s8++([r13]:List jI)))
  (none)
theorem zgZ (s0:jR) (s3:(List (Int×jI))) (s4:jQ) (s5:jR) (s6:jQ) (s7:jQ) (s8:jR) (hl:List.length s0≤maxLen):lp zbb zd (s0,((List.length s0:Nat):Int),0,s3,s4,s5,s6,s7,s8)=yP s3 s7 s0 s8:=zac zbb (fun i s8=>(s0,((List.length s0:Nat):Int),i,s3,s4,s5,s6,s7,s8)) (fun es i s8=>yP s3 s7 es s8) hl (fun r i s8 h=>by unfold zbb yP; simp only[h,cond_false]) (fun r i s8 e es h g w k=>by unfold zbb yP; simp only[h,cond_true,g,Option.bind_some,w,k]) s8
def yI (s3:(List (Int×jI))):List zg→jQ→Option jQ
 | [],s7=>some s7
 | e::es,s7 =>
  (qQ e.2 s3).bind fun r6 =>
  cond (yB (List.length s7+List.length ([(e.1,r6)]:List zg)) 32)
  (yI s3 es (s7++([(e.1,r6)]:List zg)))
  (none)
theorem zgG (s0:jQ) (s3:(List (Int×jI))) (s4:jQ) (s5:jR) (s6:jQ) (s7:jQ) (hl:List.length s0≤maxLen):lp zbl zd (s0,((List.length s0:Nat):Int),0,s3,s4,s5,s6,s7)=yI s3 s0 s7:=zac zbl (fun i s7=>(s0,((List.length s0:Nat):Int),i,s3,s4,s5,s6,s7)) (fun es i s7=>yI s3 es s7) hl (fun r i s7 h=>by unfold zbl yI; simp only[h,cond_false]) (fun r i s7 e es h g w k=>by unfold zbl yI; simp only[h,cond_true,g,Option.bind_some,w,k]) s7
def yM:List Int→jI→Option jI
 | [],s3=>some s3
 | e::es,s3 =>
  cond (decide (e<0))
  ((zT e).bind fun r8 =>
   (inR r8 24).bind fun k9 =>
   (s3[k9]?).bind fun x10 =>
   (inR r8 24).bind fun k11 =>
   (s3[k11]?).bind fun _x12 =>
   yM es (List.set s3 k11 (IntKind.wrap .i64 (x10+1))))
  (yM es s3)
theorem zgK (s0:jI) (s3:jI) (hl:List.length s0≤maxLen):lp za8 zd (s0,((List.length s0:Nat):Int),0,s3)=yM s0 s3:=zac za8 (fun i s3=>(s0,((List.length s0:Nat):Int),i,s3)) (fun es i s3=>yM es s3) hl (fun r i s3 h=>by unfold za8 yM; simp only[h,cond_false]) (fun r i s3 e es h g w k=>by unfold za8 yM; simp only[h,cond_true,g,Option.bind_some,w,k]) s3
def yS (s0:jS):List Int→Int→Option Int
 | [],s1=>some s1
 | e::es,s1 =>
  cond (decide (e<0))
  (yS s0 es (IntKind.wrap .i64 (s1+1)))
  ((gx s0 e).bind fun e4 =>
   yS s0 es (IntKind.wrap .i64 (s1+e4.2.2.2)))
theorem zeL (s0:jS) (s2:jI) (s1:Int) (hl:List.length s2≤maxLen):lp zc2 zd (s0,s1,s2,((List.length s2:Nat):Int),0)=yS s0 s2 s1:=zac zc2 (fun i s1=>(s0,s1,s2,((List.length s2:Nat):Int),i)) (fun es i s1=>yS s0 es s1) hl (fun r i s1 h=>by unfold zc2 yS; simp only[h,cond_false]) (fun r i s1 e es h g w k=>by unfold zc2 yS; simp only[h,cond_true,g,Option.bind_some,w,k]) s1
def yr (s0:jR):List jI→Nat→Option (Unit⊕(jI×jI))
 | [],_i=>some (Sum.inl ())
 | e::es,i =>
  cond (decide ((i:Int)<((List.length s0:Nat):Int)))
  ((gx s0 (i:Int)).bind fun e8 =>
   (yq e e8).bind fun r9 =>
   cond (!r9)
   ((gx s0 (i:Int)).bind fun e10 =>
    some (Sum.inr (e,e10)))
   (yr s0 es (i+1)))
  (yr s0 es (i+1))
theorem zgo (s0:jR) (s1:jR) (hl:List.length s1≤maxLen):lp zaL zd (s0,s1,((List.length s1:Nat):Int),0)=yr s0 s1 0:=zfg zaL (fun i=>(s0,s1,((List.length s1:Nat):Int),i)) (fun es i=>yr s0 es i) hl (fun r i h=>by unfold zaL yr; simp only[h,cond_false]) (fun r i e es h g w k=>by unfold zaL yr; simp only[h,cond_true,g,Option.bind_some,w,k])
end Go.Abs.Q
namespace Go.Abs.Q
open Go Go.Abs
section
theorem zdM {xs:List Int} (h:xs.length≤1099511627776):zbz xs=some xs:=by
 unfold zbz zgB
 simp only[Option.isNone_some,cond_false,Option.getD_some,List.length_nil,Nat.zero_add,List.nil_append]
 rw[zn (show xs.length*8≤140737488351232 by omega)]
 rfl
theorem zsi (ys:List Int):(es:List Int)→(i:Nat)→es.length=(ys.drop i).length→yU ys es i=some (cond (decide (es=ys.drop i)) (.inl ()) (.inr false))
 | [],i,h=>by
  have:ys.drop i=[]:=List.eq_nil_of_length_eq_zero h.symm
  rw[this]; rfl
 | e::es,i,h=>by
  cases hd:ys.drop i with
  | nil=>rw[hd] at h; simp at h
  | cons y r =>
   have hn:=zw hd
   have:=zsi ys es (i+1) (by rw[hn]; rw[hd] at h; simpa using h)
   unfold yU
   simp only[zab,zB hd,Option.bind_some,this,hn]
   by_cases he:e=y
   ·subst he
    simp
   ·have h1:(e != y)=true:=by simpa using he
    simp [h1,he]
theorem zcB {xs ys:List Int} (h:xs.length≤maxLen):yq xs ys=some (decide (xs=ys)):=by
 unfold yq
 by_cases hl:xs.length=ys.length
 ·rw[show (((List.length xs:Nat):Int) != ((List.length ys:Nat):Int))=false from by simp [hl],cond_false,zgr _ _ h,zsi ys xs 0 hl,List.drop_zero]
  cases decide (xs=ys)<;>rfl
 ·rw[show (((List.length xs:Nat):Int) != ((List.length ys:Nat):Int))=true from by simp; omega,cond_true,decide_eq_false (by intro h; subst h; exact hl rfl)]
theorem zqi {a b:Bool} {xs ys:List Int} (h:xs.length≤maxLen):zkw a xs b ys=some (decide ((a,xs)=(b,ys))):=by
 unfold zkw
 cases hab:(a==b) with
 | false =>
  have:a≠b:=by simpa using hab
  simp [this]
 | true =>
  have:a=b:=by simpa using hab
  subst this
  rw[cond_true,zcB h]
  simp
theorem zrO (l:zg) (hl:l.2.length≤maxLen):(es:List zg)→(i:Nat)→∃ r,zU l.1 l.2 es i=some r∧(l∈es→∃ j:Nat,r = .inr (j:Int))∧(l∉es→r = .inl ())
 | [],i=>⟨.inl (),rfl,(fun h=>by cases h),fun _=>rfl⟩
 | e::es,i=>by
  unfold zU zdi
  rw[zqi hl]
  simp only[Option.bind_some]
  by_cases he:(l.1,l.2)=(e.1,e.2)
  ·rw[decide_eq_true he,cond_true]
   have he':l=e:=he
   exact ⟨_,rfl,fun _=>⟨i,rfl⟩,fun h=>absurd (List.mem_cons.2 (.inl he')) h⟩
  ·rw[decide_eq_false he,cond_false]
   obtain⟨r,h1,h2,h3⟩:=zrO l hl es (i+1)
   have he':l≠e:=he
   refine ⟨r,h1,fun h=>h2 ?_,fun h=>h3 fun h'=>h (List.mem_cons_of_mem _ h')⟩
   rcases List.mem_cons.1 h with h | h
   ·exact absurd h he'
   ·exact h
theorem zgm {l:zg} {es:List zg} (hl:l.2.length≤maxLen) (h:es.length≤maxLen):qZ es l.1 l.2=some (decide (l∈es)):=by
 unfold qZ zdP
 rw[zex _ _ _ h]
 obtain⟨r,h1,h2,h3⟩:=zrO l hl es 0
 rw[h1]
 by_cases hm:l∈es
 ·obtain⟨j,rfl⟩:=h2 hm
  simp [qb,hm]
 ·rw[h3 hm]
  simp [qb,hm]
def zH {α:Type} [DecidableEq α]:List α→List α→List α
 | [],out=>out
 | e::es,out=>cond (decide (e∈out)) (zH es out) (zH es (out++[e]))
theorem zat {α:Type} [DecidableEq α]:(es out:List α)→(zH es out).length≤out.length+es.length
 | [],out=>by simp [zH]
 | e::es,out=>by
  unfold zH
  cases decide (e∈out) with
  | true=>have:=zat es out; simp only[cond_true,List.length_cons]; omega
  | false=>have:=zat es (out++[e]); simp only[cond_false,List.length_cons,List.length_append,List.length_nil] at this ⊢; omega
theorem qo {α:Type} [DecidableEq α] {x:α}:(es out:List α)→(x∈zH es out↔x∈out∨x∈es)
 | [],out=>by simp [zH]
 | e::es,out=>by
  unfold zH
  by_cases h:e∈out
  ·rw[decide_eq_true h,cond_true,qo es out,List.mem_cons]
   constructor
   ·rintro (h1 | h1)
    ·exact .inl h1
    ·exact .inr (.inr h1)
   ·rintro (h1 | rfl | h1)
    ·exact .inl h1
    ·exact .inl h
    ·exact .inr h1
  ·rw[decide_eq_false h,cond_false,qo es (out++[e])]
   simp only[List.mem_append,List.mem_cons,List.not_mem_nil,or_false]
   constructor
   ·rintro ((h1 | h1) | h1)
    ·exact .inl h1
    ·exact .inr (.inl h1)
    ·exact .inr (.inr h1)
   ·rintro (h1 | h1 | h1)
    ·exact .inl (.inl h1)
    ·exact .inl (.inr h1)
    ·exact .inr h1
theorem zq7:(es out:List zg)→(∀ e∈es,e.2.length≤maxLen)→out.length+es.length≤1000000→yH es out=some (zH es out)
 | [],out,_,_=>rfl
 | e::es,out,h,hl=>by
  have h1:=h e (List.mem_cons_self ..)
  have hl':out.length+(es.length+1)≤1000000:=hl
  unfold yH zH
  rw[zgm h1 (by unfold maxLen; omega),Option.bind_some]
  by_cases hm:e∈out
  ·simp only[hm,decide_true,Bool.not_true,cond_false,cond_true]
   exact zq7 es out (fun x hx=>h x (List.mem_cons_of_mem _ hx)) (by omega)
  ·simp only[hm,decide_false,Bool.not_false,cond_false,cond_true]
   rw[zn (show (out.length+([(e.1,e.2)]:List zg).length)*32≤140737488351232 by simp; omega),cond_true]
   exact zq7 es (out++[e]) (fun x hx=>h x (List.mem_cons_of_mem _ hx)) (by simp; omega)
theorem zhP {es:List zg} (h:∀ e∈es,e.2.length≤maxLen) (hl:es.length≤1000000):zet es=some (zH es []):=by
 unfold zet
 rw[zg2 _ _ (by unfold maxLen; omega),zq7 es [] h (by simpa using hl)]
 rfl
theorem zry (l:List Int) (hl:l.length≤maxLen):(es:List jI)→(i:Nat)→∃ r,zI l es i=some r∧(l∈es→∃ j:Nat,r = .inr (j:Int))∧(l∉es→r = .inl ())
 | [],i=>⟨.inl (),rfl,(fun h=>by cases h),fun _=>rfl⟩
 | e::es,i=>by
  unfold zI zdk
  rw[zcB hl]
  simp only[Option.bind_some]
  by_cases he:l=e
  ·rw[decide_eq_true he,cond_true]
   exact ⟨_,rfl,fun _=>⟨i,rfl⟩,fun h=>absurd (List.mem_cons.2 (.inl he)) h⟩
  ·rw[decide_eq_false he,cond_false]
   obtain⟨r,h1,h2,h3⟩:=zry l hl es (i+1)
   refine ⟨r,h1,fun h=>h2 ?_,fun h=>h3 fun h'=>h (List.mem_cons_of_mem _ h')⟩
   rcases List.mem_cons.1 h with h | h
   ·exact absurd h he
   ·exact h
theorem zfp {l:List Int} {es:List jI} (hl:l.length≤maxLen) (h:es.length≤maxLen):qu es l=some (decide (l∈es)):=by
 unfold qu zcI
 rw[zd1 _ _ h]
 obtain⟨r,h1,h2,h3⟩:=zry l hl es 0
 rw[h1]
 by_cases hm:l∈es
 ·obtain⟨j,rfl⟩:=h2 hm
  simp [qb,hm]
 ·rw[h3 hm]
  simp [qb,hm]
theorem zrd (s3 s4:List zg):(es out:List jI)→(∀ e∈es,e.length≤maxLen)→out.length+es.length≤1000000→yN s3 s4 es out=some (s3,s4,zH es out)
 | [],out,_,_=>rfl
 | e::es,out,h,hl=>by
  have h1:=h e (List.mem_cons_self ..)
  have hl':out.length+(es.length+1)≤1000000:=hl
  unfold yN zH
  rw[zfp h1 (by unfold maxLen; omega),Option.bind_some]
  by_cases hm:e∈out
  ·simp only[hm,decide_true,Bool.not_true,cond_false,cond_true]
   exact zrd s3 s4 es out (fun x hx=>h x (List.mem_cons_of_mem _ hx)) (by omega)
  ·simp only[hm,decide_false,Bool.not_false,cond_false,cond_true]
   rw[zn (show (out.length+([e]:List jI).length)*24≤140737488351232 by simp; omega),cond_true]
   exact zrd s3 s4 es (out++[e]) (fun x hx=>h x (List.mem_cons_of_mem _ hx)) (by simp; omega)
def zkJ (s:List Int×Int) (c:Int):Int×(List Int×Int) :=
 cond (decide (c≥0)) (c,s) (cond (s.1.getD (-1 - c).toNat 0==0) (-(s.2+1),(s.1.set (-1 - c).toNat (s.2+1),s.2+1)) (-(s.1.getD (-1 - c).toNat 0),s))
def zdS:List Int×Int→List Int→List Int×(List Int×Int)
 | s,[]=>([],s)
 | s,c::cs=>((zkJ s c).1::(zdS (zkJ s c).2 cs).1,(zdS (zkJ s c).2 cs).2)
theorem znF:(s:List Int×Int)→(cs:List Int)→(zdS s cs).1.length=cs.length
 | _,[]=>rfl
 | s,c::cs=>by simp [zdS,znF (zkJ s c).2 cs]
structure RenOk (s:List Int×Int) (b:Int):Prop where
 len:s.1.length=24
 lo:0≤s.2
 hi:s.2≤b
 all:∀ x∈s.1,0≤x∧x≤s.2
theorem RenOk.more {s:List Int×Int} {b b':Int} (h:RenOk s b) (hb:b≤b'):RenOk s b':=⟨h.len,h.lo,Int.le_trans h.hi hb,h.all⟩
theorem RenOk.get {s:List Int×Int} {b:Int} (h:RenOk s b) (v:Nat):0≤s.1.getD v 0∧s.1.getD v 0≤s.2:=by
 have h0:=h.lo
 rw[List.getD_eq_getElem?_getD]
 cases hv:s.1[v]? with
 | none=>exact ⟨Int.le_refl _,h0⟩
 | some x=>exact h.all x (List.mem_of_getElem? hv)
theorem zuv {s:List Int×Int} {b:Int} (h:RenOk s b) (c:Int):RenOk (zkJ s c).2 (b+1):=by
 unfold zkJ
 cases decide (c≥0) with
 | true=>exact h.more (by omega)
 | false =>
  rw[cond_false]
  cases (s.1.getD (-1 - c).toNat 0==0) with
  | false=>exact h.more (by omega)
  | true =>
   refine ⟨by simpa using h.len,by have:=h.lo; simp; omega,by have:=h.hi; simp; omega,fun x hx => ?_⟩
   simp only[cond_true] at hx ⊢
   rcases List.mem_or_eq_of_mem_set hx with hx | rfl
   ·have:=h.all x hx; omega
   ·have:=h.lo; omega
theorem ziw:{s:List Int×Int}→{b:Int}→(cs:List Int)→RenOk s b→RenOk (zdS s cs).2 (b+cs.length)
 | s,b,[],h=>by simpa[zdS] using h
 | s,b,c::cs,h=>by
  have:=ziw cs (zuv h c)
  simp only[zdS,List.length_cons]
  exact this.more (by omega)
theorem zys {α:Type} (done es:List α) (e x:α):(done++e::es).set done.length x=done++x::es:=by
 rw[List.set_append_right _ _ (Nat.le_refl _),Nat.sub_self]
 rfl
theorem znM {α:Type} (done es:List α) (e:α):(done++e::es)[done.length]? = some e:=by
 rw[List.getElem?_append_right (Nat.le_refl _),Nat.sub_self]
 rfl
theorem zoV:(es done:List Int)→(s:List Int×Int)→(k:Nat)→es.length<k→done.length+es.length≤1000000→RenOk s 1000000→s.2+es.length≤1000000→(∀ c∈es,-24≤c) →
  lp yD k (((done.length+es.length:Nat):Int),(done.length:Int),s.1,s.2,done++es)=some ((zdS s es).2.1,(zdS s es).2.2,done++(zdS s es).1)
 | [],done,s,k,hk,hl,hs,hb,hc=>by
  obtain⟨k,rfl⟩:∃ k',k=k'+1:=⟨k - 1,by omega⟩
  rw[zK]
  generalize lp yD k=rec
  unfold yD
  simp [zdS]
 | e::es,done,s,k,hk,hl,hs,hb,hc=>by
  obtain⟨k,rfl⟩:∃ k',k=k'+1:=⟨k - 1,by omega⟩
  rw[zK]
  have he:=hc e (List.mem_cons_self ..)
  have hl':done.length+(es.length+1)≤1000000:=hl
  have hb':s.2+((es.length+1:Nat):Int)≤1000000:=hb
  have key:=fun (e':Int) (s':List Int×Int) (hs':RenOk s' 1000000) (hb2:s'.2+es.length≤1000000)=>zoV es (done++[e']) s' k (Nat.lt_of_succ_lt_succ hk) (by simp; omega) hs' hb2 (fun c hx=>hc c (List.mem_cons_of_mem _ hx))
  generalize lp yD k=rec at key ⊢
  unfold yD
  have e1:decide (((done.length:Nat):Int)<((done.length+(e::es).length:Nat):Int))=true:=by rw[decide_eq_true_eq,List.length_cons]; omega
  have e2:inR ((done.length:Nat):Int) (List.length (done++e::es))=some done.length:=qd (by simp)
  have e3:IntKind.wrap .i64 (((done.length:Nat):Int)+1)=((done.length+1:Nat):Int):=by rw[zt]<;>omega
  have key2:=fun (e':Int) (s':List Int×Int) (hs':RenOk s' 1000000) (hb2:s'.2+es.length≤1000000)=>by
   have:=key e' s' hs' hb2
   rw[List.append_assoc,List.length_append,List.length_singleton,Nat.add_assoc,Nat.add_comm 1 es.length] at this
   exact this
  simp only[e1,cond_true,e2,Option.bind_some,znM,e3]
  by_cases h0:e≥0
  ·have hr:zkJ s e=(e,s):=by unfold zkJ; rw[decide_eq_true h0]; rfl
   rw[decide_eq_true h0,cond_true]
   have:=key2 e s hs (by omega)
   simp only[zdS,hr]
   exact this.trans (by simp)
  ·rw[decide_eq_false h0,cond_false]
   have h24:(-1 - e).toNat<24:=by omega
   have e4:inR (-1 - e) 24=some (-1 - e).toNat:=by
    have:=qd h24
    rwa [Int.toNat_of_nonneg (by omega)] at this
   have hget:∀ xs:List Int,xs.length=24→xs[(-1 - e).toNat]? = some (xs.getD (-1 - e).toNat 0):=fun xs hx=>by
    rw[List.getD_eq_getElem?_getD,List.getElem?_eq_getElem (by omega)]; rfl
   have hg:=hs.get (-1 - e).toNat
   have hs1:=hs.hi
   have hs0:=hs.lo
   simp only[zaE (x:=e) (by omega) (by omega),Option.bind_some,e4,hget s.1 hs.len]
   by_cases hz:s.1.getD (-1 - e).toNat 0=0
   ·have hr:zkJ s e=(-(s.2+1),(s.1.set (-1 - e).toNat (s.2+1),s.2+1)):=by unfold zkJ; rw[decide_eq_false h0,hz]; rfl
    have w1:IntKind.wrap .i64 (s.2+1)=s.2+1:=by rw[zt]<;>omega
    have hset:(List.set s.1 (-1 - e).toNat (s.2+1)).getD (-1 - e).toNat 0=s.2+1:=by
     rw[List.getD_eq_getElem?_getD,List.getElem?_set_self (by rw[hs.len]; exact h24)]; rfl
    have hn:zFC .i64 (s.2+1) = -(s.2+1):=by unfold zFC; rw[zt]<;>omega
    rw[hz]
    simp only[show (((0:Int)==0))=true from rfl,cond_true,w1,hget (List.set s.1 (-1 - e).toNat (s.2+1)) (by simpa using hs.len),Option.bind_some,hset,hn,zys]
    have hok:=zuv (b:=s.2) ⟨hs.len,hs.lo,Int.le_refl _,hs.all⟩ e
    rw[hr] at hok
    have:=key2 (-(s.2+1)) (s.1.set (-1 - e).toNat (s.2+1),s.2+1) (hok.more (by omega)) (by simp only; omega)
    simp only[zdS,hr]
    exact this.trans (by simp)
   ·have hr:zkJ s e=(-(s.1.getD (-1 - e).toNat 0),s):=by
     unfold zkJ
     rw[decide_eq_false h0,show (s.1.getD (-1 - e).toNat 0==0)=false from by simpa using hz]; rfl
    have hn:zFC .i64 (s.1.getD (-1 - e).toNat 0) = -(s.1.getD (-1 - e).toNat 0):=by unfold zFC; rw[zt]<;>omega
    rw[show (s.1.getD (-1 - e).toNat 0==0)=false from by simpa using hz,cond_false]
    simp only[hn,zys]
    have:=key2 (-(s.1.getD (-1 - e).toNat 0)) s hs (by omega)
    simp only[zdS,hr]
    exact this.trans (by simp)
theorem zbX {r:List Int} {s:List Int×Int} (hl:r.length≤1000) (hs:RenOk s 900000) (hc:∀ c∈r,-24≤c):yz r s.1 s.2=some ((zdS s r).1,(zdS s r).2.1,(zdS s r).2.2):=by
 unfold yz
 rw[zdM (by omega),Option.bind_some]
 have h1:=hs.hi
 have:=zoV r [] s zd (by unfold zd; omega) (by simp; omega) (hs.more (by omega)) (by omega) hc
 simp only[List.length_nil,Nat.zero_add,List.nil_append] at this
 rw[show ((0:Nat):Int)=0 from rfl] at this
 rw[this,Option.bind_some]
 have hlen:=(ziw r hs).len
 simp only[hs.len,hlen]
 rfl
def zay:List Int×Int→List zg→List zg×(List Int×Int)
 | s,[]=>([],s)
 | s,l::ls=>((l.1,(zdS s l.2).1)::(zay (zdS s l.2).2 ls).1,(zay (zdS s l.2).2 ls).2)
def zcr:List Int×Int→List jI→List jI×(List Int×Int)
 | s,[]=>([],s)
 | s,l::ls=>((zdS s l).1::(zcr (zdS s l).2 ls).1,(zcr (zdS s l).2 ls).2)
def zdI (r:List Int):Prop:=r.length≤1000∧∀ c∈r,-24≤c
theorem znr:{s:List Int×Int}→{b:Int}→(ls:List zg)→(∀ l∈ls,zdI l.2)→RenOk s b→RenOk (zay s ls).2 (b+1000*ls.length)
 | s,b,[],_,h=>by simpa[zay] using h
 | s,b,l::ls,hl,h=>by
  have h1:=hl l (List.mem_cons_self ..)
  have:=znr ls (fun x hx=>hl x (List.mem_cons_of_mem _ hx)) (ziw l.2 h)
  have h2:=h1.1
  simp only[zay,List.length_cons]
  exact this.more (by omega)
theorem zrK:{s:List Int×Int}→{b:Int}→(ls:List jI)→(∀ l∈ls,zdI l)→RenOk s b→RenOk (zcr s ls).2 (b+1000*ls.length)
 | s,b,[],_,h=>by simpa[zcr] using h
 | s,b,l::ls,hl,h=>by
  have h1:=hl l (List.mem_cons_self ..)
  have:=zrK ls (fun x hx=>hl x (List.mem_cons_of_mem _ hx)) (ziw l h)
  have h2:=h1.1
  simp only[zcr,List.length_cons]
  exact this.more (by omega)
theorem zm2:(es:List zg)→(s:List Int×Int)→(out:List zg)→(b:Int)→RenOk s b→b+1000*es.length≤900000→(∀ l∈es,zdI l.2)→out.length+es.length≤1000000 →
  yf es s.1 s.2 out=some ((zay s es).2.1,(zay s es).2.2,out++(zay s es).1)
 | [],s,out,b,_,_,_,_=>by simp [yf,zay]
 | e::es,s,out,b,hs,hb,h,hl=>by
  have he:=h e (List.mem_cons_self ..)
  have h1:=he.1
  rw[List.length_cons] at hb hl
  unfold yf
  rw[zbX he.1 (hs.more (by omega)) he.2,Option.bind_some]
  rw[zn (show (out.length+([(e.1,(zdS s e.2).1)]:List zg).length)*32≤140737488351232 by simp; omega),cond_true]
  have:=zm2 es (zdS s e.2).2 (out++[(e.1,(zdS s e.2).1)]) _ (ziw e.2 hs) (by omega) (fun x hx=>h x (List.mem_cons_of_mem _ hx)) (by simp; omega)
  exact this.trans (by simp [zay])
theorem zni (s8:List zg):(es:List jI)→(s:List Int×Int)→(out:List jI)→(b:Int)→RenOk s b→b+1000*es.length≤900000→(∀ l∈es,zdI l)→out.length+es.length≤1000000 →
  yc s8 es s.1 s.2 out=some ((zcr s es).2.1,(zcr s es).2.2,s8,out++(zcr s es).1)
 | [],s,out,b,_,_,_,_=>by simp [yc,zcr]
 | e::es,s,out,b,hs,hb,h,hl=>by
  have he:=h e (List.mem_cons_self ..)
  have h1:=he.1
  rw[List.length_cons] at hb hl
  unfold yc
  rw[zbX he.1 (hs.more (by omega)) he.2,Option.bind_some]
  rw[zn (show (out.length+([(zdS s e).1]:List jI).length)*24≤140737488351232 by simp; omega),cond_true]
  have:=zni s8 es (zdS s e).2 (out++[(zdS s e).1]) _ (ziw e hs) (by omega) (fun x hx=>h x (List.mem_cons_of_mem _ hx)) (by simp; omega)
  exact this.trans (by simp [zcr])
theorem zm3 (s5:List zg) (s6:List jI):(es:List zg)→(s:List Int×Int)→(out:List zg)→(b:Int)→RenOk s b→b+1000*es.length≤900000→(∀ l∈es,zdI l.2)→out.length+es.length≤1000000 →
  yb s5 s6 es s.1 s.2 out=some ((zay s es).2.1,(zay s es).2.2,s5,s6,out++(zay s es).1)
 | [],s,out,b,_,_,_,_=>by simp [yb,zay]
 | e::es,s,out,b,hs,hb,h,hl=>by
  have he:=h e (List.mem_cons_self ..)
  have h1:=he.1
  rw[List.length_cons] at hb hl
  unfold yb
  rw[zbX he.1 (hs.more (by omega)) he.2,Option.bind_some]
  rw[zn (show (out.length+([(e.1,(zdS s e.2).1)]:List zg).length)*32≤140737488351232 by simp; omega),cond_true]
  have:=zm3 s5 s6 es (zdS s e.2).2 (out++[(e.1,(zdS s e.2).1)]) _ (ziw e.2 hs) (by omega) (fun x hx=>h x (List.mem_cons_of_mem _ hx)) (by simp; omega)
  exact this.trans (by simp [zay])
def zH4 (L:List zg) (T:List jI) (C:List zg):List zg×List jI×List zg :=
 ((zay (List.replicate 24 0,0) L).1,(zcr (zay (List.replicate 24 0,0) L).2 T).1,(zay (zcr (zay (List.replicate 24 0,0) L).2 T).2 C).1)
theorem zug:RenOk (List.replicate 24 (0:Int),0) 0:=⟨rfl,Int.le_refl _,Int.le_refl _,fun x hx=>by have:=List.eq_of_mem_replicate hx; omega⟩
def zeo (L:List zg) (T:List jI) (C:List zg):List zg×List jI×List zg:=zH4 (zH L []) (zH T []) (zH C [])
theorem zmE {L:List zg} {T:List jI} {C:List zg} (hL:L.length≤100) (hT:T.length≤100) (hC:C.length≤100) (sL:∀ l∈L,zdI l.2) (sT:∀ l∈T,zdI l) (sC:∀ l∈C,zdI l.2) :
  zfL L T C=some (zeo L T C):=by
 have big:∀ r:List Int,zdI r→r.length≤maxLen:=fun r h=>by have:=h.1; unfold maxLen; omega
 have lL:=zat L []
 have lT:=zat T []
 have lC:=zat C []
 simp only[List.length_nil,Nat.zero_add] at lL lT lC
 have sL':∀ l∈zH L [],zdI l.2:=fun l h=>sL l (by simpa using (qo L []).1 h)
 have sT':∀ l∈zH T [],zdI l:=fun l h=>sT l (by simpa using (qo T []).1 h)
 have sC':∀ l∈zH C [],zdI l.2:=fun l h=>sC l (by simpa using (qo C []).1 h)
 unfold zfL
 rw[zhP (fun e he=>big _ (sL e he)) (by omega),Option.bind_some,zhP (fun e he=>big _ (sC e he)) (by omega),Option.bind_some,
  zgH _ _ _ _ (by unfold maxLen; omega),zrd _ _ T [] (fun e he=>big _ (sT e he)) (by simp; omega),Option.bind_some]
 simp only
 generalize hL2:zH L []=L2 at lL sL'
 generalize hT2:zH T []=T2 at lT sT'
 generalize hC2:zH C []=C2 at lC sC'
 have k0:=znr L2 sL' zug
 have k1:=zrK T2 sT' k0
 have k2:=znr C2 sC' k1
 have e0:=zm2 L2 (List.replicate 24 0,0) [] 0 zug (by omega) sL' (by simp; omega)
 have e1:=zni (zay (List.replicate 24 0,0) L2).1 T2 _ [] _ k0 (by omega) sT' (by simp; omega)
 have e2:=zm3 (zay (List.replicate 24 0,0) L2).1 (zcr (zay (List.replicate 24 0,0) L2).2 T2).1 C2 _ [] _ k1 (by omega) sC' (by simp; omega)
 simp only[List.nil_append] at e0 e1 e2
 unfold zfT
 rw[zfA L2 L2 T2 C2 (List.replicate 24 0) 0 [] (by unfold maxLen; omega),e0,Option.bind_some]
 simp only
 rw[zfx _ _ _ _ _ _ _ _ (by unfold maxLen; omega),e1,Option.bind_some]
 simp only
 rw[zf2 _ _ _ _ _ _ (by unfold maxLen; omega),e2,Option.bind_some]
 have hlen:=k2.len
 simp only[List.length_replicate,hlen]
 unfold zeo zH4
 rw[hL2,hT2,hC2]
 rfl
end
end Go.Abs.Q
namespace Go.Abs.Q
open Go Go.Abs
section
theorem zr4 {a0:List zm}:{xs:List Int}→{n k:Nat}→sk a0 n xs=some k→∀ c∈xs.take k,-24≤c
 | [],n,k,h,c,hc=>by simp at hc
 | x::xs,0,k,h,c,hc=>by
  simp [sk] at h; subst h; simp at hc
 | x::xs,n+1,k,h,c,hc=>by
  unfold sk at h
  cases ha:zbY a0 x with
  | none=>rw[ha] at h; cases h
  | some m =>
   rw[ha] at h
   simp only[Option.map_eq_some_iff] at h
   obtain⟨j,hj,rfl⟩:=h
   rw[List.take_succ_cons] at hc
   rcases List.mem_cons.1 hc with rfl | hc
   ·by_cases h0:c<0
    ·exact (zo1 ha h0).1
    ·omega
   ·exact zr4 hj c hc
theorem zjK {a0:List zm} {xs:List Int} {ps:List jI} (h:zkn a0 xs=some ps):∀ c∈xs,-24≤c:=by
 obtain⟨h1,h2⟩:=zgv xs.length xs ps (Nat.le_refl _) h
 intro c hc
 rw[← h1] at hc
 obtain⟨p,hp,hcp⟩:=List.mem_flatten.1 hc
 have:=zr4 (h2 p hp).2 c
 rw[List.take_length] at this
 exact this hcp
theorem zqy {a0:List zm} {xs:List Int} (h:zdC a0 xs=true):zdI xs:=by
 obtain⟨x,r,e,ps,rfl,h0,-,-,-,-,hl,hc,-⟩:=zhl h
 refine ⟨by simp; omega,fun c hcm => ?_⟩
 rcases List.mem_cons.1 hcm with rfl | hcm
 ·omega
 ·exact zjK hc c hcm
theorem ztJ {a0:List zm} {r:List Int} {n:Nat} (h:zgt a0 r=some n):zdI r:=by
 obtain⟨ps,hc,-,hl,-⟩:=zlD h
 exact ⟨by omega,zjK hc⟩
theorem zc3 {a0:List zm} {ls:List zg} (h:zdN a0 ls=true):∀ l∈ls,zdI l.2:=fun l hl =>
 zqy (List.all_eq_true.1 h l hl)
theorem ziq {a0:List zm} {rs:List jI} (h:zfW a0 rs=true):∀ r∈rs,zdI r:=fun r hr=>by
 obtain⟨n,hn⟩:=zi8 h
 exact ztJ (hn r hr)
theorem zkp (a0:List zm) (L:List zg) (T:List jI) (C:List zg):zcz a0 L T C=some (cond (zeQ a0 L T C) ((zeo L T C).1,(zeo L T C).2.1,0,(zeo L T C).2.2) ([],[],800,[])):=by
 unfold zcz
 rw[zdY,Option.bind_some]
 cases h:zeQ a0 L T C with
 | false=>rfl
 | true =>
  obtain⟨-,h1,h2,h3,h4,h5,h6,-⟩:=za7 h
  rw[Bool.not_true,cond_false,zmE (by omega) (by omega) (by omega) (zc3 h4) (ziq h5) (zc3 h6),Option.bind_some]
  rfl
theorem zlH:(s:List Int×Int)→(ls:List zg)→(zay s ls).1.length=ls.length
 | _,[]=>rfl
 | s,l::ls=>by simp [zay,zlH (zdS s l.2).2 ls]
theorem zoc:(s:List Int×Int)→(ls:List jI)→(zcr s ls).1.length=ls.length
 | _,[]=>rfl
 | s,l::ls=>by simp [zcr,zoc (zdS s l).2 ls]
theorem zjL:(s:List Int×Int)→(ls:List zg)→(b:Nat)→(∀ l∈ls,l.2.length≤b)→∀ l∈(zay s ls).1,l.2.length≤b
 | _,[],_,_,l,hl=>by cases hl
 | s,e::es,b,h,l,hl=>by
  simp only[zay] at hl
  rcases List.mem_cons.1 hl with rfl | hl
  ·rw[znF]; exact h e (List.mem_cons_self ..)
  ·exact zjL _ es b (fun x hx=>h x (List.mem_cons_of_mem _ hx)) l hl
theorem zmH:(s:List Int×Int)→(ls:List jI)→(b:Nat)→(∀ l∈ls,l.length≤b)→∀ l∈(zcr s ls).1,l.length≤b
 | _,[],_,_,l,hl=>by cases hl
 | s,e::es,b,h,l,hl=>by
  simp only[zcr] at hl
  rcases List.mem_cons.1 hl with rfl | hl
  ·rw[znF]; exact h e (List.mem_cons_self ..)
  ·exact zmH _ es b (fun x hx=>h x (List.mem_cons_of_mem _ hx)) l hl
theorem zsm {a0:List zm} {L:List zg} {T:List jI} {C:List zg} (h:zeQ a0 L T C=true) :
  zZ (zeo L T C).1 (zeo L T C).2.1 (zeo L T C).2.2 (zeo L T C).1 (zeo L T C).2.1 (zeo L T C).2.2=some true:=by
 obtain⟨-,h1,h2,h3,h4,h5,h6,-⟩:=za7 h
 have lL:=zat L []
 have lT:=zat T []
 have lC:=zat C []
 simp only[List.length_nil,Nat.zero_add] at lL lT lC
 have sL:∀ l∈zH L [],l.2.length≤1000:=fun l h=>(zc3 h4 l (by simpa using (qo L []).1 h)).1
 have sT:∀ l∈zH T [],l.length≤1000:=fun l h=>(ziq h5 l (by simpa using (qo T []).1 h)).1
 have sC:∀ l∈zH C [],l.2.length≤1000:=fun l h=>(zc3 h6 l (by simpa using (qo C []).1 h)).1
 unfold zeo zH4
 apply zbL
 ·simp only[zlH]; unfold maxLen; omega
 ·intro e he
  have:=zjL _ _ 1000 sL e he
  unfold maxLen; omega
 ·simp only[zoc]; unfold maxLen; omega
 ·intro e he
  have:=zmH _ _ 1000 sT e he
  unfold maxLen; omega
 ·simp only[zlH]; unfold maxLen; omega
 ·intro e he
  have:=zjL _ _ 1000 sC e he
  unfold maxLen; omega
def zN {α:Type} (s:Int):List α→Nat→List α
 | [],_=>[]
 | e::es,i=>cond ((i:Int) != s) (e::zN s es (i+1)) (zN s es (i+1))
theorem zl3 {α:Type} (s:Int):(es:List α)→(i:Nat)→(zN s es i).length≤es.length
 | [],_=>Nat.le_refl _
 | e::es,i=>by
  unfold zN
  have:=zl3 s es (i+1)
  cases ((i:Int) != s)<;>simp<;>omega
theorem zqC (s0:Int) (s8:List jI) (s10:List zg):(es:List zg)→(i:Nat)→(out:List zg)→out.length+es.length≤1000000→zW s0 s8 s10 es i out=some (s8,out++zN s0 es i,s10)
 | [],i,out,_=>by simp [zW,zN]
 | e::es,i,out,h=>by
  rw[List.length_cons] at h
  unfold zW zN
  cases ((i:Int) != s0) with
  | true =>
   rw[cond_true,cond_true,zn (show (out.length+([(e.1,e.2)]:List zg).length)*32≤140737488351232 by simp; omega),cond_true,zqC s0 s8 s10 es (i+1) _ (by simp; omega)]
   simp
  | false=>rw[cond_false,cond_false,zqC s0 s8 s10 es (i+1) out (by omega)]
theorem zqn (s0:Int) (s8:List jI) (s10:List zg):(es:List zg)→(i:Nat)→(out:List zg)→out.length+es.length≤1000000→zX s0 s8 s10 es i out=some (s8,out++zN s0 es i,s10)
 | [],i,out,_=>by simp [zX,zN]
 | e::es,i,out,h=>by
  rw[List.length_cons] at h
  unfold zX zN
  cases ((i:Int) != s0) with
  | true =>
   rw[cond_true,cond_true,zn (show (out.length+([(e.1,e.2)]:List zg).length)*32≤140737488351232 by simp; omega),cond_true,zqn s0 s8 s10 es (i+1) _ (by simp; omega)]
   simp
  | false=>rw[cond_false,cond_false,zqn s0 s8 s10 es (i+1) out (by omega)]
theorem zmy {n:Nat} (h:n≤1000000):zfM (n:Int)=some []:=by
 unfold zfM
 have e:IntKind.wrap .i64 ((n:Int) - 0)=(n:Int):=by rw[zt]<;>omega
 rw[e,decide_eq_false (show ¬((n:Int)<0) by omega),cond_false]
 by_cases h0:n=0
 ·subst h0; rfl
 ·rw[decide_eq_true (show (n:Int)>0 by omega),cond_true,show (eqI 0 0&&eqI 0 0)=true from rfl,cond_true,show zrv (n:Int)=true from decide_eq_true (by omega),cond_true,Int.toNat_natCast,zn (by omega),cond_true]
  have:zbR (List.replicate n ([]:List Int)) none (some 0)=some []:=by
   show slc (List.replicate n ([]:List Int)) 0 0=some []
   unfold slc
   rw[decide_eq_true (show (0:Int)≤0 by omega),decide_eq_true (show (0:Int)≤(((List.replicate n ([]:List Int)).length:Nat):Int) by omega)]
   rfl
  rw[this]; rfl
theorem zkj {n:Nat} (h:n≤1000000):zd2 (n:Int)=some []:=by
 unfold zd2
 have e:IntKind.wrap .i64 ((n:Int) - 0)=(n:Int):=by rw[zt]<;>omega
 rw[e,decide_eq_false (show ¬((n:Int)<0) by omega),cond_false]
 by_cases h0:n=0
 ·subst h0; rfl
 ·rw[decide_eq_true (show (n:Int)>0 by omega),cond_true,show (eqI 0 0&&eqI 0 0)=true from rfl,cond_true,show zrv (n:Int)=true from decide_eq_true (by omega),cond_true,Int.toNat_natCast,zn (by omega),cond_true]
  have:∀ z:zg,zbR (List.replicate n z) none (some 0)=some []:=fun z=>by
   show slc (List.replicate n z) 0 0=some []
   unfold slc
   rw[decide_eq_true (show (0:Int)≤0 by omega),decide_eq_true (show (0:Int)≤(((List.replicate n z).length:Nat):Int) by omega)]
   rfl
  rw[this]; rfl
theorem zjO {a b:List jI} (h:a.length+b.length≤1000000):zd0 [a,b]=some (a++b):=by
 have w0:IntKind.wrap .i64 ((0:Int)+((a.length:Nat):Int))=((a.length:Nat):Int):=by rw[zt]<;>omega
 have w1:IntKind.wrap .i64 (((a.length:Nat):Int)+((b.length:Nat):Int))=((a.length+b.length:Nat):Int):=by rw[zt]<;>omega
 have e0:yh [a,b] 0=some ((a.length+b.length:Nat):Int):=by
  unfold yh
  rw[w0,decide_eq_false (show ¬(((a.length:Nat):Int)<0) by omega),cond_false]
  unfold yh
  rw[w1,decide_eq_false (show ¬(((a.length+b.length:Nat):Int)<0) by omega),cond_false]
  rfl
 have e1:z1 [a,b] []=some (a++b):=by
  unfold z1
  rw[zn (by simp; omega),cond_true,List.nil_append]
  unfold z1
  rw[zn (by omega),cond_true]
  rfl
 unfold zd0
 rw[zfU _ _ _ (by unfold maxLen; simp),e0,Option.bind_some,zmy h,Option.bind_some,zfX _ _ (by unfold maxLen; simp),e1]
 rfl
theorem zeK {a b:List zg} (h:a.length+b.length≤1000000):zbs [a,b]=some (a++b):=by
 have w0:IntKind.wrap .i64 ((0:Int)+((a.length:Nat):Int))=((a.length:Nat):Int):=by rw[zt]<;>omega
 have w1:IntKind.wrap .i64 (((a.length:Nat):Int)+((b.length:Nat):Int))=((a.length+b.length:Nat):Int):=by rw[zt]<;>omega
 have e0:zL [a,b] 0=some ((a.length+b.length:Nat):Int):=by
  unfold zL
  rw[w0,decide_eq_false (show ¬(((a.length:Nat):Int)<0) by omega),cond_false]
  unfold zL
  rw[w1,decide_eq_false (show ¬(((a.length+b.length:Nat):Int)<0) by omega),cond_false]
  rfl
 have e1:zM [a,b] []=some (a++b):=by
  unfold zM
  rw[zn (by simp; omega),cond_true,List.nil_append]
  unfold zM
  rw[zn (by omega),cond_true]
  rfl
 unfold zbs
 rw[zeU _ _ _ (by unfold maxLen; simp),e0,Option.bind_some,zkj h,Option.bind_some,zeV _ _ (by unfold maxLen; simp),e1]
 rfl
theorem zlt {L:List zg} {T:List jI} {C:List zg} {L':List zg} {T':List jI} {C':List zg} (i j:Int) (h1:L.length≤1000) (h2:T.length≤1000) (h3:C.length≤1000) (h4:L'.length≤1000) (h5:T'.length≤1000) (h6:C'.length≤1000) :
  zdF L T C i L' T' C' j=some (T++T',zN i L 0++zN j L' 0,C++C'):=by
 have hw:=zl3 i L 0
 unfold zdF
 rw[zjO (by omega),Option.bind_some,zeK (by omega),Option.bind_some,
  zgu _ _ _ _ _ _ _ _ _ (by unfold maxLen; omega),zqC _ _ _ _ _ _ (by simp; omega),Option.bind_some]
 simp only[List.nil_append]
 rw[zgs _ _ _ _ _ (by unfold maxLen; omega),zqn _ _ _ _ _ _ (by omega),Option.bind_some]
def q9 (L:List zg) (i:Int):Bool:=decide (0≤i)&&decide (i<L.length)
theorem zhW {α:Type} {s:Int} {x:α}:(es:List α)→(i:Nat)→x∈zN s es i→x∈es
 | [],_,h=>by cases h
 | e::es,i,h=>by
  unfold zN at h
  cases hb:((i:Int) != s) with
  | true =>
   rw[hb,cond_true] at h
   rcases List.mem_cons.1 h with rfl | h
   ·exact List.mem_cons_self ..
   ·exact List.mem_cons_of_mem _ (zhW es (i+1) h)
  | false=>rw[hb,cond_false] at h; exact List.mem_cons_of_mem _ (zhW es (i+1) h)
end
end Go.Abs.Q
namespace Go.Abs.Q
open Go Go.Abs
section
def to0:List (Option jI×Int):=List.replicate 48 ((none:Option jI),(0:Int))
theorem zDP {k:Nat} (h:k<48):to0[k]? = some (none,0):=by
 unfold to0
 rw[List.getElem?_replicate,if_pos h]
theorem zrB {α:Type} (xs:List α) (y:α):zbR (xs++[y]) none (some (xs.length:Int))=some xs:=by
 show slc (xs++[y]) 0 (xs.length:Int)=some xs
 unfold slc
 rw[decide_eq_true (show (0:Int)≤0 by omega),decide_eq_true (show (0:Int)≤(xs.length:Int) by omega),decide_eq_true (show (xs.length:Int)≤(((xs++[y]).length:Nat):Int) by simp; omega)]
 simp
theorem zAD (ps:List jI):zl ps=ps.flatten.length:=by
 induction ps with
 | nil=>rfl
 | cons p ps ih =>
  unfold zl at ih ⊢
  simp only[List.map_cons,List.sum_cons,List.flatten_cons,List.length_append,ih]
def zdO (s:List (Int×List Int)) (v:Int):Option jI:=(s.find? fun b=>b.1==v).map (·.2)
def onC (s:List (Int×List Int)) (c:Int):List Int:=cond (decide (c≥0)) [c] ((zdO s (-1 - c)).getD [c])
def onB (s:List (Int×List Int)) (r:List Int):List Int:=r.flatMap (onC s)
structure BindsOk (s:List (Int×List Int)):Prop where
 len:s.length≤1000
 all:∀ b∈s,b.2≠[]∧b.2.length≤1000
theorem zri (v:Int):(es:List (Int×List Int))→qY v es=some (match zdO es v with
  | none=>.inl ()
  | some t=>.inr t)
 | []=>rfl
 | e::es=>by
  unfold qY zdO
  rw[List.find?_cons]
  cases he:(e.1==v) with
  | true=>rfl
  | false =>
   rw[cond_false,zri v es]
   rfl
theorem zoU {s:List (Int×List Int)} {v:Int} {t:List Int} (h:zdO s v=some t):∃ b∈s,b.1=v∧b.2=t:=by
 unfold zdO at h
 obtain⟨b,hb,rfl⟩:=Option.map_eq_some_iff.1 h
 exact ⟨b,List.mem_of_find?_eq_some hb,by simpa using List.find?_some hb,rfl⟩
theorem zjv {α:Type} {xs:List α} (h:xs≠[]):nn xs=some xs:=by
 cases xs with
 | nil=>exact absurd rfl h
 | cons x xs=>rfl
theorem zo0 {s:List (Int×List Int)} (h:BindsOk s) (v:Int):zgx s v=some (zdO s v):=by
 unfold zgx
 rw[zib _ _ (by have:=h.len; unfold maxLen; omega),zri]
 cases hl:zdO s v with
 | none=>rfl
 | some t =>
  obtain⟨b,hb,-,rfl⟩:=zoU hl
  show (nn b.2).bind _=_
  rw[zjv (h.all b hb).1]
  rfl
theorem zDF {s:List (Int×List Int)} (h:BindsOk s) (c:Int):(onC s c).length≤1000:=by
 unfold onC
 cases decide (c≥0) with
 | true=>simp
 | false =>
  cases hl:zdO s (-1 - c) with
  | none=>simp
  | some t =>
   obtain⟨b,hb,-,rfl⟩:=zoU hl
   exact (h.all b hb).2
theorem zpk {s:List (Int×List Int)} (h:BindsOk s):(es:List Int)→(out:List Int)→(∀ c∈es,-1000000≤c∧c≤1000000)→out.length+1000*es.length≤10000000→qn s es out=some (out++onB s es)
 | [],out,_,_=>by simp [qn,onB]
 | e::es,out,hc,hl=>by
  rw[List.length_cons] at hl
  have he:=hc e (List.mem_cons_self ..)
  have ih:=fun out' hl'=>zpk h es out' (fun c hx=>hc c (List.mem_cons_of_mem _ hx)) hl'
  have hcl:=zDF h e
  have hB:onB s (e::es)=onC s e++onB s es:=by simp [onB]
  unfold qn
  rw[zaE (by omega) (by omega),Option.bind_some,zo0 h,Option.bind_some,hB]
  unfold onC at hcl ⊢
  by_cases h0:e≥0
  ·rw[decide_eq_true h0,cond_true,cond_true,zn (show (out.length+([e]:List Int).length)*8≤140737488351232 by simp; omega),cond_true,ih _ (by simp; omega)]
   simp
  ·rw[decide_eq_false h0] at hcl ⊢
   simp only[cond_false] at hcl ⊢
   cases hl2:zdO s (-1 - e) with
   | none =>
    simp only[Option.isNone_none,cond_true,Option.getD_none]
    rw[zn (show (out.length+([e]:List Int).length)*8≤140737488351232 by simp; omega),cond_true,ih _ (by simp; omega)]
    simp
   | some t =>
    rw[hl2] at hcl
    simp only[Option.getD_some] at hcl
    simp only[Option.isNone_some,cond_false,Option.getD_some]
    rw[zn (by omega),cond_true,ih _ (by simp; omega)]
    simp
theorem ze5 {s:List (Int×List Int)} (h:BindsOk s) {r:List Int} (hl:r.length≤1000) (hc:∀ c∈r,-1000000≤c∧c≤1000000):zjt s r=some (onB s r):=by
 unfold zjt
 rw[zjk _ _ _ (by unfold maxLen; omega),zpk h r [] hc (by simp; omega)]
 rfl
def zcq (r:List Int):Prop:=r.length≤1000∧∀ c∈r,-1000000≤c∧c≤1000000
def zmm (s:List (Int×List Int)) (ls:List zg):List zg:=ls.map fun l=>(l.1,onB s l.2)
def ztQ (s:List (Int×List Int)) (rs:List jI):List jI:=rs.map (onB s)
theorem zoC {s:List (Int×List Int)} (h:BindsOk s):(es out:List zg)→(∀ l∈es,zcq l.2)→out.length+es.length≤1000000→yI s es out=some (out++zmm s es)
 | [],out,_,_=>by simp [yI,zmm]
 | e::es,out,hn,hl=>by
  rw[List.length_cons] at hl
  have he:=hn e (List.mem_cons_self ..)
  unfold yI qQ
  rw[ze5 h he.1 he.2,Option.bind_some,Option.bind_some,zn (show (out.length+([(e.1,onB s e.2)]:List zg).length)*32≤140737488351232 by simp; omega),cond_true,
   zoC h es _ (fun l hl=>hn l (List.mem_cons_of_mem _ hl)) (by simp; omega)]
  simp [zmm]
theorem zpH {s:List (Int×List Int)} (h:BindsOk s) (s7:List zg):(es out:List jI)→(∀ l∈es,zcq l)→out.length+es.length≤1000000→yP s s7 es out=some (s7,out++ztQ s es)
 | [],out,_,_=>by simp [yP,ztQ]
 | e::es,out,hn,hl=>by
  rw[List.length_cons] at hl
  have he:=hn e (List.mem_cons_self ..)
  unfold yP qQ
  rw[ze5 h he.1 he.2,Option.bind_some,Option.bind_some,zn (show (out.length+([onB s e]:List jI).length)*24≤140737488351232 by simp; omega),cond_true,
   zpH h s7 es _ (fun l hl=>hn l (List.mem_cons_of_mem _ hl)) (by simp; omega)]
  simp [ztQ]
theorem zoh {s:List (Int×List Int)} (h:BindsOk s) (s4:List zg) (s5:List jI):(es out:List zg)→(∀ l∈es,zcq l.2)→out.length+es.length≤1000000→yL s s4 s5 es out=some (s4,s5,out++zmm s es)
 | [],out,_,_=>by simp [yL,zmm]
 | e::es,out,hn,hl=>by
  rw[List.length_cons] at hl
  have he:=hn e (List.mem_cons_self ..)
  unfold yL qQ
  rw[ze5 h he.1 he.2,Option.bind_some,Option.bind_some,zn (show (out.length+([(e.1,onB s e.2)]:List zg).length)*32≤140737488351232 by simp; omega),cond_true,
   zoh h s4 s5 es _ (fun l hl=>hn l (List.mem_cons_of_mem _ hl)) (by simp; omega)]
  simp [zmm]
theorem zok {s:List (Int×List Int)} (h:BindsOk s) {L:List zg} {T:List jI} {C:List zg} (hL:∀ l∈L,zcq l.2) (hT:∀ l∈T,zcq l) (hC:∀ l∈C,zcq l.2) (h1:L.length≤1000) (h2:T.length≤1000) (h3:C.length≤1000) :
  zft s L T C=some (zmm s L,ztQ s T,zmm s C):=by
 unfold zft zia
 rw[zgG _ _ _ _ _ _ (by unfold maxLen; omega),zoC h L [] hL (by simp; omega),Option.bind_some,
  zgZ _ _ _ _ _ _ _ (by unfold maxLen; omega),zpH h _ T [] hT (by simp; omega),Option.bind_some,
  zgP _ _ _ _ _ (by unfold maxLen; omega),zoh h _ _ C [] hC (by simp; omega),Option.bind_some]
 simp
end
end Go.Abs.Q
namespace Go.Abs.Q
open Go Go.Abs
def zdW (a0:Int):Option jI :=
 cond (decide (a0<0))
 (none)
 (cond (decide ((IntKind.wrap .i64 (a0 - 0))>0))
  (cond (eqI 0 0&&eqI 0 0)
   (cond (zrv (IntKind.wrap .i64 (a0 - 0)))
    (cond (yB (Int.toNat (IntKind.wrap .i64 (a0 - 0))) 8)
     ((zbR (List.replicate (Int.toNat (IntKind.wrap .i64 (a0 - 0))) (0:Int)) none (some 0)).bind fun y2 =>
      some y2)
     (none))
    (none))
   (none))
  (some ([]:jI)))
def qC (rec:(jR×Int×Int×jI)→Option jI) (x:(jR×Int×Int×jI)):Option jI :=
 cond (decide (x.2.2.1<x.2.1))
 ((gx x.1 x.2.2.1).bind fun e7 =>
  cond (yB (List.length x.2.2.2+List.length e7) 8)
  (rec (x.1,x.2.1,(IntKind.wrap .i64 (x.2.2.1+1)),(x.2.2.2++e7)))
  (none))
 (some x.2.2.2)
def qE (rec:(jR×Int×jR×Int×Int)→Option Int) (x:(jR×Int×jR×Int×Int)):Option Int :=
 cond (decide (x.2.2.2.2<x.2.2.2.1))
 ((gx x.2.2.1 x.2.2.2.2).bind fun e2 =>
  cond (decide ((IntKind.wrap .i64 (x.2.1+((List.length e2:Nat):Int)))<0))
  (none)
  (rec (x.1,(IntKind.wrap .i64 (x.2.1+((List.length e2:Nat):Int))),x.2.2.1,x.2.2.2.1,(IntKind.wrap .i64 (x.2.2.2.2+1)))))
 (some x.2.1)
def zcF (a0:jR):Option jI :=
 ((lp qE zd) (a0,0,a0,((List.length a0:Nat):Int),0)).bind fun r9 =>
 (zdW r9).bind fun r10 =>
 ((lp qC zd) (a0,((List.length a0:Nat):Int),0,r10)).bind fun r11 =>
 some r11
end Go.Abs.Q
namespace Go.Abs.Q
open Go Go.Abs
def zE:List jI→jI→Option jI
 | [],s3=>some s3
 | e::es,s3 =>
  cond (yB (List.length s3+List.length e) 8)
  (zE es (s3++e))
  (none)
theorem zeZ (s0:jR) (s3:jI) (hl:List.length s0≤maxLen):lp qC zd (s0,((List.length s0:Nat):Int),0,s3)=zE s0 s3:=zac qC (fun i s3=>(s0,((List.length s0:Nat):Int),i,s3)) (fun es i s3=>zE es s3) hl (fun r i s3 h=>by unfold qC zE; simp only[h,cond_false]) (fun r i s3 e es h g w k=>by unfold qC zE; simp only[h,cond_true,g,Option.bind_some,w,k]) s3
def zF:List jI→Int→Option Int
 | [],s1=>some s1
 | e::es,s1 =>
  cond (decide ((IntKind.wrap .i64 (s1+((List.length e:Nat):Int)))<0))
  (none)
  (zF es (IntKind.wrap .i64 (s1+((List.length e:Nat):Int))))
theorem zeX (s0:jR) (s2:jR) (s1:Int) (hl:List.length s2≤maxLen):lp qE zd (s0,s1,s2,((List.length s2:Nat):Int),0)=zF s2 s1:=zac qE (fun i s1=>(s0,s1,s2,((List.length s2:Nat):Int),i)) (fun es i s1=>zF es s1) hl (fun r i s1 h=>by unfold qE zF; simp only[h,cond_false]) (fun r i s1 e es h g w k=>by unfold qE zF; simp only[h,cond_true,g,Option.bind_some,w,k]) s1
end Go.Abs.Q
namespace Go.Abs.Q
open Go Go.Abs
section
end
end Go.Abs.Q
namespace Go.Abs.Q
open Go Go.Abs
end Go.Abs.Q
namespace Go.Abs.Q
open Go Go.Abs
end Go.Abs.Q
namespace Go.Abs.Q
open Go Go.Abs
section
end
end Go.Abs.Q
namespace Go.Abs.Q
open Go Go.Abs
section
end
end Go.Abs.Q
namespace Go.Abs.Q
open Go Go.Abs
section
end
end Go.Abs.Q
namespace Go.Abs.Q
open Go Go.Abs
section
end
end Go.Abs.Q
namespace Go.Abs.Q
open Go Go.Abs
section
def zLh (c:UInt8):Bool:=ziY ((UInt8.toNat c:Nat):Int)
def zLl (c:UInt8):Bool:=decide (((UInt8.toNat c:Nat):Int)≥48)&&decide (((UInt8.toNat c:Nat):Int)≤57)
def zLm (b:Bool) (c:UInt8):Bool:=zLl c||(b&&zLh c)
end
end Go.Abs.Q
namespace Go.Abs.Q
open Go Go.Abs
section
end
end Go.Abs.Q
namespace Go.Abs.Q
open Go Go.Abs
section
end
end Go.Abs.Q
namespace Go.Abs.Q
open Go Go.Abs
section
def Stop (c:Str):Prop:=c.takeWhile (zLm true)=[]
end
end Go.Abs.Q
namespace Go.Abs.Q
open Go Go.Abs
section
end
end Go.Abs.Q
namespace Go.Abs.Q
open Go Go.Abs
section
end
end Go.Abs.Q
namespace Go.Abs.Q
open Go Go.Abs
section
end
end Go.Abs.Q
namespace Go.Abs.Q
open Go Go.Abs
section
theorem zkh {n:Nat} (h:n≤10000000):zdW (n:Int)=some []:=by
 unfold zdW
 have e:IntKind.wrap .i64 ((n:Int) - 0)=(n:Int):=by rw[zt]<;>omega
 rw[e,decide_eq_false (show ¬((n:Int)<0) by omega),cond_false]
 by_cases h0:n=0
 ·subst h0; rfl
 ·rw[decide_eq_true (show (n:Int)>0 by omega),cond_true,show (eqI 0 0&&eqI 0 0)=true from rfl,cond_true,show zrv (n:Int)=true from decide_eq_true (by omega),cond_true,Int.toNat_natCast,zn (by omega),cond_true]
  have:∀ z:Int,zbR (List.replicate n z) none (some 0)=some []:=fun z=>by
   show slc (List.replicate n z) 0 0=some []
   unfold slc
   rw[decide_eq_true (show (0:Int)≤0 by omega),decide_eq_true (show (0:Int)≤(((List.replicate n z).length:Nat):Int) by omega)]
   rfl
  rw[this]; rfl
theorem zDS {a b c:List Int} (h:a.length+b.length+c.length≤9000000):zcF [a,b,c]=some ((a++b)++c):=by
 have w0:IntKind.wrap .i64 ((0:Int)+((a.length:Nat):Int))=((a.length:Nat):Int):=by rw[zt]<;>omega
 have w1:IntKind.wrap .i64 (((a.length:Nat):Int)+((b.length:Nat):Int))=((a.length+b.length:Nat):Int):=by rw[zt]<;>omega
 have w2:IntKind.wrap .i64 (((a.length+b.length:Nat):Int)+((c.length:Nat):Int))=((a.length+b.length+c.length:Nat):Int):=by rw[zt]<;>omega
 have e0:zF [a,b,c] 0=some ((a.length+b.length+c.length:Nat):Int):=by
  unfold zF
  rw[w0,decide_eq_false (show ¬(((a.length:Nat):Int)<0) by omega),cond_false]
  unfold zF
  rw[w1,decide_eq_false (show ¬(((a.length+b.length:Nat):Int)<0) by omega),cond_false]
  unfold zF
  rw[w2,decide_eq_false (show ¬(((a.length+b.length+c.length:Nat):Int)<0) by omega),cond_false]
  rfl
 have e1:zE [a,b,c] []=some ((a++b)++c):=by
  unfold zE
  rw[zn (by simp; omega),cond_true,List.nil_append]
  unfold zE
  rw[zn (by omega),cond_true]
  unfold zE
  rw[zn (by simp; omega),cond_true]
  rfl
 unfold zcF
 rw[zeX _ _ _ (by unfold maxLen; simp),e0,Option.bind_some,zkh (by omega),Option.bind_some,zeZ _ _ (by unfold maxLen; simp),e1]
 rfl
end
end Go.Abs.Q
namespace Go.Abs.Q
open Go Go.Abs
section
end
end Go.Abs.Q
namespace Go.Abs.Q
open Go Go.Abs
section
end
end Go.Abs.Q
namespace Go.Abs.Q
open Go Go.Abs
section
end
end Go.Abs.Q
namespace Go.Abs.Q
open Go Go.Abs
section
end
end Go.Abs.Q
namespace Go.Abs.Q
open Go Go.Abs
section
end
end Go.Abs.Q
namespace Go.Abs.Q
open Go Go.Abs
section
theorem zBc {a0:List zm}:{xs:List Int}→{n m:Nat}→{ys:List Int}→sk a0 n xs=some xs.length→sk a0 m ys=some ys.length→sk a0 (n+m) (xs++ys)=some (xs++ys).length
 | [],0,m,ys,_,h=>by rw[Nat.zero_add]; exact h
 | [],n+1,m,ys,h,_=>by simp [sk] at h
 | x::xs,0,m,ys,h,_=>by simp [sk] at h
 | x::xs,n+1,m,ys,h,h'=>by
  unfold sk at h
  cases ha:zbY a0 x with
  | none=>rw[ha] at h; cases h
  | some k =>
   rw[ha] at h
   simp only[Option.map_eq_some_iff,List.length_cons] at h
   obtain⟨j,hj,hjl⟩:=h
   have hj2:j=xs.length:=by omega
   subst hj2
   have ih:=zBc hj h'
   rw[show n+1+m=(n+m)+1 from by omega,List.cons_append]
   unfold sk
   rw[ha]
   simp only
   rw[show n+m+k=n+k+m from by omega,ih]
   rfl
end
end Go.Abs.Q
namespace Go.Abs.Q
open Go Go.Abs
section
theorem zyF {a0:List zm} {x:Int} {q:Nat} (h:zbY a0 x=some q):x<0∨x<a0.length:=by
 by_cases hx:x<0
 ·exact .inl hx
 ·obtain⟨e,-,he,-⟩:=zpD h hx
  have:=(List.getElem?_eq_some_iff.1 he).1
  exact .inr (by omega)
theorem zlL {a0:List zm}:{xs:List Int}→{n k:Nat}→sk a0 n xs=some k→∀ c∈xs.take k,c<0∨c<a0.length
 | [],n,k,h,c,hc=>by simp at hc
 | x::xs,0,k,h,c,hc=>by
  simp [sk] at h; subst h; simp at hc
 | x::xs,n+1,k,h,c,hc=>by
  unfold sk at h
  cases ha:zbY a0 x with
  | none=>rw[ha] at h; cases h
  | some m =>
   rw[ha] at h
   simp only[Option.map_eq_some_iff] at h
   obtain⟨j,hj,rfl⟩:=h
   rw[List.take_succ_cons] at hc
   rcases List.mem_cons.1 hc with rfl | hc
   ·exact zyF ha
   ·exact zlL hj c hc
theorem zoL {a0:List zm} (hs:SignOk a0) {xs:List Int} {ps:List jI} (h:zkn a0 xs=some ps):∀ c∈xs,-24≤c∧c<20:=by
 obtain⟨h1,h2⟩:=zgv xs.length xs ps (Nat.le_refl _) h
 have hl:=hs.len
 intro c hc
 refine ⟨zjK h c hc,?_⟩
 rw[← h1] at hc
 obtain⟨p,hp,hcp⟩:=List.mem_flatten.1 hc
 have:=zlL (h2 p hp).2 c
 rw[List.take_length] at this
 rcases this hcp with h | h<;>omega
theorem ztx {a0:List zm} (hs:SignOk a0) {xs:List Int} (h:zdC a0 xs=true):zcq xs:=by
 obtain⟨x,r,e,ps,rfl,h0,he,-,-,-,hl,hc,-⟩:=zhl h
 have:=(List.getElem?_eq_some_iff.1 he).1
 have hl2:=hs.len
 refine ⟨by simp; omega,fun c hcm => ?_⟩
 rcases List.mem_cons.1 hcm with rfl | hcm
 ·omega
 ·have:=zoL hs hc c hcm; omega
theorem zd6 {a0:List zm} (hs:SignOk a0) {ls:List zg} (h:zdN a0 ls=true):∀ l∈ls,zcq l.2:=fun l hl=>ztx hs (List.all_eq_true.1 h l hl)
theorem zjJ {a0:List zm} (hs:SignOk a0) {rs:List jI} (h:zfW a0 rs=true):∀ r∈rs,zcq r:=fun r hr=>by
 obtain⟨n,hn⟩:=zi8 h
 obtain⟨ps,hc,-,hl,-⟩:=zlD (hn r hr)
 exact ⟨by omega,fun c hcm=>by have:=zoL hs hc c hcm; omega⟩
end
end Go.Abs.Q
namespace Go.Abs.Q
open Go Go.Abs
def ziI (a0:Int):Option Bool :=
 some (a0 != a0)
def zkx (a0:Int) (a1:Int):Option Bool :=
 (ziI a0).bind fun r3 =>
 cond r3
 ((ziI a1).bind fun r4 =>
  cond (!r4)
  (some true)
  (some (decide (a0<a1))))
 (some (decide (a0<a1)))
def zdG (a0:Int):Option Bool :=
 some (a0 != a0)
def yv (rec:(jI×Int×Int×Int×Int)→Option Int) (x:(jI×Int×Int×Int×Int)):Option Int :=
 cond (decide (x.2.2.2.1<x.2.2.2.2))
 ((gx x.1 (IntKind.wrap .i64 (Int.fdiv (IntKind.wrap .u64 (IntKind.wrap .i64 (x.2.2.2.1+x.2.2.2.2))) (2 ^ min (Int.toNat 1) (IntKind.bits .u64))))).bind fun e3 =>
  (zkx e3 x.2.1).bind fun r4 =>
  cond r4
  (rec (x.1,x.2.1,x.2.2.1,(IntKind.wrap .i64 ((IntKind.wrap .i64 (Int.fdiv (IntKind.wrap .u64 (IntKind.wrap .i64 (x.2.2.2.1+x.2.2.2.2))) (2 ^ min (Int.toNat 1) (IntKind.bits .u64))))+1)),x.2.2.2.2))
  (rec (x.1,x.2.1,x.2.2.1,x.2.2.2.1,(IntKind.wrap .i64 (Int.fdiv (IntKind.wrap .u64 (IntKind.wrap .i64 (x.2.2.2.1+x.2.2.2.2))) (2 ^ min (Int.toNat 1) (IntKind.bits .u64)))))))
 (some x.2.2.2.1)
def q6 (a0:jI) (a1:Int):Option (Int×Bool) :=
 ((lp yv zd) (a0,a1,((List.length a0:Nat):Int),0,((List.length a0:Nat):Int))).bind fun r10 =>
 cond (decide (r10<((List.length a0:Nat):Int)))
 ((gx a0 r10).bind fun e11 =>
  cond (e11==a1)
  (some (r10,true))
  ((gx a0 r10).bind fun e12 =>
   (zdG e12).bind fun r13 =>
   cond r13
   ((zdG a1).bind fun r14 =>
    some (r10,r14))
   (some (r10,false))))
 (some (r10,false))
def zdV (a0:Int) (a1:jI) (a2:jI):Option jI:=zHU a0 a1 a2
def zbi (rec:(jI×Int×Int×jI)→Option jI) (x:(jI×Int×Int×jI)):Option jI :=
 cond (decide (x.2.2.1<x.2.1))
 ((gx x.1 x.2.2.1).bind fun e11 =>
  cond (decide (e11≥0))
  (rec (x.1,x.2.1,(IntKind.wrap .i64 (x.2.2.1+1)),x.2.2.2))
  ((zT e11).bind fun r12 =>
   (q6 x.2.2.2 r12).bind fun r13 =>
   cond (!r13.2)
   ((zT e11).bind fun r14 =>
    (zdV r13.1 x.2.2.2 ([r14]:List Int)).bind fun r15 =>
    rec (x.1,x.2.1,(IntKind.wrap .i64 (x.2.2.1+1)),r15))
   (rec (x.1,x.2.1,(IntKind.wrap .i64 (x.2.2.1+1)),x.2.2.2))))
 (some x.2.2.2)
def zb4 (a0:jI) (a1:jI):Option jI :=
 ((lp zbi zd) (a0,((List.length a0:Nat):Int),0,a1)).bind fun r17 =>
 some r17
def zbg (rec:(jR×Int×Int×jI)→Option jI) (x:(jR×Int×Int×jI)):Option jI :=
 cond (decide (x.2.2.1<x.2.1))
 ((gx x.1 x.2.2.1).bind fun e12 =>
  (zb4 e12 x.2.2.2).bind fun r13 =>
  rec (x.1,x.2.1,(IntKind.wrap .i64 (x.2.2.1+1)),r13))
 (some x.2.2.2)
def zbc (rec:(jQ×Int×Int×jQ×jR×jQ×jI)→Option jI) (x:(jQ×Int×Int×jQ×jR×jQ×jI)):Option jI :=
 cond (decide (x.2.2.1<x.2.1))
 ((gx x.1 x.2.2.1).bind fun e7 =>
  (zb4 e7.2 x.2.2.2.2.2.2).bind fun r8 =>
  rec (x.1,x.2.1,(IntKind.wrap .i64 (x.2.2.1+1)),x.2.2.2.1,x.2.2.2.2.1,x.2.2.2.2.2.1,r8))
 (some x.2.2.2.2.2.2)
def yV (a0:jS) (a1:jQ) (a2:jR) (a3:jQ):Option (Int×jI) :=
 (zaM a0 a1 a2 a3).bind fun r15 =>
 cond (!r15)
 (some (800,([]:jI)))
 ((zbs ([a1,a3]:List jQ)).bind fun r16 =>
  ((lp zbc zd) (r16,((List.length r16:Nat):Int),0,a1,a2,a3,([]:jI))).bind fun r17 =>
  ((lp zbg zd) (a2,((List.length a2:Nat):Int),0,r17)).bind fun r18 =>
  some (0,r18))
def yZ (rec:(Int×Int×Int×jI)→Option jI) (x:(Int×Int×Int×jI)):Option jI :=
 cond (decide (x.2.1<x.1))
 ((inR x.2.1 (List.length x.2.2.2)).bind fun k6 =>
  (x.2.2.2[k6]?).bind fun x7 =>
  cond (decide (x7<0))
  ((inR x.2.1 (List.length x.2.2.2)).bind fun k8 =>
   (x.2.2.2[k8]?).bind fun _x9 =>
   rec (x.1,(IntKind.wrap .i64 (x.2.1+1)),x.2.2.1,(List.set x.2.2.2 k8 (IntKind.wrap .i64 (x7 - x.2.2.1)))))
  (rec (x.1,(IntKind.wrap .i64 (x.2.1+1)),x.2.2.1,x.2.2.2)))
 (some x.2.2.2)
def yY (a0:jI) (a1:Int):Option jI :=
 (zbz a0).bind fun r11 =>
 ((lp yZ zd) (((List.length r11:Nat):Int),0,a1,r11)).bind fun r12 =>
 some r12
def zaf (rec:(jQ×Int×Int×Int×jQ×jR×jQ)→Option (jQ×jR×jQ)) (x:(jQ×Int×Int×Int×jQ×jR×jQ)):Option (jQ×jR×jQ) :=
 cond (decide (x.2.2.1<x.2.1))
 ((gx x.1 x.2.2.1).bind fun e19 =>
  (yY e19.2 x.2.2.2.1).bind fun r20 =>
  cond (yB (List.length x.2.2.2.2.2.2+List.length ([(e19.1,r20)]:List zg)) 32)
  (rec (x.1,x.2.1,(IntKind.wrap .i64 (x.2.2.1+1)),x.2.2.2.1,x.2.2.2.2.1,x.2.2.2.2.2.1,(x.2.2.2.2.2.2++([(e19.1,r20)]:List zg))))
  (none))
 (some (x.2.2.2.2.1,x.2.2.2.2.2.1,x.2.2.2.2.2.2))
def zar (rec:(jR×Int×Int×Int×jQ×jR×jQ×jQ×jR)→Option (jQ×jR)) (x:(jR×Int×Int×Int×jQ×jR×jQ×jQ×jR)):Option (jQ×jR) :=
 cond (decide (x.2.2.1<x.2.1))
 ((gx x.1 x.2.2.1).bind fun e12 =>
  (yY e12 x.2.2.2.1).bind fun r13 =>
  cond (yB (List.length x.2.2.2.2.2.2.2.2+List.length ([r13]:List jI)) 24)
  (rec (x.1,x.2.1,(IntKind.wrap .i64 (x.2.2.1+1)),x.2.2.2.1,x.2.2.2.2.1,x.2.2.2.2.2.1,x.2.2.2.2.2.2.1,x.2.2.2.2.2.2.2.1,(x.2.2.2.2.2.2.2.2++([r13]:List jI))))
  (none))
 (some (x.2.2.2.2.2.2.2.1,x.2.2.2.2.2.2.2.2))
def zaq (rec:(jQ×Int×Int×Int×jQ×jR×jQ×jQ)→Option jQ) (x:(jQ×Int×Int×Int×jQ×jR×jQ×jQ)):Option jQ :=
 cond (decide (x.2.2.1<x.2.1))
 ((gx x.1 x.2.2.1).bind fun e5 =>
  (yY e5.2 x.2.2.2.1).bind fun r6 =>
  cond (yB (List.length x.2.2.2.2.2.2.2+List.length ([(e5.1,r6)]:List zg)) 32)
  (rec (x.1,x.2.1,(IntKind.wrap .i64 (x.2.2.1+1)),x.2.2.2.1,x.2.2.2.2.1,x.2.2.2.2.2.1,x.2.2.2.2.2.2.1,(x.2.2.2.2.2.2.2++([(e5.1,r6)]:List zg))))
  (none))
 (some x.2.2.2.2.2.2.2)
def zfz (a0:jQ) (a1:jR) (a2:jQ) (a3:Int):Option (jQ×jR×jQ) :=
 ((lp zaq zd) (a0,((List.length a0:Nat):Int),0,a3,a0,a1,a2,([]:jQ))).bind fun r22 =>
 ((lp zar zd) (a1,((List.length a1:Nat):Int),0,a3,a0,a1,a2,r22,([]:jR))).bind fun r23 =>
 ((lp zaf zd) (a2,((List.length a2:Nat):Int),0,a3,r23.1,r23.2,([]:jQ))).bind fun r24 =>
 some (r24.1,r24.2.1,r24.2.2)
def zz (a0:jQ) (a1:jR) (a2:jQ) (a3:Int):Option (jQ×jR×jQ) :=
 (zfz a0 a1 a2 a3).bind fun r2 =>
 some (r2.1,r2.2.1,r2.2.2)
def zcH (a0:jS) (a1:jQ) (a2:jR) (a3:jQ) (a4:jQ) (a5:jR) (a6:jQ):Option (jQ×jR×Bool×jQ) :=
 (yV a0 a1 a2 a3).bind fun r14 =>
 cond (decide (((List.length r14.2:Nat):Int)>0))
 ((inR (IntKind.wrap .i64 (((List.length r14.2:Nat):Int) - 1)) (List.length r14.2)).bind fun k15 =>
  (r14.2[k15]?).bind fun x16 =>
  (yV a0 a4 a5 a6).bind fun r17 =>
  cond (decide (((List.length r17.2:Nat):Int)>0))
  ((inR (IntKind.wrap .i64 (((List.length r17.2:Nat):Int) - 1)) (List.length r17.2)).bind fun k18 =>
   (r17.2[k18]?).bind fun x19 =>
   cond (decide ((IntKind.wrap .i64 (x19+(IntKind.wrap .i64 (x16+1))))>23))
   (some (([]:jQ),([]:jR),false,([]:jQ)))
   ((zz a4 a5 a6 (IntKind.wrap .i64 (x16+1))).bind fun r20 =>
    some (r20.1,r20.2.1,true,r20.2.2)))
  ((zz a4 a5 a6 (IntKind.wrap .i64 (x16+1))).bind fun r21 =>
   some (r21.1,r21.2.1,true,r21.2.2)))
 ((yV a0 a4 a5 a6).bind fun r22 =>
  cond (decide (((List.length r22.2:Nat):Int)>0))
  ((inR (IntKind.wrap .i64 (((List.length r22.2:Nat):Int) - 1)) (List.length r22.2)).bind fun k23 =>
   (r22.2[k23]?).bind fun x24 =>
   cond (decide ((IntKind.wrap .i64 (x24+0))>23))
   (some (([]:jQ),([]:jR),false,([]:jQ)))
   ((zz a4 a5 a6 0).bind fun r25 =>
    some (r25.1,r25.2.1,true,r25.2.2)))
  ((zz a4 a5 a6 0).bind fun r26 =>
   some (r26.1,r26.2.1,true,r26.2.2)))
end Go.Abs.Q
namespace Go.Abs.Q
open Go Go.Abs
def yi:List Int→jI→Option jI
 | [],s3=>some s3
 | e::es,s3 =>
  cond (decide (e≥0))
  (yi es s3)
  ((zT e).bind fun r12 =>
   (q6 s3 r12).bind fun r13 =>
   cond (!r13.2)
   ((zT e).bind fun r14 =>
    (zdV r13.1 s3 ([r14]:List Int)).bind fun r15 =>
    yi es r15)
   (yi es s3))
theorem zgI (s0:jI) (s3:jI) (hl:List.length s0≤maxLen):lp zbi zd (s0,((List.length s0:Nat):Int),0,s3)=yi s0 s3:=zac zbi (fun i s3=>(s0,((List.length s0:Nat):Int),i,s3)) (fun es i s3=>yi es s3) hl (fun r i s3 h=>by unfold zbi yi; simp only[h,cond_false]) (fun r i s3 e es h g w k=>by unfold zbi yi; simp only[h,cond_true,g,Option.bind_some,w,k]) s3
def qk:List jI→jI→Option jI
 | [],s3=>some s3
 | e::es,s3 =>
  (zb4 e s3).bind fun r13 =>
  qk es r13
theorem zg7 (s0:jR) (s3:jI) (hl:List.length s0≤maxLen):lp zbg zd (s0,((List.length s0:Nat):Int),0,s3)=qk s0 s3:=zac zbg (fun i s3=>(s0,((List.length s0:Nat):Int),i,s3)) (fun es i s3=>qk es s3) hl (fun r i s3 h=>by unfold zbg qk; simp only[h,cond_false]) (fun r i s3 e es h g w k=>by unfold zbg qk; simp only[h,cond_true,g,Option.bind_some,w,k]) s3
def qg:List zg→jI→Option jI
 | [],s6=>some s6
 | e::es,s6 =>
  (zb4 e.2 s6).bind fun r8 =>
  qg es r8
theorem zg3 (s0:jQ) (s3:jQ) (s4:jR) (s5:jQ) (s6:jI) (hl:List.length s0≤maxLen):lp zbc zd (s0,((List.length s0:Nat):Int),0,s3,s4,s5,s6)=qg s0 s6:=zac zbc (fun i s6=>(s0,((List.length s0:Nat):Int),i,s3,s4,s5,s6)) (fun es i s6=>qg es s6) hl (fun r i s6 h=>by unfold zbc qg; simp only[h,cond_false]) (fun r i s6 e es h g w k=>by unfold zbc qg; simp only[h,cond_true,g,Option.bind_some,w,k]) s6
def yd (s3:Int) (s4:jQ) (s5:jR):List zg→jQ→Option (jQ×jR×jQ)
 | [],s6=>some (s4,s5,s6)
 | e::es,s6 =>
  (yY e.2 s3).bind fun r20 =>
  cond (yB (List.length s6+List.length ([(e.1,r20)]:List zg)) 32)
  (yd s3 s4 s5 es (s6++([(e.1,r20)]:List zg)))
  (none)
theorem zf4 (s0:jQ) (s3:Int) (s4:jQ) (s5:jR) (s6:jQ) (hl:List.length s0≤maxLen):lp zaf zd (s0,((List.length s0:Nat):Int),0,s3,s4,s5,s6)=yd s3 s4 s5 s0 s6:=zac zaf (fun i s6=>(s0,((List.length s0:Nat):Int),i,s3,s4,s5,s6)) (fun es i s6=>yd s3 s4 s5 es s6) hl (fun r i s6 h=>by unfold zaf yd; simp only[h,cond_false]) (fun r i s6 e es h g w k=>by unfold zaf yd; simp only[h,cond_true,g,Option.bind_some,w,k]) s6
def ye (s3:Int) (s7:jQ):List jI→jR→Option (jQ×jR)
 | [],s8=>some (s7,s8)
 | e::es,s8 =>
  (yY e s3).bind fun r13 =>
  cond (yB (List.length s8+List.length ([r13]:List jI)) 24)
  (ye s3 s7 es (s8++([r13]:List jI)))
  (none)
theorem zfF (s0:jR) (s3:Int) (s4:jQ) (s5:jR) (s6:jQ) (s7:jQ) (s8:jR) (hl:List.length s0≤maxLen):lp zar zd (s0,((List.length s0:Nat):Int),0,s3,s4,s5,s6,s7,s8)=ye s3 s7 s0 s8:=zac zar (fun i s8=>(s0,((List.length s0:Nat):Int),i,s3,s4,s5,s6,s7,s8)) (fun es i s8=>ye s3 s7 es s8) hl (fun r i s8 h=>by unfold zar ye; simp only[h,cond_false]) (fun r i s8 e es h g w k=>by unfold zar ye; simp only[h,cond_true,g,Option.bind_some,w,k]) s8
def ya (s3:Int):List zg→jQ→Option jQ
 | [],s7=>some s7
 | e::es,s7 =>
  (yY e.2 s3).bind fun r6 =>
  cond (yB (List.length s7+List.length ([(e.1,r6)]:List zg)) 32)
  (ya s3 es (s7++([(e.1,r6)]:List zg)))
  (none)
theorem zfN (s0:jQ) (s3:Int) (s4:jQ) (s5:jR) (s6:jQ) (s7:jQ) (hl:List.length s0≤maxLen):lp zaq zd (s0,((List.length s0:Nat):Int),0,s3,s4,s5,s6,s7)=ya s3 s0 s7:=zac zaq (fun i s7=>(s0,((List.length s0:Nat):Int),i,s3,s4,s5,s6,s7)) (fun es i s7=>ya s3 es s7) hl (fun r i s7 h=>by unfold zaq ya; simp only[h,cond_false]) (fun r i s7 e es h g w k=>by unfold zaq ya; simp only[h,cond_true,g,Option.bind_some,w,k]) s7
end Go.Abs.Q
