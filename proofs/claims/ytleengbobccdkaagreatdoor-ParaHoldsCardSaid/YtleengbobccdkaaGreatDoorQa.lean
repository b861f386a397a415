import Derived.Test.YtleengbobccdkaaGreatDoorFc
/-
  What the functions make of plain values, and what the law says of that.
-/
namespace Go.Abs.Q
open Go Go.Abs
abbrev zi:=Str×Int×Int×Int
abbrev zzp:Tys:=.cons .str (.cons (.int .i64) (.cons (.int .i64) (.one (.int .i64))))
abbrev zc:=Bool×List Int
abbrev znw:Tys:=.cons .bool (.one (.sl (.one (.int .i64))))
abbrev jR:=List (List Int)
abbrev jI:=List Int
abbrev jQ:=List zc
abbrev jS:=List zi
abbrev jT:=List (Int×Int×Int×Int×Int×Int×Int×jQ×jR×jQ)
abbrev jU:=Int×Int×Int×Int×Int×Int×Int×jQ×jR×jQ
def zfi (a0:Int):Option Bool :=
 cond (decide (a0≥97))
 (some (decide (a0≤122)))
 (some false)
def zcf (rec:(Str×Int×Int)→Option (Unit⊕Bool)) (x:(Str×Int×Int)):Option (Unit⊕Bool) :=
 cond (decide (x.2.2<x.2.1))
 ((gx x.1 x.2.2).bind fun c7 =>
  (zfi ((UInt8.toNat c7:Nat):Int)).bind fun r8 =>
  cond (!r8)
  ((gx x.1 x.2.2).bind fun c9 =>
   cond (decide (((UInt8.toNat c9:Nat):Int)<48))
   (some (Sum.inr false))
   ((gx x.1 x.2.2).bind fun c10 =>
    cond (decide (((UInt8.toNat c10:Nat):Int)>57))
    (some (Sum.inr false))
    (rec (x.1,x.2.1,(IntKind.wrap .i64 (x.2.2+1))))))
  (rec (x.1,x.2.1,(IntKind.wrap .i64 (x.2.2+1)))))
 (some (Sum.inl ()))
def zhi (a0:Str):Option Bool :=
 cond (a0==([]:Str))
 (some false)
 (cond (decide (((List.length a0:Nat):Int)>8))
  (some false)
  ((gx a0 0).bind fun c14 =>
   (zfi ((UInt8.toNat c14:Nat):Int)).bind fun r15 =>
   cond (!r15)
   (some false)
   (((lp zcf zd) (a0,((List.length a0:Nat):Int),0)).bind fun r16 =>
    z6 r16
    (fun z17=>some true)
    (fun z18=>some z18))))
def zfD (a0:Str) (a1:Int) (a2:Int) (a3:Int):Option Bool :=
 (zhi a0).bind fun r2 =>
 cond r2
 (cond (decide (a1≥0))
  (cond (decide (a1≤2))
   (cond (decide (a2≥0))
    (cond (decide (a2≤3))
     (cond (decide (a3≥1))
      (some (decide (a3≤20)))
      (some false))
     (some false))
    (some false))
   (some false))
  (some false))
 (some false)
def zdd (rec:(jS×Str×Int×Int)→Option (Unit⊕Int)) (x:(jS×Str×Int×Int)):Option (Unit⊕Int) :=
 cond (decide (x.2.2.2<x.2.2.1))
 ((gx x.1 x.2.2.2).bind fun e2 =>
  cond (e2.1==x.2.1)
  (some (Sum.inr x.2.2.2))
  (rec (x.1,x.2.1,x.2.2.1,(IntKind.wrap .i64 (x.2.2.2+1)))))
 (some (Sum.inl ()))
def zid (a0:jS) (a1:Str):Option Int :=
 ((lp zdd zd) (a0,a1,((List.length a0:Nat):Int),0)).bind fun r6 =>
 z6 r6
 (fun z7=>some (-1))
 (fun z8=>some z8)
def zc8 (rec:(jS×Int)→Option (Unit⊕Bool)) (x:(jS×Int)):Option (Unit⊕Bool) :=
 cond (decide (x.2<((List.length x.1:Nat):Int)))
 ((gx x.1 x.2).bind fun e6 =>
  (zfD e6.1 e6.2.1 e6.2.2.1 e6.2.2.2).bind fun r7 =>
  cond (!r7)
  (some (Sum.inr false))
  ((gx x.1 x.2).bind fun e8 =>
   (zid x.1 e8.1).bind fun r9 =>
   cond (r9 != x.2)
   (some (Sum.inr false))
   (rec (x.1,(IntKind.wrap .i64 (x.2+1))))))
 (some (Sum.inl ()))
def ziM (a0:jS):Option Bool :=
 cond (decide (((List.length a0:Nat):Int)<1))
 (some false)
 (cond (decide (((List.length a0:Nat):Int)>20))
  (some false)
  ((gx a0 0).bind fun e13 =>
   cond (!(cond (eqS e13.1 [61]) (cond (eqI e13.2.1 0) (cond (eqI e13.2.2.1 2) (cond (eqI e13.2.2.2 1) true false) false) false) false))
   (some false)
   (((lp zc8 zd) (a0,1)).bind fun r14 =>
    z6 r14
    (fun z15=>some true)
    (fun z16=>some z16))))
def zhX (a0:(Option jI)):Option jI :=
 cond (Option.isNone a0)
 (some ([]:jI))
 (cond (yQ (List.length ([]:List Int)+List.length (Option.getD a0 [])) 8)
  (some (([]:List Int)++(Option.getD a0 [])))
  (none))
def znL:Option jI :=
 some ([]:jI)
def zcH (a0:jI):Option jI:=zhX (some a0)
def ye (a0:Int):Option Int :=
 some (IntKind.wrap .i64 ((-1) - a0))
def ziu (a0:jS) (a1:Int):Option (Int×Bool) :=
 cond (decide (a1<0))
 ((ye 23).bind fun r4 =>
  some (0,(decide (a1≥r4))))
 (cond (decide (a1≥((List.length a0:Nat):Int)))
  (some (0,false))
  ((gx a0 a1).bind fun e5 =>
   cond (e5.2.1==0)
   (some (0,false))
   ((gx a0 a1).bind fun e6 =>
    some (e6.2.2.1,true))))
def zcB (rec:(jS×jI×Int×Int)→Option (Int×Bool)) (x:(jS×jI×Int×Int)):Option (Int×Bool) :=
 cond (decide (x.2.2.1≥((List.length x.2.1:Nat):Int)))
 (some (0,false))
 ((gx x.2.1 x.2.2.1).bind fun e5 =>
  (ziu x.1 e5).bind fun r6 =>
  cond (!r6.2)
  (some (0,false))
  (cond (decide ((IntKind.wrap .i64 (x.2.2.2+(IntKind.wrap .i64 (r6.1 - 1))))>0))
   (rec (x.1,x.2.1,(IntKind.wrap .i64 (x.2.2.1+1)),(IntKind.wrap .i64 (x.2.2.2+(IntKind.wrap .i64 (r6.1 - 1))))))
   (some ((IntKind.wrap .i64 (x.2.2.1+1)),true))))
def zdK (a0:jS) (a1:jI) (a2:Int):Option (Int×Bool) :=
 cond (decide (a2≥((List.length a1:Nat):Int)))
 (some (0,false))
 ((gx a1 a2).bind fun e8 =>
  (ziu a0 e8).bind fun r9 =>
  cond (!r9.2)
  (some (0,false))
  (cond (decide ((IntKind.wrap .i64 (1+(IntKind.wrap .i64 (r9.1 - 1))))>0))
   ((((lp zcB zd) (a0,a1,(IntKind.wrap .i64 (a2+1)),(IntKind.wrap .i64 (1+(IntKind.wrap .i64 (r9.1 - 1))))))).bind fun r10 =>
    some (r10.1,r10.2))
   (some ((IntKind.wrap .i64 (a2+1)),true))))
def zcP (rec:(jS×jI×Int×jI)→Option zc) (x:(jS×jI×Int×jI)):Option zc :=
 cond (x.2.2.1==((List.length x.2.1:Nat):Int))
 (some (true,x.2.2.2))
 ((zdK x.1 x.2.1 x.2.2.1).bind fun r4 =>
  cond (!r4.2)
  (some (false,([]:jI)))
  (cond (yQ (List.length x.2.2.2+List.length ([x.2.2.1]:List Int)) 8)
   (rec (x.1,x.2.1,r4.1,(x.2.2.2++([x.2.2.1]:List Int))))
   (none)))
def zd7 (a0:jS) (a1:jI):Option zc :=
 (ziM a0).bind fun r6 =>
 cond (!r6)
 (some (false,([]:jI)))
 (cond (decide (((List.length a1:Nat):Int)>48))
  (some (false,([]:jI)))
  (cond (0==((List.length a1:Nat):Int))
   (some (true,([]:jI)))
   ((zdK a0 a1 0).bind fun r7 =>
    cond (!r7.2)
    (some (false,([]:jI)))
    (cond (yQ (List.length ([0]:List Int)) 8)
     ((((lp zcP zd) (a0,a1,r7.1,([0]:List Int)))).bind fun r8 =>
      some (r8.1,r8.2))
     (none)))))
def zbV (a0:jS) (a1:jI):Option Bool :=
 cond (((List.length a1:Nat):Int)==0)
 (some false)
 ((gx a1 0).bind fun e9 =>
  cond (decide (e9<0))
  (some false)
  ((gx a1 0).bind fun e10 =>
   cond (decide (e10≥((List.length a0:Nat):Int)))
   (some false)
   ((gx a1 0).bind fun e11 =>
    (gx a0 e11).bind fun e12 =>
    cond (e12.2.1 != 0)
    (some false)
    ((zcD a1 (some 1) none).bind fun y13 =>
     (zd7 a0 y13).bind fun r14 =>
     cond r14.1
     ((gx a1 0).bind fun e15 =>
      (gx a0 e15).bind fun e16 =>
      some (((List.length r14.2:Nat):Int)==e16.2.2.1))
     (some false)))))
def zg3 (a0:jS) (a1:Bool) (a2:jI):Option Bool :=
 (zbV a0 a2).bind fun r2 =>
 some r2
def zaB (rec:(jS×Int×jQ×Int×Int)→Option (Int⊕(Int×Bool))) (x:(jS×Int×jQ×Int×Int)):Option (Int⊕(Int×Bool)) :=
 cond (decide (x.2.2.2.2<x.2.2.2.1))
 ((gx x.2.2.1 x.2.2.2.2).bind fun e3 =>
  (zg3 x.1 e3.1 e3.2).bind fun r4 =>
  cond (!r4)
  (some (Sum.inr (0,false)))
  (rec (x.1,(IntKind.wrap .i64 (x.2.1+((List.length e3.2:Nat):Int))),x.2.2.1,x.2.2.2.1,(IntKind.wrap .i64 (x.2.2.2.2+1)))))
 (some (Sum.inl x.2.1))
def zcS (a0:jS) (a1:jQ):Option (Int×Bool) :=
 ((lp zaB zd) (a0,0,a1,((List.length a1:Nat):Int),0)).bind fun r8 =>
 z6 r8
 (fun z9=>some (z9,true))
 (fun z10=>some (z10.1,z10.2))
def zhr (a0:jS) (a1:jI):Option (Int×Int) :=
 (zd7 a0 a1).bind fun r2 =>
 cond (!r2.1)
 (some (0,200))
 (some (((List.length r2.2:Nat):Int),0))
def zax (rec:(jS×Int×Int×jR×Int×Int)→Option (Int⊕(Int×Bool))) (x:(jS×Int×Int×jR×Int×Int)):Option (Int⊕(Int×Bool)) :=
 cond (decide (x.2.2.2.2.2<x.2.2.2.2.1))
 ((gx x.2.2.2.1 x.2.2.2.2.2).bind fun e3 =>
  (zhr x.1 e3).bind fun r4 =>
  cond (x.2.2.2.2.2==0)
  (cond (r4.2 != 0)
   (some (Sum.inr (0,false)))
   (cond (r4.1 != r4.1)
    (some (Sum.inr (0,false)))
    (rec (x.1,(IntKind.wrap .i64 (x.2.1+((List.length e3:Nat):Int))),r4.1,x.2.2.2.1,x.2.2.2.2.1,(IntKind.wrap .i64 (x.2.2.2.2.2+1))))))
  (cond (r4.2 != 0)
   (some (Sum.inr (0,false)))
   (cond (r4.1 != x.2.2.1)
    (some (Sum.inr (0,false)))
    (rec (x.1,(IntKind.wrap .i64 (x.2.1+((List.length e3:Nat):Int))),x.2.2.1,x.2.2.2.1,x.2.2.2.2.1,(IntKind.wrap .i64 (x.2.2.2.2.2+1)))))))
 (some (Sum.inl x.2.1))
def zed (a0:jS) (a1:jR):Option (Int×Bool) :=
 ((lp zax zd) (a0,0,0,a1,((List.length a1:Nat):Int),0)).bind fun r8 =>
 z6 r8
 (fun z9=>some (z9,true))
 (fun z10=>some (z10.1,z10.2))
def zaf (a0:jS) (a1:jQ) (a2:jR) (a3:jQ):Option Bool :=
 (ziM a0).bind fun r5 =>
 cond (!r5)
 (some false)
 (cond (decide (((List.length a1:Nat):Int)>5))
  (some false)
  (cond (decide (((List.length a2:Nat):Int)>3))
   (some false)
   (cond (decide (((List.length a3:Nat):Int)>3))
    (some false)
    ((zcS a0 a1).bind fun r6 =>
     (zed a0 a2).bind fun r7 =>
     (zcS a0 a3).bind fun r8 =>
     cond r6.2
     (cond r7.2
      (cond r8.2
       (some (decide ((IntKind.wrap .i64 ((IntKind.wrap .i64 (r6.1+r7.1))+r8.1))≤240)))
       (some false))
      (some false))
     (some false)))))
def zbx (rec:(jI×jI×Int×Int)→Option (Unit⊕Bool)) (x:(jI×jI×Int×Int)):Option (Unit⊕Bool) :=
 cond (decide (x.2.2.2<x.2.2.1))
 ((gx x.1 x.2.2.2).bind fun e3 =>
  (gx x.2.1 x.2.2.2).bind fun e4 =>
  cond (e3 != e4)
  (some (Sum.inr false))
  (rec (x.1,x.2.1,x.2.2.1,(IntKind.wrap .i64 (x.2.2.2+1)))))
 (some (Sum.inl ()))
def yj (a0:jI) (a1:jI):Option Bool :=
 cond (((List.length a0:Nat):Int) != ((List.length a1:Nat):Int))
 (some false)
 (((lp zbx zd) (a0,a1,((List.length a0:Nat):Int),0)).bind fun r8 =>
  z6 r8
  (fun z9=>some true)
  (fun z10=>some z10))
def zlS (a0:Bool) (a1:jI) (a2:Bool) (a3:jI):Option Bool :=
 cond (a0==a2)
 ((yj a1 a3).bind fun r2 =>
  some r2)
 (some false)
def zef (a0:Bool) (a1:jI) (a2:Bool) (a3:jI):Option Bool :=
 (zlS a2 a3 a0 a1).bind fun r2 =>
 some r2
def qG (rec:(jQ×Int×Int×Bool×jI)→Option (Unit⊕Int)) (x:(jQ×Int×Int×Bool×jI)):Option (Unit⊕Int) :=
 cond (decide (x.2.2.1<x.2.1))
 ((gx x.1 x.2.2.1).bind fun e3 =>
  (zef e3.1 e3.2 x.2.2.2.1 x.2.2.2.2).bind fun r4 =>
  cond r4
  (some (Sum.inr x.2.2.1))
  (rec (x.1,x.2.1,(IntKind.wrap .i64 (x.2.2.1+1)),x.2.2.2.1,x.2.2.2.2)))
 (some (Sum.inl ()))
def zeP (a0:jQ) (a1:Bool) (a2:jI):Option Int :=
 ((lp qG zd) (a0,((List.length a0:Nat):Int),0,a1,a2)).bind fun r8 =>
 z6 r8
 (fun z9=>some (-1))
 (fun z10=>some z10)
def zaL (a0:jQ) (a1:Bool) (a2:jI):Option Bool :=
 (zeP a0 a1 a2).bind fun r2 =>
 some (decide (r2≥0))
def zcl (rec:(jQ×Int×Int×jQ)→Option jQ) (x:(jQ×Int×Int×jQ)):Option jQ :=
 cond (decide (x.2.2.1<x.2.1))
 ((gx x.1 x.2.2.1).bind fun e5 =>
  (zaL x.2.2.2 e5.1 e5.2).bind fun r6 =>
  cond (!r6)
  (cond (yQ (List.length x.2.2.2+List.length ([(e5.1,e5.2)]:List zc)) 32)
   (rec (x.1,x.2.1,(IntKind.wrap .i64 (x.2.2.1+1)),(x.2.2.2++([(e5.1,e5.2)]:List zc))))
   (none))
  (rec (x.1,x.2.1,(IntKind.wrap .i64 (x.2.2.1+1)),x.2.2.2)))
 (some x.2.2.2)
def zfK (a0:jQ):Option jQ :=
 ((lp zcl zd) (a0,((List.length a0:Nat):Int),0,([]:jQ))).bind fun r8 =>
 some r8
def zeh (a0:jI) (a1:jI):Option Bool :=
 (yj a1 a0).bind fun r2 =>
 some r2
def qe (rec:(jR×Int×Int×jI)→Option (Unit⊕Int)) (x:(jR×Int×Int×jI)):Option (Unit⊕Int) :=
 cond (decide (x.2.2.1<x.2.1))
 ((gx x.1 x.2.2.1).bind fun e3 =>
  (zeh e3 x.2.2.2).bind fun r4 =>
  cond r4
  (some (Sum.inr x.2.2.1))
  (rec (x.1,x.2.1,(IntKind.wrap .i64 (x.2.2.1+1)),x.2.2.2)))
 (some (Sum.inl ()))
def zdv (a0:jR) (a1:jI):Option Int :=
 ((lp qe zd) (a0,((List.length a0:Nat):Int),0,a1)).bind fun r8 =>
 z6 r8
 (fun z9=>some (-1))
 (fun z10=>some z10)
def qP (a0:jR) (a1:jI):Option Bool :=
 (zdv a0 a1).bind fun r2 =>
 some (decide (r2≥0))
def yV (rec:(Int×Int×jI×Int×jI)→Option (jI×Int×jI)) (x:(Int×Int×jI×Int×jI)):Option (jI×Int×jI) :=
 cond (decide (x.2.1<x.1))
 ((inR x.2.1 (List.length x.2.2.2.2)).bind fun k33 =>
  (x.2.2.2.2[k33]?).bind fun x34 =>
  cond (decide (x34≥0))
  (rec (x.1,(IntKind.wrap .i64 (x.2.1+1)),x.2.2.1,x.2.2.2.1,x.2.2.2.2))
  ((ye x34).bind fun r35 =>
   (inR r35 24).bind fun k36 =>
   (x.2.2.1[k36]?).bind fun x37 =>
   cond (x37==0)
   ((ye x34).bind fun r38 =>
    (inR r38 24).bind fun k39 =>
    (x.2.2.1[k39]?).bind fun x40 =>
    (ye x34).bind fun r41 =>
    (inR r41 24).bind fun k42 =>
    ((List.set x.2.2.1 k39 (IntKind.wrap .i64 (x.2.2.2.1+1)))[k42]?).bind fun x43 =>
    (inR x.2.1 (List.length x.2.2.2.2)).bind fun k44 =>
    (x.2.2.2.2[k44]?).bind fun x45 =>
    rec (x.1,(IntKind.wrap .i64 (x.2.1+1)),(List.set x.2.2.1 k39 (IntKind.wrap .i64 (x.2.2.2.1+1))),(IntKind.wrap .i64 (x.2.2.2.1+1)),(List.set x.2.2.2.2 k44 (zEg .i64 x43))))
   ((ye x34).bind fun r46 =>
    (inR r46 24).bind fun k47 =>
    (x.2.2.1[k47]?).bind fun x48 =>
    (inR x.2.1 (List.length x.2.2.2.2)).bind fun k49 =>
    (x.2.2.2.2[k49]?).bind fun x50 =>
    rec (x.1,(IntKind.wrap .i64 (x.2.1+1)),x.2.2.1,x.2.2.2.1,(List.set x.2.2.2.2 k49 (zEg .i64 x48))))))
 (some (x.2.2.1,x.2.2.2.1,x.2.2.2.2))
def yP (a0:jI) (a1:jI) (a2:Int):Option (jI×jI×Int) :=
 (zcH a0).bind fun r52 =>
 ((lp yV zd) (((List.length r52:Nat):Int),0,a1,a2,r52)).bind fun r53 =>
 cond (Nat.beq (List.length a1) (List.length r53.1)&&true)
 (some (r53.2.2,r53.1,r53.2.1))
 (none)
def za0 (rec:(jQ×Int×Int×jI×Int×jQ×jR×jQ)→Option (jI×Int×jQ×jR×jQ)) (x:(jQ×Int×Int×jI×Int×jQ×jR×jQ)):Option (jI×Int×jQ×jR×jQ) :=
 cond (decide (x.2.2.1<x.2.1))
 ((gx x.1 x.2.2.1).bind fun e19 =>
  (yP e19.2 x.2.2.2.1 x.2.2.2.2.1).bind fun r20 =>
  cond (yQ (List.length x.2.2.2.2.2.2.2+List.length ([(e19.1,r20.1)]:List zc)) 32)
  (rec (x.1,x.2.1,(IntKind.wrap .i64 (x.2.2.1+1)),r20.2.1,r20.2.2,x.2.2.2.2.2.1,x.2.2.2.2.2.2.1,(x.2.2.2.2.2.2.2++([(e19.1,r20.1)]:List zc))))
  (none))
 (some (x.2.2.2.1,x.2.2.2.2.1,x.2.2.2.2.2.1,x.2.2.2.2.2.2.1,x.2.2.2.2.2.2.2))
def za7 (rec:(jR×Int×Int×jI×Int×jQ×jR×jQ×jQ×jR)→Option (jI×Int×jQ×jR)) (x:(jR×Int×Int×jI×Int×jQ×jR×jQ×jQ×jR)):Option (jI×Int×jQ×jR) :=
 cond (decide (x.2.2.1<x.2.1))
 ((gx x.1 x.2.2.1).bind fun e12 =>
  (yP e12 x.2.2.2.1 x.2.2.2.2.1).bind fun r13 =>
  cond (yQ (List.length x.2.2.2.2.2.2.2.2.2+List.length ([r13.1]:List jI)) 24)
  (rec (x.1,x.2.1,(IntKind.wrap .i64 (x.2.2.1+1)),r13.2.1,r13.2.2,x.2.2.2.2.2.1,x.2.2.2.2.2.2.1,x.2.2.2.2.2.2.2.1,x.2.2.2.2.2.2.2.2.1,(x.2.2.2.2.2.2.2.2.2++([r13.1]:List jI))))
  (none))
 (some (x.2.2.2.1,x.2.2.2.2.1,x.2.2.2.2.2.2.2.2.1,x.2.2.2.2.2.2.2.2.2))
def za1 (rec:(jQ×Int×Int×jI×Int×jQ×jR×jQ×jQ)→Option (jI×Int×jQ)) (x:(jQ×Int×Int×jI×Int×jQ×jR×jQ×jQ)):Option (jI×Int×jQ) :=
 cond (decide (x.2.2.1<x.2.1))
 ((gx x.1 x.2.2.1).bind fun e5 =>
  (yP e5.2 x.2.2.2.1 x.2.2.2.2.1).bind fun r6 =>
  cond (yQ (List.length x.2.2.2.2.2.2.2.2+List.length ([(e5.1,r6.1)]:List zc)) 32)
  (rec (x.1,x.2.1,(IntKind.wrap .i64 (x.2.2.1+1)),r6.2.1,r6.2.2,x.2.2.2.2.2.1,x.2.2.2.2.2.2.1,x.2.2.2.2.2.2.2.1,(x.2.2.2.2.2.2.2.2++([(e5.1,r6.1)]:List zc))))
  (none))
 (some (x.2.2.2.1,x.2.2.2.2.1,x.2.2.2.2.2.2.2.2))
def zhw (a0:jQ) (a1:jR) (a2:jQ) (a3:jI) (a4:Int):Option (jQ×jR×jQ×jI×Int) :=
 ((lp za1 zd) (a0,((List.length a0:Nat):Int),0,a3,a4,a0,a1,a2,([]:jQ))).bind fun r22 =>
 ((lp za7 zd) (a1,((List.length a1:Nat):Int),0,r22.1,r22.2.1,a0,a1,a2,r22.2.2,([]:jR))).bind fun r23 =>
 ((lp za0 zd) (a2,((List.length a2:Nat):Int),0,r23.1,r23.2.1,r23.2.2.1,r23.2.2.2,([]:jQ))).bind fun r24 =>
 cond (Nat.beq (List.length a3) (List.length r24.1)&&true)
 (some (r24.2.2.1,r24.2.2.2.1,r24.2.2.2.2,r24.1,r24.2.1))
 (none)
def zcm (rec:(jR×Int×Int×jQ×jQ×jR)→Option (jQ×jQ×jR)) (x:(jR×Int×Int×jQ×jQ×jR)):Option (jQ×jQ×jR) :=
 cond (decide (x.2.2.1<x.2.1))
 ((gx x.1 x.2.2.1).bind fun e7 =>
  (qP x.2.2.2.2.2 e7).bind fun r8 =>
  cond (!r8)
  (cond (yQ (List.length x.2.2.2.2.2+List.length ([e7]:List jI)) 24)
   (rec (x.1,x.2.1,(IntKind.wrap .i64 (x.2.2.1+1)),x.2.2.2.1,x.2.2.2.2.1,(x.2.2.2.2.2++([e7]:List jI))))
   (none))
  (rec (x.1,x.2.1,(IntKind.wrap .i64 (x.2.2.1+1)),x.2.2.2.1,x.2.2.2.2.1,x.2.2.2.2.2)))
 (some (x.2.2.2.1,x.2.2.2.2.1,x.2.2.2.2.2))
def zhu (a0:jQ) (a1:jR) (a2:jQ):Option (jQ×jR×jQ) :=
 (zfK a0).bind fun r11 =>
 (zfK a2).bind fun r12 =>
 ((lp zcm zd) (a1,((List.length a1:Nat):Int),0,r11,r12,([]:jR))).bind fun r13 =>
 (zhw r13.1 r13.2.2 r13.2.1 (List.replicate 24 (0:Int)) 0).bind fun r14 =>
 some (r14.1,r14.2.1,r14.2.2.1)
def zdt (a0:jS) (a1:jQ) (a2:jR) (a3:jQ):Option (jQ×jR×Int×jQ) :=
 (zaf a0 a1 a2 a3).bind fun r3 =>
 cond (!r3)
 (some (([]:jQ),([]:jR),800,([]:jQ)))
 ((zhu a1 a2 a3).bind fun r4 =>
  some (r4.1,r4.2.1,0,r4.2.2))
def zcO (rec:(jS×jI×Int×jR)→Option (jR⊕jR)) (x:(jS×jI×Int×jR)):Option (jR⊕jR) :=
 cond (decide (x.2.2.1<((List.length x.2.1:Nat):Int)))
 ((zdK x.1 x.2.1 x.2.2.1).bind fun r5 =>
  cond (!r5.2)
  (some (Sum.inr x.2.2.2))
  ((zcD x.2.1 (some x.2.2.1) (some r5.1)).bind fun y6 =>
   cond (yQ (List.length x.2.2.2+List.length ([y6]:List jI)) 24)
   (rec (x.1,x.2.1,r5.1,(x.2.2.2++([y6]:List jI))))
   (none)))
 (some (Sum.inl x.2.2.2))
def zbN (a0:jS) (a1:jI):Option jR :=
 ((lp zcO zd) (a0,a1,0,([]:jR))).bind fun r10 =>
 z6 r10
 (fun z11=>some z11)
 (fun z12=>some z12)
def zdq (a0:Int):Option Int :=
 some a0
def za3 (rec:(jI×jI×Int)→Option (Unit⊕Bool)) (x:(jI×jI×Int)):Option (Unit⊕Bool) :=
 cond (decide (x.2.2<((List.length x.1:Nat):Int)))
 ((gx x.1 x.2.2).bind fun e3 =>
  (gx x.2.1 x.2.2).bind fun e4 =>
  cond (e3 != e4)
  (some (Sum.inr false))
  (rec (x.1,x.2.1,(IntKind.wrap .i64 (x.2.2+1)))))
 (some (Sum.inl ()))
def zbR (a0:jI) (a1:jI):Option Bool :=
 cond (((List.length a0:Nat):Int) != ((List.length a1:Nat):Int))
 (some false)
 (((lp za3 zd) (a0,a1,0)).bind fun r8 =>
  z6 r8
  (fun z9=>some true)
  (fun z10=>some z10))
def zaY (rec:(jQ×jQ×Int)→Option (Unit⊕Bool)) (x:(jQ×jQ×Int)):Option (Unit⊕Bool) :=
 cond (decide (x.2.2<((List.length x.1:Nat):Int)))
 ((gx x.1 x.2.2).bind fun e6 =>
  (gx x.2.1 x.2.2).bind fun e7 =>
  cond (!(e6.1==e7.1))
  (some (Sum.inr false))
  ((gx x.1 x.2.2).bind fun e8 =>
   (gx x.2.1 x.2.2).bind fun e9 =>
   (zbR e8.2 e9.2).bind fun r10 =>
   cond (!r10)
   (some (Sum.inr false))
   (rec (x.1,x.2.1,(IntKind.wrap .i64 (x.2.2+1))))))
 (some (Sum.inl ()))
def zdD (a0:jQ) (a1:jQ):Option Bool :=
 cond (((List.length a0:Nat):Int) != ((List.length a1:Nat):Int))
 (some false)
 (((lp zaY zd) (a0,a1,0)).bind fun r14 =>
  z6 r14
  (fun z15=>some true)
  (fun z16=>some z16))
def zaW (rec:(jR×jR×Int)→Option (Unit⊕Bool)) (x:(jR×jR×Int)):Option (Unit⊕Bool) :=
 cond (decide (x.2.2<((List.length x.1:Nat):Int)))
 ((gx x.1 x.2.2).bind fun e4 =>
  (gx x.2.1 x.2.2).bind fun e5 =>
  (zbR e4 e5).bind fun r6 =>
  cond (!r6)
  (some (Sum.inr false))
  (rec (x.1,x.2.1,(IntKind.wrap .i64 (x.2.2+1)))))
 (some (Sum.inl ()))
def zeY (a0:jR) (a1:jR):Option Bool :=
 cond (((List.length a0:Nat):Int) != ((List.length a1:Nat):Int))
 (some false)
 (((lp zaW zd) (a0,a1,0)).bind fun r10 =>
  z6 r10
  (fun z11=>some true)
  (fun z12=>some z12))
def qZ (a0:jQ) (a1:jR) (a2:jQ) (a3:jQ) (a4:jR) (a5:jQ):Option Bool :=
 (zdD a0 a3).bind fun r4 =>
 cond r4
 ((zeY a1 a4).bind fun r5 =>
  cond r5
  ((zdD a2 a5).bind fun r6 =>
   some r6)
  (some false))
 (some false)
end Go.Abs.Q
namespace Go.Abs.Q
open Go Go.Abs
section
theorem zj {X Y:Type} (s:(X→Option Y)→X→Option Y) (k:Nat):lp s (k+1)=s (lp s k):=rfl
theorem yx {α:Type} (xs:List α) (i:Nat):gx xs (i:Int)=xs[i]? := by
 unfold gx
 rw[show decide ((0:Int)≤(i:Int))=true from by simp]
 rfl
theorem qf {α:Type} (xs:List α):gx xs 0=xs[0]? := yx xs 0
theorem zkn {α:Type} {xs:List α} {i:Int} (h0:0≤i) (h:i<xs.length):∃ x,gx xs i=some x∧x∈xs∧xs[i.toNat]? = some x:=by
 have hi:i.toNat<xs.length:=by omega
 refine ⟨xs[i.toNat],?_,List.getElem_mem hi,List.getElem?_eq_getElem hi⟩
 unfold gx
 rw[show decide ((0:Int)≤i)=true from by simp; omega,cond_true,List.getElem?_eq_getElem hi]
theorem yB {i l:Nat} (h:i<l):inR (i:Int) l=some i:=by
 unfold inR
 simp [h]
theorem zp {n:Int} (h1 : -9223372036854775808≤n) (h2:n≤9223372036854775807):IntKind.wrap .i64 n=n:=by
 simp [IntKind.wrap,IntKind.signed,IntKind.bits]
 omega
theorem zbn {i l:Nat} (h:i<l) (hl:l≤maxLen):IntKind.wrap .i64 ((i:Int)+1)=((i+1:Nat):Int):=by
 unfold maxLen at hl
 rw[zp]<;>omega
theorem zbC {i l:Nat} (h:i<l):decide ((i:Int)<(l:Int))=true:=by simp [h]
theorem zaq {i l:Nat} (h:l≤i):decide ((i:Int)<(l:Int))=false:=by simp; omega
theorem yd {α:Type} {xs:List α} {i:Nat} (h:xs.drop i=[]):xs.length≤i:=by simpa using h
theorem zD {α:Type} {xs es:List α} {e:α} {i:Nat} (h:xs.drop i=e::es):i<xs.length:=by
 rw[← Nat.not_le]
 intro hn
 rw[List.drop_eq_nil_iff.2 hn] at h
 cases h
theorem zh {α:Type} {xs es:List α} {e:α} {i:Nat} (h:xs.drop i=e::es):xs[i]? = some e:=by
 have:=congrArg (·[0]?) h
 simpa using this
theorem ze {α:Type} {xs es:List α} {e:α} {i:Nat} (h:xs.drop i=e::es):xs.drop (i+1)=es:=by
 rw[← List.drop_drop,h]
 rfl
end
end Go.Abs.Q
namespace Go.Abs.Q
open Go Go.Abs
theorem zdO {A R T:Type} {xs:List A} (f:(T→Option R)→T→Option R) (mk:Int→T) (go:List A→Nat→Option R) (hl:List.length xs≤maxLen)
  (h0:∀(r:T→Option R) (i:Nat),decide ((i:Int)<((List.length xs:Nat):Int))=false→f r (mk (i:Int))=go [] i)
  (h1:∀(r:T→Option R) (i:Nat) e es,decide ((i:Int)<((List.length xs:Nat):Int))=true→gx xs (i:Int)=some e→IntKind.wrap .i64 ((i:Int)+1)=((i+1:Nat):Int)→(r (mk ((i+1:Nat):Int))=go es (i+1))→f r (mk (i:Int))=go (e::es) i)
   : lp f zd (mk 0)=go xs 0:=by
 have key:∀(es:List A) (i k:Nat),xs.drop i=es→es.length<k→lp f k (mk (i:Int))=go es i:=by
  intro es
  induction es with
  | nil =>
   intro i k h hk
   obtain⟨k,rfl⟩:∃ k',k=k'+1:=⟨k - 1,by omega⟩
   exact h0 _ i (zaq (yd h))
  | cons e es ih =>
   intro i k h hk
   obtain⟨k,rfl⟩:∃ k',k=k'+1:=⟨k - 1,by omega⟩
   have hi:=zD h
   exact h1 _ i e es (zbC hi) ((yx xs i).trans (zh h)) (zbn hi hl) (ih (i+1) k (ze h) (Nat.lt_of_succ_lt_succ hk))
 exact key xs 0 zd rfl (Nat.lt_of_le_of_lt hl (by decide))
theorem zaT {A S0 R T:Type} {xs:List A} (f:(T→Option R)→T→Option R) (mk:Int→S0→T) (go:List A→Nat→S0→Option R) (hl:List.length xs≤maxLen)
  (h0:∀(r:T→Option R) (i:Nat) s0,decide ((i:Int)<((List.length xs:Nat):Int))=false→f r (mk (i:Int) s0)=go [] i s0)
  (h1:∀(r:T→Option R) (i:Nat) s0 e es,decide ((i:Int)<((List.length xs:Nat):Int))=true→gx xs (i:Int)=some e→IntKind.wrap .i64 ((i:Int)+1)=((i+1:Nat):Int)→(∀ s0,r (mk ((i+1:Nat):Int) s0)=go es (i+1) s0)→f r (mk (i:Int) s0)=go (e::es) i s0)
  (s0:S0):lp f zd (mk 0 s0)=go xs 0 s0:=by
 have key:∀(es:List A) (i k:Nat) s0,xs.drop i=es→es.length<k→lp f k (mk (i:Int) s0)=go es i s0:=by
  intro es
  induction es with
  | nil =>
   intro i k s0 h hk
   obtain⟨k,rfl⟩:∃ k',k=k'+1:=⟨k - 1,by omega⟩
   exact h0 _ i s0 (zaq (yd h))
  | cons e es ih =>
   intro i k s0 h hk
   obtain⟨k,rfl⟩:∃ k',k=k'+1:=⟨k - 1,by omega⟩
   have hi:=zD h
   exact h1 _ i s0 e es (zbC hi) ((yx xs i).trans (zh h)) (zbn hi hl) (fun s0=>ih (i+1) k s0 (ze h) (Nat.lt_of_succ_lt_succ hk))
 exact key xs 0 zd s0 rfl (Nat.lt_of_le_of_lt hl (by decide))
theorem zGI {A S0 S1 R T:Type} {xs:List A} (f:(T→Option R)→T→Option R) (mk:Int→S0→S1→T) (go:List A→Nat→S0→S1→Option R) (hl:List.length xs≤maxLen)
  (h0:∀(r:T→Option R) (i:Nat) s0 s1,decide ((i:Int)<((List.length xs:Nat):Int))=false→f r (mk (i:Int) s0 s1)=go [] i s0 s1)
  (h1:∀(r:T→Option R) (i:Nat) s0 s1 e es,decide ((i:Int)<((List.length xs:Nat):Int))=true→gx xs (i:Int)=some e→IntKind.wrap .i64 ((i:Int)+1)=((i+1:Nat):Int)→(∀ s0 s1,r (mk ((i+1:Nat):Int) s0 s1)=go es (i+1) s0 s1)→f r (mk (i:Int) s0 s1)=go (e::es) i s0 s1)
  (s0:S0) (s1:S1):lp f zd (mk 0 s0 s1)=go xs 0 s0 s1:=by
 have key:∀(es:List A) (i k:Nat) s0 s1,xs.drop i=es→es.length<k→lp f k (mk (i:Int) s0 s1)=go es i s0 s1:=by
  intro es
  induction es with
  | nil =>
   intro i k s0 s1 h hk
   obtain⟨k,rfl⟩:∃ k',k=k'+1:=⟨k - 1,by omega⟩
   exact h0 _ i s0 s1 (zaq (yd h))
  | cons e es ih =>
   intro i k s0 s1 h hk
   obtain⟨k,rfl⟩:∃ k',k=k'+1:=⟨k - 1,by omega⟩
   have hi:=zD h
   exact h1 _ i s0 s1 e es (zbC hi) ((yx xs i).trans (zh h)) (zbn hi hl) (fun s0 s1=>ih (i+1) k s0 s1 (ze h) (Nat.lt_of_succ_lt_succ hk))
 exact key xs 0 zd s0 s1 rfl (Nat.lt_of_le_of_lt hl (by decide))
theorem zAX {A S0 S1 S2 R T:Type} {xs:List A} (f:(T→Option R)→T→Option R) (mk:Int→S0→S1→S2→T) (go:List A→Nat→S0→S1→S2→Option R) (hl:List.length xs≤maxLen)
  (h0:∀(r:T→Option R) (i:Nat) s0 s1 s2,decide ((i:Int)<((List.length xs:Nat):Int))=false→f r (mk (i:Int) s0 s1 s2)=go [] i s0 s1 s2)
  (h1:∀(r:T→Option R) (i:Nat) s0 s1 s2 e es,decide ((i:Int)<((List.length xs:Nat):Int))=true→gx xs (i:Int)=some e→IntKind.wrap .i64 ((i:Int)+1)=((i+1:Nat):Int)→(∀ s0 s1 s2,r (mk ((i+1:Nat):Int) s0 s1 s2)=go es (i+1) s0 s1 s2)→f r (mk (i:Int) s0 s1 s2)=go (e::es) i s0 s1 s2)
  (s0:S0) (s1:S1) (s2:S2):lp f zd (mk 0 s0 s1 s2)=go xs 0 s0 s1 s2:=by
 have key:∀(es:List A) (i k:Nat) s0 s1 s2,xs.drop i=es→es.length<k→lp f k (mk (i:Int) s0 s1 s2)=go es i s0 s1 s2:=by
  intro es
  induction es with
  | nil =>
   intro i k s0 s1 s2 h hk
   obtain⟨k,rfl⟩:∃ k',k=k'+1:=⟨k - 1,by omega⟩
   exact h0 _ i s0 s1 s2 (zaq (yd h))
  | cons e es ih =>
   intro i k s0 s1 s2 h hk
   obtain⟨k,rfl⟩:∃ k',k=k'+1:=⟨k - 1,by omega⟩
   have hi:=zD h
   exact h1 _ i s0 s1 s2 e es (zbC hi) ((yx xs i).trans (zh h)) (zbn hi hl) (fun s0 s1 s2=>ih (i+1) k s0 s1 s2 (ze h) (Nat.lt_of_succ_lt_succ hk))
 exact key xs 0 zd s0 s1 s2 rfl (Nat.lt_of_le_of_lt hl (by decide))
end Go.Abs.Q
namespace Go.Abs.Q
open Go Go.Abs
def ya:List UInt8→Option (Unit⊕Bool)
 | []=>some (Sum.inl ())
 | e::es =>
  (zfi ((UInt8.toNat e:Nat):Int)).bind fun r8 =>
  cond (!r8)
  (cond (decide (((UInt8.toNat e:Nat):Int)<48))
   (some (Sum.inr false))
   (cond (decide (((UInt8.toNat e:Nat):Int)>57))
    (some (Sum.inr false))
    (ya es)))
  (ya es)
theorem zit (s0:Str) (hl:List.length s0≤maxLen):lp zcf zd (s0,((List.length s0:Nat):Int),0)=ya s0:=zdO zcf (fun i=>(s0,((List.length s0:Nat):Int),i)) (fun es i=>ya es) hl (fun r i h=>by unfold zcf ya; simp only[h,cond_false]) (fun r i e es h g w k=>by unfold zcf ya; simp only[h,cond_true,g,Option.bind_some,w,k])
def qp (s1:Str):List zi→Nat→Option (Unit⊕Int)
 | [],i=>some (Sum.inl ())
 | e::es,i =>
  cond (e.1==s1)
  (some (Sum.inr (i:Int)))
  (qp s1 es (i+1))
theorem zjK (s0:jS) (s1:Str) (hl:List.length s0≤maxLen):lp zdd zd (s0,s1,((List.length s0:Nat):Int),0)=qp s1 s0 0:=zdO zdd (fun i=>(s0,s1,((List.length s0:Nat):Int),i)) (fun es i=>qp s1 es i) hl (fun r i h=>by unfold zdd qp; simp only[h,cond_false]) (fun r i e es h g w k=>by unfold zdd qp; simp only[h,cond_true,g,Option.bind_some,w,k])
def zch (s0:jS):List zi→Nat→Option (Unit⊕Bool)
 | [],i=>some (Sum.inl ())
 | e::es,i =>
  (zfD e.1 e.2.1 e.2.2.1 e.2.2.2).bind fun r7 =>
  cond (!r7)
  (some (Sum.inr false))
  ((zid s0 e.1).bind fun r9 =>
   cond (r9 != (i:Int))
   (some (Sum.inr false))
   (zch s0 es (i+1)))
theorem zkJ (s0:jS) (hl:List.length s0≤maxLen):∀(es:List zi) (i:Nat) (k:Nat),s0.drop i=es→es.length<k→lp zc8 k (s0,(i:Int))=zch s0 es i:=by
 intro es
 induction es with
 | nil =>
  intro i k h hk
  obtain⟨k,rfl⟩:∃ k',k=k'+1:=⟨k - 1,by omega⟩
  rw[zj]
  generalize lp zc8 k=rec
  unfold zc8 zch
  simp only[zaq (yd h),cond_false]
 | cons e es ih =>
  intro i k h hk
  obtain⟨k,rfl⟩:∃ k',k=k'+1:=⟨k - 1,by omega⟩
  rw[zj]
  have hi:=zD h
  have hk2:es.length<k:=Nat.lt_of_succ_lt_succ hk
  have key:=fun (_:Unit)=>ih (i+1) k (ze h) hk2
  generalize lp zc8 k=rec at key ⊢
  unfold zc8 zch
  simp only[zbC hi,cond_true,yx,zh h,Option.bind_some,zbn hi hl,key ()]
def yb (s0:jS):List zc→Int→Option (Int⊕(Int×Bool))
 | [],s1=>some (Sum.inl s1)
 | e::es,s1 =>
  (zg3 s0 e.1 e.2).bind fun r4 =>
  cond (!r4)
  (some (Sum.inr (0,false)))
  (yb s0 es (IntKind.wrap .i64 (s1+((List.length e.2:Nat):Int))))
theorem zgs (s0:jS) (s2:jQ) (s1:Int) (hl:List.length s2≤maxLen):lp zaB zd (s0,s1,s2,((List.length s2:Nat):Int),0)=yb s0 s2 s1:=zaT zaB (fun i s1=>(s0,s1,s2,((List.length s2:Nat):Int),i)) (fun es i s1=>yb s0 es s1) hl (fun r i s1 h=>by unfold zaB yb; simp only[h,cond_false]) (fun r i s1 e es h g w k=>by unfold zaB yb; simp only[h,cond_true,g,Option.bind_some,w,k]) s1
def zG (s0:jS):List jI→Nat→Int→Int→Option (Int⊕(Int×Bool))
 | [],i,s1,s2=>some (Sum.inl s1)
 | e::es,i,s1,s2 =>
  (zhr s0 e).bind fun r4 =>
  cond ((i:Int)==0)
  (cond (r4.2 != 0)
   (some (Sum.inr (0,false)))
   (cond (r4.1 != r4.1)
    (some (Sum.inr (0,false)))
    (zG s0 es (i+1) (IntKind.wrap .i64 (s1+((List.length e:Nat):Int))) r4.1)))
  (cond (r4.2 != 0)
   (some (Sum.inr (0,false)))
   (cond (r4.1 != s2)
    (some (Sum.inr (0,false)))
    (zG s0 es (i+1) (IntKind.wrap .i64 (s1+((List.length e:Nat):Int))) s2)))
theorem zgz (s0:jS) (s3:jR) (s1:Int) (s2:Int) (hl:List.length s3≤maxLen):lp zax zd (s0,s1,s2,s3,((List.length s3:Nat):Int),0)=zG s0 s3 0 s1 s2:=zGI zax (fun i s1 s2=>(s0,s1,s2,s3,((List.length s3:Nat):Int),i)) (fun es i s1 s2=>zG s0 es i s1 s2) hl (fun r i s1 s2 h=>by unfold zax zG; simp only[h,cond_false]) (fun r i s1 s2 e es h g w k=>by unfold zax zG; simp only[h,cond_true,g,Option.bind_some,w,k]) s1 s2
def qn (s1:jI):List Int→Nat→Option (Unit⊕Bool)
 | [],i=>some (Sum.inl ())
 | e::es,i =>
  (gx s1 (i:Int)).bind fun e4 =>
  cond (e != e4)
  (some (Sum.inr false))
  (qn s1 es (i+1))
theorem zhO (s0:jI) (s1:jI) (hl:List.length s0≤maxLen):lp zbx zd (s0,s1,((List.length s0:Nat):Int),0)=qn s1 s0 0:=zdO zbx (fun i=>(s0,s1,((List.length s0:Nat):Int),i)) (fun es i=>qn s1 es i) hl (fun r i h=>by unfold zbx qn; simp only[h,cond_false]) (fun r i e es h g w k=>by unfold zbx qn; simp only[h,cond_true,g,Option.bind_some,w,k])
def yf (s3:Bool) (s4:jI):List zc→Nat→Option (Unit⊕Int)
 | [],i=>some (Sum.inl ())
 | e::es,i =>
  (zef e.1 e.2 s3 s4).bind fun r4 =>
  cond r4
  (some (Sum.inr (i:Int)))
  (yf s3 s4 es (i+1))
theorem zfP (s0:jQ) (s3:Bool) (s4:jI) (hl:List.length s0≤maxLen):lp qG zd (s0,((List.length s0:Nat):Int),0,s3,s4)=yf s3 s4 s0 0:=zdO qG (fun i=>(s0,((List.length s0:Nat):Int),i,s3,s4)) (fun es i=>yf s3 s4 es i) hl (fun r i h=>by unfold qG yf; simp only[h,cond_false]) (fun r i e es h g w k=>by unfold qG yf; simp only[h,cond_true,g,Option.bind_some,w,k])
def qb:List zc→jQ→Option jQ
 | [],s3=>some s3
 | e::es,s3 =>
  (zaL s3 e.1 e.2).bind fun r6 =>
  cond (!r6)
  (cond (yQ (List.length s3+List.length ([(e.1,e.2)]:List zc)) 32)
   (qb es (s3++([(e.1,e.2)]:List zc)))
   (none))
  (qb es s3)
theorem zhY (s0:jQ) (s3:jQ) (hl:List.length s0≤maxLen):lp zcl zd (s0,((List.length s0:Nat):Int),0,s3)=qb s0 s3:=zaT zcl (fun i s3=>(s0,((List.length s0:Nat):Int),i,s3)) (fun es i s3=>qb es s3) hl (fun r i s3 h=>by unfold zcl qb; simp only[h,cond_false]) (fun r i s3 e es h g w k=>by unfold zcl qb; simp only[h,cond_true,g,Option.bind_some,w,k]) s3
def zT (s3:jI):List jI→Nat→Option (Unit⊕Int)
 | [],i=>some (Sum.inl ())
 | e::es,i =>
  (zeh e s3).bind fun r4 =>
  cond r4
  (some (Sum.inr (i:Int)))
  (zT s3 es (i+1))
theorem zeV (s0:jR) (s3:jI) (hl:List.length s0≤maxLen):lp qe zd (s0,((List.length s0:Nat):Int),0,s3)=zT s3 s0 0:=zdO qe (fun i=>(s0,((List.length s0:Nat):Int),i,s3)) (fun es i=>zT s3 es i) hl (fun r i h=>by unfold qe zT; simp only[h,cond_false]) (fun r i e es h g w k=>by unfold qe zT; simp only[h,cond_true,g,Option.bind_some,w,k])
def yt (s5:jQ) (s6:jR):List zc→jI→Int→jQ→Option (jI×Int×jQ×jR×jQ)
 | [],s3,s4,s7=>some (s3,s4,s5,s6,s7)
 | e::es,s3,s4,s7 =>
  (yP e.2 s3 s4).bind fun r20 =>
  cond (yQ (List.length s7+List.length ([(e.1,r20.1)]:List zc)) 32)
  (yt s5 s6 es r20.2.1 r20.2.2 (s7++([(e.1,r20.1)]:List zc)))
  (none)
theorem zgQ (s0:jQ) (s5:jQ) (s6:jR) (s3:jI) (s4:Int) (s7:jQ) (hl:List.length s0≤maxLen):lp za0 zd (s0,((List.length s0:Nat):Int),0,s3,s4,s5,s6,s7)=yt s5 s6 s0 s3 s4 s7:=zAX za0 (fun i s3 s4 s7=>(s0,((List.length s0:Nat):Int),i,s3,s4,s5,s6,s7)) (fun es i s3 s4 s7=>yt s5 s6 es s3 s4 s7) hl (fun r i s3 s4 s7 h=>by unfold za0 yt; simp only[h,cond_false]) (fun r i s3 s4 s7 e es h g w k=>by unfold za0 yt; simp only[h,cond_true,g,Option.bind_some,w,k]) s3 s4 s7
def yv (s8:jQ):List jI→jI→Int→jR→Option (jI×Int×jQ×jR)
 | [],s3,s4,s9=>some (s3,s4,s8,s9)
 | e::es,s3,s4,s9 =>
  (yP e s3 s4).bind fun r13 =>
  cond (yQ (List.length s9+List.length ([r13.1]:List jI)) 24)
  (yv s8 es r13.2.1 r13.2.2 (s9++([r13.1]:List jI)))
  (none)
theorem zgR (s0:jR) (s5:jQ) (s6:jR) (s7:jQ) (s8:jQ) (s3:jI) (s4:Int) (s9:jR) (hl:List.length s0≤maxLen):lp za7 zd (s0,((List.length s0:Nat):Int),0,s3,s4,s5,s6,s7,s8,s9)=yv s8 s0 s3 s4 s9:=zAX za7 (fun i s3 s4 s9=>(s0,((List.length s0:Nat):Int),i,s3,s4,s5,s6,s7,s8,s9)) (fun es i s3 s4 s9=>yv s8 es s3 s4 s9) hl (fun r i s3 s4 s9 h=>by unfold za7 yv; simp only[h,cond_false]) (fun r i s3 s4 s9 e es h g w k=>by unfold za7 yv; simp only[h,cond_true,g,Option.bind_some,w,k]) s3 s4 s9
def yr:List zc→jI→Int→jQ→Option (jI×Int×jQ)
 | [],s3,s4,s8=>some (s3,s4,s8)
 | e::es,s3,s4,s8 =>
  (yP e.2 s3 s4).bind fun r6 =>
  cond (yQ (List.length s8+List.length ([(e.1,r6.1)]:List zc)) 32)
  (yr es r6.2.1 r6.2.2 (s8++([(e.1,r6.1)]:List zc)))
  (none)
theorem zhs (s0:jQ) (s5:jQ) (s6:jR) (s7:jQ) (s3:jI) (s4:Int) (s8:jQ) (hl:List.length s0≤maxLen):lp za1 zd (s0,((List.length s0:Nat):Int),0,s3,s4,s5,s6,s7,s8)=yr s0 s3 s4 s8:=zAX za1 (fun i s3 s4 s8=>(s0,((List.length s0:Nat):Int),i,s3,s4,s5,s6,s7,s8)) (fun es i s3 s4 s8=>yr es s3 s4 s8) hl (fun r i s3 s4 s8 h=>by unfold za1 yr; simp only[h,cond_false]) (fun r i s3 s4 s8 e es h g w k=>by unfold za1 yr; simp only[h,cond_true,g,Option.bind_some,w,k]) s3 s4 s8
def y9 (s3:jQ) (s4:jQ):List jI→jR→Option (jQ×jQ×jR)
 | [],s5=>some (s3,s4,s5)
 | e::es,s5 =>
  (qP s5 e).bind fun r8 =>
  cond (!r8)
  (cond (yQ (List.length s5+List.length ([e]:List jI)) 24)
   (y9 s3 s4 es (s5++([e]:List jI)))
   (none))
  (y9 s3 s4 es s5)
theorem zie (s0:jR) (s3:jQ) (s4:jQ) (s5:jR) (hl:List.length s0≤maxLen):lp zcm zd (s0,((List.length s0:Nat):Int),0,s3,s4,s5)=y9 s3 s4 s0 s5:=zaT zcm (fun i s5=>(s0,((List.length s0:Nat):Int),i,s3,s4,s5)) (fun es i s5=>y9 s3 s4 es s5) hl (fun r i s5 h=>by unfold zcm y9; simp only[h,cond_false]) (fun r i s5 e es h g w k=>by unfold zcm y9; simp only[h,cond_true,g,Option.bind_some,w,k]) s5
def yT (s1:jI):List Int→Nat→Option (Unit⊕Bool)
 | [],i=>some (Sum.inl ())
 | e::es,i =>
  (gx s1 (i:Int)).bind fun e4 =>
  cond (e != e4)
  (some (Sum.inr false))
  (yT s1 es (i+1))
theorem zg1 (s0:jI) (s1:jI) (hl:List.length s0≤maxLen):lp za3 zd (s0,s1,0)=yT s1 s0 0:=zdO za3 (fun i=>(s0,s1,i)) (fun es i=>yT s1 es i) hl (fun r i h=>by unfold za3 yT; simp only[h,cond_false]) (fun r i e es h g w k=>by unfold za3 yT; simp only[h,cond_true,g,Option.bind_some,w,k])
def yU (s1:jQ):List zc→Nat→Option (Unit⊕Bool)
 | [],i=>some (Sum.inl ())
 | e::es,i =>
  (gx s1 (i:Int)).bind fun e7 =>
  cond (!(e.1==e7.1))
  (some (Sum.inr false))
  ((gx s1 (i:Int)).bind fun e9 =>
   (zbR e.2 e9.2).bind fun r10 =>
   cond (!r10)
   (some (Sum.inr false))
   (yU s1 es (i+1)))
theorem zg4 (s0:jQ) (s1:jQ) (hl:List.length s0≤maxLen):lp zaY zd (s0,s1,0)=yU s1 s0 0:=zdO zaY (fun i=>(s0,s1,i)) (fun es i=>yU s1 es i) hl (fun r i h=>by unfold zaY yU; simp only[h,cond_false]) (fun r i e es h g w k=>by unfold zaY yU; simp only[h,cond_true,g,Option.bind_some,w,k])
def yR (s1:jR):List jI→Nat→Option (Unit⊕Bool)
 | [],i=>some (Sum.inl ())
 | e::es,i =>
  (gx s1 (i:Int)).bind fun e5 =>
  (zbR e e5).bind fun r6 =>
  cond (!r6)
  (some (Sum.inr false))
  (yR s1 es (i+1))
theorem zht (s0:jR) (s1:jR) (hl:List.length s0≤maxLen):lp zaW zd (s0,s1,0)=yR s1 s0 0:=zdO zaW (fun i=>(s0,s1,i)) (fun es i=>yR s1 es i) hl (fun r i h=>by unfold zaW yR; simp only[h,cond_false]) (fun r i e es h g w k=>by unfold zaW yR; simp only[h,cond_true,g,Option.bind_some,w,k])
end Go.Abs.Q
namespace Go.Abs.Q
open Go Go.Abs
section
def zkr (n:Int):Bool:=decide (97≤n)&&decide (n≤122)
theorem ze1 (n:Int):zfi n=some (zkr n):=by
 unfold zfi zkr
 by_cases h:n≥97<;>simp [h]
def zuk (e:UInt8):Bool:=zkr ((UInt8.toNat e:Nat):Int)||(decide (48≤((UInt8.toNat e:Nat):Int))&&decide (((UInt8.toNat e:Nat):Int)≤57))
theorem zqu (es:List UInt8):ya es=some (cond (es.all zuk) (.inl ()) (.inr false)):=by
 induction es with
 | nil=>rfl
 | cons e es ih =>
  unfold ya
  rw[ze1,Option.bind_some,ih,List.all_cons]
  unfold zuk
  cases h:zkr ((UInt8.toNat e:Nat):Int) with
  | true=>simp
  | false =>
   by_cases h1:((UInt8.toNat e:Nat):Int)<48
   ·have:¬(48≤((UInt8.toNat e:Nat):Int)):=by omega
    simp only[Bool.not_false,cond_true,decide_eq_true h1,decide_eq_false this,Bool.false_and,Bool.or_false,cond_false]
   ·have h3:48≤((UInt8.toNat e:Nat):Int):=by omega
    by_cases h2:((UInt8.toNat e:Nat):Int)>57
    ·have:¬(((UInt8.toNat e:Nat):Int)≤57):=by omega
     simp only[Bool.not_false,cond_true,decide_eq_false h1,decide_eq_true h2,decide_eq_false this,Bool.and_false,Bool.false_and,Bool.or_false,cond_false]
    ·have h4:((UInt8.toNat e:Nat):Int)≤57:=by omega
     simp only[Bool.not_false,cond_true,decide_eq_false h1,decide_eq_false h2,decide_eq_true h3,decide_eq_true h4,Bool.and_true,Bool.true_and,Bool.or_true,cond_false]
def zio (s:Str):Bool:=match s with
 | []=>false
 | c::_=>decide (s.length≤8)&&zkr ((UInt8.toNat c:Nat):Int)&&s.all zuk
theorem zny (s:Str):zhi s=some (zio s):=by
 unfold zhi zio
 cases s with
 | nil=>rfl
 | cons c r =>
  rw[show ((c::r:Str)==([]:Str))=false from rfl,cond_false]
  by_cases h:(c::r).length≤8
  ·have h1:¬(((List.length (c::r):Nat):Int)>8):=by omega
   rw[decide_eq_false h1,cond_false,qf,List.getElem?_cons_zero,Option.bind_some,ze1,Option.bind_some,zit _ (by unfold maxLen; omega),zqu,decide_eq_true h]
   dsimp only
   cases zkr ((UInt8.toNat c:Nat):Int) with
   | false=>rfl
   | true=>cases (c::r).all zuk<;>rfl
  ·have h1:((List.length (c::r):Nat):Int)>8:=by omega
   rw[decide_eq_true h1,decide_eq_false h]
   rfl
def zyh (e:zi):Bool:=zio e.1&&decide (0≤e.2.1)&&decide (e.2.1≤2)&&decide (0≤e.2.2.1)&&decide (e.2.2.1≤3)&&decide (1≤e.2.2.2)&&decide (e.2.2.2≤20)
theorem znD (e:zi):zfD e.1 e.2.1 e.2.2.1 e.2.2.2=some (zyh e):=by
 unfold zfD zyh
 rw[zny,Option.bind_some]
 cases zio e.1<;>simp only[cond_true,cond_false,Bool.true_and,Bool.false_and,ge_iff_le]
 cases decide (0≤e.2.1)<;>simp only[cond_true,cond_false,Bool.true_and,Bool.false_and]
 cases decide (e.2.1≤2)<;>simp only[cond_true,cond_false,Bool.true_and,Bool.false_and]
 cases decide (0≤e.2.2.1)<;>simp only[cond_true,cond_false,Bool.true_and,Bool.false_and]
 cases decide (e.2.2.1≤3)<;>simp only[cond_true,cond_false,Bool.true_and,Bool.false_and]
 cases decide (1≤e.2.2.2)<;>simp only[cond_true,cond_false,Bool.true_and,Bool.false_and]
def zA1 (o:Option Nat):Int:=match o with
 | some i=>(i:Int)
 | none => -1
theorem zvY (nm:Str) (es:List zi) (i:Nat):qp nm es i=some (match es.findIdx? (fun e=>e.1==nm) with
  | some j=>.inr ((i+j:Nat):Int)
  | none=>.inl ()):=by
 induction es generalizing i with
 | nil=>rfl
 | cons e es ih =>
  unfold qp
  rw[List.findIdx?_cons]
  cases h:(e.1==nm) with
  | true=>simp
  | false =>
   rw[cond_false,ih]
   cases es.findIdx? (fun e=>e.1==nm) with
   | none=>rfl
   | some j=>simp; omega
theorem zpH (a0:List zi) (nm:Str) (h:a0.length≤maxLen):zid a0 nm=some (zA1 (a0.findIdx? (fun e=>e.1==nm))):=by
 unfold zid
 rw[zjK _ _ h,zvY]
 cases a0.findIdx? (fun e=>e.1==nm) with
 | none=>rfl
 | some j=>simp [z6,zA1]
def zkS (a0:List zi):List zi→Nat→Bool
 | [],_=>true
 | e::es,i=>zyh e&&(zA1 (a0.findIdx? (fun d=>d.1==e.1))==(i:Int))&&zkS a0 es (i+1)
theorem zF9 (a0:List zi) (h:a0.length≤maxLen) (es:List zi) (i:Nat):zch a0 es i=some (cond (zkS a0 es i) (.inl ()) (.inr false)):=by
 induction es generalizing i with
 | nil=>rfl
 | cons e es ih =>
  unfold zch zkS
  rw[znD,Option.bind_some,zpH _ _ h,Option.bind_some,ih,bne]
  cases zyh e with
  | false=>rfl
  | true =>
   cases (zA1 (a0.findIdx? (fun d=>d.1==e.1))==(i:Int)) with
   | false=>rfl
   | true=>simp
def zr0:zi:=([61],0,2,1)
def eqQ (e:zi):Bool:=cond (eqS e.1 [61]) (cond (eqI e.2.1 0) (cond (eqI e.2.2.1 2) (cond (eqI e.2.2.2 1) true false) false) false) false
theorem zEK (e:zi):eqQ e=true↔e=zr0:=by
 obtain⟨a,b,c,d⟩:=e
 unfold eqQ zr0 eqS eqI
 cases h1:(a==([61]:List UInt8))<;>cases h2:(b==0)<;>cases h3:(c==2)<;>cases h4:(d==1)<;>simp_all
def zdp (a0:List zi):Bool:=match a0 with
 | []=>false
 | e::es=>decide (a0.length≤20)&&eqQ e&&zkS a0 es 1
theorem zjv (a0:List zi):ziM a0=some (zdp a0):=by
 unfold ziM zdp
 cases a0 with
 | nil=>rfl
 | cons e es =>
  rw[decide_eq_false (show ¬(((List.length (e::es):Nat):Int)<1) by rw[List.length_cons]; omega),cond_false]
  by_cases h:(e::es).length≤20
  ·have h1:¬(((List.length (e::es):Nat):Int)>20):=by omega
   have hm:(e::es).length≤maxLen:=by unfold maxLen; omega
   rw[decide_eq_false h1,cond_false,qf,List.getElem?_cons_zero,Option.bind_some,decide_eq_true h]
   show cond (!(eqQ e)) _ _=some (true&&eqQ e&&zkS (e::es) es 1)
   cases eqQ e with
   | false=>rfl
   | true =>
    have:=zkJ (e::es) hm es 1 zd rfl (by simp [zd]; simp at h; omega)
    simp only[Bool.not_true,cond_false]
    rw[show ((1:Int))=((1:Nat):Int) from rfl,this,zF9 _ hm]
    cases zkS (e::es) es 1<;>rfl
  ·have h1:((List.length (e::es):Nat):Int)>20:=by omega
   rw[decide_eq_true h1,decide_eq_false h]
   rfl
theorem ztb {a0:List zi}:{es:List zi}→{i:Nat}→zkS a0 es i=true→∀(j:Nat) e,es[j]? = some e→zyh e=true∧zA1 (a0.findIdx? (fun d=>d.1==e.1))=((i+j:Nat):Int)
 | [],_,_,j,e,he=>by simp at he
 | d::es,i,h,0,e,he=>by
  injection he with he; subst he
  simp only[zkS,Bool.and_eq_true] at h
  exact ⟨h.1.1,by simpa using h.1.2⟩
 | d::es,i,h,j+1,e,he=>by
  simp only[zkS,Bool.and_eq_true] at h
  have:=ztb h.2 j e (by simpa using he)
  exact ⟨this.1,by rw[this.2]; omega⟩
structure SignOk (a0:List zi):Prop where
 pos:1≤a0.length
 len:a0.length≤20
 eq:a0[0]? = some zr0
 sym:∀(i:Nat) e,a0[i+1]? = some e→zyh e=true∧zA1 (a0.findIdx? (fun d=>d.1==e.1))=((i+1:Nat):Int)
theorem zbW {a0:List zi} (h:zdp a0=true):SignOk a0:=by
 unfold zdp at h
 cases a0 with
 | nil=>cases h
 | cons e es =>
  simp only[Bool.and_eq_true,decide_eq_true_eq] at h
  exact ⟨by simp,h.1.1,by rw[List.getElem?_cons_zero,(zEK e).1 h.1.2],fun i d hd=>by
   have:=ztb h.2 i d (by simpa using hd)
   exact ⟨this.1,by rw[this.2]; omega⟩⟩
theorem SignOk.max {a0:List zi} (h:SignOk a0):a0.length≤maxLen:=Nat.le_trans h.len (by unfold maxLen; omega)
theorem zxu {e:zi} (h:zyh e=true):zio e.1=true∧0≤e.2.1∧e.2.1≤2∧0≤e.2.2.1∧e.2.2.1≤3∧1≤e.2.2.2∧e.2.2.2≤20:=by
 unfold zyh at h
 simp only[Bool.and_eq_true,decide_eq_true_eq] at h
 exact ⟨h.1.1.1.1.1.1,h.1.1.1.1.1.2,h.1.1.1.1.2,h.1.1.1.2,h.1.1.2,h.1.2,h.2⟩
theorem zrx {s:Str} (h:zio s=true):1≤s.length∧s.length≤8:=by
 unfold zio at h
 cases s with
 | nil=>cases h
 | cons c r =>
  simp only[Bool.and_eq_true,decide_eq_true_eq] at h
  exact ⟨by simp,h.1.1⟩
theorem SignOk.at {a0:List zi} (h:SignOk a0) {i:Nat} {e:zi} (he:a0[i]? = some e):1≤e.1.length∧e.1.length≤8∧0≤e.2.1∧e.2.1≤2∧0≤e.2.2.1∧e.2.2.1≤3:=by
 cases i with
 | zero =>
  rw[h.eq] at he
  injection he with he; subst he
  decide
 | succ i =>
  obtain⟨h1,h2,h3,h4,h5,_⟩:=zxu (h.sym i e he).1
  have:=zrx h1
  exact ⟨this.1,this.2,h2,h3,h4,h5⟩
def zc2 (a0:List zi) (x:Int):Option Nat :=
 cond (decide (x<0)) (cond (decide (-24≤x)) (some 0) none) (match a0[x.toNat]? with
  | some e=>cond (e.2.1==0) none (some e.2.2.1.toNat)
  | none=>none)
def nOk (o:Option Nat):Int×Bool:=match o with
 | some k=>((k:Int),true)
 | none=>(0,false)
theorem zbg {x:Int} (h1 : -9223372036854775808≤x) (h2:x≤9223372036854775807):ye x=some (-1 - x):=by
 unfold ye
 rw[zp]<;>omega
theorem zli {a0:List zi} (h:SignOk a0) (x:Int):ziu a0 x=some (nOk (zc2 a0 x)):=by
 unfold ziu zc2
 by_cases h0:x<0
 ·rw[decide_eq_true h0,cond_true,cond_true,zbg (by omega) (by omega),Option.bind_some]
  by_cases h1 : -24≤x
  ·rw[decide_eq_true h1,decide_eq_true (show x ≥ -1 - 23 by omega)]; rfl
  ·rw[decide_eq_false h1,decide_eq_false (show ¬(x ≥ -1 - 23) by omega)]; rfl
 ·rw[decide_eq_false h0,cond_false,cond_false]
  by_cases h1:x≥((List.length a0:Nat):Int)
  ·rw[decide_eq_true h1,cond_true,List.getElem?_eq_none (by omega)]; rfl
  ·obtain⟨e,he1,he2,he3⟩:=zkn (xs:=a0) (i:=x) (by omega) (by omega)
   have:=h.at he3
   rw[decide_eq_false h1,cond_false,he1,Option.bind_some,he3]
   cases he:(e.2.1==0) with
   | true=>simp only[he,cond_true]; rfl
   | false =>
    simp only[he,cond_false,Option.bind_some]
    unfold nOk
    simp only[Option.some.injEq,Prod.mk.injEq,and_true]
    omega
theorem zkA {a0:List zi} (h:SignOk a0) {x:Int} {k:Nat} (hk:zc2 a0 x=some k):k≤3:=by
 unfold zc2 at hk
 by_cases h0:x<0
 ·rw[decide_eq_true h0,cond_true] at hk
  by_cases h1 : -24≤x
  ·rw[decide_eq_true h1] at hk; injection hk with hk; omega
  ·rw[decide_eq_false h1] at hk; cases hk
 ·rw[decide_eq_false h0,cond_false] at hk
  cases he:a0[x.toNat]? with
  | none=>rw[he] at hk; cases hk
  | some e =>
   rw[he] at hk
   have:=h.at he
   simp only at hk
   cases hz:(e.2.1==0) with
   | true=>rw[hz] at hk; cases hk
   | false=>rw[hz] at hk; injection hk with hk; omega
def sk (a0:List zi):Nat→List Int→Option Nat
 | 0,_=>some 0
 | _+1,[]=>none
 | n+1,x::xs=>match zc2 a0 x with
  | none=>none
  | some k=>(sk a0 (n+k) xs).map (· + 1)
theorem zm5 {a0:List zi}:{xs:List Int}→{n k:Nat}→sk a0 n xs=some k→k≤xs.length∧(0<n→0<k)∧n≤k
 | [],0,k,h=>by simp [sk] at h; omega
 | [],n+1,k,h=>by simp [sk] at h
 | x::xs,0,k,h=>by simp [sk] at h; omega
 | x::xs,n+1,k,h=>by
  unfold sk at h
  cases ha:zc2 a0 x with
  | none=>rw[ha] at h; cases h
  | some m =>
   rw[ha] at h
   simp only[Option.map_eq_some_iff] at h
   obtain⟨j,hj,rfl⟩:=h
   have:=zm5 hj
   rw[List.length_cons]
   omega
theorem zuH {a0:List zi} (h:SignOk a0) (a1:List Int) (hl:a1.length≤1099511627776):∀(m i n:Nat) (k:Nat),a1.length - i=m→0<n→n≤1+3*i→m<k →
  lp zcB k (a0,a1,(i:Int),(n:Int))=some (match sk a0 n (a1.drop i) with
   | some j=>(((i+j:Nat):Int),true)
   | none=>(0,false)):=by
 intro m
 induction m with
 | zero =>
  intro i n k hm hn hni hk
  obtain⟨k,rfl⟩:∃ k',k=k'+1:=⟨k - 1,by omega⟩
  rw[zj]
  generalize lp zcB k=rec
  unfold zcB
  simp only[decide_eq_true (show ((i:Int)≥((List.length a1:Nat):Int)) by omega),cond_true,List.drop_eq_nil_iff.2 (show a1.length≤i by omega)]
  obtain⟨n,rfl⟩:∃ n',n=n'+1:=⟨n - 1,by omega⟩
  rfl
 | succ m ih =>
  intro i n k hm hn hni hk
  obtain⟨k,rfl⟩:∃ k',k=k'+1:=⟨k - 1,by omega⟩
  have hi:i<a1.length:=by omega
  rw[zj]
  have key:=fun n' h1 h2=>ih (i+1) n' k (by omega) h1 h2 (by omega)
  generalize lp zcB k=rec at key ⊢
  unfold zcB
  obtain⟨n,rfl⟩:∃ n',n=n'+1:=⟨n - 1,by omega⟩
  simp only[decide_eq_false (show ¬((i:Int)≥((List.length a1:Nat):Int)) by omega),cond_false,yx,List.getElem?_eq_getElem hi,Option.bind_some,zli h,List.drop_eq_getElem_cons hi,sk]
  cases ha:zc2 a0 a1[i] with
  | none=>simp [nOk]
  | some q =>
   have hq:=zkA h ha
   have e1:IntKind.wrap .i64 ((q:Int) - 1)=(q:Int) - 1:=zp (by omega) (by omega)
   have e2:IntKind.wrap .i64 (((n+1:Nat):Int)+((q:Int) - 1))=((n+q:Nat):Int):=by rw[zp]<;>omega
   have e3:IntKind.wrap .i64 ((i:Int)+1)=((i+1:Nat):Int):=by rw[zp]<;>omega
   simp only[nOk,Bool.not_true,cond_false,e1,e2,e3]
   by_cases hp:0<n+q
   ·rw[decide_eq_true (show ((n+q:Nat):Int)>0 by omega),cond_true,key _ hp (by omega)]
    cases sk a0 (n+q) (a1.drop (i+1)) with
    | none=>rfl
    | some j=>simp only[Option.map_some]; rw[show i+1+j=i+(j+1) from by omega]
   ·rw[decide_eq_false (show ¬(((n+q:Nat):Int)>0) by omega),cond_false]
    have:n+q=0:=by omega
    rw[this]
    simp [sk]
theorem zf7 {a0:List zi} (h:SignOk a0) (a1:List Int) (hl:a1.length≤1099511627776) (i:Nat):zdK a0 a1 (i:Int)=some (match sk a0 1 (a1.drop i) with
   | some j=>(((i+j:Nat):Int),true)
   | none=>(0,false)):=by
 unfold zdK
 by_cases hi:i<a1.length
 ·simp only[decide_eq_false (show ¬((i:Int)≥((List.length a1:Nat):Int)) by omega),cond_false,yx,List.getElem?_eq_getElem hi,Option.bind_some,zli h,List.drop_eq_getElem_cons hi,sk]
  cases ha:zc2 a0 a1[i] with
  | none=>simp [nOk]
  | some q =>
   have hq:=zkA h ha
   have e1:IntKind.wrap .i64 ((q:Int) - 1)=(q:Int) - 1:=zp (by omega) (by omega)
   have e2:IntKind.wrap .i64 (1+((q:Int) - 1))=((q:Nat):Int):=by rw[zp]<;>omega
   have e3:IntKind.wrap .i64 ((i:Int)+1)=((i+1:Nat):Int):=by rw[zp]<;>omega
   simp only[nOk,Bool.not_true,cond_false,e1,e2,e3]
   by_cases hp:0<q
   ·rw[decide_eq_true (show (q:Int)>0 by omega),cond_true,zuH h a1 hl (a1.length - (i+1)) (i+1) q zd rfl hp (by omega) (by unfold zd; omega),Nat.zero_add]
    cases sk a0 q (a1.drop (i+1)) with
    | none=>rfl
    | some j=>simp only[Option.map_some,Option.bind_some]; rw[show i+1+j=i+(j+1) from by omega]
   ·rw[decide_eq_false (show ¬((q:Int)>0) by omega),cond_false]
    have:q=0:=by omega
    subst this
    simp [sk]
 ·simp only[decide_eq_true (show ((i:Int)≥((List.length a1:Nat):Int)) by omega),cond_true,List.drop_eq_nil_iff.2 (show a1.length≤i by omega)]
  rfl
end
end Go.Abs.Q
namespace Go.Abs.Q
open Go Go.Abs
section
def zrZ (a0:List zi):Nat→List Int→Option jR
 | _,[]=>some []
 | 0,_::_=>none
 | n+1,x::xs=>match sk a0 1 (x::xs) with
  | none=>none
  | some k=>(zrZ a0 n ((x::xs).drop k)).map ((x::xs).take k :: ·)
def zlI (a0:List zi) (xs:List Int):Option jR:=zrZ a0 xs.length xs
theorem zoA {a0:List zi}:{n m:Nat}→{xs:List Int}→xs.length≤n→n≤m→zrZ a0 m xs=zrZ a0 n xs
 | n,m,[],_,_=>by cases n<;>cases m<;>rfl
 | 0,_,_::_,h,_=>by simp at h
 | n+1,0,_::_,_,h=>by omega
 | n+1,m+1,x::xs,h,hm=>by
  unfold zrZ
  cases hk:sk a0 1 (x::xs) with
  | none=>rfl
  | some k =>
   have:=zm5 hk
   simp only
   rw[zoA (n:=n) (m:=m) (by simp at h ⊢; omega) (by omega)]
theorem zlR (a0:List zi):zlI a0 []=some []:=rfl
theorem zeI {a0:List zi} {xs:List Int} (h:xs≠[]):zlI a0 xs=match sk a0 1 xs with
  | none=>none
  | some k=>(zlI a0 (xs.drop k)).map (xs.take k :: ·):=by
 cases xs with
 | nil=>exact absurd rfl h
 | cons x xs =>
  show zrZ a0 (xs.length+1) (x::xs)=_
  unfold zrZ
  cases hk:sk a0 1 (x::xs) with
  | none=>rfl
  | some k =>
   have:=zm5 hk
   simp only
   unfold zlI
   rw[zoA (n:=((x::xs).drop k).length) (m:=xs.length) (Nat.le_refl _) (by simp; omega)]
theorem zy9 {a0:List zi}:{xs:List Int}→{n k:Nat}→sk a0 n xs=some k→sk a0 n (xs.take k)=some k
 | [],0,k,h=>by simp [sk] at h; subst h; rfl
 | [],n+1,k,h=>by simp [sk] at h
 | x::xs,0,k,h=>by simp [sk] at h; subst h; rfl
 | x::xs,n+1,k,h=>by
  unfold sk at h
  cases ha:zc2 a0 x with
  | none=>rw[ha] at h; cases h
  | some m =>
   rw[ha] at h
   simp only[Option.map_eq_some_iff] at h
   obtain⟨j,hj,rfl⟩:=h
   rw[List.take_succ_cons]
   unfold sk
   rw[ha]
   simp only[zy9 hj,Option.map_some]
theorem zif {a0:List zi}:∀(n:Nat) (xs:List Int) (ps:List jI),xs.length≤n→zlI a0 xs=some ps→ps.flatten=xs∧∀ p∈ps,p≠[]∧sk a0 1 p=some p.length:=by
 intro n
 induction n with
 | zero =>
  intro xs ps h hc
  obtain rfl:xs=[]:=List.length_eq_zero_iff.1 (by omega)
  injection hc with hc; subst hc
  exact ⟨rfl,fun p hp=>by cases hp⟩
 | succ n ih =>
  intro xs ps h hc
  by_cases hx:xs=[]
  ·subst hx
   injection hc with hc; subst hc
   exact ⟨rfl,fun p hp=>by cases hp⟩
  ·rw[zeI hx] at hc
   cases hk:sk a0 1 xs with
   | none=>rw[hk] at hc; cases hc
   | some k =>
    rw[hk] at hc
    simp only[Option.map_eq_some_iff] at hc
    obtain⟨qs,hq,rfl⟩:=hc
    have hle:=zm5 hk
    obtain⟨h1,h2⟩:=ih _ qs (by simp; omega) hq
    refine ⟨by rw[List.flatten_cons,h1,List.take_append_drop],fun p hp => ?_⟩
    rcases List.mem_cons.1 hp with rfl | hp
    ·have hl:(xs.take k).length=k:=by simp; omega
     exact ⟨fun e=>by rw[e] at hl; simp at hl; omega,by rw[hl]; exact zy9 hk⟩
    ·exact h2 p hp
def zf0:Nat→List jI→List Int
 | _,[]=>[]
 | i,p::ps=>(i:Int)::zf0 (i+p.length) ps
theorem ziy:(i:Nat)→(ps:List jI)→(zf0 i ps).length=ps.length
 | _,[]=>rfl
 | i,p::ps=>by simp [zf0,ziy (i+p.length) ps]
theorem zq {n b:Nat} (h:n*b≤140737488351232):yQ n b=true:=by simpa[yQ] using h
theorem zq0 {a0:List zi} (h:SignOk a0) (a1:List Int) (hl:a1.length≤1099511627776):∀(m i:Nat) (acc:List Int) (k:Nat),a1.length - i=m→i≤a1.length→acc.length≤i→m<k →
  lp zcP k (a0,a1,(i:Int),acc)=some (match zlI a0 (a1.drop i) with
   | some ps=>(true,acc++zf0 i ps)
   | none=>(false,[])):=by
 intro m
 induction m using Nat.strongRecOn with
 | _ m ih =>
  intro i acc k hm hi hacc hk
  obtain⟨k,rfl⟩:∃ k',k=k'+1:=⟨k - 1,by omega⟩
  rw[zj]
  have key:=fun j acc' (h1:i<j) h2 h3=>ih (a1.length - j) (by omega) j acc' k rfl h2 h3 (by omega)
  generalize lp zcP k=rec at key ⊢
  unfold zcP
  by_cases he:i=a1.length
  ·subst he
   simp [zlR,zf0]
  ·have hlt:i<a1.length:=by omega
   have hne:a1.drop i≠[]:=by simp; omega
   simp only[show (((i:Int))==((List.length a1:Nat):Int))=false from by simp; omega,cond_false,zf7 h a1 hl,Option.bind_some,zeI hne]
   cases hs:sk a0 1 (a1.drop i) with
   | none=>rfl
   | some j =>
    have hj:=zm5 hs
    rw[List.length_drop] at hj
    simp only[Bool.not_true,cond_false,List.length_singleton,zq (show (acc.length+1)*8≤140737488351232 by omega),cond_true]
    rw[key (i+j) _ (by omega) (by omega) (by simp; omega),List.drop_drop]
    cases zlI a0 (a1.drop (i+j)) with
    | none=>rfl
    | some ps =>
     simp only[Option.map_some,zf0]
     rw[List.length_take,List.length_drop,Nat.min_eq_left (by omega)]
     simp
def zbS (a0:List zi) (a1:List Int):Option jR:=cond (zdp a0&&decide (a1.length≤48)) (zlI a0 a1) none
theorem zek (a0:List zi) (a1:List Int):zd7 a0 a1=some (match zbS a0 a1 with
  | some ps=>(true,zf0 0 ps)
  | none=>(false,[])):=by
 unfold zd7 zbS
 rw[zjv,Option.bind_some]
 cases hs:zdp a0 with
 | false=>rfl
 | true =>
  have h:=zbW hs
  by_cases hl:a1.length≤48
  ·simp only[Bool.not_true,cond_false,decide_eq_false (show ¬(((List.length a1:Nat):Int)>48) by omega),decide_eq_true hl,Bool.and_true,cond_true]
   by_cases h0:a1=[]
   ·subst h0; rfl
   ·have hpos:0<a1.length:=List.length_pos_iff.2 h0
    simp only[show ((0:Int)==((List.length a1:Nat):Int))=false from by simp; omega,cond_false]
    have e:=zf7 h a1 (by omega) 0
    rw[show ((0:Nat):Int)=0 from rfl] at e
    rw[e,Option.bind_some,List.drop_zero,zeI h0]
    cases hk:sk a0 1 a1 with
    | none=>rfl
    | some j =>
     have hj:=zm5 hk
     simp only[Bool.not_true,cond_false,Nat.zero_add,List.length_singleton,zq (show 1*8≤140737488351232 by omega),cond_true]
     rw[zq0 h a1 (by omega) (a1.length - j) j [0] zd rfl (by omega) (by simp; omega) (by unfold zd; omega)]
     cases zlI a0 (a1.drop j) with
     | none=>rfl
     | some ps=>simp [zf0,Nat.min_eq_left hj.1]
  ·simp only[Bool.not_true,cond_false,decide_eq_true (show (((List.length a1:Nat):Int)>48) by omega),decide_eq_false hl,Bool.and_false,cond_true]
def qz (a0:List zi) (xs:List Int):Bool:=match xs with
 | []=>false
 | x::r=>decide (0≤x)&&(match a0[x.toNat]? with
  | none=>false
  | some e=>(e.2.1==0)&&(match zbS a0 r with
   | none=>false
   | some ps=>((ps.length:Nat):Int)==e.2.2.1))
theorem zcM {α:Type} (x:α) (r:List α):zcD (x::r) (some 1) none=some r:=by
 show slc (x::r) 1 ((x::r).length:Int)=some r
 unfold slc
 simp only[List.length_cons]
 rw[decide_eq_true (show (0:Int)≤1 by omega),decide_eq_true (show (1:Int)≤((r.length+1:Nat):Int) by omega),decide_eq_true (show ((r.length+1:Nat):Int)≤((r.length+1:Nat):Int) by omega)]
 simp
theorem zcT (a0:List zi) (xs:List Int):zbV a0 xs=some (qz a0 xs):=by
 unfold zbV qz
 cases xs with
 | nil=>rfl
 | cons x r =>
  simp only[show ((((x::r).length:Nat):Int)==0)=false from by simp; omega,cond_false,qf,List.getElem?_cons_zero,Option.bind_some]
  by_cases h0:x<0
  ·rw[decide_eq_true h0,decide_eq_false (show ¬(0≤x) by omega)]; rfl
  ·rw[decide_eq_false h0,decide_eq_true (show 0≤x by omega),cond_false,Bool.true_and]
   by_cases h1:x≥((List.length a0:Nat):Int)
   ·rw[decide_eq_true h1,List.getElem?_eq_none (by omega)]; rfl
   ·obtain⟨e,he1,he2,he3⟩:=zkn (xs:=a0) (i:=x) (by omega) (by omega)
    simp only[decide_eq_false h1,cond_false,he1,he3,Option.bind_some,bne]
    cases hk:(e.2.1==0) with
    | false=>rfl
    | true =>
     simp only[Bool.not_true,cond_false,zcM,Option.bind_some,zek,Bool.true_and]
     cases zbS a0 r with
     | none=>rfl
     | some ps=>simp [ziy]
def zn (xs:List jI):Nat:=(xs.map List.length).sum
def zeC (a0:List zi) (ls:List zc):Bool:=ls.all fun l=>qz a0 l.2
theorem zcQ {a0:List zi} {xs:List Int} (h:qz a0 xs=true):xs.length≤49:=by
 unfold qz at h
 cases xs with
 | nil=>cases h
 | cons x r =>
  simp only[Bool.and_eq_true] at h
  cases he:a0[x.toNat]? with
  | none=>rw[he] at h; simp at h
  | some e =>
   rw[he] at h
   simp only[Bool.and_eq_true] at h
   cases hb:zbS a0 r with
   | none=>rw[hb] at h; simp at h
   | some ps =>
    unfold zbS at hb
    cases hl:decide (r.length≤48) with
    | false=>rw[hl,Bool.and_false] at hb; cases hb
    | true=>rw[decide_eq_true_eq] at hl; simp; omega
theorem zwb (a0:List zi):(es:List zc)→(t:Nat)→t+49*es.length≤1099511627776→yb a0 es (t:Int)=some (cond (zeC a0 es) (.inl ((t+zn (es.map (·.2)):Nat):Int)) (.inr (0,false)))
 | [],t,_=>by simp [yb,zeC,zn]
 | e::es,t,h=>by
  unfold yb zg3 zeC
  rw[zcT,Option.bind_some,Option.bind_some,List.all_cons]
  cases ha:qz a0 e.2 with
  | false=>rfl
  | true =>
   have hl:=zcQ ha
   rw[List.length_cons] at h
   have e1:IntKind.wrap .i64 ((t:Int)+((List.length e.2:Nat):Int))=((t+e.2.length:Nat):Int):=by rw[zp]<;>omega
   rw[e1]
   have:=zwb a0 es (t+e.2.length) (by omega)
   unfold zeC at this
   simp only[Bool.not_true,cond_false,Bool.true_and,this]
   rw[show t+e.2.length+zn (es.map (·.2))=t+zn ((e::es).map (·.2)) from by simp [zn]; omega]
theorem zgo (a0:List zi) (ls:List zc) (h:ls.length≤1000000000):zcS a0 ls=some (cond (zeC a0 ls) (((zn (ls.map (·.2)):Nat):Int),true) (0,false)):=by
 unfold zcS
 rw[zgs _ _ _ (by unfold maxLen; omega),show ((0:Int))=((0:Nat):Int) from rfl,zwb a0 ls 0 (by omega)]
 cases zeC a0 ls with
 | false=>rfl
 | true=>simp [z6]
def zhG (a0:List zi) (xs:List Int):Option Nat:=(zbS a0 xs).map List.length
theorem zg0 (a0:List zi) (xs:List Int):zhr a0 xs=some (match zhG a0 xs with
  | some n=>((n:Int),0)
  | none=>(0,200)):=by
 unfold zhr zhG
 rw[zek,Option.bind_some]
 cases zbS a0 xs with
 | none=>rfl
 | some ps=>simp [ziy]
theorem zj6 {a0:List zi} {xs:List Int} {n:Nat} (h:zhG a0 xs=some n):xs.length≤48:=by
 unfold zhG zbS at h
 cases hl:decide (xs.length≤48) with
 | false=>rw[hl,Bool.and_false] at h; cases h
 | true=>rw[decide_eq_true_eq] at hl; exact hl
def zgA (a0:List zi) (rs:List jI):Bool:=match rs with
 | []=>true
 | r::rs=>match zhG a0 r with
  | none=>false
  | some n=>rs.all fun q=>zhG a0 q==some n
theorem zyj (a0:List zi) (w:Nat):(es:List jI)→(i t:Nat)→t+49*es.length≤1099511627776→zG a0 es (i+1) (t:Int) (w:Int)=some (cond (es.all fun q=>zhG a0 q==some w) (.inl ((t+zn es:Nat):Int)) (.inr (0,false)))
 | [],i,t,_=>by simp [zG,zn]
 | e::es,i,t,h=>by
  unfold zG
  rw[zg0,Option.bind_some,List.all_cons]
  rw[show ((((i+1:Nat):Int))==0)=false from by simp; omega,cond_false]
  cases hr:zhG a0 e with
  | none=>rfl
  | some n =>
   have hl:=zj6 hr
   rw[List.length_cons] at h
   have e1:IntKind.wrap .i64 ((t:Int)+((List.length e:Nat):Int))=((t+e.length:Nat):Int):=by rw[zp]<;>omega
   have:=zyj a0 w es (i+1) (t+e.length) (by omega)
   simp only[e1,this]
   by_cases hn:n=w
   ·subst hn
    simp [zn,Nat.add_assoc]
   ·have h1:((n:Int) != (w:Int))=true:=by simp; omega
    have h2:(some n==some w)=false:=by simpa using hn
    simp [h1,h2]
theorem zld (a0:List zi) (rs:List jI) (h:rs.length≤1000000000):zed a0 rs=some (cond (zgA a0 rs) (((zn rs:Nat):Int),true) (0,false)):=by
 unfold zed
 rw[zgz _ _ _ _ (by unfold maxLen; omega)]
 cases rs with
 | nil=>rfl
 | cons r rs =>
  unfold zG zgA
  rw[zg0,Option.bind_some]
  rw[show ((((0:Nat):Int))==0)=true from rfl,cond_true]
  dsimp only
  cases hr:zhG a0 r with
  | none=>rfl
  | some n =>
   have hl:=zj6 hr
   rw[List.length_cons] at h
   have e1:IntKind.wrap .i64 (0+((List.length r:Nat):Int))=((r.length:Nat):Int):=by rw[zp]<;>omega
   have:=zyj a0 n rs 0 r.length (by omega)
   simp only[e1,this]
   cases hb:rs.all fun q=>zhG a0 q==some n with
   | false=>simp [z6]
   | true=>simp [z6,zn]
def zb5 (a0:List zi) (a1:List zc) (a2:List jI) (a3:List zc):Bool :=
 zdp a0&&decide (a1.length≤5)&&decide (a2.length≤3)&&decide (a3.length≤3)&&zeC a0 a1&&zgA a0 a2&&zeC a0 a3&&decide (zn (a1.map (·.2))+zn a2+zn (a3.map (·.2))≤240)
theorem zkw {a0:List zi}:(ls:List zc)→zeC a0 ls=true→zn (ls.map (·.2))≤49*ls.length
 | [],_=>by simp [zn]
 | l::ls,h=>by
  unfold zeC at h
  rw[List.all_cons,Bool.and_eq_true] at h
  have h1:=zcQ h.1
  have h2:=zkw ls h.2
  unfold zn at h2 ⊢
  simp only[List.map_cons,List.sum_cons,List.length_cons]
  omega
theorem zto {a0:List zi} (rs:List jI) (h:zgA a0 rs=true):zn rs≤49*rs.length:=by
 cases rs with
 | nil=>simp [zn]
 | cons r rs =>
  unfold zgA at h
  dsimp only at h
  cases hr:zhG a0 r with
  | none=>rw[hr] at h; cases h
  | some n =>
   rw[hr] at h
   have h1:=zj6 hr
   have h2:∀ qs:List jI,(qs.all fun q=>zhG a0 q==some n)=true→zn qs≤49*qs.length:=by
    intro qs
    induction qs with
    | nil=>intro _; simp [zn]
    | cons q qs ih =>
     intro hq
     rw[List.all_cons,Bool.and_eq_true] at hq
     have h3:=ih hq.2
     have h4:=zj6 (by simpa using hq.1)
     unfold zn at h3 ⊢
     simp only[List.map_cons,List.sum_cons,List.length_cons]
     omega
   have h5:=h2 rs h
   unfold zn at h5 ⊢
   simp only[List.map_cons,List.sum_cons,List.length_cons]
   omega
theorem zK (a0:List zi) (a1:List zc) (a2:List jI) (a3:List zc):zaf a0 a1 a2 a3=some (zb5 a0 a1 a2 a3):=by
 unfold zaf zb5
 rw[zjv,Option.bind_some]
 cases zdp a0 with
 | false=>rfl
 | true =>
  by_cases h1:a1.length≤5
  ·by_cases h2:a2.length≤3
   ·by_cases h3:a3.length≤3
    ·simp only[Bool.not_true,cond_false,decide_eq_false (show ¬(((List.length a1:Nat):Int)>5) by omega),decide_eq_false (show ¬(((List.length a2:Nat):Int)>3) by omega),decide_eq_false (show ¬(((List.length a3:Nat):Int)>3) by omega),
      decide_eq_true h1,decide_eq_true h2,decide_eq_true h3,zgo a0 a1 (by omega),zld a0 a2 (by omega),zgo a0 a3 (by omega),Option.bind_some,Bool.true_and]
     cases hb1:zeC a0 a1 with
     | false=>rfl
     | true =>
      cases hb2:zgA a0 a2 with
      | false=>rfl
      | true =>
       cases hb3:zeC a0 a3 with
       | false=>rfl
       | true =>
        have s1:=zkw a1 hb1
        have s2:=zto a2 hb2
        have s3:=zkw a3 hb3
        simp only[cond_true,Bool.true_and]
        have e1:IntKind.wrap .i64 (((zn (a1.map (·.2)):Nat):Int)+((zn a2:Nat):Int))=((zn (a1.map (·.2))+zn a2:Nat):Int):=by rw[zp]<;>omega
        have e2:IntKind.wrap .i64 (((zn (a1.map (·.2))+zn a2:Nat):Int)+((zn (a3.map (·.2)):Nat):Int))=((zn (a1.map (·.2))+zn a2+zn (a3.map (·.2)):Nat):Int):=by rw[zp]<;>omega
        simp only[e1,e2,Option.some.injEq,decide_eq_decide]
        omega
    ·simp only[Bool.not_true,cond_false,decide_eq_false (show ¬(((List.length a1:Nat):Int)>5) by omega),decide_eq_false (show ¬(((List.length a2:Nat):Int)>3) by omega),decide_eq_true (show (((List.length a3:Nat):Int)>3) by omega),decide_eq_false h3,cond_true,Bool.and_false,Bool.false_and]
   ·simp only[Bool.not_true,cond_false,decide_eq_false (show ¬(((List.length a1:Nat):Int)>5) by omega),decide_eq_true (show (((List.length a2:Nat):Int)>3) by omega),decide_eq_false h2,cond_true,Bool.and_false,Bool.false_and]
  ·simp only[Bool.not_true,cond_false,decide_eq_true (show (((List.length a1:Nat):Int)>5) by omega),decide_eq_false h1,cond_true,Bool.and_false,Bool.false_and]
end
end Go.Abs.Q
namespace Go.Abs.Q
open Go Go.Abs
section
theorem zBl {a0:List zi}:{xs:List Int}→{n m k:Nat}→sk a0 (n+m) xs=some k→∃ j,sk a0 n xs=some j∧j≤k∧sk a0 m (xs.drop j)=some (k - j)
 | xs,0,m,k,h=>⟨0,by cases xs<;>rfl,Nat.zero_le _,by simpa using h⟩
 | [],n+1,m,k,h=>by rw[show n+1+m=n+m+1 from by omega] at h; simp [sk] at h
 | x::xs,n+1,m,k,h=>by
  rw[show n+1+m=n+m+1 from by omega] at h
  unfold sk at h
  cases ha:zc2 a0 x with
  | none=>rw[ha] at h; cases h
  | some q =>
   rw[ha] at h
   simp only[Option.map_eq_some_iff] at h
   obtain⟨j,hj,rfl⟩:=h
   rw[show n+m+q=(n+q)+m from by omega] at hj
   obtain⟨i,h1,h2,h3⟩:=zBl hj
   refine ⟨i+1,?_,by omega,?_⟩
   ·unfold sk; rw[ha]; simp only[h1,Option.map_some]
   ·rw[List.drop_succ_cons,h3]; congr 1; omega
theorem zDE {a0:List zi}:∀(n:Nat) (xs:List Int),sk a0 n xs=some xs.length→∃ ps,zlI a0 xs=some ps∧ps.length=n:=by
 intro n
 induction n with
 | zero =>
  intro xs h
  have:xs.length=0:=by cases xs<;>simp [sk] at h ⊢
  obtain rfl:=List.length_eq_zero_iff.1 this
  exact ⟨[],rfl,rfl⟩
 | succ n ih =>
  intro xs h
  rw[Nat.add_comm] at h
  obtain⟨j,h1,h2,h3⟩:=zBl h
  have hj:=zm5 h1
  have hne:xs≠[]:=fun e=>by subst e; simp at hj; omega
  obtain⟨ps,h4,h5⟩:=ih (xs.drop j) (by rw[h3,List.length_drop])
  refine ⟨xs.take j::ps,?_,by simp [h5]⟩
  rw[zeI hne,h1]
  dsimp only
  rw[h4]; rfl
theorem zsy {a0:List zi} {p:List Int} (h:sk a0 1 p=some p.length):∃ x r q,p=x::r∧zc2 a0 x=some q∧sk a0 q r=some r.length:=by
 cases p with
 | nil=>simp [sk] at h
 | cons x r =>
  unfold sk at h
  cases ha:zc2 a0 x with
  | none=>rw[ha] at h; cases h
  | some q =>
   rw[ha] at h
   simp only[Option.map_eq_some_iff,Nat.zero_add] at h
   obtain⟨j,hj,he⟩:=h
   rw[List.length_cons] at he
   exact ⟨x,r,q,rfl,ha,by rw[hj]; congr 1; omega⟩
theorem zpJ {a0:List zi} (h:SignOk a0) (a1:List Int) (hl:a1.length≤1099511627776):∀(m i:Nat) (acc ps:List jI) (k:Nat),a1.length - i=m→i≤a1.length→acc.length≤i→zlI a0 (a1.drop i)=some ps→m<k →
  lp zcO k (a0,a1,(i:Int),acc)=some (.inl (acc++ps)):=by
 intro m
 induction m using Nat.strongRecOn with
 | _ m ih =>
  intro i acc ps k hm hi hacc hc hk
  obtain⟨k,rfl⟩:∃ k',k=k'+1:=⟨k - 1,by omega⟩
  rw[zj]
  have key:=fun j acc' ps' (h1:i<j) h2 h3 h4=>ih (a1.length - j) (by omega) j acc' ps' k rfl h2 h3 h4 (by omega)
  generalize lp zcO k=rec at key ⊢
  unfold zcO
  by_cases he:i=a1.length
  ·subst he
   rw[List.drop_length,zlR] at hc
   injection hc with hc; subst hc
   simp
  ·have hlt:i<a1.length:=by omega
   have hne:a1.drop i≠[]:=by simp; omega
   rw[zeI hne] at hc
   simp only[decide_eq_true (show (i:Int)<((List.length a1:Nat):Int) by omega),cond_true,zf7 h a1 hl,Option.bind_some]
   cases hs:sk a0 1 (a1.drop i) with
   | none=>rw[hs] at hc; cases hc
   | some j =>
    rw[hs] at hc
    simp only[Option.map_eq_some_iff] at hc
    obtain⟨qs,hq,rfl⟩:=hc
    have hj:=zm5 hs
    rw[List.length_drop] at hj
    have e1:zcD a1 (some (i:Int)) (some ((i+j:Nat):Int))=some ((a1.drop i).take j):=by
     show slc a1 _ _=_
     unfold slc
     rw[decide_eq_true (show (0:Int)≤(i:Int) by omega),decide_eq_true (show (i:Int)≤((i+j:Nat):Int) by omega),decide_eq_true (show ((i+j:Nat):Int)≤((a1.length:Nat):Int) by omega)]
     simp only[cond_true,Int.toNat_natCast,Option.some.injEq]
     rw[List.drop_take]; congr 1; omega
    simp only[Bool.not_true,cond_false,e1,Option.bind_some,List.length_singleton,zq (show (acc.length+1)*24≤140737488351232 by omega),cond_true]
    rw[List.drop_drop] at hq
    rw[key (i+j) _ qs (by omega) (by omega) (by simp; omega) hq]
    simp
theorem zcb {a0:List zi} (h:SignOk a0) {a1:List Int} (hl:a1.length≤1099511627776) {ps:List jI} (hc:zlI a0 a1=some ps):zbN a0 a1=some ps:=by
 unfold zbN
 have:=zpJ h a1 hl a1.length 0 [] ps zd rfl (Nat.zero_le _) (Nat.zero_le _) hc (by unfold zd; omega)
 rw[show ((0:Nat):Int)=0 from rfl] at this
 rw[this]
 rfl
theorem zeW {a0:List zi} {xs:List Int} {ps:List jI} (h:zlI a0 xs=some ps):ps.length≤xs.length:=by
 obtain⟨h1,h2⟩:=zif xs.length xs ps (Nat.le_refl _) h
 have h3:∀ qs:List jI,(∀ p∈qs,p≠[])→qs.length≤qs.flatten.length:=by
  intro qs
  induction qs with
  | nil=>intro _; simp
  | cons q qs ih =>
   intro hq
   have:=ih fun p hp=>hq p (by simp [hp])
   have h4:=List.length_pos_iff.2 (hq q (by simp))
   simp only[List.flatten_cons,List.length_append,List.length_cons]
   omega
 have:=h3 ps fun p hp=>(h2 p hp).1
 rw[h1] at this
 exact this
theorem zq3 {a0:List zi} {x:Int} {q:Nat} (h:zc2 a0 x=some q) (hx:x<0) : -24≤x∧q=0:=by
 unfold zc2 at h
 rw[decide_eq_true hx,cond_true] at h
 cases hd:decide (-24≤x) with
 | false=>rw[hd] at h; cases h
 | true=>rw[hd] at h; injection h with h; exact ⟨of_decide_eq_true hd,h.symm⟩
theorem zqq {a0:List zi} {x:Int} {q:Nat} (h:zc2 a0 x=some q) (hx:¬ x<0):∃ e,gx a0 x=some e∧a0[x.toNat]? = some e∧e.2.1≠0∧q=e.2.2.1.toNat:=by
 unfold zc2 at h
 rw[decide_eq_false hx,cond_false] at h
 cases he:a0[x.toNat]? with
 | none=>rw[he] at h; cases h
 | some e =>
  rw[he] at h
  have hg:gx a0 x=some e:=by
   unfold gx
   rw[decide_eq_true (show 0≤x by omega),cond_true,he]
  dsimp only at h
  cases hz:(e.2.1==0) with
  | true=>rw[hz] at h; cases h
  | false=>rw[hz] at h; injection h with h; exact ⟨e,hg,rfl,by simpa using hz,h.symm⟩
end
end Go.Abs.Q
namespace Go.Abs.Q
open Go Go.Abs
section
theorem ziT {a0:List zi} {xs:List Int} (h:qz a0 xs=true):∃ x r e ps,xs=x::r∧0≤x∧a0[x.toNat]? = some e∧gx a0 x=some e∧e.2.1=0∧zdp a0=true∧r.length≤48∧zlI a0 r=some ps∧((ps.length:Nat):Int)=e.2.2.1:=by
 unfold qz at h
 cases xs with
 | nil=>cases h
 | cons x r =>
  simp only[Bool.and_eq_true,decide_eq_true_eq] at h
  obtain⟨h0,h⟩:=h
  cases he:a0[x.toNat]? with
  | none=>rw[he] at h; cases h
  | some e =>
   rw[he] at h
   simp only[Bool.and_eq_true] at h
   obtain⟨h1,h⟩:=h
   cases hb:zbS a0 r with
   | none=>rw[hb] at h; cases h
   | some ps =>
    rw[hb] at h
    unfold zbS at hb
    cases hs:zdp a0 with
    | false=>rw[hs] at hb; cases hb
    | true =>
     cases hl:decide (r.length≤48) with
     | false=>rw[hs,hl] at hb; cases hb
     | true =>
      rw[hs,hl] at hb
      refine ⟨x,r,e,ps,rfl,h0,he,?_,by simpa using h1,rfl,of_decide_eq_true hl,hb,by simpa using h⟩
      unfold gx
      rw[decide_eq_true h0,cond_true,he]
theorem zkp {a0:List zi} {r:List Int} {n:Nat} (h:zhG a0 r=some n):∃ ps,zlI a0 r=some ps∧ps.length=n∧r.length≤48∧zdp a0=true:=by
 have hl:=zj6 h
 unfold zhG zbS at h
 cases hs:zdp a0 with
 | false=>rw[hs] at h; cases h
 | true =>
  rw[hs,decide_eq_true hl] at h
  simp only[Bool.and_true,cond_true,Option.map_eq_some_iff] at h
  obtain⟨ps,h1,h2⟩:=h
  exact ⟨ps,h1,h2,hl,rfl⟩
theorem zhT {a0:List zi} {rs:List jI} (h:zgA a0 rs=true):∃ n,∀ r∈rs,zhG a0 r=some n:=by
 cases rs with
 | nil=>exact ⟨0,fun r hr=>by cases hr⟩
 | cons r rs =>
  unfold zgA at h
  dsimp only at h
  cases hr:zhG a0 r with
  | none=>rw[hr] at h; cases h
  | some n =>
   rw[hr] at h
   refine ⟨n,fun q hq => ?_⟩
   rcases List.mem_cons.1 hq with rfl | hq
   ·exact hr
   ·simpa using List.all_eq_true.1 h q hq
theorem zv {a0:List zi} {a1:List zc} {a2:List jI} {a3:List zc} (h:zb5 a0 a1 a2 a3=true):zdp a0=true∧a1.length≤5∧a2.length≤3∧a3.length≤3∧zeC a0 a1=true∧zgA a0 a2=true∧zeC a0 a3=true∧zn (a1.map (·.2))+zn a2+zn (a3.map (·.2))≤240:=by
 unfold zb5 at h
 simp only[Bool.and_eq_true,decide_eq_true_eq] at h
 exact ⟨h.1.1.1.1.1.1.1,h.1.1.1.1.1.1.2,h.1.1.1.1.1.2,h.1.1.1.1.2,h.1.1.1.2,h.1.1.2,h.1.2,h.2⟩
theorem zDJ {a0:List zi} {a1:List zc} {a2:List jI} {a3:List zc} (h1:zdp a0=true) (h2:a1.length≤5) (h3:a2.length≤3) (h4:a3.length≤3) (h5:zeC a0 a1=true) (h6:zgA a0 a2=true) (h7:zeC a0 a3=true)
  (h8:zn (a1.map (·.2))+zn a2+zn (a3.map (·.2))≤240):zb5 a0 a1 a2 a3=true:=by
 unfold zb5
 simp only[h1,decide_eq_true h2,decide_eq_true h3,decide_eq_true h4,h5,h6,h7,decide_eq_true h8,Bool.and_self]
end
end Go.Abs.Q
namespace Go.Abs.Q
open Go Go.Abs
section
def bad (t:UInt8):Bool:=t==111||t==114||t==105||t==102||t==38
end
end Go.Abs.Q
namespace Go.Abs.Q
open Go Go.Abs
section
theorem zFm {α:Type} (s:List α) {i j:Nat} (hij:i≤j) (h:j≤s.length):zcD s (some (i:Int)) (some (j:Int))=some ((s.drop i).take (j - i)):=by
 show slc s _ _=_
 unfold slc
 rw[decide_eq_true (show (0:Int)≤(i:Int) by omega),decide_eq_true (show (i:Int)≤(j:Int) by omega),decide_eq_true (show (j:Int)≤((s.length:Nat):Int) by omega)]
 simp only[cond_true,Int.toNat_natCast,Option.some.injEq]
 rw[List.drop_take]
end
end Go.Abs.Q
namespace Go.Abs.Q
open Go Go.Abs
def ziO (a0:Int):Option Bool :=
 cond (decide (a0≥97))
 (some (decide (a0≤122)))
 (some false)
def zcR (rec:(Int×Str×Int×Int×Int)→Option (Unit⊕Bool)) (x:(Int×Str×Int×Int×Int)):Option (Unit⊕Bool) :=
 cond (decide (x.1<((List.length x.2.1:Nat):Int)))
 ((gx x.2.1 x.1).bind fun c7 =>
  (ziO ((UInt8.toNat c7:Nat):Int)).bind fun r8 =>
  cond (!r8)
  ((gx x.2.1 x.1).bind fun c9 =>
   cond (decide (((UInt8.toNat c9:Nat):Int)<48))
   (some (Sum.inr false))
   ((gx x.2.1 x.1).bind fun c10 =>
    cond (decide (((UInt8.toNat c10:Nat):Int)>57))
    (some (Sum.inr false))
    (rec ((IntKind.wrap .i64 (x.1+1)),x.2.1,x.2.2.1,x.2.2.2.1,x.2.2.2.2))))
  (rec ((IntKind.wrap .i64 (x.1+1)),x.2.1,x.2.2.1,x.2.2.2.1,x.2.2.2.2)))
 (some (Sum.inl ()))
def zhx (a0:Str) (a1:Int) (a2:Int) (a3:Int):Option Bool :=
 cond (decide (((List.length a0:Nat):Int)<1))
 (some false)
 (cond (decide (((List.length a0:Nat):Int)>8))
  (some false)
  ((gx a0 0).bind fun c14 =>
   (ziO ((UInt8.toNat c14:Nat):Int)).bind fun r15 =>
   cond (!r15)
   (some false)
   (((lp zcR zd) (0,a0,a1,a2,a3)).bind fun r16 =>
    z6 r16
    (fun z17=>cond (decide (a1≥0))
     (cond (decide (a1≤2))
      (cond (decide (a2≥0))
       (cond (decide (a2≤3))
        (cond (decide (a3≥1))
         (some (decide (a3≤20)))
         (some false))
        (some false))
       (some false))
      (some false))
     (some false))
    (fun z18=>some z18))))
def zew (rec:(jS×Str×Int)→Option (Unit⊕Int)) (x:(jS×Str×Int)):Option (Unit⊕Int) :=
 cond (decide (x.2.2<((List.length x.1:Nat):Int)))
 ((gx x.1 x.2.2).bind fun e2 =>
  cond (e2.1==x.2.1)
  (some (Sum.inr x.2.2))
  (rec (x.1,x.2.1,(IntKind.wrap .i64 (x.2.2+1)))))
 (some (Sum.inl ()))
def zj5 (a0:jS) (a1:Str):Option Int :=
 ((lp zew zd) (a0,a1,0)).bind fun r6 =>
 z6 r6
 (fun z7=>some (-1))
 (fun z8=>some z8)
def zbG (rec:(jS×Int)→Option (Unit⊕Bool)) (x:(jS×Int)):Option (Unit⊕Bool) :=
 cond (decide (x.2<((List.length x.1:Nat):Int)))
 ((gx x.1 x.2).bind fun e6 =>
  (zhx e6.1 e6.2.1 e6.2.2.1 e6.2.2.2).bind fun r7 =>
  cond (!r7)
  (some (Sum.inr false))
  ((gx x.1 x.2).bind fun e8 =>
   (zj5 x.1 e8.1).bind fun r9 =>
   cond (r9 != x.2)
   (some (Sum.inr false))
   (rec (x.1,(IntKind.wrap .i64 (x.2+1))))))
 (some (Sum.inl ()))
def zf6 (a0:jS):Option Bool :=
 cond (decide (((List.length a0:Nat):Int)<1))
 (some false)
 (cond (decide (((List.length a0:Nat):Int)>20))
  (some false)
  ((gx a0 0).bind fun e13 =>
   cond (!(cond (eqS e13.1 ([61]:Str)) (cond (eqI e13.2.1 0) (cond (eqI e13.2.2.1 2) (cond (eqI e13.2.2.2 1) true false) false) false) false))
   (some false)
   (((lp zbG zd) (a0,1)).bind fun r14 =>
    z6 r14
    (fun z15=>some true)
    (fun z16=>some z16))))
def zd4 (rec:(jS×jI×Int×Int)→Option (Int⊕Int)) (x:(jS×jI×Int×Int)):Option (Int⊕Int) :=
 cond (decide (x.2.2.1>0))
 (cond (decide (x.2.2.2≥((List.length x.2.1:Nat):Int)))
  (some (Sum.inr (-1)))
  ((gx x.2.1 x.2.2.2).bind fun e8 =>
   cond (decide (e8<(-24)))
   (some (Sum.inr (-1)))
   ((gx x.2.1 x.2.2.2).bind fun e9 =>
    cond (decide (e9≥((List.length x.1:Nat):Int)))
    (some (Sum.inr (-1)))
    ((gx x.2.1 x.2.2.2).bind fun e10 =>
     cond (decide (e10≥0))
     ((gx x.2.1 x.2.2.2).bind fun e11 =>
      (gx x.1 e11).bind fun e12 =>
      cond (e12.2.1==0)
      (some (Sum.inr (-1)))
      ((gx x.2.1 x.2.2.2).bind fun e13 =>
       (gx x.1 e13).bind fun e14 =>
       rec (x.1,x.2.1,(IntKind.wrap .i64 ((IntKind.wrap .i64 (x.2.2.1 - 1))+e14.2.2.1)),(IntKind.wrap .i64 (x.2.2.2+1)))))
     (rec (x.1,x.2.1,(IntKind.wrap .i64 (x.2.2.1 - 1)),(IntKind.wrap .i64 (x.2.2.2+1))))))))
 (some (Sum.inl x.2.2.2))
def ziV (a0:jS) (a1:jI) (a2:Int):Option Int :=
 ((lp zd4 zd) (a0,a1,1,a2)).bind fun r18 =>
 z6 r18
 (fun z19=>some z19)
 (fun z20=>some z20)
def ze8 (rec:(jS×jI×Int×Int)→Option (Int⊕Int)) (x:(jS×jI×Int×Int)):Option (Int⊕Int) :=
 cond (decide (x.2.2.2<((List.length x.2.1:Nat):Int)))
 ((ziV x.1 x.2.1 x.2.2.2).bind fun r2 =>
  cond (decide (r2<0))
  (some (Sum.inr (-1)))
  (rec (x.1,x.2.1,(IntKind.wrap .i64 (x.2.2.1+1)),r2)))
 (some (Sum.inl x.2.2.1))
def zd3 (a0:jS) (a1:jI):Option Int :=
 cond (decide (((List.length a1:Nat):Int)>48))
 (some (-1))
 (((lp ze8 zd) (a0,a1,0,0)).bind fun r6 =>
  z6 r6
  (fun z7=>some z7)
  (fun z8=>some z8))
def zjM (a0:jS) (a1:jI):Option Bool :=
 cond (decide (((List.length a1:Nat):Int)>0))
 ((gx a1 0).bind fun e9 =>
  cond (decide (e9≥0))
  ((gx a1 0).bind fun e10 =>
   cond (decide (e10<((List.length a0:Nat):Int)))
   ((gx a1 0).bind fun e11 =>
    (gx a0 e11).bind fun e12 =>
    cond (e12.2.1==0)
    ((zcD a1 (some 1) none).bind fun y13 =>
     (zd3 a0 y13).bind fun r14 =>
     (gx a1 0).bind fun e15 =>
     (gx a0 e15).bind fun e16 =>
     some (r14==e16.2.2.1))
    (some false))
   (some false))
  (some false))
 (some false)
def zd9 (a0:jS) (a1:Bool) (a2:jI):Option Bool :=
 (zf6 a0).bind fun r3 =>
 cond r3
 ((zjM a0 a2).bind fun r4 =>
  some r4)
 (some false)
def zdj (rec:(Int×jQ×jR×jQ×jR)→Option jR) (x:(Int×jQ×jR×jQ×jR)):Option jR :=
 cond (decide (x.1<((List.length x.2.2.2.1:Nat):Int)))
 ((gx x.2.2.2.1 x.1).bind fun e9 =>
  cond (yQ (List.length x.2.2.2.2+List.length ([e9.2]:List jI)) 24)
  (rec ((IntKind.wrap .i64 (x.1+1)),x.2.1,x.2.2.1,x.2.2.2.1,(x.2.2.2.2++([e9.2]:List jI))))
  (none))
 (some x.2.2.2.2)
def zdl (rec:(Int×jQ×jR×jQ×jR)→Option jR) (x:(Int×jQ×jR×jQ×jR)):Option jR :=
 cond (decide (x.1<((List.length x.2.2.1:Nat):Int)))
 ((gx x.2.2.1 x.1).bind fun e6 =>
  cond (yQ (List.length x.2.2.2.2+List.length ([e6]:List jI)) 24)
  (rec ((IntKind.wrap .i64 (x.1+1)),x.2.1,x.2.2.1,x.2.2.2.1,(x.2.2.2.2++([e6]:List jI))))
  (none))
 (some x.2.2.2.2)
def zdc (rec:(Int×jQ×jR×jQ×jR)→Option jR) (x:(Int×jQ×jR×jQ×jR)):Option jR :=
 cond (decide (x.1<((List.length x.2.1:Nat):Int)))
 ((gx x.2.1 x.1).bind fun e3 =>
  cond (yQ (List.length x.2.2.2.2+List.length ([e3.2]:List jI)) 24)
  (rec ((IntKind.wrap .i64 (x.1+1)),x.2.1,x.2.2.1,x.2.2.2.1,(x.2.2.2.2++([e3.2]:List jI))))
  (none))
 (some x.2.2.2.2)
def zgI (a0:jQ) (a1:jR) (a2:jQ):Option jR :=
 ((lp zdc zd) (0,a0,a1,a2,([]:jR))).bind fun r11 =>
 ((lp zdl zd) (0,a0,a1,a2,r11)).bind fun r12 =>
 ((lp zdj zd) (0,a0,a1,a2,r12)).bind fun r13 =>
 some r13
def zfv (rec:(jR×Int×Int)→Option Int) (x:(jR×Int×Int)):Option Int :=
 cond (decide (x.2.2<((List.length x.1:Nat):Int)))
 ((gx x.1 x.2.2).bind fun e26 =>
  rec (x.1,(IntKind.wrap .i64 (x.2.1+((List.length e26:Nat):Int))),(IntKind.wrap .i64 (x.2.2+1))))
 (some x.2.1)
def zfA (rec:(jS×Int×jQ×jR×jQ)→Option (Unit⊕Bool)) (x:(jS×Int×jQ×jR×jQ)):Option (Unit⊕Bool) :=
 cond (decide (x.2.1<((List.length x.2.2.2.1:Nat):Int)))
 ((gx x.2.2.2.1 x.2.1).bind fun e18 =>
  (zd3 x.1 e18).bind fun r19 =>
  cond (decide (r19<0))
  (some (Sum.inr false))
  ((gx x.2.2.2.1 0).bind fun e20 =>
   (zd3 x.1 e20).bind fun r21 =>
   cond (r19 != r21)
   (some (Sum.inr false))
   (rec (x.1,(IntKind.wrap .i64 (x.2.1+1)),x.2.2.1,x.2.2.2.1,x.2.2.2.2))))
 (some (Sum.inl ()))
def zfB (rec:(jS×Int×jQ×jR×jQ)→Option (Unit⊕Bool)) (x:(jS×Int×jQ×jR×jQ)):Option (Unit⊕Bool) :=
 cond (decide (x.2.1<((List.length x.2.2.2.2:Nat):Int)))
 ((gx x.2.2.2.2 x.2.1).bind fun e10 =>
  (zd9 x.1 e10.1 e10.2).bind fun r11 =>
  cond (!r11)
  (some (Sum.inr false))
  (rec (x.1,(IntKind.wrap .i64 (x.2.1+1)),x.2.2.1,x.2.2.2.1,x.2.2.2.2)))
 (some (Sum.inl ()))
def zfw (rec:(jS×Int×jQ×jR×jQ)→Option (Unit⊕Bool)) (x:(jS×Int×jQ×jR×jQ)):Option (Unit⊕Bool) :=
 cond (decide (x.2.1<((List.length x.2.2.1:Nat):Int)))
 ((gx x.2.2.1 x.2.1).bind fun e4 =>
  (zd9 x.1 e4.1 e4.2).bind fun r5 =>
  cond (!r5)
  (some (Sum.inr false))
  (rec (x.1,(IntKind.wrap .i64 (x.2.1+1)),x.2.2.1,x.2.2.2.1,x.2.2.2.2)))
 (some (Sum.inl ()))
def zfb (a0:jS) (a1:jQ) (a2:jR) (a3:jQ):Option Bool :=
 (zf6 a0).bind fun r31 =>
 cond (!r31)
 (some false)
 (cond (decide (((List.length a1:Nat):Int)>5))
  (some false)
  (cond (decide (((List.length a3:Nat):Int)>3))
   (some false)
   (cond (decide (((List.length a2:Nat):Int)>3))
    (some false)
    (((lp zfw zd) (a0,0,a1,a2,a3)).bind fun r32 =>
     z6 r32
     (fun z33=>((lp zfB zd) (a0,0,a1,a2,a3)).bind fun r34 =>
      z6 r34
      (fun z35=>((lp zfA zd) (a0,0,a1,a2,a3)).bind fun r36 =>
       z6 r36
       (fun z37=>(zgI a1 a2 a3).bind fun r38 =>
        ((lp zfv zd) (r38,0,0)).bind fun r39 =>
        some (decide (r39≤240)))
       (fun z40=>some z40))
      (fun z41=>some z41))
     (fun z42=>some z42)))))
def zci (rec:(jS×jI×Int×Int)→Option Int) (x:(jS×jI×Int×Int)):Option Int :=
 cond (decide (x.2.2.1>0))
 ((gx x.2.1 x.2.2.2).bind fun e4 =>
  cond (decide (e4≥0))
  ((gx x.2.1 x.2.2.2).bind fun e5 =>
   (gx x.1 e5).bind fun e6 =>
   rec (x.1,x.2.1,(IntKind.wrap .i64 ((IntKind.wrap .i64 (x.2.2.1 - 1))+e6.2.2.1)),(IntKind.wrap .i64 (x.2.2.2+1))))
  (rec (x.1,x.2.1,(IntKind.wrap .i64 (x.2.2.1 - 1)),(IntKind.wrap .i64 (x.2.2.2+1)))))
 (some x.2.2.2)
def zjf (a0:jS) (a1:jI) (a2:Int):Option Int :=
 ((lp zci zd) (a0,a1,1,a2)).bind fun r8 =>
 some r8
def ze2 (rec:(jS×jI×Int×jR)→Option jR) (x:(jS×jI×Int×jR)):Option jR :=
 cond (decide (x.2.2.1<((List.length x.2.1:Nat):Int)))
 ((zjf x.1 x.2.1 x.2.2.1).bind fun r5 =>
  (zcD x.2.1 (some x.2.2.1) (some r5)).bind fun y6 =>
  cond (yQ (List.length x.2.2.2+List.length ([y6]:List jI)) 24)
  (rec (x.1,x.2.1,r5,(x.2.2.2++([y6]:List jI))))
  (none))
 (some x.2.2.2)
def zO (a0:jS) (a1:jI):Option jR :=
 ((lp ze2 zd) (a0,a1,0,([]:jR))).bind fun r8 =>
 some r8
end Go.Abs.Q
namespace Go.Abs.Q
open Go Go.Abs
def yz:List UInt8→Option (Unit⊕Bool)
 | []=>some (Sum.inl ())
 | e::es =>
  (ziO ((UInt8.toNat e:Nat):Int)).bind fun r8 =>
  cond (!r8)
  (cond (decide (((UInt8.toNat e:Nat):Int)<48))
   (some (Sum.inr false))
   (cond (decide (((UInt8.toNat e:Nat):Int)>57))
    (some (Sum.inr false))
    (yz es)))
  (yz es)
theorem ziw (s1:Str) (s2:Int) (s3:Int) (s4:Int) (hl:List.length s1≤maxLen):lp zcR zd (0,s1,s2,s3,s4)=yz s1:=zdO zcR (fun i=>(i,s1,s2,s3,s4)) (fun es i=>yz es) hl (fun r i h=>by unfold zcR yz; simp only[h,cond_false]) (fun r i e es h g w k=>by unfold zcR yz; simp only[h,cond_true,g,Option.bind_some,w,k])
def zaR (s1:Str):List zi→Nat→Option (Unit⊕Int)
 | [],i=>some (Sum.inl ())
 | e::es,i =>
  cond (e.1==s1)
  (some (Sum.inr (i:Int)))
  (zaR s1 es (i+1))
theorem zjH (s0:jS) (s1:Str) (hl:List.length s0≤maxLen):lp zew zd (s0,s1,0)=zaR s1 s0 0:=zdO zew (fun i=>(s0,s1,i)) (fun es i=>zaR s1 es i) hl (fun r i h=>by unfold zew zaR; simp only[h,cond_false]) (fun r i e es h g w k=>by unfold zew zaR; simp only[h,cond_true,g,Option.bind_some,w,k])
def zai (s0:jS):List zi→Nat→Option (Unit⊕Bool)
 | [],i=>some (Sum.inl ())
 | e::es,i =>
  (zhx e.1 e.2.1 e.2.2.1 e.2.2.2).bind fun r7 =>
  cond (!r7)
  (some (Sum.inr false))
  ((zj5 s0 e.1).bind fun r9 =>
   cond (r9 != (i:Int))
   (some (Sum.inr false))
   (zai s0 es (i+1)))
theorem ziC (s0:jS) (hl:List.length s0≤maxLen):∀(es:List zi) (i:Nat) (k:Nat),s0.drop i=es→es.length<k→lp zbG k (s0,(i:Int))=zai s0 es i:=by
 intro es
 induction es with
 | nil =>
  intro i k h hk
  obtain⟨k,rfl⟩:∃ k',k=k'+1:=⟨k - 1,by omega⟩
  rw[zj]
  generalize lp zbG k=rec
  unfold zbG zai
  simp only[zaq (yd h),cond_false]
 | cons e es ih =>
  intro i k h hk
  obtain⟨k,rfl⟩:∃ k',k=k'+1:=⟨k - 1,by omega⟩
  rw[zj]
  have hi:=zD h
  have hk2:es.length<k:=Nat.lt_of_succ_lt_succ hk
  have key:=fun (_:Unit)=>ih (i+1) k (ze h) hk2
  generalize lp zbG k=rec at key ⊢
  unfold zbG zai
  simp only[zbC hi,cond_true,yx,zh h,Option.bind_some,zbn hi hl,key ()]
def qW:List zc→jR→Option jR
 | [],s4=>some s4
 | e::es,s4 =>
  cond (yQ (List.length s4+List.length ([e.2]:List jI)) 24)
  (qW es (s4++([e.2]:List jI)))
  (none)
theorem zjq (s1:jQ) (s2:jR) (s3:jQ) (s4:jR) (hl:List.length s3≤maxLen):lp zdj zd (0,s1,s2,s3,s4)=qW s3 s4:=zaT zdj (fun i s4=>(i,s1,s2,s3,s4)) (fun es i s4=>qW es s4) hl (fun r i s4 h=>by unfold zdj qW; simp only[h,cond_false]) (fun r i s4 e es h g w k=>by unfold zdj qW; simp only[h,cond_true,g,Option.bind_some,w,k]) s4
def qY:List jI→jR→Option jR
 | [],s4=>some s4
 | e::es,s4 =>
  cond (yQ (List.length s4+List.length ([e]:List jI)) 24)
  (qY es (s4++([e]:List jI)))
  (none)
theorem zjr (s1:jQ) (s2:jR) (s3:jQ) (s4:jR) (hl:List.length s2≤maxLen):lp zdl zd (0,s1,s2,s3,s4)=qY s2 s4:=zaT zdl (fun i s4=>(i,s1,s2,s3,s4)) (fun es i s4=>qY es s4) hl (fun r i s4 h=>by unfold zdl qY; simp only[h,cond_false]) (fun r i s4 e es h g w k=>by unfold zdl qY; simp only[h,cond_true,g,Option.bind_some,w,k]) s4
def qT:List zc→jR→Option jR
 | [],s4=>some s4
 | e::es,s4 =>
  cond (yQ (List.length s4+List.length ([e.2]:List jI)) 24)
  (qT es (s4++([e.2]:List jI)))
  (none)
theorem zjA (s1:jQ) (s2:jR) (s3:jQ) (s4:jR) (hl:List.length s1≤maxLen):lp zdc zd (0,s1,s2,s3,s4)=qT s1 s4:=zaT zdc (fun i s4=>(i,s1,s2,s3,s4)) (fun es i s4=>qT es s4) hl (fun r i s4 h=>by unfold zdc qT; simp only[h,cond_false]) (fun r i s4 e es h g w k=>by unfold zdc qT; simp only[h,cond_true,g,Option.bind_some,w,k]) s4
def zav:List jI→Int→Option Int
 | [],s1=>some s1
 | e::es,s1 =>
  zav es (IntKind.wrap .i64 (s1+((List.length e:Nat):Int)))
theorem zjZ (s0:jR) (s1:Int) (hl:List.length s0≤maxLen):lp zfv zd (s0,s1,0)=zav s0 s1:=zaT zfv (fun i s1=>(s0,s1,i)) (fun es i s1=>zav es s1) hl (fun r i s1 h=>by unfold zfv zav; simp only[h,cond_false]) (fun r i s1 e es h g w k=>by unfold zfv zav; simp only[h,cond_true,g,Option.bind_some,w,k]) s1
def zat (s0:jS) (s3:jR):List jI→Option (Unit⊕Bool)
 | []=>some (Sum.inl ())
 | e::es =>
  (zd3 s0 e).bind fun r19 =>
  cond (decide (r19<0))
  (some (Sum.inr false))
  ((gx s3 0).bind fun e20 =>
   (zd3 s0 e20).bind fun r21 =>
   cond (r19 != r21)
   (some (Sum.inr false))
   (zat s0 s3 es))
theorem zkD (s0:jS) (s2:jQ) (s3:jR) (s4:jQ) (hl:List.length s3≤maxLen):lp zfA zd (s0,0,s2,s3,s4)=zat s0 s3 s3:=zdO zfA (fun i=>(s0,i,s2,s3,s4)) (fun es i=>zat s0 s3 es) hl (fun r i h=>by unfold zfA zat; simp only[h,cond_false]) (fun r i e es h g w k=>by unfold zfA zat; simp only[h,cond_true,g,Option.bind_some,w,k])
def zbk (s0:jS):List zc→Option (Unit⊕Bool)
 | []=>some (Sum.inl ())
 | e::es =>
  (zd9 s0 e.1 e.2).bind fun r11 =>
  cond (!r11)
  (some (Sum.inr false))
  (zbk s0 es)
theorem zky (s0:jS) (s2:jQ) (s3:jR) (s4:jQ) (hl:List.length s4≤maxLen):lp zfB zd (s0,0,s2,s3,s4)=zbk s0 s4:=zdO zfB (fun i=>(s0,i,s2,s3,s4)) (fun es i=>zbk s0 es) hl (fun r i h=>by unfold zfB zbk; simp only[h,cond_false]) (fun r i e es h g w k=>by unfold zfB zbk; simp only[h,cond_true,g,Option.bind_some,w,k])
def zbo (s0:jS):List zc→Option (Unit⊕Bool)
 | []=>some (Sum.inl ())
 | e::es =>
  (zd9 s0 e.1 e.2).bind fun r5 =>
  cond (!r5)
  (some (Sum.inr false))
  (zbo s0 es)
theorem zjV (s0:jS) (s2:jQ) (s3:jR) (s4:jQ) (hl:List.length s2≤maxLen):lp zfw zd (s0,0,s2,s3,s4)=zbo s0 s2:=zdO zfw (fun i=>(s0,i,s2,s3,s4)) (fun es i=>zbo s0 es) hl (fun r i h=>by unfold zfw zbo; simp only[h,cond_false]) (fun r i e es h g w k=>by unfold zfw zbo; simp only[h,cond_true,g,Option.bind_some,w,k])
end Go.Abs.Q
namespace Go.Abs.Q
open Go Go.Abs
section
theorem zjX (n:Int):ziO n=some (zkr n):=ze1 n
theorem zuB (es:List UInt8):yz es=some (cond (es.all zuk) (.inl ()) (.inr false)):=by
 have:∀ es,yz es=ya es:=by
  intro es
  induction es with
  | nil=>rfl
  | cons e es ih =>
   unfold yz ya
   rw[zjX,ze1,ih]
 rw[this,zqu]
theorem znM (e:zi):zhx e.1 e.2.1 e.2.2.1 e.2.2.2=some (zyh e):=by
 obtain⟨s,a,b,c⟩:=e
 unfold zhx zyh zio
 dsimp only
 cases s with
 | nil=>rfl
 | cons x r =>
  rw[decide_eq_false (show ¬(((List.length (x::r):Nat):Int)<1) by rw[List.length_cons]; omega),cond_false]
  by_cases h:(x::r).length≤8
  ·rw[decide_eq_false (show ¬(((List.length (x::r):Nat):Int)>8) by omega),cond_false,qf,List.getElem?_cons_zero,Option.bind_some,zjX,Option.bind_some,ziw _ _ _ _ (by unfold maxLen; omega),zuB,decide_eq_true h]
   dsimp only
   cases zkr ((UInt8.toNat x:Nat):Int) with
   | false=>rfl
   | true =>
    cases (x::r).all zuk with
    | false=>rfl
    | true =>
     simp only[Bool.not_true,cond_false,cond_true,Option.bind_some,zb1,Bool.true_and,Bool.and_true,ge_iff_le]
     cases decide (0≤a)<;>simp only[cond_true,cond_false,Bool.true_and,Bool.false_and]
     cases decide (a≤2)<;>simp only[cond_true,cond_false,Bool.true_and,Bool.false_and]
     cases decide (0≤b)<;>simp only[cond_true,cond_false,Bool.true_and,Bool.false_and]
     cases decide (b≤3)<;>simp only[cond_true,cond_false,Bool.true_and,Bool.false_and]
     cases decide (1≤c)<;>simp only[cond_true,cond_false,Bool.true_and,Bool.false_and]
  ·rw[decide_eq_true (show (((List.length (x::r):Nat):Int)>8) by omega),decide_eq_false h]
   rfl
theorem zpA (a0:List zi) (nm:Str) (h:a0.length≤maxLen):zj5 a0 nm=some (zA1 (a0.findIdx? (fun e=>e.1==nm))):=by
 have:∀ es i,zaR nm es i=qp nm es i:=by
  intro es
  induction es with
  | nil=>intro i; rfl
  | cons e es ih=>intro i; unfold zaR qp; rw[ih]
 unfold zj5
 rw[zjH _ _ h,this,zvY]
 cases a0.findIdx? (fun e=>e.1==nm) with
 | none=>rfl
 | some j=>simp [z6,zA1]
theorem zDV (a0:List zi) (h:a0.length≤maxLen) (es:List zi) (i:Nat):zai a0 es i=some (cond (zkS a0 es i) (.inl ()) (.inr false)):=by
 induction es generalizing i with
 | nil=>rfl
 | cons e es ih =>
  unfold zai zkS
  rw[znM,Option.bind_some,zpA _ _ h,Option.bind_some,ih,bne]
  cases zyh e with
  | false=>rfl
  | true =>
   cases (zA1 (a0.findIdx? (fun d=>d.1==e.1))==(i:Int)) with
   | false=>rfl
   | true=>simp
theorem zhQ (a0:List zi):zf6 a0=some (zdp a0):=by
 unfold zf6 zdp
 cases a0 with
 | nil=>rfl
 | cons e es =>
  rw[decide_eq_false (show ¬(((List.length (e::es):Nat):Int)<1) by rw[List.length_cons]; omega),cond_false]
  by_cases h:(e::es).length≤20
  ·have h1:¬(((List.length (e::es):Nat):Int)>20):=by omega
   have hm:(e::es).length≤maxLen:=by unfold maxLen; omega
   rw[decide_eq_false h1,cond_false,qf,List.getElem?_cons_zero,Option.bind_some,decide_eq_true h]
   show cond (!(eqQ e)) _ _=some (true&&eqQ e&&zkS (e::es) es 1)
   cases eqQ e with
   | false=>rfl
   | true =>
    have:=ziC (e::es) hm es 1 zd rfl (by simp [zd]; simp at h; omega)
    simp only[Bool.not_true,cond_false]
    rw[show ((1:Int))=((1:Nat):Int) from rfl,this,zDV _ hm]
    cases zkS (e::es) es 1<;>rfl
  ·have h1:((List.length (e::es):Nat):Int)>20:=by omega
   rw[decide_eq_true h1,decide_eq_false h]
   rfl
theorem zxF {a0:List zi} (h:SignOk a0) (a1:List Int) (hl:a1.length≤1099511627776):∀(m i n:Nat) (k:Nat),a1.length - i=m→i≤a1.length→n≤1+3*i→m+1<k →
  lp zd4 k (a0,a1,(n:Int),(i:Int))=some (match sk a0 n (a1.drop i) with
   | some j=>.inl ((i+j:Nat):Int)
   | none=>.inr (-1)):=by
 intro m
 induction m with
 | zero =>
  intro i n k hm hi hni hk
  obtain⟨k,rfl⟩:∃ k',k=k'+1:=⟨k - 1,by omega⟩
  rw[zj]
  generalize lp zd4 k=rec
  unfold zd4
  rw[List.drop_eq_nil_iff.2 (show a1.length≤i by omega)]
  cases n with
  | zero=>simp [sk]
  | succ n =>
   simp only[decide_eq_true (show ((n+1:Nat):Int)>0 by omega),cond_true,decide_eq_true (show ((i:Int)≥((List.length a1:Nat):Int)) by omega)]
   rfl
 | succ m ih =>
  intro i n k hm hi hni hk
  obtain⟨k,rfl⟩:∃ k',k=k'+1:=⟨k - 1,by omega⟩
  have hi:i<a1.length:=by omega
  rw[zj]
  have key:=fun n' h1=>ih (i+1) n' k (by omega) (by omega) h1 (by omega)
  generalize lp zd4 k=rec at key ⊢
  unfold zd4
  cases n with
  | zero=>simp [sk]
  | succ n =>
   have e1:IntKind.wrap .i64 (((n+1:Nat):Int) - 1)=(n:Int):=by rw[zp]<;>omega
   have e3:IntKind.wrap .i64 ((i:Int)+1)=((i+1:Nat):Int):=by rw[zp]<;>omega
   simp only[decide_eq_true (show ((n+1:Nat):Int)>0 by omega),cond_true,decide_eq_false (show ¬((i:Int)≥((List.length a1:Nat):Int)) by omega),cond_false,yx,List.getElem?_eq_getElem hi,Option.bind_some,List.drop_eq_getElem_cons hi,sk,e1,e3]
   generalize a1[i]=x
   unfold zc2
   by_cases h0:x<0
   ·rw[decide_eq_true h0,cond_true]
    by_cases h1 : -24≤x
    ·rw[decide_eq_false (show ¬(x < -24) by omega),cond_false,decide_eq_false (show ¬(x≥((List.length a0:Nat):Int)) by omega),cond_false,decide_eq_false (show ¬(x≥0) by omega),cond_false,decide_eq_true h1,cond_true,key n (by omega)]
     dsimp only
     rw[Nat.add_zero]
     cases sk a0 n (a1.drop (i+1)) with
     | none=>rfl
     | some j=>simp only[Option.map_some]; rw[show i+1+j=i+(j+1) from by omega]
    ·rw[decide_eq_true (show x < -24 by omega),decide_eq_false h1]; rfl
   ·rw[decide_eq_false h0,decide_eq_false (show ¬(x < -24) by omega),cond_false,cond_false]
    by_cases h1:x≥((List.length a0:Nat):Int)
    ·rw[decide_eq_true h1,cond_true,List.getElem?_eq_none (by omega)]
    ·obtain⟨e,he1,he2,he3⟩:=zkn (xs:=a0) (i:=x) (by omega) (by omega)
     have hat:=h.at he3
     rw[decide_eq_false h1,cond_false,decide_eq_true (show x≥0 by omega),cond_true,he1,Option.bind_some,he3]
     dsimp only
     cases hk0:(e.2.1==0) with
     | true=>rfl
     | false =>
      have e2:IntKind.wrap .i64 ((n:Int)+e.2.2.1)=((n+e.2.2.1.toNat:Nat):Int):=by rw[zp]<;>omega
      simp only[cond_false,Option.bind_some,e2]
      rw[key _ (by omega)]
      cases sk a0 (n+e.2.2.1.toNat) (a1.drop (i+1)) with
      | none=>rfl
      | some j=>simp only[Option.map_some]; rw[show i+1+j=i+(j+1) from by omega]
def zu7 (o:Option Nat):Int:=match o with
 | some k=>(k:Int)
 | none => -1
theorem zmK {a0:List zi} (h:SignOk a0) (a1:List Int) (hl:a1.length≤1099511627776) (i:Nat) (hi:i≤a1.length):ziV a0 a1 (i:Int)=some (zu7 ((sk a0 1 (a1.drop i)).map (i + ·))):=by
 unfold ziV
 rw[show (1:Int)=((1:Nat):Int) from rfl,zxF h a1 hl (a1.length - i) i 1 zd rfl hi (by omega) (by unfold zd; omega)]
 cases sk a0 1 (a1.drop i) with
 | none=>rfl
 | some j=>rfl
theorem zrz {a0:List zi} (h:SignOk a0) (a1:List Int) (hl:a1.length≤1099511627776):∀(m i n k:Nat),a1.length - i=m→i≤a1.length→n≤i→m<k →
  lp ze8 k (a0,a1,(n:Int),(i:Int))=some (match zlI a0 (a1.drop i) with
   | some ps=>.inl ((n+ps.length:Nat):Int)
   | none=>.inr (-1)):=by
 intro m
 induction m using Nat.strongRecOn with
 | _ m ih =>
  intro i n k hm hi hn hk
  obtain⟨k,rfl⟩:∃ k',k=k'+1:=⟨k - 1,by omega⟩
  rw[zj]
  have key:=fun j n' (h1:i<j) h2 h3=>ih (a1.length - j) (by omega) j n' k rfl h2 h3 (by omega)
  generalize lp ze8 k=rec at key ⊢
  unfold ze8
  by_cases he:i=a1.length
  ·subst he
   simp [zlR]
  ·have hlt:i<a1.length:=by omega
   have hne:a1.drop i≠[]:=by simp; omega
   simp only[zbC hlt,cond_true,zmK h a1 hl i hi,Option.bind_some,zeI hne]
   cases hs:sk a0 1 (a1.drop i) with
   | none=>rfl
   | some j =>
    have hj:=zm5 hs
    rw[List.length_drop] at hj
    have e1:IntKind.wrap .i64 ((n:Int)+1)=((n+1:Nat):Int):=by rw[zp]<;>omega
    rw[show zu7 (Option.map (fun x=>i+x) (some j))=((i+j:Nat):Int) from rfl,decide_eq_false (show ¬(((i+j:Nat):Int)<0) by omega),cond_false,e1]
    rw[key (i+j) (n+1) (by omega) (by omega) (by omega)]
    dsimp only
    rw[List.drop_drop]
    cases zlI a0 (a1.drop (i+j)) with
    | none=>rfl
    | some ps=>simp only[Option.map_some,List.length_cons]; rw[show n+1+ps.length=n+(ps.length+1) from by omega]
theorem zha {a0:List zi} (hs:zdp a0=true) (a1:List Int):zd3 a0 a1=some (zu7 (zhG a0 a1)):=by
 have h:=zbW hs
 unfold zd3 zhG zbS
 rw[hs,Bool.true_and]
 by_cases hl:a1.length≤48
 ·have:=zrz h a1 (by omega) a1.length 0 0 zd rfl (Nat.zero_le _) (Nat.le_refl _) (by unfold zd; omega)
  rw[show ((0:Nat):Int)=0 from rfl,List.drop_zero] at this
  rw[decide_eq_false (show ¬(((List.length a1:Nat):Int)>48) by omega),decide_eq_true hl,cond_false,cond_true,this]
  cases zlI a0 a1 with
  | none=>rfl
  | some ps=>simp [z6,zu7]
 ·rw[decide_eq_true (show (((List.length a1:Nat):Int)>48) by omega),decide_eq_false hl]; rfl
theorem znz {a0:List zi} (hs:zdp a0=true) (xs:List Int):zjM a0 xs=some (qz a0 xs):=by
 have h:=zbW hs
 unfold zjM qz
 cases xs with
 | nil=>rfl
 | cons x r =>
  simp only[decide_eq_true (show (((x::r).length:Nat):Int)>0 by simp<;>omega),cond_true,qf,List.getElem?_cons_zero,Option.bind_some]
  by_cases h0:x<0
  ·rw[decide_eq_false (show ¬(x≥0) by omega)]; rfl
  ·rw[decide_eq_true (show x≥0 by omega),cond_true,Bool.true_and]
   by_cases h1:x≥((List.length a0:Nat):Int)
   ·rw[decide_eq_false (show ¬(x<((List.length a0:Nat):Int)) by omega),List.getElem?_eq_none (by omega)]; rfl
   ·obtain⟨e,he1,he2,he3⟩:=zkn (xs:=a0) (i:=x) (by omega) (by omega)
    have hat:=h.at he3
    simp only[decide_eq_true (show x<((List.length a0:Nat):Int) by omega),cond_true,he1,he3,Option.bind_some]
    cases hk:(e.2.1==0) with
    | false=>rfl
    | true =>
     simp only[cond_true,zcM,Option.bind_some,zha hs,Bool.true_and]
     unfold zhG
     cases zbS a0 r with
     | none =>
      have:((-1:Int)==e.2.2.1)=false:=by simp; omega
      simp [zu7,this]
     | some ps=>rfl
theorem zuU {a0:List zi} {xs:List Int} (h:qz a0 xs=true):zdp a0=true:=by
 obtain⟨_,_,_,_,_,_,_,_,_,hs,_⟩:=ziT h
 exact hs
theorem znH (a0:List zi) (b:Bool) (xs:List Int):zd9 a0 b xs=some (qz a0 xs):=by
 unfold zd9
 rw[zhQ,Option.bind_some]
 cases hs:zdp a0 with
 | true=>rw[cond_true,znz hs]; rfl
 | false =>
  cases ha:qz a0 xs with
  | false=>rfl
  | true=>rw[zuU ha] at hs; cases hs
theorem zwL (s:List zc):(es:List zc)→(acc:List jI)→acc.length+es.length≤1000000→qW es acc=some (acc++es.map (·.2))∧qT es acc=some (acc++es.map (·.2))
 | [],acc,_=>⟨by simp [qW],by simp [qT]⟩
 | e::es,acc,h=>by
  rw[List.length_cons] at h
  obtain⟨k1,k2⟩:=zwL s es (acc++[e.2]) (by simp; omega)
  unfold qW qT
  rw[zq (show (acc.length+[e.2].length)*24≤140737488351232 by simp; omega),cond_true,cond_true,k1,k2]
  simp
theorem zBw:(es:List jI)→(acc:List jI)→acc.length+es.length≤1000000→qY es acc=some (acc++es)
 | [],acc,_=>by simp [qY]
 | e::es,acc,h=>by
  rw[List.length_cons] at h
  have k1:=zBw es (acc++[e]) (by simp; omega)
  unfold qY
  rw[zq (show (acc.length+[e].length)*24≤140737488351232 by simp; omega),cond_true,k1]
  simp
theorem zii (a1:List zc) (a2:List jI) (a3:List zc) (h1:a1.length≤1000) (h2:a2.length≤1000) (h3:a3.length≤1000):zgI a1 a2 a3=some (a1.map (·.2)++a2++a3.map (·.2)):=by
 unfold zgI
 rw[zjA _ _ _ _ (by unfold maxLen; omega),(zwL [] a1 [] (by simp; omega)).2,Option.bind_some,zjr _ _ _ _ (by unfold maxLen; omega),zBw a2 _ (by simp; omega),Option.bind_some,
  zjq _ _ _ _ (by unfold maxLen; omega),(zwL [] a3 _ (by simp; omega)).1]
 simp
theorem zyG:(es:List jI)→(t:Nat)→t+zn es≤1000000000000→zav es (t:Int)=some ((t+zn es:Nat):Int)
 | [],t,_=>by simp [zav,zn]
 | e::es,t,h=>by
  have hs:zn (e::es)=e.length+zn es:=by simp [zn]
  rw[hs] at h
  unfold zav
  have e1:IntKind.wrap .i64 ((t:Int)+((List.length e:Nat):Int))=((t+e.length:Nat):Int):=by rw[zp]<;>omega
  rw[e1,zyG es (t+e.length) (by omega),hs]
  congr 2
  omega
theorem zoZ (a0:List zi):(es:List zc)→zbo a0 es=some (cond (zeC a0 es) (.inl ()) (.inr false))∧zbk a0 es=some (cond (zeC a0 es) (.inl ()) (.inr false))
 | []=>⟨rfl,rfl⟩
 | e::es=>by
  obtain⟨k1,k2⟩:=zoZ a0 es
  unfold zbo zbk
  rw[znH,k1,k2]
  unfold zeC
  rw[List.all_cons]
  cases qz a0 e.2<;>exact ⟨rfl,rfl⟩
theorem zts {a0:List zi} (hs:zdp a0=true) (s3:List jI) (r:List Int) (h0:s3[0]? = some r):(es:List jI)→zat a0 s3 es=some (cond (es.all fun q=>(zhG a0 q).isSome&&(zhG a0 q==zhG a0 r)) (.inl ()) (.inr false))
 | []=>rfl
 | e::es=>by
  unfold zat
  rw[zha hs,Option.bind_some,qf,h0,Option.bind_some,zha hs,Option.bind_some,zts hs s3 r h0 es,List.all_cons]
  cases h1:zhG a0 e with
  | none=>rfl
  | some n =>
   rw[show zu7 (some n)=(n:Int) from rfl,decide_eq_false (show ¬((n:Int)<0) by omega),cond_false]
   cases h2:zhG a0 r with
   | none =>
    rw[show (((n:Int)) != zu7 none)=true from by simp [zu7]<;>omega]
    rfl
   | some k =>
    by_cases hn:n=k
    ·subst hn; simp [zu7]
    ·have e1:(((n:Int)) != zu7 (some k))=true:=by simp [zu7]; omega
     have e2:(some n==some k)=false:=by simpa using hn
     rw[e1,e2]; simp
theorem zuv {a0:List zi} (r:List Int) (rs:List jI):((r::rs).all fun q=>(zhG a0 q).isSome&&(zhG a0 q==zhG a0 r))=zgA a0 (r::rs):=by
 unfold zgA
 dsimp only
 cases hr:zhG a0 r with
 | none=>simp [hr]
 | some n =>
  rw[List.all_cons,hr]
  simp only[Option.isSome_some,beq_self_eq_true,Bool.true_and]
  congr 1
  funext q
  cases zhG a0 q<;>simp
theorem zN (a0:List zi) (a1:List zc) (a2:List jI) (a3:List zc):zfb a0 a1 a2 a3=some (zb5 a0 a1 a2 a3):=by
 unfold zfb zb5
 rw[zhQ,Option.bind_some]
 cases hs:zdp a0 with
 | false=>rfl
 | true =>
  by_cases h1:a1.length≤5
  ·by_cases h3:a3.length≤3
   ·by_cases h2:a2.length≤3
    ·simp only[Bool.not_true,cond_false,decide_eq_false (show ¬(((List.length a1:Nat):Int)>5) by omega),decide_eq_false (show ¬(((List.length a2:Nat):Int)>3) by omega),decide_eq_false (show ¬(((List.length a3:Nat):Int)>3) by omega),
      decide_eq_true h1,decide_eq_true h2,decide_eq_true h3,Bool.true_and]
     rw[zjV _ _ _ _ (by unfold maxLen; omega),(zoZ a0 a1).1]
     cases hb1:zeC a0 a1 with
     | false=>rfl
     | true =>
      simp only[cond_true,Option.bind_some,zb1,Bool.true_and]
      rw[zky _ _ _ _ (by unfold maxLen; omega),(zoZ a0 a3).2]
      cases hb3:zeC a0 a3 with
      | false=>simp [z6]
      | true =>
       simp only[cond_true,Option.bind_some,zb1,Bool.and_true]
       rw[zkD _ _ _ _ (by unfold maxLen; omega)]
       have hrows:zat a0 a2 a2=some (cond (zgA a0 a2) (.inl ()) (.inr false)):=by
        cases a2 with
        | nil=>rfl
        | cons r rs=>rw[zts hs (r::rs) r rfl (r::rs),zuv]
       rw[hrows]
       cases hb2:zgA a0 a2 with
       | false=>rfl
       | true =>
        have s1:=zkw a1 hb1
        have s2:=zto a2 hb2
        have s3:=zkw a3 hb3
        have hsum:zn (a1.map (·.2)++a2++a3.map (·.2))=zn (a1.map (·.2))+zn a2+zn (a3.map (·.2)):=by simp [zn]; omega
        simp only[cond_true,Option.bind_some,zb1,zii a1 a2 a3 (by omega) (by omega) (by omega),Bool.true_and]
        rw[zjZ _ _ (by simp only[List.length_append,List.length_map]; unfold maxLen; omega),show (0:Int)=((0:Nat):Int) from rfl,zyG _ 0 (by rw[hsum]; omega),Option.bind_some,Nat.zero_add,hsum]
        simp only[Option.some.injEq,decide_eq_decide]
        omega
    ·simp only[Bool.not_true,cond_false,decide_eq_false (show ¬(((List.length a1:Nat):Int)>5) by omega),decide_eq_false (show ¬(((List.length a3:Nat):Int)>3) by omega),decide_eq_true (show (((List.length a2:Nat):Int)>3) by omega),decide_eq_false h2,cond_true,Bool.and_false,Bool.false_and]
   ·simp only[Bool.not_true,cond_false,decide_eq_false (show ¬(((List.length a1:Nat):Int)>5) by omega),decide_eq_true (show (((List.length a3:Nat):Int)>3) by omega),decide_eq_false h3,cond_true,Bool.and_false,Bool.false_and]
  ·simp only[Bool.not_true,cond_false,decide_eq_true (show (((List.length a1:Nat):Int)>5) by omega),decide_eq_false h1,cond_true,Bool.and_false,Bool.false_and]
end
end Go.Abs.Q
namespace Go.Abs.Q
open Go Go.Abs
section
theorem zqg {a0:List zi} (h:SignOk a0) (a1:List Int) (hl:a1.length≤1099511627776):∀(m i n j k:Nat),a1.length - i=m→i≤a1.length→n≤1+3*i→sk a0 n (a1.drop i)=some j→m+1<k →
  lp zci k (a0,a1,(n:Int),(i:Int))=some ((i+j:Nat):Int):=by
 intro m
 induction m with
 | zero =>
  intro i n j k hm hi hni hs hk
  obtain⟨k,rfl⟩:∃ k',k=k'+1:=⟨k - 1,by omega⟩
  rw[zj]
  generalize lp zci k=rec
  unfold zci
  rw[List.drop_eq_nil_iff.2 (show a1.length≤i by omega)] at hs
  cases n with
  | zero =>
   simp [sk] at hs
   subst hs
   simp
  | succ n=>simp [sk] at hs
 | succ m ih =>
  intro i n j k hm hi hni hs hk
  obtain⟨k,rfl⟩:∃ k',k=k'+1:=⟨k - 1,by omega⟩
  have hi:i<a1.length:=by omega
  rw[zj]
  have key:=fun n' j' h1 h2=>ih (i+1) n' j' k (by omega) (by omega) h1 h2 (by omega)
  generalize lp zci k=rec at key ⊢
  unfold zci
  cases n with
  | zero =>
   simp [sk] at hs
   subst hs
   simp
  | succ n =>
   have e1:IntKind.wrap .i64 (((n+1:Nat):Int) - 1)=(n:Int):=by rw[zp]<;>omega
   have e3:IntKind.wrap .i64 ((i:Int)+1)=((i+1:Nat):Int):=by rw[zp]<;>omega
   rw[List.drop_eq_getElem_cons hi] at hs
   simp only[sk] at hs
   simp only[decide_eq_true (show ((n+1:Nat):Int)>0 by omega),cond_true,yx,List.getElem?_eq_getElem hi,Option.bind_some,e1,e3]
   generalize a1[i]=x at hs
   cases ha:zc2 a0 x with
   | none=>rw[ha] at hs; cases hs
   | some q =>
    rw[ha] at hs
    simp only[Option.map_eq_some_iff] at hs
    obtain⟨j',hj',rfl⟩:=hs
    by_cases h0:x<0
    ·obtain⟨_,rfl⟩:=zq3 ha h0
     rw[decide_eq_false (show ¬(x≥0) by omega),cond_false,key n j' (by omega) hj']
     rw[show i+1+j'=i+(j'+1) from by omega]
    ·obtain⟨e,he1,he2,he3,rfl⟩:=zqq ha h0
     have hat:=h.at he2
     have e2:IntKind.wrap .i64 ((n:Int)+e.2.2.1)=((n+e.2.2.1.toNat:Nat):Int):=by rw[zp]<;>omega
     rw[decide_eq_true (show x≥0 by omega),cond_true,he1,Option.bind_some,e2,key _ j' (by omega) hj']
     rw[show i+1+j'=i+(j'+1) from by omega]
theorem znP {a0:List zi} (h:SignOk a0) (a1:List Int) (hl:a1.length≤1099511627776) (i j:Nat) (hi:i≤a1.length) (hs:sk a0 1 (a1.drop i)=some j):zjf a0 a1 (i:Int)=some ((i+j:Nat):Int):=by
 unfold zjf
 rw[show (1:Int)=((1:Nat):Int) from rfl,zqg h a1 hl (a1.length - i) i 1 j zd rfl hi (by omega) hs (by unfold zd; omega)]
 rfl
theorem zrf {a0:List zi} (h:SignOk a0) (a1:List Int) (hl:a1.length≤1099511627776):∀(m i:Nat) (acc ps:List jI) (k:Nat),a1.length - i=m→i≤a1.length→acc.length≤i→zlI a0 (a1.drop i)=some ps→m<k →
  lp ze2 k (a0,a1,(i:Int),acc)=some (acc++ps):=by
 intro m
 induction m using Nat.strongRecOn with
 | _ m ih =>
  intro i acc ps k hm hi hacc hc hk
  obtain⟨k,rfl⟩:∃ k',k=k'+1:=⟨k - 1,by omega⟩
  rw[zj]
  have key:=fun j acc' ps' (h1:i<j) h2 h3 h4=>ih (a1.length - j) (by omega) j acc' ps' k rfl h2 h3 h4 (by omega)
  generalize lp ze2 k=rec at key ⊢
  unfold ze2
  by_cases he:i=a1.length
  ·subst he
   rw[List.drop_length,zlR] at hc
   injection hc with hc; subst hc
   simp
  ·have hlt:i<a1.length:=by omega
   have hne:a1.drop i≠[]:=by simp; omega
   rw[zeI hne] at hc
   cases hs:sk a0 1 (a1.drop i) with
   | none=>rw[hs] at hc; cases hc
   | some j =>
    rw[hs] at hc
    simp only[Option.map_eq_some_iff] at hc
    obtain⟨qs,hq,rfl⟩:=hc
    have hj:=zm5 hs
    rw[List.length_drop] at hj
    have e1:zcD a1 (some (i:Int)) (some ((i+j:Nat):Int))=some ((a1.drop i).take j):=by
     rw[zFm a1 (by omega) (by omega),show i+j - i=j from by omega]
    simp only[decide_eq_true (show (i:Int)<((List.length a1:Nat):Int) by omega),cond_true,znP h a1 hl i j hi hs,Option.bind_some,e1,List.length_singleton,zq (show (acc.length+1)*24≤140737488351232 by omega)]
    rw[List.drop_drop] at hq
    rw[key (i+j) _ qs (by omega) (by omega) (by simp; omega) hq]
    simp
theorem zbb {a0:List zi} (h:SignOk a0) {a1:List Int} (hl:a1.length≤1099511627776) {ps:List jI} (hc:zlI a0 a1=some ps):zO a0 a1=some ps:=by
 unfold zO
 have:=zrf h a1 hl a1.length 0 [] ps zd rfl (Nat.zero_le _) (Nat.zero_le _) hc (by unfold zd; omega)
 rw[show ((0:Nat):Int)=0 from rfl] at this
 rw[this]
 rfl
end
end Go.Abs.Q
namespace Go.Abs.Q
open Go Go.Abs
section
end
end Go.Abs.Q
namespace Go.Abs.Q
open Go Go.Abs
section
theorem znb (ys:List Int):(es:List Int)→(i:Nat)→es.length=(ys.drop i).length→yT ys es i=some (cond (decide (es=ys.drop i)) (.inl ()) (.inr false))
 | [],i,h=>by
  have:ys.drop i=[]:=List.length_eq_zero_iff.1 h.symm
  rw[this]; rfl
 | e::es,i,h=>by
  unfold yT
  rw[List.length_cons,List.length_drop] at h
  have hi:i<ys.length:=by omega
  rw[yx,List.getElem?_eq_getElem hi,Option.bind_some,List.drop_eq_getElem_cons hi,znb ys es (i+1) (by rw[List.length_drop]; omega)]
  generalize ys[i]=y
  by_cases he:e=y
  ·subst he
   rw[show (e != e)=false from by simp,cond_false]
   simp
  ·rw[show (e != y)=true from by simpa using he,cond_true]
   rw[decide_eq_false (by intro h; injection h with h1 h2; exact he h1)]
   rfl
theorem zhA {xs ys:List Int} (h:xs.length≤maxLen):zbR xs ys=some (decide (xs=ys)):=by
 unfold zbR
 by_cases hl:xs.length=ys.length
 ·rw[show (((List.length xs:Nat):Int) != ((List.length ys:Nat):Int))=false from by simp [hl],cond_false,zg1 _ _ h,znb ys xs 0 hl,List.drop_zero]
  cases decide (xs=ys)<;>rfl
 ·rw[show (((List.length xs:Nat):Int) != ((List.length ys:Nat):Int))=true from by simp; omega,cond_true,decide_eq_false (by intro h; subst h; exact hl rfl)]
theorem zmO (ys:List zc):(es:List zc)→(i:Nat)→es.length=(ys.drop i).length→(∀ e∈es,e.2.length≤maxLen)→yU ys es i=some (cond (decide (es=ys.drop i)) (.inl ()) (.inr false))
 | [],i,h,_=>by
  have:ys.drop i=[]:=List.length_eq_zero_iff.1 h.symm
  rw[this]; rfl
 | e::es,i,h,hm=>by
  unfold yU
  rw[List.length_cons,List.length_drop] at h
  have hi:i<ys.length:=by omega
  rw[yx,List.getElem?_eq_getElem hi,Option.bind_some,List.drop_eq_getElem_cons hi,zmO ys es (i+1) (by rw[List.length_drop]; omega) (fun x hx=>hm x (by simp [hx]))]
  generalize ys[i]=y
  obtain⟨a,b⟩:=e
  obtain⟨c,d⟩:=y
  have hb:b.length≤maxLen:=hm (a,b) (by simp)
  simp only[Option.bind_some,zhA hb]
  by_cases h1:a=c
  ·subst h1
   by_cases h2:b=d
   ·subst h2
    simp
   ·have:¬((a,b)::es=(a,d)::ys.drop (i+1)):=fun h=>by injection h with h _; injection h with _ h; exact h2 h
    simp [h2,this]
  ·have:¬((a,b)::es=(c,d)::ys.drop (i+1)):=fun h=>by injection h with h _; injection h with h _; exact h1 h
   have h3:(a==c)=false:=by simpa using h1
   rw[h3,decide_eq_false this]; rfl
theorem zhD {xs ys:List zc} (h:xs.length≤maxLen) (hm:∀ e∈xs,e.2.length≤maxLen):zdD xs ys=some (decide (xs=ys)):=by
 unfold zdD
 by_cases hl:xs.length=ys.length
 ·rw[show (((List.length xs:Nat):Int) != ((List.length ys:Nat):Int))=false from by simp [hl],cond_false,zg4 _ _ h,zmO ys xs 0 hl hm,List.drop_zero]
  cases decide (xs=ys)<;>rfl
 ·rw[show (((List.length xs:Nat):Int) != ((List.length ys:Nat):Int))=true from by simp; omega,cond_true,decide_eq_false (by intro h; subst h; exact hl rfl)]
theorem zmw (ys:List jI):(es:List jI)→(i:Nat)→es.length=(ys.drop i).length→(∀ e∈es,e.length≤maxLen)→yR ys es i=some (cond (decide (es=ys.drop i)) (.inl ()) (.inr false))
 | [],i,h,_=>by
  have:ys.drop i=[]:=List.length_eq_zero_iff.1 h.symm
  rw[this]; rfl
 | e::es,i,h,hm=>by
  unfold yR
  rw[List.length_cons,List.length_drop] at h
  have hi:i<ys.length:=by omega
  rw[yx,List.getElem?_eq_getElem hi,Option.bind_some,List.drop_eq_getElem_cons hi,zhA (hm e (by simp)),Option.bind_some,zmw ys es (i+1) (by rw[List.length_drop]; omega) (fun x hx=>hm x (by simp [hx]))]
  generalize ys[i]=y
  by_cases h1:e=y
  ·subst h1
   simp
  ·have:¬(e::es=y::ys.drop (i+1)):=fun h=>by injection h with h _; exact h1 h
   rw[decide_eq_false h1,decide_eq_false this]; rfl
theorem zlP {xs ys:List jI} (h:xs.length≤maxLen) (hm:∀ e∈xs,e.length≤maxLen):zeY xs ys=some (decide (xs=ys)):=by
 unfold zeY
 by_cases hl:xs.length=ys.length
 ·rw[show (((List.length xs:Nat):Int) != ((List.length ys:Nat):Int))=false from by simp [hl],cond_false,zht _ _ h,zmw ys xs 0 hl hm,List.drop_zero]
  cases decide (xs=ys)<;>rfl
 ·rw[show (((List.length xs:Nat):Int) != ((List.length ys:Nat):Int))=true from by simp; omega,cond_true,decide_eq_false (by intro h; subst h; exact hl rfl)]
theorem zeS {a0:List zc} {a1:List jI} {a2:List zc} (h0:a0.length≤maxLen) (h0m:∀ e∈a0,e.2.length≤maxLen) (h1:a1.length≤maxLen) (h1m:∀ e∈a1,e.length≤maxLen) (h2:a2.length≤maxLen) (h2m:∀ e∈a2,e.2.length≤maxLen) :
  qZ a0 a1 a2 a0 a1 a2=some true:=by
 unfold qZ
 rw[zhD h0 h0m,zlP h1 h1m,zhD h2 h2m]
 simp
end
end Go.Abs.Q
namespace Go.Abs.Q
open Go Go.Abs
end Go.Abs.Q
namespace Go.Abs.Q
open Go Go.Abs
end Go.Abs.Q
namespace Go.Abs.Q
open Go Go.Abs
section
end
end Go.Abs.Q
namespace Go.Abs.Q
open Go Go.Abs
def qv (rec:(jR×jR×Int×Int×(List (jI×Int×jI×Int))×jI×Int×jI×Int)→Option (List (jI×Int×jI×Int))) (x:(jR×jR×Int×Int×(List (jI×Int×jI×Int))×jI×Int×jI×Int)):Option (List (jI×Int×jI×Int)) :=
 cond (decide (x.2.2.2.1<x.2.2.1))
 ((gx x.1 x.2.2.2.1).bind fun e7 =>
  (gx x.2.1 x.2.2.2.1).bind fun e8 =>
  cond (yQ (List.length x.2.2.2.2.1+List.length ([(e7,x.2.2.2.2.2.2.1,e8,x.2.2.2.2.2.2.2.2)]:List (jI×Int×jI×Int))) 64)
  (rec (x.1,x.2.1,x.2.2.1,(IntKind.wrap .i64 (x.2.2.2.1+1)),(x.2.2.2.2.1++([(e7,x.2.2.2.2.2.2.1,e8,x.2.2.2.2.2.2.2.2)]:List (jI×Int×jI×Int))),x.2.2.2.2.2.1,x.2.2.2.2.2.2.1,x.2.2.2.2.2.2.2.1,x.2.2.2.2.2.2.2.2))
  (none))
 (some x.2.2.2.2.1)
def qC (a0:jI) (a1:Int) (a2:jI) (a3:Int) (a4:jS) (a5:(List ((Option jI)×Int))) (a6:(List (jI×Int×jI×Int))):Option (List (jI×Int×jI×Int)) :=
 (zbN a4 a0).bind fun r10 =>
 (zbN a4 a2).bind fun r11 =>
 ((lp qv zd) (r10,r11,((List.length r10:Nat):Int),0,a6,a0,a1,a2,a3)).bind fun r12 =>
 some r12
def yJ (a0:jI) (a1:Int) (a2:Int):Option Int :=
 (ye a2).bind fun r2 =>
 some (IntKind.wrap .i64 (r2+a1))
def zbv (rec:(jS×(List ((Option jI)×Int))×jI×Int×Int)→Option (jI×Int)) (x:(jS×(List ((Option jI)×Int))×jI×Int×Int)):Option (jI×Int) :=
 (gx x.2.2.1 0).bind fun e6 =>
 cond (decide (e6<0))
 ((gx x.2.2.1 0).bind fun e7 =>
  (yJ x.2.2.1 x.2.2.2.1 e7).bind fun r8 =>
  (inR r8 48).bind fun k9 =>
  (x.2.1[k9]?).bind fun x10 =>
  cond (Option.isNone x10.1)
  (some (x.2.2.1,x.2.2.2.1))
  (rec (x.1,x.2.1,(Option.getD x10.1 []),x10.2,x.2.2.2.2)))
 (some (x.2.2.1,x.2.2.2.1))
def zbq (a0:jI) (a1:Int) (a2:jS) (a3:(List ((Option jI)×Int))):Option (jI×Int) :=
 ((lp zbv zd) (a2,a3,a0,a1,0)).bind fun r12 =>
 some (r12.1,r12.2)
def qE (rec:(Int×jI×Int×Int×jS×(List ((Option jI)×Int))×jI×Int×(List Bool)×(List (jI×Int)))→Option (((List Bool)×(List (jI×Int)))⊕Bool)) (x:(Int×jI×Int×Int×jS×(List ((Option jI)×Int))×jI×Int×(List Bool)×(List (jI×Int)))):Option (((List Bool)×(List (jI×Int)))⊕Bool) :=
 cond (decide (x.2.2.2.1<x.2.2.1))
 ((gx x.2.1 x.2.2.2.1).bind fun e14 =>
  cond (decide (e14≥0))
  (rec (x.1,x.2.1,x.2.2.1,(IntKind.wrap .i64 (x.2.2.2.1+1)),x.2.2.2.2.1,x.2.2.2.2.2.1,x.2.2.2.2.2.2.1,x.2.2.2.2.2.2.2.1,x.2.2.2.2.2.2.2.2.1,x.2.2.2.2.2.2.2.2.2))
  ((yJ x.2.2.2.2.2.2.1 x.2.2.2.2.2.2.2.1 e14).bind fun r15 =>
   cond (r15==x.1)
   (some (Sum.inr true))
   ((inR r15 48).bind fun k16 =>
    (x.2.2.2.2.2.2.2.2.1[k16]?).bind fun x17 =>
    cond (!x17)
    ((inR r15 48).bind fun k18 =>
     (x.2.2.2.2.2.1[k18]?).bind fun x19 =>
     cond (!(Option.isNone x19.1))
     ((inR r15 48).bind fun k20 =>
      (x.2.2.2.2.2.2.2.2.1[k20]?).bind fun x21 =>
      (inR r15 48).bind fun k22 =>
      (x.2.2.2.2.2.1[k22]?).bind fun x23 =>
      cond (yQ (List.length x.2.2.2.2.2.2.2.2.2+List.length ([((Option.getD x23.1 []),x23.2)]:List (jI×Int))) 32)
      (rec (x.1,x.2.1,x.2.2.1,(IntKind.wrap .i64 (x.2.2.2.1+1)),x.2.2.2.2.1,x.2.2.2.2.2.1,x.2.2.2.2.2.2.1,x.2.2.2.2.2.2.2.1,(List.set x.2.2.2.2.2.2.2.2.1 k20 true),(x.2.2.2.2.2.2.2.2.2++([((Option.getD x23.1 []),x23.2)]:List (jI×Int)))))
      (none))
     (rec (x.1,x.2.1,x.2.2.1,(IntKind.wrap .i64 (x.2.2.2.1+1)),x.2.2.2.2.1,x.2.2.2.2.2.1,x.2.2.2.2.2.2.1,x.2.2.2.2.2.2.2.1,x.2.2.2.2.2.2.2.2.1,x.2.2.2.2.2.2.2.2.2)))
    (rec (x.1,x.2.1,x.2.2.1,(IntKind.wrap .i64 (x.2.2.2.1+1)),x.2.2.2.2.1,x.2.2.2.2.2.1,x.2.2.2.2.2.2.1,x.2.2.2.2.2.2.2.1,x.2.2.2.2.2.2.2.2.1,x.2.2.2.2.2.2.2.2.2)))))
 (some (Sum.inl (x.2.2.2.2.2.2.2.2.1,x.2.2.2.2.2.2.2.2.2)))
def zaI (rec:(Int×jS×(List ((Option jI)×Int))×jI×Int×(List Bool)×(List (jI×Int)))→Option (Unit⊕Bool)) (x:(Int×jS×(List ((Option jI)×Int))×jI×Int×(List Bool)×(List (jI×Int)))):Option (Unit⊕Bool) :=
 cond (decide (((List.length x.2.2.2.2.2.2:Nat):Int)>0))
 ((inR (IntKind.wrap .i64 (((List.length x.2.2.2.2.2.2:Nat):Int) - 1)) (List.length x.2.2.2.2.2.2)).bind fun k32 =>
  (x.2.2.2.2.2.2[k32]?).bind fun x33 =>
  (zcD x.2.2.2.2.2.2 none (some (IntKind.wrap .i64 (((List.length x.2.2.2.2.2.2:Nat):Int) - 1)))).bind fun y34 =>
  ((lp qE zd) (x.1,x33.1,((List.length x33.1:Nat):Int),0,x.2.1,x.2.2.1,x33.1,x33.2,x.2.2.2.2.2.1,y34)).bind fun r35 =>
  z6 r35
  (fun z36=>rec (x.1,x.2.1,x.2.2.1,x33.1,x33.2,z36.1,z36.2))
  (fun z37=>some (Sum.inr z37)))
 (some (Sum.inl ()))
def zcW (a0:Int) (a1:jI) (a2:Int) (a3:jS) (a4:(List ((Option jI)×Int))):Option Bool :=
 ((lp zaI zd) (a0,a3,a4,a1,a2,(List.replicate 48 false),([(a1,a2)]:List (jI×Int)))).bind fun r41 =>
 z6 r41
 (fun z42=>some false)
 (fun z43=>some z43)
def qj (a0:jI) (a1:Int) (a2:jI) (a3:Int) (a4:jS) (a5:(List ((Option jI)×Int))):Option (Bool×jS×(List ((Option jI)×Int))) :=
 (gx a0 0).bind fun e16 =>
 (yJ a0 a1 e16).bind fun r17 =>
 (gx a2 0).bind fun e18 =>
 cond (decide (e18≥0))
 ((zcW r17 a2 a3 a4 a5).bind fun r19 =>
  cond r19
  (some (false,a4,a5))
  ((inR r17 48).bind fun k20 =>
   (a5[k20]?).bind fun x21 =>
   (nn a2).bind fun p22 =>
   some (true,a4,(List.set a5 k20 ((some p22),a3)))))
 ((gx a2 0).bind fun e23 =>
  (yJ a2 a3 e23).bind fun r24 =>
  cond (decide (r24>r17))
  ((inR r24 48).bind fun k25 =>
   (a5[k25]?).bind fun x26 =>
   (nn a0).bind fun p27 =>
   some (true,a4,(List.set a5 k25 ((some p27),a1))))
  (cond (decide (r24<r17))
   ((inR r17 48).bind fun k28 =>
    (a5[k28]?).bind fun x29 =>
    (nn a2).bind fun p30 =>
    some (true,a4,(List.set a5 k28 ((some p30),a3))))
   (some (true,a4,a5))))
def zw (rec:(jS×(List ((Option jI)×Int))×(List (jI×Int×jI×Int)))→Option (Bool×jS×(List ((Option jI)×Int)))) (x:(jS×(List ((Option jI)×Int))×(List (jI×Int×jI×Int)))):Option (Bool×jS×(List ((Option jI)×Int))) :=
 cond (((List.length x.2.2:Nat):Int)==0)
 (some (true,x.1,x.2.1))
 ((inR (IntKind.wrap .i64 (((List.length x.2.2:Nat):Int) - 1)) (List.length x.2.2)).bind fun k27 =>
  (x.2.2[k27]?).bind fun x28 =>
  (zbq x28.1 x28.2.1 x.1 x.2.1).bind fun r29 =>
  (inR (IntKind.wrap .i64 (((List.length x.2.2:Nat):Int) - 1)) (List.length x.2.2)).bind fun k30 =>
  (x.2.2[k30]?).bind fun x31 =>
  (zbq x31.2.2.1 x31.2.2.2 x.1 x.2.1).bind fun r32 =>
  (zcD x.2.2 none (some (IntKind.wrap .i64 (((List.length x.2.2:Nat):Int) - 1)))).bind fun y33 =>
  (gx r29.1 0).bind fun e34 =>
  cond (decide (e34<0))
  ((qj r29.1 r29.2 r32.1 r32.2 x.1 x.2.1).bind fun r35 =>
   cond r35.1
   (rec (r35.2.1,r35.2.2,y33))
   (some (false,r35.2.1,r35.2.2)))
  ((gx r32.1 0).bind fun e36 =>
   cond (decide (e36<0))
   ((qj r32.1 r32.2 r29.1 r29.2 x.1 x.2.1).bind fun r37 =>
    cond r37.1
    (rec (r37.2.1,r37.2.2,y33))
    (some (false,r37.2.1,r37.2.2)))
   ((gx r29.1 0).bind fun e38 =>
    (gx r32.1 0).bind fun e39 =>
    cond (e38 != e39)
    (some (false,x.1,x.2.1))
    ((zcD r29.1 (some 1) none).bind fun y40 =>
     (zcD r32.1 (some 1) none).bind fun y41 =>
     (qC y40 r29.2 y41 r32.2 x.1 x.2.1 y33).bind fun r42 =>
     rec (x.1,x.2.1,r42)))))
def za6 (a0:jI) (a1:Int) (a2:jI) (a3:Int) (a4:jS) (a5:(List ((Option jI)×Int))):Option (Bool×jS×(List ((Option jI)×Int))) :=
 (qC a0 a1 a2 a3 a4 a5 ([]:(List (jI×Int×jI×Int)))).bind fun r53 =>
 cond (((List.length r53:Nat):Int)==0)
 (some (true,a4,a5))
 ((inR (IntKind.wrap .i64 (((List.length r53:Nat):Int) - 1)) (List.length r53)).bind fun k54 =>
  (r53[k54]?).bind fun x55 =>
  (zbq x55.1 x55.2.1 a4 a5).bind fun r56 =>
  (inR (IntKind.wrap .i64 (((List.length r53:Nat):Int) - 1)) (List.length r53)).bind fun k57 =>
  (r53[k57]?).bind fun x58 =>
  (zbq x58.2.2.1 x58.2.2.2 a4 a5).bind fun r59 =>
  (zcD r53 none (some (IntKind.wrap .i64 (((List.length r53:Nat):Int) - 1)))).bind fun y60 =>
  (gx r56.1 0).bind fun e61 =>
  cond (decide (e61<0))
  ((qj r56.1 r56.2 r59.1 r59.2 a4 a5).bind fun r62 =>
   cond r62.1
   ((((lp zw zd) (r62.2.1,r62.2.2,y60))).bind fun r63 =>
    some (r63.1,r63.2.1,r63.2.2))
   (some (false,r62.2.1,r62.2.2)))
  ((gx r59.1 0).bind fun e64 =>
   cond (decide (e64<0))
   ((qj r59.1 r59.2 r56.1 r56.2 a4 a5).bind fun r65 =>
    cond r65.1
    ((((lp zw zd) (r65.2.1,r65.2.2,y60))).bind fun r66 =>
     some (r66.1,r66.2.1,r66.2.2))
    (some (false,r65.2.1,r65.2.2)))
   ((gx r56.1 0).bind fun e67 =>
    (gx r59.1 0).bind fun e68 =>
    cond (e67 != e68)
    (some (false,a4,a5))
    ((zcD r56.1 (some 1) none).bind fun y69 =>
     (zcD r59.1 (some 1) none).bind fun y70 =>
     (qC y69 r56.2 y70 r59.2 a4 a5 y60).bind fun r71 =>
     (((lp zw zd) (a4,a5,r71))).bind fun r72 =>
     some (r72.1,r72.2.1,r72.2.2)))))
def zal (a0:(Option jI)) (a1:Int) (a2:Int):Option Int :=
 (ye a2).bind fun r2 =>
 some (IntKind.wrap .i64 (r2+a1))
def yI (rf:(((Option jI)×Int×jS×(List ((Option jI)×Int)))→Option (Option jI))) (rec:((Option jI)×Int×Int×jS×(List ((Option jI)×Int))×(Option jI)×Int×jI)→Option (jI⊕Unit)) (x:((Option jI)×Int×Int×jS×(List ((Option jI)×Int))×(Option jI)×Int×jI)):Option (jI⊕Unit) :=
 cond (decide (x.2.2.1<x.2.1))
 ((gx (Option.getD x.1 []) x.2.2.1).bind fun e27 =>
  cond (decide (e27<0))
  ((zal x.2.2.2.2.2.1 x.2.2.2.2.2.2.1 e27).bind fun r28 =>
   (inR r28 48).bind fun k29 =>
   (x.2.2.2.2.1[k29]?).bind fun x30 =>
   cond (!(Option.isNone x30.1))
   ((zal x.2.2.2.2.2.1 x.2.2.2.2.2.2.1 e27).bind fun r31 =>
    (inR r31 48).bind fun k32 =>
    (x.2.2.2.2.1[k32]?).bind fun x33 =>
    (rf (x33.1,x33.2,x.2.2.2.1,x.2.2.2.2.1)).bind fun r34 =>
    cond (Option.isNone r34)
    (some (Sum.inr ()))
    (cond (decide ((IntKind.wrap .i64 (((List.length x.2.2.2.2.2.2.2:Nat):Int)+((List.length (Option.getD r34 []):Nat):Int)))>48))
     (some (Sum.inr ()))
     (cond (yQ (List.length x.2.2.2.2.2.2.2+List.length (Option.getD r34 [])) 8)
      (rec (x.1,x.2.1,(IntKind.wrap .i64 (x.2.2.1+1)),x.2.2.2.1,x.2.2.2.2.1,x.2.2.2.2.2.1,x.2.2.2.2.2.2.1,(x.2.2.2.2.2.2.2++(Option.getD r34 []))))
      (none))))
   ((((nn ([e27]:List Int)).bind fun _ =>
     some false)).bind fun z35 =>
    cond z35
    (some (Sum.inr ()))
    (cond (decide ((IntKind.wrap .i64 (((List.length x.2.2.2.2.2.2.2:Nat):Int)+((List.length ([e27]:List Int):Nat):Int)))>48))
     (some (Sum.inr ()))
     (cond (yQ (List.length x.2.2.2.2.2.2.2+List.length ([e27]:List Int)) 8)
      (rec (x.1,x.2.1,(IntKind.wrap .i64 (x.2.2.1+1)),x.2.2.2.1,x.2.2.2.2.1,x.2.2.2.2.2.1,x.2.2.2.2.2.2.1,(x.2.2.2.2.2.2.2++([e27]:List Int))))
      (none)))))
  ((((nn ([e27]:List Int)).bind fun _ =>
    some false)).bind fun z36 =>
   cond z36
   (some (Sum.inr ()))
   (cond (decide ((IntKind.wrap .i64 (((List.length x.2.2.2.2.2.2.2:Nat):Int)+((List.length ([e27]:List Int):Nat):Int)))>48))
    (some (Sum.inr ()))
    (cond (yQ (List.length x.2.2.2.2.2.2.2+List.length ([e27]:List Int)) 8)
     (rec (x.1,x.2.1,(IntKind.wrap .i64 (x.2.2.1+1)),x.2.2.2.1,x.2.2.2.2.1,x.2.2.2.2.2.1,x.2.2.2.2.2.2.1,(x.2.2.2.2.2.2.2++([e27]:List Int))))
     (none)))))
 (some (Sum.inl x.2.2.2.2.2.2.2))
def zeb (rf:(((Option jI)×Int×jS×(List ((Option jI)×Int)))→Option (Option jI))) (a0:(Option jI)) (a1:Int) (a2:jS) (a3:(List ((Option jI)×Int))):Option (Option jI) :=
 ((lp (yI rf) zd) (a0,((List.length (Option.getD a0 []):Nat):Int),0,a2,a3,a0,a1,([]:jI))).bind fun r40 =>
 z6 r40
 (fun z41=>((nn z41).bind fun z=>some ((2:Nat),some z)).bind fun p42 =>
  some p42.2)
 (fun z43=>some (none:(Option jI)))
def zhI (rf:(((Option jI)×Int×jS×(List ((Option jI)×Int)))→Option (Option jI))):(((Option jI)×Int×jS×(List ((Option jI)×Int)))→Option (Option jI)) :=
 fun (x:((Option jI)×Int×jS×(List ((Option jI)×Int))))=>zeb rf x.1 x.2.1 x.2.2.1 x.2.2.2
def zhK:(((Option jI)×Int×jS×(List ((Option jI)×Int)))→Option (Option jI)):=fun _=>none
def qF (k:Nat):(((Option jI)×Int×jS×(List ((Option jI)×Int)))→Option (Option jI)):=lpR zhK zhI k
def zfF (a0:(Option jI)) (a1:Int) (a2:jS) (a3:(List ((Option jI)×Int))):Option (Option jI):=(qF zd) (a0,a1,a2,a3)
def zbr (rec:(Int×jS×(List ((Option jI)×Int))×(List (Int×jI)))→Option ((List (Int×jI))⊕(Bool×Int))) (x:(Int×jS×(List ((Option jI)×Int))×(List (Int×jI)))):Option ((List (Int×jI))⊕(Bool×Int)) :=
 cond (decide (x.1<24))
 ((inR x.1 48).bind fun k16 =>
  (x.2.2.1[k16]?).bind fun x17 =>
  cond (Option.isNone x17.1)
  (rec ((IntKind.wrap .i64 (x.1+1)),x.2.1,x.2.2.1,x.2.2.2))
  ((inR x.1 48).bind fun k18 =>
   (x.2.2.1[k18]?).bind fun x19 =>
   (zfF x19.1 x19.2 x.2.1 x.2.2.1).bind fun r20 =>
   cond (Option.isNone r20)
   (some (Sum.inr (false,401)))
   ((zcH (Option.getD r20 [])).bind fun r21 =>
    cond (yQ (List.length x.2.2.2+List.length ([(x.1,r21)]:List (Int×jI))) 32)
    (rec ((IntKind.wrap .i64 (x.1+1)),x.2.1,x.2.2.1,(x.2.2.2++([(x.1,r21)]:List (Int×jI)))))
    (none))))
 (some (Sum.inl x.2.2.2))
def zdZ (a0:jS) (a1:jI) (a2:jI):Option (Bool×Int×(List (Int×jI))) :=
 (zhr a0 a1).bind fun r25 =>
 (zhr a0 a2).bind fun r26 =>
 cond (r25.2 != 0)
 (some (false,400,([]:(List (Int×jI)))))
 (cond (r26.2 != 0)
  (some (false,400,([]:(List (Int×jI)))))
  (cond (r25.1 != r26.1)
   (some (false,0,([]:(List (Int×jI)))))
   ((za6 a1 0 a2 0 a0 (List.replicate 48 ((none:(Option jI)),(0:Int)))).bind fun r27 =>
    cond (!r27.1)
    (some (false,0,([]:(List (Int×jI)))))
    (((lp zbr zd) (0,r27.2.1,r27.2.2,([]:(List (Int×jI))))).bind fun r28 =>
     z6 r28
     (fun z29=>some (true,0,z29))
     (fun z30=>some (z30.1,z30.2,([]:(List (Int×jI)))))))))
def zhd (a0:Int):Option jR :=
 cond (decide (a0<0))
 (none)
 (cond (decide ((IntKind.wrap .i64 (a0 - 0))>0))
  (cond (eqI 0 0&&eqI 0 0)
   (cond (zsB (IntKind.wrap .i64 (a0 - 0)))
    (cond (yQ (Int.toNat (IntKind.wrap .i64 (a0 - 0))) 24)
     ((zcD (List.replicate (Int.toNat (IntKind.wrap .i64 (a0 - 0))) ([]:jI)) none (some 0)).bind fun y2 =>
      some y2)
     (none))
    (none))
   (none))
  (some ([]:jR)))
def za2 (rec:((List jR)×Int×Int×jR)→Option jR) (x:((List jR)×Int×Int×jR)):Option jR :=
 cond (decide (x.2.2.1<x.2.1))
 ((gx x.1 x.2.2.1).bind fun e7 =>
  cond (yQ (List.length x.2.2.2+List.length e7) 24)
  (rec (x.1,x.2.1,(IntKind.wrap .i64 (x.2.2.1+1)),(x.2.2.2++e7)))
  (none))
 (some x.2.2.2)
def za8 (rec:((List jR)×Int×(List jR)×Int×Int)→Option Int) (x:((List jR)×Int×(List jR)×Int×Int)):Option Int :=
 cond (decide (x.2.2.2.2<x.2.2.2.1))
 ((gx x.2.2.1 x.2.2.2.2).bind fun e2 =>
  cond (decide ((IntKind.wrap .i64 (x.2.1+((List.length e2:Nat):Int)))<0))
  (none)
  (rec (x.1,(IntKind.wrap .i64 (x.2.1+((List.length e2:Nat):Int))),x.2.2.1,x.2.2.2.1,(IntKind.wrap .i64 (x.2.2.2.2+1)))))
 (some x.2.1)
def ze5 (a0:(List jR)):Option jR :=
 ((lp za8 zd) (a0,0,a0,((List.length a0:Nat):Int),0)).bind fun r9 =>
 (zhd r9).bind fun r10 =>
 ((lp za2 zd) (a0,((List.length a0:Nat):Int),0,r10)).bind fun r11 =>
 some r11
def ze3 (a0:Int):Option jQ :=
 cond (decide (a0<0))
 (none)
 (cond (decide ((IntKind.wrap .i64 (a0 - 0))>0))
  (cond (eqI 0 0&&eqI 0 0)
   (cond (zsB (IntKind.wrap .i64 (a0 - 0)))
    (cond (yQ (Int.toNat (IntKind.wrap .i64 (a0 - 0))) 32)
     ((zcD (List.replicate (Int.toNat (IntKind.wrap .i64 (a0 - 0))) (false,([]:jI))) none (some 0)).bind fun y2 =>
      some y2)
     (none))
    (none))
   (none))
  (some ([]:jQ)))
def q9 (rec:((List jQ)×Int×Int×jQ)→Option jQ) (x:((List jQ)×Int×Int×jQ)):Option jQ :=
 cond (decide (x.2.2.1<x.2.1))
 ((gx x.1 x.2.2.1).bind fun e7 =>
  cond (yQ (List.length x.2.2.2+List.length e7) 32)
  (rec (x.1,x.2.1,(IntKind.wrap .i64 (x.2.2.1+1)),(x.2.2.2++e7)))
  (none))
 (some x.2.2.2)
def zae (rec:((List jQ)×Int×(List jQ)×Int×Int)→Option Int) (x:((List jQ)×Int×(List jQ)×Int×Int)):Option Int :=
 cond (decide (x.2.2.2.2<x.2.2.2.1))
 ((gx x.2.2.1 x.2.2.2.2).bind fun e2 =>
  cond (decide ((IntKind.wrap .i64 (x.2.1+((List.length e2:Nat):Int)))<0))
  (none)
  (rec (x.1,(IntKind.wrap .i64 (x.2.1+((List.length e2:Nat):Int))),x.2.2.1,x.2.2.2.1,(IntKind.wrap .i64 (x.2.2.2.2+1)))))
 (some x.2.1)
def zcw (a0:(List jQ)):Option jQ :=
 ((lp zae zd) (a0,0,a0,((List.length a0:Nat):Int),0)).bind fun r9 =>
 (ze3 r9).bind fun r10 =>
 ((lp q9 zd) (a0,((List.length a0:Nat):Int),0,r10)).bind fun r11 =>
 some r11
def zby (rec:(Int×jQ×Int×Int×jR×jQ×jQ)→Option (jR×jQ×jQ)) (x:(Int×jQ×Int×Int×jR×jQ×jQ)):Option (jR×jQ×jQ) :=
 cond (decide (x.2.2.2.1<x.2.2.1))
 ((gx x.2.1 x.2.2.2.1).bind fun e8 =>
  cond (x.2.2.2.1 != x.1)
  (cond (yQ (List.length x.2.2.2.2.2.1+List.length ([(e8.1,e8.2)]:List zc)) 32)
   (rec (x.1,x.2.1,x.2.2.1,(IntKind.wrap .i64 (x.2.2.2.1+1)),x.2.2.2.2.1,(x.2.2.2.2.2.1++([(e8.1,e8.2)]:List zc)),x.2.2.2.2.2.2))
   (none))
  (rec (x.1,x.2.1,x.2.2.1,(IntKind.wrap .i64 (x.2.2.2.1+1)),x.2.2.2.2.1,x.2.2.2.2.2.1,x.2.2.2.2.2.2)))
 (some (x.2.2.2.2.1,x.2.2.2.2.2.1,x.2.2.2.2.2.2))
def zbB (rec:(Int×Int×jQ×Int×Int×jQ×jR×jQ×jR×jQ×jQ)→Option (jR×jQ×jQ)) (x:(Int×Int×jQ×Int×Int×jQ×jR×jQ×jR×jQ×jQ)):Option (jR×jQ×jQ) :=
 cond (decide (x.2.2.2.2.1<x.2.2.2.1))
 ((gx x.2.2.1 x.2.2.2.2.1).bind fun e5 =>
  cond (x.2.2.2.2.1 != x.1)
  (cond (yQ (List.length x.2.2.2.2.2.2.2.2.2.1+List.length ([(e5.1,e5.2)]:List zc)) 32)
   (rec (x.1,x.2.1,x.2.2.1,x.2.2.2.1,(IntKind.wrap .i64 (x.2.2.2.2.1+1)),x.2.2.2.2.2.1,x.2.2.2.2.2.2.1,x.2.2.2.2.2.2.2.1,x.2.2.2.2.2.2.2.2.1,(x.2.2.2.2.2.2.2.2.2.1++([(e5.1,e5.2)]:List zc)),x.2.2.2.2.2.2.2.2.2.2))
   (none))
  (rec (x.1,x.2.1,x.2.2.1,x.2.2.2.1,(IntKind.wrap .i64 (x.2.2.2.2.1+1)),x.2.2.2.2.2.1,x.2.2.2.2.2.2.1,x.2.2.2.2.2.2.2.1,x.2.2.2.2.2.2.2.2.1,x.2.2.2.2.2.2.2.2.2.1,x.2.2.2.2.2.2.2.2.2.2)))
 (some (x.2.2.2.2.2.2.2.2.1,x.2.2.2.2.2.2.2.2.2.1,x.2.2.2.2.2.2.2.2.2.2))
def zez (a0:jQ) (a1:jR) (a2:jQ) (a3:Int) (a4:jQ) (a5:jR) (a6:jQ) (a7:Int):Option (jR×jQ×jQ) :=
 (ze5 ([a1,a5]:List jR)).bind fun r10 =>
 (zcw ([a2,a6]:List jQ)).bind fun r11 =>
 ((lp zbB zd) (a3,a7,a0,((List.length a0:Nat):Int),0,a4,a5,a6,r10,([]:jQ),r11)).bind fun r12 =>
 ((lp zby zd) (a7,a4,((List.length a4:Nat):Int),0,r12.1,r12.2.1,r12.2.2)).bind fun r13 =>
 some (r13.1,r13.2.1,r13.2.2)
def zdf (rec:(Int×(List (Int×jI))×Int×Int)→Option (Unit⊕jI)) (x:(Int×(List (Int×jI))×Int×Int)):Option (Unit⊕jI) :=
 cond (decide (x.2.2.2<x.2.2.1))
 ((gx x.2.1 x.2.2.2).bind fun e2 =>
  cond (e2.1==x.1)
  (some (Sum.inr e2.2))
  (rec (x.1,x.2.1,x.2.2.1,(IntKind.wrap .i64 (x.2.2.2+1)))))
 (some (Sum.inl ()))
def zh3 (a0:(List (Int×jI))) (a1:Int):Option (Option jI) :=
 ((lp zdf zd) (a1,a0,((List.length a0:Nat):Int),0)).bind fun r6 =>
 z6 r6
 (fun z7=>some (none:(Option jI)))
 (fun z8=>(nn z8).bind fun p9 =>
  some (some p9))
def zfe (rec:((List (Int×jI))×jI×Int×Int×jI)→Option jI) (x:((List (Int×jI))×jI×Int×Int×jI)):Option jI :=
 cond (decide (x.2.2.2.1<x.2.2.1))
 ((gx x.2.1 x.2.2.2.1).bind fun e10 =>
  (ye e10).bind fun r11 =>
  (zh3 x.1 r11).bind fun r12 =>
  cond (decide (e10≥0))
  (cond (yQ (List.length x.2.2.2.2+List.length ([e10]:List Int)) 8)
   (rec (x.1,x.2.1,x.2.2.1,(IntKind.wrap .i64 (x.2.2.2.1+1)),(x.2.2.2.2++([e10]:List Int))))
   (none))
  (cond (Option.isNone r12)
   (cond (yQ (List.length x.2.2.2.2+List.length ([e10]:List Int)) 8)
    (rec (x.1,x.2.1,x.2.2.1,(IntKind.wrap .i64 (x.2.2.2.1+1)),(x.2.2.2.2++([e10]:List Int))))
    (none))
   (cond (yQ (List.length x.2.2.2.2+List.length (Option.getD r12 [])) 8)
    (rec (x.1,x.2.1,x.2.2.1,(IntKind.wrap .i64 (x.2.2.2.1+1)),(x.2.2.2.2++(Option.getD r12 []))))
    (none))))
 (some x.2.2.2.2)
def zkN (a0:(List (Int×jI))) (a1:jI):Option jI :=
 ((lp zfe zd) (a0,a1,((List.length a1:Nat):Int),0,([]:jI))).bind fun r14 =>
 some r14
def zaw (a0:jI) (a1:(List (Int×jI))):Option jI :=
 (zkN a1 a0).bind fun r2 =>
 some r2
def zca (rec:(jQ×Int×Int×(List (Int×jI))×jQ×jR×jQ)→Option (jQ×jR×jQ)) (x:(jQ×Int×Int×(List (Int×jI))×jQ×jR×jQ)):Option (jQ×jR×jQ) :=
 cond (decide (x.2.2.1<x.2.1))
 ((gx x.1 x.2.2.1).bind fun e19 =>
  (zaw e19.2 x.2.2.2.1).bind fun r20 =>
  cond (yQ (List.length x.2.2.2.2.2.2+List.length ([(e19.1,r20)]:List zc)) 32)
  (rec (x.1,x.2.1,(IntKind.wrap .i64 (x.2.2.1+1)),x.2.2.2.1,x.2.2.2.2.1,x.2.2.2.2.2.1,(x.2.2.2.2.2.2++([(e19.1,r20)]:List zc))))
  (none))
 (some (x.2.2.2.2.1,x.2.2.2.2.2.1,x.2.2.2.2.2.2))
def zcn (rec:(jR×Int×Int×(List (Int×jI))×jQ×jR×jQ×jQ×jR)→Option (jQ×jR)) (x:(jR×Int×Int×(List (Int×jI))×jQ×jR×jQ×jQ×jR)):Option (jQ×jR) :=
 cond (decide (x.2.2.1<x.2.1))
 ((gx x.1 x.2.2.1).bind fun e12 =>
  (zaw e12 x.2.2.2.1).bind fun r13 =>
  cond (yQ (List.length x.2.2.2.2.2.2.2.2+List.length ([r13]:List jI)) 24)
  (rec (x.1,x.2.1,(IntKind.wrap .i64 (x.2.2.1+1)),x.2.2.2.1,x.2.2.2.2.1,x.2.2.2.2.2.1,x.2.2.2.2.2.2.1,x.2.2.2.2.2.2.2.1,(x.2.2.2.2.2.2.2.2++([r13]:List jI))))
  (none))
 (some (x.2.2.2.2.2.2.2.1,x.2.2.2.2.2.2.2.2))
def zcg (rec:(jQ×Int×Int×(List (Int×jI))×jQ×jR×jQ×jQ)→Option jQ) (x:(jQ×Int×Int×(List (Int×jI))×jQ×jR×jQ×jQ)):Option jQ :=
 cond (decide (x.2.2.1<x.2.1))
 ((gx x.1 x.2.2.1).bind fun e5 =>
  (zaw e5.2 x.2.2.2.1).bind fun r6 =>
  cond (yQ (List.length x.2.2.2.2.2.2.2+List.length ([(e5.1,r6)]:List zc)) 32)
  (rec (x.1,x.2.1,(IntKind.wrap .i64 (x.2.2.1+1)),x.2.2.2.1,x.2.2.2.2.1,x.2.2.2.2.2.1,x.2.2.2.2.2.2.1,(x.2.2.2.2.2.2.2++([(e5.1,r6)]:List zc))))
  (none))
 (some x.2.2.2.2.2.2.2)
def zjc (a0:jQ) (a1:jR) (a2:jQ) (a3:(List (Int×jI))):Option (jQ×jR×jQ) :=
 ((lp zcg zd) (a0,((List.length a0:Nat):Int),0,a3,a0,a1,a2,([]:jQ))).bind fun r22 =>
 ((lp zcn zd) (a1,((List.length a1:Nat):Int),0,a3,a0,a1,a2,r22,([]:jR))).bind fun r23 =>
 ((lp zca zd) (a2,((List.length a2:Nat):Int),0,a3,r23.1,r23.2,([]:jQ))).bind fun r24 =>
 some (r24.1,r24.2.1,r24.2.2)
def zgu (a0:(List (Int×jI))) (a1:jQ) (a2:jR) (a3:jQ):Option (jQ×jR×jQ) :=
 (zjc a1 a2 a3 a0).bind fun r2 =>
 some (r2.1,r2.2.1,r2.2.2)
def zhb (a0:Bool) (a1:jI) (a2:jS):Option Bool :=
 (zg3 a2 a0 a1).bind fun r2 =>
 some (!r2)
def qc (rec:(jQ×Int×Int×jS)→Option (Unit⊕Int)) (x:(jQ×Int×Int×jS)):Option (Unit⊕Int) :=
 cond (decide (x.2.2.1<x.2.1))
 ((gx x.1 x.2.2.1).bind fun e3 =>
  (zhb e3.1 e3.2 x.2.2.2).bind fun r4 =>
  cond r4
  (some (Sum.inr x.2.2.1))
  (rec (x.1,x.2.1,(IntKind.wrap .i64 (x.2.2.1+1)),x.2.2.2)))
 (some (Sum.inl ()))
def zdr (a0:jQ) (a1:jS):Option Int :=
 ((lp qc zd) (a0,((List.length a0:Nat):Int),0,a1)).bind fun r8 =>
 z6 r8
 (fun z9=>some (-1))
 (fun z10=>some z10)
def zcx (a0:jQ) (a1:jS):Option Bool :=
 (zdr a0 a1).bind fun r2 =>
 some (decide (r2≥0))
def zc0 (a0:jS) (a1:jI):Option Bool :=
 (zd7 a0 a1).bind fun r2 =>
 cond r2.1
 (some (((List.length r2.2:Nat):Int)==1))
 (some false)
def zce (rec:(jI×Int×Int×jI)→Option jI) (x:(jI×Int×Int×jI)):Option jI :=
 cond (decide (x.2.2.1<x.2.1))
 ((gx x.1 x.2.2.1).bind fun e7 =>
  cond (decide (e7<0))
  ((ye e7).bind fun r8 =>
   (inR r8 24).bind fun k9 =>
   (x.2.2.2[k9]?).bind fun x10 =>
   (inR r8 24).bind fun k11 =>
   (x.2.2.2[k11]?).bind fun x12 =>
   rec (x.1,x.2.1,(IntKind.wrap .i64 (x.2.2.1+1)),(List.set x.2.2.2 k11 (IntKind.wrap .i64 (x10+1)))))
  (rec (x.1,x.2.1,(IntKind.wrap .i64 (x.2.2.1+1)),x.2.2.2)))
 (some x.2.2.2)
def zfy (a0:jI):Option jI :=
 ((lp zce zd) (a0,((List.length a0:Nat):Int),0,(List.replicate 24 (0:Int)))).bind fun r14 =>
 cond (Nat.beq (List.length r14) 24)
 (cond (Nat.beq (List.length r14) 24)
  (cond (Nat.beq (List.length r14) 24)
   (some r14)
   (none))
  (none))
 (none)
def zaK (rec:(Int×jI×jI)→Option (Unit⊕Bool)) (x:(Int×jI×jI)):Option (Unit⊕Bool) :=
 cond (decide (x.1<24))
 ((inR x.1 24).bind fun k11 =>
  (x.2.1[k11]?).bind fun x12 =>
  (inR x.1 24).bind fun k13 =>
  (x.2.2[k13]?).bind fun x14 =>
  cond (decide (x12<x14))
  (some (Sum.inr false))
  (rec ((IntKind.wrap .i64 (x.1+1)),x.2.1,x.2.2)))
 (some (Sum.inl ()))
def zf2 (a0:jI) (a1:jI):Option Bool :=
 (zfy a0).bind fun r18 =>
 (zfy a1).bind fun r19 =>
 cond (Nat.beq (List.length (List.replicate 24 (0:Int))) 24)
 (cond (Nat.beq (List.length (List.replicate 24 (0:Int))) 24)
  (((lp zaK zd) (0,r18,r19)).bind fun r20 =>
   z6 r20
   (fun z21=>some true)
   (fun z22=>some z22))
  (none))
 (none)
def zdV (rec:(jS×Int×jI×Int×Int)→Option Int) (x:(jS×Int×jI×Int×Int)):Option Int :=
 cond (decide (x.2.2.2.2<x.2.2.2.1))
 ((gx x.2.2.1 x.2.2.2.2).bind fun e3 =>
  cond (decide (e3<0))
  (rec (x.1,(IntKind.wrap .i64 (x.2.1+1)),x.2.2.1,x.2.2.2.1,(IntKind.wrap .i64 (x.2.2.2.2+1))))
  ((gx x.1 e3).bind fun e4 =>
   rec (x.1,(IntKind.wrap .i64 (x.2.1+e4.2.2.2)),x.2.2.1,x.2.2.2.1,(IntKind.wrap .i64 (x.2.2.2.2+1)))))
 (some x.2.1)
def zgX (a0:jS) (a1:jI):Option Int :=
 ((lp zdV zd) (a0,0,a1,((List.length a1:Nat):Int),0)).bind fun r6 =>
 some r6
def zbK (rec:(jR×jR×Int×Int)→Option (Unit⊕(jI×jI))) (x:(jR×jR×Int×Int)):Option (Unit⊕(jI×jI)) :=
 cond (decide (x.2.2.2<x.2.2.1))
 ((gx x.2.1 x.2.2.2).bind fun e7 =>
  cond (decide (x.2.2.2<((List.length x.1:Nat):Int)))
  ((gx x.1 x.2.2.2).bind fun e8 =>
   (yj e7 e8).bind fun r9 =>
   cond (!r9)
   ((gx x.1 x.2.2.2).bind fun e10 =>
    some (Sum.inr (e7,e10)))
   (rec (x.1,x.2.1,x.2.2.1,(IntKind.wrap .i64 (x.2.2.2+1)))))
  (rec (x.1,x.2.1,x.2.2.1,(IntKind.wrap .i64 (x.2.2.2+1)))))
 (some (Sum.inl ()))
def zh5 (a0:jS) (a1:jI) (a2:jI):Option (jI×jI) :=
 (zbN a0 a2).bind fun r14 =>
 (zbN a0 a1).bind fun r15 =>
 ((lp zbK zd) (r14,r15,((List.length r15:Nat):Int),0)).bind fun r16 =>
 z6 r16
 (fun z17=>some (([]:jI),([]:jI)))
 (fun z18=>some (z18.1,z18.2))
def zdP (rec:(jS×jI×jI)→Option (Unit⊕Bool)) (x:(jS×jI×jI)):Option (Unit⊕Bool) :=
 (((nn x.2.1).bind fun _ =>
  some false)).bind fun z23 =>
 cond (!z23)
 ((zf2 x.2.1 x.2.2).bind fun r24 =>
  cond r24
  ((zgX x.1 x.2.1).bind fun r25 =>
   (zgX x.1 x.2.2).bind fun r26 =>
   cond (r25 != r26)
   (some (Sum.inr (decide (r25>r26))))
   ((gx x.2.1 0).bind fun e27 =>
    (gx x.2.2 0).bind fun e28 =>
    cond (e27 != e28)
    ((gx x.2.1 0).bind fun e29 =>
     (gx x.2.2 0).bind fun e30 =>
     some (Sum.inr (decide (e29>e30))))
    ((zcD x.2.1 (some 1) none).bind fun y31 =>
     (zcD x.2.2 (some 1) none).bind fun y32 =>
     (zh5 x.1 y31 y32).bind fun r33 =>
     rec (x.1,r33.1,r33.2))))
  (some (Sum.inl ())))
 (some (Sum.inl ()))
def zaz (a0:jS) (a1:jI) (a2:jI):Option Bool :=
 ((lp zdP zd) (a0,a1,a2)).bind fun r37 =>
 z6 r37
 (fun z38=>some false)
 (fun z39=>some z39)
def zba (a0:jS) (a1:jI) (a2:jI):Option (Int×Int) :=
 (zc0 a0 a1).bind fun r19 =>
 cond r19
 ((zc0 a0 a2).bind fun r20 =>
  (zbV a0 a1).bind fun r21 =>
  cond r21
  ((zbV a0 a2).bind fun r22 =>
   cond (!r20)
   (cond (!r22)
    (some (0,600))
    ((yj a1 a2).bind fun r23 =>
     cond r23
     (some (1,0))
     ((zaz a0 a1 a2).bind fun r24 =>
      cond r24
      (some (2,0))
      ((zaz a0 a2 a1).bind fun r25 =>
       cond r25
       (some (0,0))
       (some (3,0))))))
   ((yj a1 a2).bind fun r26 =>
    cond r26
    (some (1,0))
    ((zaz a0 a1 a2).bind fun r27 =>
     cond r27
     (some (2,0))
     ((zaz a0 a2 a1).bind fun r28 =>
      cond r28
      (some (0,0))
      (some (3,0))))))
  (cond (!r20)
   (some (0,600))
   ((yj a1 a2).bind fun r29 =>
    cond r29
    (some (1,0))
    ((zaz a0 a1 a2).bind fun r30 =>
     cond r30
     (some (2,0))
     ((zaz a0 a2 a1).bind fun r31 =>
      cond r31
      (some (0,0))
      (some (3,0)))))))
 ((zbV a0 a1).bind fun r32 =>
  cond r32
  ((zbV a0 a2).bind fun r33 =>
   cond (!r33)
   (some (0,600))
   ((yj a1 a2).bind fun r34 =>
    cond r34
    (some (1,0))
    ((zaz a0 a1 a2).bind fun r35 =>
     cond r35
     (some (2,0))
     ((zaz a0 a2 a1).bind fun r36 =>
      cond r36
      (some (0,0))
      (some (3,0))))))
  (some (0,600)))
def zg7 (a0:jS) (a1:Bool) (a2:jI) (a3:Bool) (a4:jI):Option (Int×Int) :=
 (zg3 a0 a1 a2).bind fun r4 =>
 cond (!r4)
 (some (0,700))
 ((zg3 a0 a3 a4).bind fun r5 =>
  cond (!r5)
  (some (0,700))
  ((zba a0 a2 a4).bind fun r6 =>
   cond (r6.1 != 1)
   (some (r6.1,0))
   (cond (a1==a3)
    (some (r6.1,0))
    (cond a1
     (some (2,0))
     (some (0,0))))))
def zg9 (a0:Bool) (a1:jI) (a2:jS) (a3:Bool) (a4:jI):Option Bool :=
 (zg7 a2 a0 a1 a3 a4).bind fun r2 =>
 some (r2.1==2)
def y8 (rec:(jQ×Int×Int×jS×Bool×jI)→Option (Unit⊕Int)) (x:(jQ×Int×Int×jS×Bool×jI)):Option (Unit⊕Int) :=
 cond (decide (x.2.2.1<x.2.1))
 ((gx x.1 x.2.2.1).bind fun e3 =>
  (zg9 e3.1 e3.2 x.2.2.2.1 x.2.2.2.2.1 x.2.2.2.2.2).bind fun r4 =>
  cond r4
  (some (Sum.inr x.2.2.1))
  (rec (x.1,x.2.1,(IntKind.wrap .i64 (x.2.2.1+1)),x.2.2.2.1,x.2.2.2.2.1,x.2.2.2.2.2)))
 (some (Sum.inl ()))
def zdw (a0:jQ) (a1:jS) (a2:Bool) (a3:jI):Option Int :=
 ((lp y8 zd) (a0,((List.length a0:Nat):Int),0,a1,a2,a3)).bind fun r8 =>
 z6 r8
 (fun z9=>some (-1))
 (fun z10=>some z10)
def qX (a0:jQ) (a1:jS) (a2:Bool) (a3:jI):Option Bool :=
 (zdw a0 a1 a2 a3).bind fun r2 =>
 some (decide (r2≥0))
def zdY (rec:(jQ×jQ×Int×Int×jS×jI)→Option jI) (x:(jQ×jQ×Int×Int×jS×jI)):Option jI :=
 cond (decide (x.2.2.2.1<x.2.2.1))
 ((gx x.2.1 x.2.2.2.1).bind fun e7 =>
  (qX x.1 x.2.2.2.2.1 e7.1 e7.2).bind fun r8 =>
  cond (!r8)
  (cond (yQ (List.length x.2.2.2.2.2+List.length ([x.2.2.2.1]:List Int)) 8)
   (rec (x.1,x.2.1,x.2.2.1,(IntKind.wrap .i64 (x.2.2.2.1+1)),x.2.2.2.2.1,(x.2.2.2.2.2++([x.2.2.2.1]:List Int))))
   (none))
  (rec (x.1,x.2.1,x.2.2.1,(IntKind.wrap .i64 (x.2.2.2.1+1)),x.2.2.2.2.1,x.2.2.2.2.2)))
 (some x.2.2.2.2.2)
def ziG (a0:jS) (a1:jQ):Option (Int×jI) :=
 (ziM a0).bind fun r10 =>
 cond (!r10)
 (some (700,([]:jI)))
 ((zcx a1 a0).bind fun r11 =>
  cond r11
  (some (700,([]:jI)))
  (((lp zdY zd) (a1,a1,((List.length a1:Nat):Int),0,a0,([]:jI))).bind fun r12 =>
   some (0,r12)))
def zbI (a0:jS) (a1:Bool) (a2:jI):Option Bool :=
 cond a1
 (some false)
 ((gx a2 0).bind fun e9 =>
  cond (e9 != 0)
  (some false)
  ((zcD a2 (some 1) none).bind fun y10 =>
   (zbN a0 y10).bind fun r11 =>
   (inR 0 (List.length r11)).bind fun k12 =>
   (r11[k12]?).bind fun x13 =>
   (inR 1 (List.length r11)).bind fun k14 =>
   (r11[k14]?).bind fun x15 =>
   (yj x13 x15).bind fun r16 =>
   some r16))
def zcG (a0:Bool) (a1:jI) (a2:Bool) (a3:jI):Option Bool :=
 cond (!(a2==a0))
 ((yj a3 a1).bind fun r2 =>
  some r2)
 (some false)
def y0 (rec:(jQ×Int×Int×Bool×jI)→Option (Unit⊕Int)) (x:(jQ×Int×Int×Bool×jI)):Option (Unit⊕Int) :=
 cond (decide (x.2.2.1<x.2.1))
 ((gx x.1 x.2.2.1).bind fun e3 =>
  (zcG e3.1 e3.2 x.2.2.2.1 x.2.2.2.2).bind fun r4 =>
  cond r4
  (some (Sum.inr x.2.2.1))
  (rec (x.1,x.2.1,(IntKind.wrap .i64 (x.2.2.1+1)),x.2.2.2.1,x.2.2.2.2)))
 (some (Sum.inl ()))
def zdC (a0:jQ) (a1:Bool) (a2:jI):Option Int :=
 ((lp y0 zd) (a0,((List.length a0:Nat):Int),0,a1,a2)).bind fun r8 =>
 z6 r8
 (fun z9=>some (-1))
 (fun z10=>some z10)
def qM (a0:jQ) (a1:Bool) (a2:jI):Option Bool :=
 (zdC a0 a1 a2).bind fun r2 =>
 some (decide (r2≥0))
def zaA (rec:(jS×jQ×Int×Int×jQ×jR×jQ)→Option (Unit⊕(Bool×Int))) (x:(jS×jQ×Int×Int×jQ×jR×jQ)):Option (Unit⊕(Bool×Int)) :=
 cond (decide (x.2.2.2.1<x.2.2.1))
 ((gx x.2.1 x.2.2.2.1).bind fun e5 =>
  (zbI x.1 e5.1 e5.2).bind fun r6 =>
  cond r6
  (some (Sum.inr (true,0)))
  ((qM x.2.2.2.2.1 e5.1 e5.2).bind fun r7 =>
   cond r7
   (some (Sum.inr (true,0)))
   (rec (x.1,x.2.1,x.2.2.1,(IntKind.wrap .i64 (x.2.2.2.1+1)),x.2.2.2.2.1,x.2.2.2.2.2.1,x.2.2.2.2.2.2))))
 (some (Sum.inl ()))
def zcc (a0:jS) (a1:jQ) (a2:jR) (a3:jQ):Option (Bool×Int) :=
 (zaf a0 a1 a2 a3).bind fun r11 =>
 cond (!r11)
 (some (false,800))
 (((lp zaA zd) (a0,a1,((List.length a1:Nat):Int),0,a1,a2,a3)).bind fun r12 =>
  z6 r12
  (fun z13=>some (false,0))
  (fun z14=>some (z14.1,z14.2)))
def zM (a0:Int) (a1:Int) (a2:Int) (a3:Int) (a4:Int) (a5:Int) (a6:Int) (a7:jQ) (a8:jR) (a9:jQ) (a10:jQ) (a11:jR) (a12:jQ) (a13:Bool) (a14:Int) (a15:jS) (a16:Int) (a17:jT):Option (jS×Int×jT) :=
 cond (a14 != 0)
 (some (a15,(IntKind.wrap .i64 (a16+1)),a17))
 ((zcc a15 a10 a11 a12).bind fun r2 =>
  cond (!a13)
  (some (a15,a16,a17))
  (cond r2.1
   (some (a15,a16,a17))
   (cond (yQ (List.length a17+List.length ([(a0,a1,a2,a3,a4,a5,a6,a10,a11,a12)]:List jU)) 128)
    (some (a15,a16,(a17++([(a0,a1,a2,a3,a4,a5,a6,a10,a11,a12)]:List jU))))
    (none))))
def zkz (a0:Int) (a1:Int) (a2:Int) (a3:Int) (a4:Int) (a5:Int) (a6:Int) (a7:jQ) (a8:jR) (a9:jQ) (a10:Int) (a11:Int) (a12:Int) (a13:Int) (a14:Int) (a15:Int) (a16:Int) (a17:jQ) (a18:jR) (a19:jQ):Option Bool :=
 cond (a0==a10)
 (cond (a1==a11)
  (cond (a2==a12)
   (cond (a3==a13)
    (cond (a4==a14)
     (cond (a5==a15)
      (cond (a6==a16)
       ((qZ a7 a8 a9 a17 a18 a19).bind fun r2 =>
        some r2)
       (some false))
      (some false))
     (some false))
    (some false))
   (some false))
  (some false))
 (some false)
def zgy (rec:(jT×jT×Int)→Option (Unit⊕Bool)) (x:(jT×jT×Int)):Option (Unit⊕Bool) :=
 cond (decide (x.2.2<((List.length x.1:Nat):Int)))
 ((gx x.1 x.2.2).bind fun e4 =>
  (gx x.2.1 x.2.2).bind fun e5 =>
  (zkz e4.1 e4.2.1 e4.2.2.1 e4.2.2.2.1 e4.2.2.2.2.1 e4.2.2.2.2.2.1 e4.2.2.2.2.2.2.1 e4.2.2.2.2.2.2.2.1 e4.2.2.2.2.2.2.2.2.1 e4.2.2.2.2.2.2.2.2.2 e5.1 e5.2.1 e5.2.2.1 e5.2.2.2.1 e5.2.2.2.2.1 e5.2.2.2.2.2.1 e5.2.2.2.2.2.2.1 e5.2.2.2.2.2.2.2.1 e5.2.2.2.2.2.2.2.2.1 e5.2.2.2.2.2.2.2.2.2).bind fun r6 =>
  cond (!r6)
  (some (Sum.inr false))
  (rec (x.1,x.2.1,(IntKind.wrap .i64 (x.2.2+1)))))
 (some (Sum.inl ()))
def zi8 (a0:jT) (a1:jT):Option Bool :=
 cond (((List.length a0:Nat):Int) != ((List.length a1:Nat):Int))
 (some false)
 (((lp zgy zd) (a0,a1,0)).bind fun r10 =>
  z6 r10
  (fun z11=>some true)
  (fun z12=>some z12))
end Go.Abs.Q
namespace Go.Abs.Q
open Go Go.Abs
def zJ (s1:jR) (s6:Int) (s8:Int):List jI→Nat→(List (jI×Int×jI×Int))→Option (List (jI×Int×jI×Int))
 | [],i,s4=>some s4
 | e::es,i,s4 =>
  (gx s1 (i:Int)).bind fun e8 =>
  cond (yQ (List.length s4+List.length ([(e,s6,e8,s8)]:List (jI×Int×jI×Int))) 64)
  (zJ s1 s6 s8 es (i+1) (s4++([(e,s6,e8,s8)]:List (jI×Int×jI×Int))))
  (none)
theorem zfr (s0:jR) (s1:jR) (s5:jI) (s6:Int) (s7:jI) (s8:Int) (s4:(List (jI×Int×jI×Int))) (hl:List.length s0≤maxLen):lp qv zd (s0,s1,((List.length s0:Nat):Int),0,s4,s5,s6,s7,s8)=zJ s1 s6 s8 s0 0 s4:=zaT qv (fun i s4=>(s0,s1,((List.length s0:Nat):Int),i,s4,s5,s6,s7,s8)) (fun es i s4=>zJ s1 s6 s8 es i s4) hl (fun r i s4 h=>by unfold qv zJ; simp only[h,cond_false]) (fun r i s4 e es h g w k=>by unfold qv zJ; simp only[h,cond_true,g,Option.bind_some,w,k]) s4
def zk (s0:Int) (s5:(List ((Option jI)×Int))) (s6:jI) (s7:Int):List Int→(List Bool)→(List (jI×Int))→Option (((List Bool)×(List (jI×Int)))⊕Bool)
 | [],s8,s9=>some (Sum.inl (s8,s9))
 | e::es,s8,s9 =>
  cond (decide (e≥0))
  (zk s0 s5 s6 s7 es s8 s9)
  ((yJ s6 s7 e).bind fun r15 =>
   cond (r15==s0)
   (some (Sum.inr true))
   ((inR r15 48).bind fun k16 =>
    (s8[k16]?).bind fun x17 =>
    cond (!x17)
    ((inR r15 48).bind fun k18 =>
     (s5[k18]?).bind fun x19 =>
     cond (!(Option.isNone x19.1))
     ((inR r15 48).bind fun k20 =>
      (s8[k20]?).bind fun x21 =>
      (inR r15 48).bind fun k22 =>
      (s5[k22]?).bind fun x23 =>
      cond (yQ (List.length s9+List.length ([((Option.getD x23.1 []),x23.2)]:List (jI×Int))) 32)
      (zk s0 s5 s6 s7 es (List.set s8 k20 true) (s9++([((Option.getD x23.1 []),x23.2)]:List (jI×Int))))
      (none))
     (zk s0 s5 s6 s7 es s8 s9))
    (zk s0 s5 s6 s7 es s8 s9)))
theorem zfR (s0:Int) (s1:jI) (s4:jS) (s5:(List ((Option jI)×Int))) (s6:jI) (s7:Int) (s8:(List Bool)) (s9:(List (jI×Int))) (hl:List.length s1≤maxLen):lp qE zd (s0,s1,((List.length s1:Nat):Int),0,s4,s5,s6,s7,s8,s9)=zk s0 s5 s6 s7 s1 s8 s9:=zGI qE (fun i s8 s9=>(s0,s1,((List.length s1:Nat):Int),i,s4,s5,s6,s7,s8,s9)) (fun es i s8 s9=>zk s0 s5 s6 s7 es s8 s9) hl (fun r i s8 s9 h=>by unfold qE zk; simp only[h,cond_false]) (fun r i s8 s9 e es h g w k=>by unfold qE zk; simp only[h,cond_true,g,Option.bind_some,w,k]) s8 s9
def yq:List jR→jR→Option jR
 | [],s3=>some s3
 | e::es,s3 =>
  cond (yQ (List.length s3+List.length e) 24)
  (yq es (s3++e))
  (none)
theorem zhc (s0:(List jR)) (s3:jR) (hl:List.length s0≤maxLen):lp za2 zd (s0,((List.length s0:Nat):Int),0,s3)=yq s0 s3:=zaT za2 (fun i s3=>(s0,((List.length s0:Nat):Int),i,s3)) (fun es i s3=>yq es s3) hl (fun r i s3 h=>by unfold za2 yq; simp only[h,cond_false]) (fun r i s3 e es h g w k=>by unfold za2 yq; simp only[h,cond_true,g,Option.bind_some,w,k]) s3
def ym:List jR→Int→Option Int
 | [],s1=>some s1
 | e::es,s1 =>
  cond (decide ((IntKind.wrap .i64 (s1+((List.length e:Nat):Int)))<0))
  (none)
  (ym es (IntKind.wrap .i64 (s1+((List.length e:Nat):Int))))
theorem zhh (s0:(List jR)) (s2:(List jR)) (s1:Int) (hl:List.length s2≤maxLen):lp za8 zd (s0,s1,s2,((List.length s2:Nat):Int),0)=ym s2 s1:=zaT za8 (fun i s1=>(s0,s1,s2,((List.length s2:Nat):Int),i)) (fun es i s1=>ym es s1) hl (fun r i s1 h=>by unfold za8 ym; simp only[h,cond_false]) (fun r i s1 e es h g w k=>by unfold za8 ym; simp only[h,cond_true,g,Option.bind_some,w,k]) s1
def zZ:List jQ→jQ→Option jQ
 | [],s3=>some s3
 | e::es,s3 =>
  cond (yQ (List.length s3+List.length e) 32)
  (zZ es (s3++e))
  (none)
theorem zgb (s0:(List jQ)) (s3:jQ) (hl:List.length s0≤maxLen):lp q9 zd (s0,((List.length s0:Nat):Int),0,s3)=zZ s0 s3:=zaT q9 (fun i s3=>(s0,((List.length s0:Nat):Int),i,s3)) (fun es i s3=>zZ es s3) hl (fun r i s3 h=>by unfold q9 zZ; simp only[h,cond_false]) (fun r i s3 e es h g w k=>by unfold q9 zZ; simp only[h,cond_true,g,Option.bind_some,w,k]) s3
def zY:List jQ→Int→Option Int
 | [],s1=>some s1
 | e::es,s1 =>
  cond (decide ((IntKind.wrap .i64 (s1+((List.length e:Nat):Int)))<0))
  (none)
  (zY es (IntKind.wrap .i64 (s1+((List.length e:Nat):Int))))
theorem zgj (s0:(List jQ)) (s2:(List jQ)) (s1:Int) (hl:List.length s2≤maxLen):lp zae zd (s0,s1,s2,((List.length s2:Nat):Int),0)=zY s2 s1:=zaT zae (fun i s1=>(s0,s1,s2,((List.length s2:Nat):Int),i)) (fun es i s1=>zY es s1) hl (fun r i s1 h=>by unfold zae zY; simp only[h,cond_false]) (fun r i s1 e es h g w k=>by unfold zae zY; simp only[h,cond_true,g,Option.bind_some,w,k]) s1
def yh (s0:Int) (s4:jR) (s6:jQ):List zc→Nat→jQ→Option (jR×jQ×jQ)
 | [],i,s5=>some (s4,s5,s6)
 | e::es,i,s5 =>
  cond ((i:Int) != s0)
  (cond (yQ (List.length s5+List.length ([(e.1,e.2)]:List zc)) 32)
   (yh s0 s4 s6 es (i+1) (s5++([(e.1,e.2)]:List zc)))
   (none))
  (yh s0 s4 s6 es (i+1) s5)
theorem zhJ (s0:Int) (s1:jQ) (s4:jR) (s6:jQ) (s5:jQ) (hl:List.length s1≤maxLen):lp zby zd (s0,s1,((List.length s1:Nat):Int),0,s4,s5,s6)=yh s0 s4 s6 s1 0 s5:=zaT zby (fun i s5=>(s0,s1,((List.length s1:Nat):Int),i,s4,s5,s6)) (fun es i s5=>yh s0 s4 s6 es i s5) hl (fun r i s5 h=>by unfold zby yh; simp only[h,cond_false]) (fun r i s5 e es h g w k=>by unfold zby yh; simp only[h,cond_true,g,Option.bind_some,w,k]) s5
def yg (s0:Int) (s8:jR) (s10:jQ):List zc→Nat→jQ→Option (jR×jQ×jQ)
 | [],i,s9=>some (s8,s9,s10)
 | e::es,i,s9 =>
  cond ((i:Int) != s0)
  (cond (yQ (List.length s9+List.length ([(e.1,e.2)]:List zc)) 32)
   (yg s0 s8 s10 es (i+1) (s9++([(e.1,e.2)]:List zc)))
   (none))
  (yg s0 s8 s10 es (i+1) s9)
theorem zhN (s0:Int) (s1:Int) (s2:jQ) (s5:jQ) (s6:jR) (s7:jQ) (s8:jR) (s10:jQ) (s9:jQ) (hl:List.length s2≤maxLen):lp zbB zd (s0,s1,s2,((List.length s2:Nat):Int),0,s5,s6,s7,s8,s9,s10)=yg s0 s8 s10 s2 0 s9:=zaT zbB (fun i s9=>(s0,s1,s2,((List.length s2:Nat):Int),i,s5,s6,s7,s8,s9,s10)) (fun es i s9=>yg s0 s8 s10 es i s9) hl (fun r i s9 h=>by unfold zbB yg; simp only[h,cond_false]) (fun r i s9 e es h g w k=>by unfold zbB yg; simp only[h,cond_true,g,Option.bind_some,w,k]) s9
def zaQ (s0:Int):List (Int×jI)→Option (Unit⊕jI)
 | []=>some (Sum.inl ())
 | e::es =>
  cond (e.1==s0)
  (some (Sum.inr e.2))
  (zaQ s0 es)
theorem zjB (s0:Int) (s1:(List (Int×jI))) (hl:List.length s1≤maxLen):lp zdf zd (s0,s1,((List.length s1:Nat):Int),0)=zaQ s0 s1:=zdO zdf (fun i=>(s0,s1,((List.length s1:Nat):Int),i)) (fun es i=>zaQ s0 es) hl (fun r i h=>by unfold zdf zaQ; simp only[h,cond_false]) (fun r i e es h g w k=>by unfold zdf zaQ; simp only[h,cond_true,g,Option.bind_some,w,k])
def qK (s0:(List (Int×jI))):List Int→jI→Option jI
 | [],s4=>some s4
 | e::es,s4 =>
  (ye e).bind fun r11 =>
  (zh3 s0 r11).bind fun r12 =>
  cond (decide (e≥0))
  (cond (yQ (List.length s4+List.length ([e]:List Int)) 8)
   (qK s0 es (s4++([e]:List Int)))
   (none))
  (cond (Option.isNone r12)
   (cond (yQ (List.length s4+List.length ([e]:List Int)) 8)
    (qK s0 es (s4++([e]:List Int)))
    (none))
   (cond (yQ (List.length s4+List.length (Option.getD r12 [])) 8)
    (qK s0 es (s4++(Option.getD r12 [])))
    (none)))
theorem zkF (s0:(List (Int×jI))) (s1:jI) (s4:jI) (hl:List.length s1≤maxLen):lp zfe zd (s0,s1,((List.length s1:Nat):Int),0,s4)=qK s0 s1 s4:=zaT zfe (fun i s4=>(s0,s1,((List.length s1:Nat):Int),i,s4)) (fun es i s4=>qK s0 es s4) hl (fun r i s4 h=>by unfold zfe qK; simp only[h,cond_false]) (fun r i s4 e es h g w k=>by unfold zfe qK; simp only[h,cond_true,g,Option.bind_some,w,k]) s4
def yW (s3:(List (Int×jI))) (s4:jQ) (s5:jR):List zc→jQ→Option (jQ×jR×jQ)
 | [],s6=>some (s4,s5,s6)
 | e::es,s6 =>
  (zaw e.2 s3).bind fun r20 =>
  cond (yQ (List.length s6+List.length ([(e.1,r20)]:List zc)) 32)
  (yW s3 s4 s5 es (s6++([(e.1,r20)]:List zc)))
  (none)
theorem zh9 (s0:jQ) (s3:(List (Int×jI))) (s4:jQ) (s5:jR) (s6:jQ) (hl:List.length s0≤maxLen):lp zca zd (s0,((List.length s0:Nat):Int),0,s3,s4,s5,s6)=yW s3 s4 s5 s0 s6:=zaT zca (fun i s6=>(s0,((List.length s0:Nat):Int),i,s3,s4,s5,s6)) (fun es i s6=>yW s3 s4 s5 es s6) hl (fun r i s6 h=>by unfold zca yW; simp only[h,cond_false]) (fun r i s6 e es h g w k=>by unfold zca yW; simp only[h,cond_true,g,Option.bind_some,w,k]) s6
def yZ (s3:(List (Int×jI))) (s7:jQ):List jI→jR→Option (jQ×jR)
 | [],s8=>some (s7,s8)
 | e::es,s8 =>
  (zaw e s3).bind fun r13 =>
  cond (yQ (List.length s8+List.length ([r13]:List jI)) 24)
  (yZ s3 s7 es (s8++([r13]:List jI)))
  (none)
theorem zig (s0:jR) (s3:(List (Int×jI))) (s4:jQ) (s5:jR) (s6:jQ) (s7:jQ) (s8:jR) (hl:List.length s0≤maxLen):lp zcn zd (s0,((List.length s0:Nat):Int),0,s3,s4,s5,s6,s7,s8)=yZ s3 s7 s0 s8:=zaT zcn (fun i s8=>(s0,((List.length s0:Nat):Int),i,s3,s4,s5,s6,s7,s8)) (fun es i s8=>yZ s3 s7 es s8) hl (fun r i s8 h=>by unfold zcn yZ; simp only[h,cond_false]) (fun r i s8 e es h g w k=>by unfold zcn yZ; simp only[h,cond_true,g,Option.bind_some,w,k]) s8
def qd (s3:(List (Int×jI))):List zc→jQ→Option jQ
 | [],s7=>some s7
 | e::es,s7 =>
  (zaw e.2 s3).bind fun r6 =>
  cond (yQ (List.length s7+List.length ([(e.1,r6)]:List zc)) 32)
  (qd s3 es (s7++([(e.1,r6)]:List zc)))
  (none)
theorem zir (s0:jQ) (s3:(List (Int×jI))) (s4:jQ) (s5:jR) (s6:jQ) (s7:jQ) (hl:List.length s0≤maxLen):lp zcg zd (s0,((List.length s0:Nat):Int),0,s3,s4,s5,s6,s7)=qd s3 s0 s7:=zaT zcg (fun i s7=>(s0,((List.length s0:Nat):Int),i,s3,s4,s5,s6,s7)) (fun es i s7=>qd s3 es s7) hl (fun r i s7 h=>by unfold zcg qd; simp only[h,cond_false]) (fun r i s7 e es h g w k=>by unfold zcg qd; simp only[h,cond_true,g,Option.bind_some,w,k]) s7
def zS (s3:jS):List zc→Nat→Option (Unit⊕Int)
 | [],i=>some (Sum.inl ())
 | e::es,i =>
  (zhb e.1 e.2 s3).bind fun r4 =>
  cond r4
  (some (Sum.inr (i:Int)))
  (zS s3 es (i+1))
theorem zeU (s0:jQ) (s3:jS) (hl:List.length s0≤maxLen):lp qc zd (s0,((List.length s0:Nat):Int),0,s3)=zS s3 s0 0:=zdO qc (fun i=>(s0,((List.length s0:Nat):Int),i,s3)) (fun es i=>zS s3 es i) hl (fun r i h=>by unfold qc zS; simp only[h,cond_false]) (fun r i e es h g w k=>by unfold qc zS; simp only[h,cond_true,g,Option.bind_some,w,k])
def yY:List Int→jI→Option jI
 | [],s3=>some s3
 | e::es,s3 =>
  cond (decide (e<0))
  ((ye e).bind fun r8 =>
   (inR r8 24).bind fun k9 =>
   (s3[k9]?).bind fun x10 =>
   (inR r8 24).bind fun k11 =>
   (s3[k11]?).bind fun x12 =>
   yY es (List.set s3 k11 (IntKind.wrap .i64 (x10+1))))
  (yY es s3)
theorem ziF (s0:jI) (s3:jI) (hl:List.length s0≤maxLen):lp zce zd (s0,((List.length s0:Nat):Int),0,s3)=yY s0 s3:=zaT zce (fun i s3=>(s0,((List.length s0:Nat):Int),i,s3)) (fun es i s3=>yY es s3) hl (fun r i s3 h=>by unfold zce yY; simp only[h,cond_false]) (fun r i s3 e es h g w k=>by unfold zce yY; simp only[h,cond_true,g,Option.bind_some,w,k]) s3
def qi (s0:jS):List Int→Int→Option Int
 | [],s1=>some s1
 | e::es,s1 =>
  cond (decide (e<0))
  (qi s0 es (IntKind.wrap .i64 (s1+1)))
  ((gx s0 e).bind fun e4 =>
   qi s0 es (IntKind.wrap .i64 (s1+e4.2.2.2)))
theorem zfZ (s0:jS) (s2:jI) (s1:Int) (hl:List.length s2≤maxLen):lp zdV zd (s0,s1,s2,((List.length s2:Nat):Int),0)=qi s0 s2 s1:=zaT zdV (fun i s1=>(s0,s1,s2,((List.length s2:Nat):Int),i)) (fun es i s1=>qi s0 es s1) hl (fun r i s1 h=>by unfold zdV qi; simp only[h,cond_false]) (fun r i s1 e es h g w k=>by unfold zdV qi; simp only[h,cond_true,g,Option.bind_some,w,k]) s1
def yH (s0:jR):List jI→Nat→Option (Unit⊕(jI×jI))
 | [],i=>some (Sum.inl ())
 | e::es,i =>
  cond (decide ((i:Int)<((List.length s0:Nat):Int)))
  ((gx s0 (i:Int)).bind fun e8 =>
   (yj e e8).bind fun r9 =>
   cond (!r9)
   ((gx s0 (i:Int)).bind fun e10 =>
    some (Sum.inr (e,e10)))
   (yH s0 es (i+1)))
  (yH s0 es (i+1))
theorem zhH (s0:jR) (s1:jR) (hl:List.length s1≤maxLen):lp zbK zd (s0,s1,((List.length s1:Nat):Int),0)=yH s0 s1 0:=zdO zbK (fun i=>(s0,s1,((List.length s1:Nat):Int),i)) (fun es i=>yH s0 es i) hl (fun r i h=>by unfold zbK yH; simp only[h,cond_false]) (fun r i e es h g w k=>by unfold zbK yH; simp only[h,cond_true,g,Option.bind_some,w,k])
def zU (s3:jS) (s4:Bool) (s5:jI):List zc→Nat→Option (Unit⊕Int)
 | [],i=>some (Sum.inl ())
 | e::es,i =>
  (zg9 e.1 e.2 s3 s4 s5).bind fun r4 =>
  cond r4
  (some (Sum.inr (i:Int)))
  (zU s3 s4 s5 es (i+1))
theorem ze9 (s0:jQ) (s3:jS) (s4:Bool) (s5:jI) (hl:List.length s0≤maxLen):lp y8 zd (s0,((List.length s0:Nat):Int),0,s3,s4,s5)=zU s3 s4 s5 s0 0:=zdO y8 (fun i=>(s0,((List.length s0:Nat):Int),i,s3,s4,s5)) (fun es i=>zU s3 s4 s5 es i) hl (fun r i h=>by unfold y8 zU; simp only[h,cond_false]) (fun r i e es h g w k=>by unfold y8 zU; simp only[h,cond_true,g,Option.bind_some,w,k])
def qJ (s0:jQ) (s4:jS):List zc→Nat→jI→Option jI
 | [],i,s5=>some s5
 | e::es,i,s5 =>
  (qX s0 s4 e.1 e.2).bind fun r8 =>
  cond (!r8)
  (cond (yQ (List.length s5+List.length ([(i:Int)]:List Int)) 8)
   (qJ s0 s4 es (i+1) (s5++([(i:Int)]:List Int)))
   (none))
  (qJ s0 s4 es (i+1) s5)
theorem zkv (s0:jQ) (s1:jQ) (s4:jS) (s5:jI) (hl:List.length s1≤maxLen):lp zdY zd (s0,s1,((List.length s1:Nat):Int),0,s4,s5)=qJ s0 s4 s1 0 s5:=zaT zdY (fun i s5=>(s0,s1,((List.length s1:Nat):Int),i,s4,s5)) (fun es i s5=>qJ s0 s4 es i s5) hl (fun r i s5 h=>by unfold zdY qJ; simp only[h,cond_false]) (fun r i s5 e es h g w k=>by unfold zdY qJ; simp only[h,cond_true,g,Option.bind_some,w,k]) s5
def zR (s3:Bool) (s4:jI):List zc→Nat→Option (Unit⊕Int)
 | [],i=>some (Sum.inl ())
 | e::es,i =>
  (zcG e.1 e.2 s3 s4).bind fun r4 =>
  cond r4
  (some (Sum.inr (i:Int)))
  (zR s3 s4 es (i+1))
theorem zfa (s0:jQ) (s3:Bool) (s4:jI) (hl:List.length s0≤maxLen):lp y0 zd (s0,((List.length s0:Nat):Int),0,s3,s4)=zR s3 s4 s0 0:=zdO y0 (fun i=>(s0,((List.length s0:Nat):Int),i,s3,s4)) (fun es i=>zR s3 s4 es i) hl (fun r i h=>by unfold y0 zR; simp only[h,cond_false]) (fun r i e es h g w k=>by unfold y0 zR; simp only[h,cond_true,g,Option.bind_some,w,k])
def yE (s0:jS) (s4:jQ):List zc→Option (Unit⊕(Bool×Int))
 | []=>some (Sum.inl ())
 | e::es =>
  (zbI s0 e.1 e.2).bind fun r6 =>
  cond r6
  (some (Sum.inr (true,0)))
  ((qM s4 e.1 e.2).bind fun r7 =>
   cond r7
   (some (Sum.inr (true,0)))
   (yE s0 s4 es))
theorem zgL (s0:jS) (s1:jQ) (s4:jQ) (s5:jR) (s6:jQ) (hl:List.length s1≤maxLen):lp zaA zd (s0,s1,((List.length s1:Nat):Int),0,s4,s5,s6)=yE s0 s4 s1:=zdO zaA (fun i=>(s0,s1,((List.length s1:Nat):Int),i,s4,s5,s6)) (fun es i=>yE s0 s4 es) hl (fun r i h=>by unfold zaA yE; simp only[h,cond_false]) (fun r i e es h g w k=>by unfold zaA yE; simp only[h,cond_true,g,Option.bind_some,w,k])
end Go.Abs.Q
namespace Go.Abs.Q
open Go Go.Abs
section
theorem zeJ {xs:List Int} (h:xs.length≤1099511627776):zcH xs=some xs:=by
 unfold zcH zhX
 simp only[Option.isNone_some,cond_false,Option.getD_some,List.length_nil,Nat.zero_add,List.nil_append]
 rw[zq (show xs.length*8≤140737488351232 by omega)]
 rfl
theorem ztB (ys:List Int):(es:List Int)→(i:Nat)→es.length=(ys.drop i).length→qn ys es i=some (cond (decide (es=ys.drop i)) (.inl ()) (.inr false))
 | [],i,h=>by
  have:ys.drop i=[]:=List.eq_nil_of_length_eq_zero h.symm
  rw[this]; rfl
 | e::es,i,h=>by
  cases hd:ys.drop i with
  | nil=>rw[hd] at h; simp at h
  | cons y r =>
   have hn:=ze hd
   have:=ztB ys es (i+1) (by rw[hn]; rw[hd] at h; simpa using h)
   unfold qn
   simp only[yx,zh hd,Option.bind_some,this,hn]
   by_cases he:e=y
   ·subst he
    simp
   ·have h1:(e != y)=true:=by simpa using he
    simp [h1,he]
theorem zbu {xs ys:List Int} (h:xs.length≤maxLen):yj xs ys=some (decide (xs=ys)):=by
 unfold yj
 by_cases hl:xs.length=ys.length
 ·rw[show (((List.length xs:Nat):Int) != ((List.length ys:Nat):Int))=false from by simp [hl],cond_false,zhO _ _ h,ztB ys xs 0 hl,List.drop_zero]
  cases decide (xs=ys)<;>rfl
 ·rw[show (((List.length xs:Nat):Int) != ((List.length ys:Nat):Int))=true from by simp; omega,cond_true,decide_eq_false (by intro h; subst h; exact hl rfl)]
theorem zsg {a b:Bool} {xs ys:List Int} (h:xs.length≤maxLen):zlS a xs b ys=some (decide ((a,xs)=(b,ys))):=by
 unfold zlS
 cases hab:(a==b) with
 | false =>
  have:a≠b:=by simpa using hab
  simp [this]
 | true =>
  have:a=b:=by simpa using hab
  subst this
  rw[cond_true,zbu h]
  simp
theorem ztJ (l:zc) (hl:l.2.length≤maxLen):(es:List zc)→(i:Nat)→∃ r,yf l.1 l.2 es i=some r∧(l∈es→∃ j:Nat,r = .inr (j:Int))∧(l∉es→r = .inl ())
 | [],i=>⟨.inl (),rfl,(fun h=>by cases h),fun _=>rfl⟩
 | e::es,i=>by
  unfold yf zef
  rw[zsg hl]
  simp only[Option.bind_some]
  by_cases he:(l.1,l.2)=(e.1,e.2)
  ·rw[decide_eq_true he,cond_true]
   have he':l=e:=he
   exact ⟨_,rfl,fun _=>⟨i,rfl⟩,fun h=>absurd (List.mem_cons.2 (.inl he')) h⟩
  ·rw[decide_eq_false he,cond_false]
   obtain⟨r,h1,h2,h3⟩:=ztJ l hl es (i+1)
   have he':l≠e:=he
   refine ⟨r,h1,fun h=>h2 ?_,fun h=>h3 fun h'=>h (List.mem_cons_of_mem _ h')⟩
   rcases List.mem_cons.1 h with h | h
   ·exact absurd h he'
   ·exact h
theorem zhL {l:zc} {es:List zc} (hl:l.2.length≤maxLen) (h:es.length≤maxLen):zaL es l.1 l.2=some (decide (l∈es)):=by
 unfold zaL zeP
 rw[zfP _ _ _ h]
 obtain⟨r,h1,h2,h3⟩:=ztJ l hl es 0
 rw[h1]
 by_cases hm:l∈es
 ·obtain⟨j,rfl⟩:=h2 hm
  simp [z6,hm]
 ·rw[h3 hm]
  simp [z6,hm]
def zQ {α:Type} [DecidableEq α]:List α→List α→List α
 | [],out=>out
 | e::es,out=>cond (decide (e∈out)) (zQ es out) (zQ es (out++[e]))
theorem zbc {α:Type} [DecidableEq α]:(es out:List α)→(zQ es out).length≤out.length+es.length
 | [],out=>by simp [zQ]
 | e::es,out=>by
  unfold zQ
  cases decide (e∈out) with
  | true=>have:=zbc es out; simp only[cond_true,List.length_cons]; omega
  | false=>have:=zbc es (out++[e]); simp only[cond_false,List.length_cons,List.length_append,List.length_nil] at this ⊢; omega
theorem qV {α:Type} [DecidableEq α] {x:α}:(es out:List α)→(x∈zQ es out↔x∈out∨x∈es)
 | [],out=>by simp [zQ]
 | e::es,out=>by
  unfold zQ
  by_cases h:e∈out
  ·rw[decide_eq_true h,cond_true,qV es out,List.mem_cons]
   constructor
   ·rintro (h1 | h1)
    ·exact .inl h1
    ·exact .inr (.inr h1)
   ·rintro (h1 | rfl | h1)
    ·exact .inl h1
    ·exact .inl h
    ·exact .inr h1
  ·rw[decide_eq_false h,cond_false,qV es (out++[e])]
   simp only[List.mem_append,List.mem_cons,List.not_mem_nil,or_false]
   constructor
   ·rintro ((h1 | h1) | h1)
    ·exact .inl h1
    ·exact .inr (.inl h1)
    ·exact .inr (.inr h1)
   ·rintro (h1 | h1 | h1)
    ·exact .inl (.inl h1)
    ·exact .inl (.inr h1)
    ·exact .inr h1
theorem zrH:(es out:List zc)→(∀ e∈es,e.2.length≤maxLen)→out.length+es.length≤1000000→qb es out=some (zQ es out)
 | [],out,_,_=>rfl
 | e::es,out,h,hl=>by
  have h1:=h e (List.mem_cons_self ..)
  have hl':out.length+(es.length+1)≤1000000:=hl
  unfold qb zQ
  rw[zhL h1 (by unfold maxLen; omega),Option.bind_some]
  by_cases hm:e∈out
  ·simp only[hm,decide_true,Bool.not_true,cond_false,cond_true]
   exact zrH es out (fun x hx=>h x (List.mem_cons_of_mem _ hx)) (by omega)
  ·simp only[hm,decide_false,Bool.not_false,cond_false,cond_true]
   rw[zq (show (out.length+([(e.1,e.2)]:List zc).length)*32≤140737488351232 by simp; omega),cond_true]
   exact zrH es (out++[e]) (fun x hx=>h x (List.mem_cons_of_mem _ hx)) (by simp; omega)
theorem zi7 {es:List zc} (h:∀ e∈es,e.2.length≤maxLen) (hl:es.length≤1000000):zfK es=some (zQ es []):=by
 unfold zfK
 rw[zhY _ _ (by unfold maxLen; omega),zrH es [] h (by simpa using hl)]
 rfl
theorem zs9 (l:List Int) (hl:l.length≤maxLen):(es:List jI)→(i:Nat)→∃ r,zT l es i=some r∧(l∈es→∃ j:Nat,r = .inr (j:Int))∧(l∉es→r = .inl ())
 | [],i=>⟨.inl (),rfl,(fun h=>by cases h),fun _=>rfl⟩
 | e::es,i=>by
  unfold zT zeh
  rw[zbu hl]
  simp only[Option.bind_some]
  by_cases he:l=e
  ·rw[decide_eq_true he,cond_true]
   exact ⟨_,rfl,fun _=>⟨i,rfl⟩,fun h=>absurd (List.mem_cons.2 (.inl he)) h⟩
  ·rw[decide_eq_false he,cond_false]
   obtain⟨r,h1,h2,h3⟩:=zs9 l hl es (i+1)
   refine ⟨r,h1,fun h=>h2 ?_,fun h=>h3 fun h'=>h (List.mem_cons_of_mem _ h')⟩
   rcases List.mem_cons.1 h with h | h
   ·exact absurd h he
   ·exact h
theorem zgN {l:List Int} {es:List jI} (hl:l.length≤maxLen) (h:es.length≤maxLen):qP es l=some (decide (l∈es)):=by
 unfold qP zdv
 rw[zeV _ _ h]
 obtain⟨r,h1,h2,h3⟩:=zs9 l hl es 0
 rw[h1]
 by_cases hm:l∈es
 ·obtain⟨j,rfl⟩:=h2 hm
  simp [z6,hm]
 ·rw[h3 hm]
  simp [z6,hm]
theorem zr6 (s3 s4:List zc):(es out:List jI)→(∀ e∈es,e.length≤maxLen)→out.length+es.length≤1000000→y9 s3 s4 es out=some (s3,s4,zQ es out)
 | [],out,_,_=>rfl
 | e::es,out,h,hl=>by
  have h1:=h e (List.mem_cons_self ..)
  have hl':out.length+(es.length+1)≤1000000:=hl
  unfold y9 zQ
  rw[zgN h1 (by unfold maxLen; omega),Option.bind_some]
  by_cases hm:e∈out
  ·simp only[hm,decide_true,Bool.not_true,cond_false,cond_true]
   exact zr6 s3 s4 es out (fun x hx=>h x (List.mem_cons_of_mem _ hx)) (by omega)
  ·simp only[hm,decide_false,Bool.not_false,cond_false,cond_true]
   rw[zq (show (out.length+([e]:List jI).length)*24≤140737488351232 by simp; omega),cond_true]
   exact zr6 s3 s4 es (out++[e]) (fun x hx=>h x (List.mem_cons_of_mem _ hx)) (by simp; omega)
def zlW (s:List Int×Int) (c:Int):Int×(List Int×Int) :=
 cond (decide (c≥0)) (c,s) (cond (s.1.getD (-1 - c).toNat 0==0) (-(s.2+1),(s.1.set (-1 - c).toNat (s.2+1),s.2+1)) (-(s.1.getD (-1 - c).toNat 0),s))
def zeO:List Int×Int→List Int→List Int×(List Int×Int)
 | s,[]=>([],s)
 | s,c::cs=>((zlW s c).1::(zeO (zlW s c).2 cs).1,(zeO (zlW s c).2 cs).2)
theorem zo8:(s:List Int×Int)→(cs:List Int)→(zeO s cs).1.length=cs.length
 | _,[]=>rfl
 | s,c::cs=>by simp [zeO,zo8 (zlW s c).2 cs]
structure RenOk (s:List Int×Int) (b:Int):Prop where
 len:s.1.length=24
 lo:0≤s.2
 hi:s.2≤b
 all:∀ x∈s.1,0≤x∧x≤s.2
theorem RenOk.more {s:List Int×Int} {b b':Int} (h:RenOk s b) (hb:b≤b'):RenOk s b':=⟨h.len,h.lo,Int.le_trans h.hi hb,h.all⟩
theorem RenOk.get {s:List Int×Int} {b:Int} (h:RenOk s b) (v:Nat):0≤s.1.getD v 0∧s.1.getD v 0≤s.2:=by
 have h0:=h.lo
 rw[List.getD_eq_getElem?_getD]
 cases hv:s.1[v]? with
 | none=>exact ⟨Int.le_refl _,h0⟩
 | some x=>exact h.all x (List.mem_of_getElem? hv)
theorem zx1 {s:List Int×Int} {b:Int} (h:RenOk s b) (c:Int):RenOk (zlW s c).2 (b+1):=by
 unfold zlW
 cases decide (c≥0) with
 | true=>exact h.more (by omega)
 | false =>
  rw[cond_false]
  cases (s.1.getD (-1 - c).toNat 0==0) with
  | false=>exact h.more (by omega)
  | true =>
   refine ⟨by simpa using h.len,by have:=h.lo; simp; omega,by have:=h.hi; simp; omega,fun x hx => ?_⟩
   simp only[cond_true] at hx ⊢
   rcases List.mem_or_eq_of_mem_set hx with hx | rfl
   ·have:=h.all x hx; omega
   ·have:=h.lo; omega
theorem zjE:{s:List Int×Int}→{b:Int}→(cs:List Int)→RenOk s b→RenOk (zeO s cs).2 (b+cs.length)
 | s,b,[],h=>by simpa[zeO] using h
 | s,b,c::cs,h=>by
  have:=zjE cs (zx1 h c)
  simp only[zeO,List.length_cons]
  exact this.more (by omega)
theorem zvD {α:Type} (done es:List α) (e x:α):(done++e::es).set done.length x=done++x::es:=by
 rw[List.set_append_right _ _ (Nat.le_refl _),Nat.sub_self]
 rfl
theorem zo5 {α:Type} (done es:List α) (e:α):(done++e::es)[done.length]? = some e:=by
 rw[List.getElem?_append_right (Nat.le_refl _),Nat.sub_self]
 rfl
theorem zqr:(es done:List Int)→(s:List Int×Int)→(k:Nat)→es.length<k→done.length+es.length≤1000000→RenOk s 1000000→s.2+es.length≤1000000→(∀ c∈es,-24≤c) →
  lp yV k (((done.length+es.length:Nat):Int),(done.length:Int),s.1,s.2,done++es)=some ((zeO s es).2.1,(zeO s es).2.2,done++(zeO s es).1)
 | [],done,s,k,hk,hl,hs,hb,hc=>by
  obtain⟨k,rfl⟩:∃ k',k=k'+1:=⟨k - 1,by omega⟩
  rw[zj]
  generalize lp yV k=rec
  unfold yV
  simp [zeO]
 | e::es,done,s,k,hk,hl,hs,hb,hc=>by
  obtain⟨k,rfl⟩:∃ k',k=k'+1:=⟨k - 1,by omega⟩
  rw[zj]
  have he:=hc e (List.mem_cons_self ..)
  have hl':done.length+(es.length+1)≤1000000:=hl
  have hb':s.2+((es.length+1:Nat):Int)≤1000000:=hb
  have key:=fun (e':Int) (s':List Int×Int) (hs':RenOk s' 1000000) (hb2:s'.2+es.length≤1000000)=>zqr es (done++[e']) s' k (Nat.lt_of_succ_lt_succ hk) (by simp; omega) hs' hb2 (fun c hx=>hc c (List.mem_cons_of_mem _ hx))
  generalize lp yV k=rec at key ⊢
  unfold yV
  have e1:decide (((done.length:Nat):Int)<((done.length+(e::es).length:Nat):Int))=true:=by rw[decide_eq_true_eq,List.length_cons]; omega
  have e2:inR ((done.length:Nat):Int) (List.length (done++e::es))=some done.length:=yB (by simp)
  have e3:IntKind.wrap .i64 (((done.length:Nat):Int)+1)=((done.length+1:Nat):Int):=by rw[zp]<;>omega
  have key2:=fun (e':Int) (s':List Int×Int) (hs':RenOk s' 1000000) (hb2:s'.2+es.length≤1000000)=>by
   have:=key e' s' hs' hb2
   rw[List.append_assoc,List.length_append,List.length_singleton,Nat.add_assoc,Nat.add_comm 1 es.length] at this
   exact this
  simp only[e1,cond_true,e2,Option.bind_some,zo5,e3]
  by_cases h0:e≥0
  ·have hr:zlW s e=(e,s):=by unfold zlW; rw[decide_eq_true h0]; rfl
   rw[decide_eq_true h0,cond_true]
   have:=key2 e s hs (by omega)
   simp only[zeO,hr]
   exact this.trans (by simp)
  ·rw[decide_eq_false h0,cond_false]
   have h24:(-1 - e).toNat<24:=by omega
   have e4:inR (-1 - e) 24=some (-1 - e).toNat:=by
    have:=yB h24
    rwa [Int.toNat_of_nonneg (by omega)] at this
   have hget:∀ xs:List Int,xs.length=24→xs[(-1 - e).toNat]? = some (xs.getD (-1 - e).toNat 0):=fun xs hx=>by
    rw[List.getD_eq_getElem?_getD,List.getElem?_eq_getElem (by omega)]; rfl
   have hg:=hs.get (-1 - e).toNat
   have hs1:=hs.hi
   have hs0:=hs.lo
   simp only[zbg (x:=e) (by omega) (by omega),Option.bind_some,e4,hget s.1 hs.len]
   by_cases hz:s.1.getD (-1 - e).toNat 0=0
   ·have hr:zlW s e=(-(s.2+1),(s.1.set (-1 - e).toNat (s.2+1),s.2+1)):=by unfold zlW; rw[decide_eq_false h0,hz]; rfl
    have w1:IntKind.wrap .i64 (s.2+1)=s.2+1:=by rw[zp]<;>omega
    have hset:(List.set s.1 (-1 - e).toNat (s.2+1)).getD (-1 - e).toNat 0=s.2+1:=by
     rw[List.getD_eq_getElem?_getD,List.getElem?_set_self (by rw[hs.len]; exact h24)]; rfl
    have hn:zEg .i64 (s.2+1) = -(s.2+1):=by unfold zEg; rw[zp]<;>omega
    rw[hz]
    simp only[show (((0:Int)==0))=true from rfl,cond_true,w1,hget (List.set s.1 (-1 - e).toNat (s.2+1)) (by simpa using hs.len),Option.bind_some,hset,hn,zvD]
    have hok:=zx1 (b:=s.2) ⟨hs.len,hs.lo,Int.le_refl _,hs.all⟩ e
    rw[hr] at hok
    have:=key2 (-(s.2+1)) (s.1.set (-1 - e).toNat (s.2+1),s.2+1) (hok.more (by omega)) (by simp only; omega)
    simp only[zeO,hr]
    exact this.trans (by simp)
   ·have hr:zlW s e=(-(s.1.getD (-1 - e).toNat 0),s):=by
     unfold zlW
     rw[decide_eq_false h0,show (s.1.getD (-1 - e).toNat 0==0)=false from by simpa using hz]; rfl
    have hn:zEg .i64 (s.1.getD (-1 - e).toNat 0) = -(s.1.getD (-1 - e).toNat 0):=by unfold zEg; rw[zp]<;>omega
    rw[show (s.1.getD (-1 - e).toNat 0==0)=false from by simpa using hz,cond_false]
    simp only[hn,zvD]
    have:=key2 (-(s.1.getD (-1 - e).toNat 0)) s hs (by omega)
    simp only[zeO,hr]
    exact this.trans (by simp)
theorem zc9 {r:List Int} {s:List Int×Int} (hl:r.length≤1000) (hs:RenOk s 900000) (hc:∀ c∈r,-24≤c):yP r s.1 s.2=some ((zeO s r).1,(zeO s r).2.1,(zeO s r).2.2):=by
 unfold yP
 rw[zeJ (by omega),Option.bind_some]
 have h1:=hs.hi
 have:=zqr r [] s zd (by unfold zd; omega) (by simp; omega) (hs.more (by omega)) (by omega) hc
 simp only[List.length_nil,Nat.zero_add,List.nil_append] at this
 rw[show ((0:Nat):Int)=0 from rfl] at this
 rw[this,Option.bind_some]
 have hlen:=(zjE r hs).len
 simp only[hs.len,hlen]
 rfl
def zbj:List Int×Int→List zc→List zc×(List Int×Int)
 | s,[]=>([],s)
 | s,l::ls=>((l.1,(zeO s l.2).1)::(zbj (zeO s l.2).2 ls).1,(zbj (zeO s l.2).2 ls).2)
def zdo:List Int×Int→List jI→List jI×(List Int×Int)
 | s,[]=>([],s)
 | s,l::ls=>((zeO s l).1::(zdo (zeO s l).2 ls).1,(zdo (zeO s l).2 ls).2)
def zep (r:List Int):Prop:=r.length≤1000∧∀ c∈r,-24≤c
theorem zpi:{s:List Int×Int}→{b:Int}→(ls:List zc)→(∀ l∈ls,zep l.2)→RenOk s b→RenOk (zbj s ls).2 (b+1000*ls.length)
 | s,b,[],_,h=>by simpa[zbj] using h
 | s,b,l::ls,hl,h=>by
  have h1:=hl l (List.mem_cons_self ..)
  have:=zpi ls (fun x hx=>hl x (List.mem_cons_of_mem _ hx)) (zjE l.2 h)
  have h2:=h1.1
  simp only[zbj,List.length_cons]
  exact this.more (by omega)
theorem ztu:{s:List Int×Int}→{b:Int}→(ls:List jI)→(∀ l∈ls,zep l)→RenOk s b→RenOk (zdo s ls).2 (b+1000*ls.length)
 | s,b,[],_,h=>by simpa[zdo] using h
 | s,b,l::ls,hl,h=>by
  have h1:=hl l (List.mem_cons_self ..)
  have:=ztu ls (fun x hx=>hl x (List.mem_cons_of_mem _ hx)) (zjE l h)
  have h2:=h1.1
  simp only[zdo,List.length_cons]
  exact this.more (by omega)
theorem zn5:(es:List zc)→(s:List Int×Int)→(out:List zc)→(b:Int)→RenOk s b→b+1000*es.length≤900000→(∀ l∈es,zep l.2)→out.length+es.length≤1000000 →
  yr es s.1 s.2 out=some ((zbj s es).2.1,(zbj s es).2.2,out++(zbj s es).1)
 | [],s,out,b,_,_,_,_=>by simp [yr,zbj]
 | e::es,s,out,b,hs,hb,h,hl=>by
  have he:=h e (List.mem_cons_self ..)
  have h1:=he.1
  rw[List.length_cons] at hb hl
  unfold yr
  rw[zc9 he.1 (hs.more (by omega)) he.2,Option.bind_some]
  rw[zq (show (out.length+([(e.1,(zeO s e.2).1)]:List zc).length)*32≤140737488351232 by simp; omega),cond_true]
  have:=zn5 es (zeO s e.2).2 (out++[(e.1,(zeO s e.2).1)]) _ (zjE e.2 hs) (by omega) (fun x hx=>h x (List.mem_cons_of_mem _ hx)) (by simp; omega)
  exact this.trans (by simp [zbj])
theorem zoj (s8:List zc):(es:List jI)→(s:List Int×Int)→(out:List jI)→(b:Int)→RenOk s b→b+1000*es.length≤900000→(∀ l∈es,zep l)→out.length+es.length≤1000000 →
  yv s8 es s.1 s.2 out=some ((zdo s es).2.1,(zdo s es).2.2,s8,out++(zdo s es).1)
 | [],s,out,b,_,_,_,_=>by simp [yv,zdo]
 | e::es,s,out,b,hs,hb,h,hl=>by
  have he:=h e (List.mem_cons_self ..)
  have h1:=he.1
  rw[List.length_cons] at hb hl
  unfold yv
  rw[zc9 he.1 (hs.more (by omega)) he.2,Option.bind_some]
  rw[zq (show (out.length+([(zeO s e).1]:List jI).length)*24≤140737488351232 by simp; omega),cond_true]
  have:=zoj s8 es (zeO s e).2 (out++[(zeO s e).1]) _ (zjE e hs) (by omega) (fun x hx=>h x (List.mem_cons_of_mem _ hx)) (by simp; omega)
  exact this.trans (by simp [zdo])
theorem zn6 (s5:List zc) (s6:List jI):(es:List zc)→(s:List Int×Int)→(out:List zc)→(b:Int)→RenOk s b→b+1000*es.length≤900000→(∀ l∈es,zep l.2)→out.length+es.length≤1000000 →
  yt s5 s6 es s.1 s.2 out=some ((zbj s es).2.1,(zbj s es).2.2,s5,s6,out++(zbj s es).1)
 | [],s,out,b,_,_,_,_=>by simp [yt,zbj]
 | e::es,s,out,b,hs,hb,h,hl=>by
  have he:=h e (List.mem_cons_self ..)
  have h1:=he.1
  rw[List.length_cons] at hb hl
  unfold yt
  rw[zc9 he.1 (hs.more (by omega)) he.2,Option.bind_some]
  rw[zq (show (out.length+([(e.1,(zeO s e.2).1)]:List zc).length)*32≤140737488351232 by simp; omega),cond_true]
  have:=zn6 s5 s6 es (zeO s e.2).2 (out++[(e.1,(zeO s e.2).1)]) _ (zjE e.2 hs) (by omega) (fun x hx=>h x (List.mem_cons_of_mem _ hx)) (by simp; omega)
  exact this.trans (by simp [zbj])
def zGG (L:List zc) (T:List jI) (C:List zc):List zc×List jI×List zc :=
 ((zbj (List.replicate 24 0,0) L).1,(zdo (zbj (List.replicate 24 0,0) L).2 T).1,(zbj (zdo (zbj (List.replicate 24 0,0) L).2 T).2 C).1)
theorem zvL:RenOk (List.replicate 24 (0:Int),0) 0:=⟨rfl,Int.le_refl _,Int.le_refl _,fun x hx=>by have:=List.eq_of_mem_replicate hx; omega⟩
def zc1 (L:List zc) (T:List jI) (C:List zc):List zc×List jI×List zc:=zGG (zQ L []) (zQ T []) (zQ C [])
theorem znC {L:List zc} {T:List jI} {C:List zc} (hL:L.length≤100) (hT:T.length≤100) (hC:C.length≤100) (sL:∀ l∈L,zep l.2) (sT:∀ l∈T,zep l) (sC:∀ l∈C,zep l.2) :
  zhu L T C=some (zc1 L T C):=by
 have big:∀ r:List Int,zep r→r.length≤maxLen:=fun r h=>by have:=h.1; unfold maxLen; omega
 have lL:=zbc L []
 have lT:=zbc T []
 have lC:=zbc C []
 simp only[List.length_nil,Nat.zero_add] at lL lT lC
 have sL':∀ l∈zQ L [],zep l.2:=fun l h=>sL l (by simpa using (qV L []).1 h)
 have sT':∀ l∈zQ T [],zep l:=fun l h=>sT l (by simpa using (qV T []).1 h)
 have sC':∀ l∈zQ C [],zep l.2:=fun l h=>sC l (by simpa using (qV C []).1 h)
 unfold zhu
 rw[zi7 (fun e he=>big _ (sL e he)) (by omega),Option.bind_some,zi7 (fun e he=>big _ (sC e he)) (by omega),Option.bind_some,
  zie _ _ _ _ (by unfold maxLen; omega),zr6 _ _ T [] (fun e he=>big _ (sT e he)) (by simp; omega),Option.bind_some]
 simp only
 generalize hL2:zQ L []=L2 at lL sL'
 generalize hT2:zQ T []=T2 at lT sT'
 generalize hC2:zQ C []=C2 at lC sC'
 have k0:=zpi L2 sL' zvL
 have k1:=ztu T2 sT' k0
 have k2:=zpi C2 sC' k1
 have e0:=zn5 L2 (List.replicate 24 0,0) [] 0 zvL (by omega) sL' (by simp; omega)
 have e1:=zoj (zbj (List.replicate 24 0,0) L2).1 T2 _ [] _ k0 (by omega) sT' (by simp; omega)
 have e2:=zn6 (zbj (List.replicate 24 0,0) L2).1 (zdo (zbj (List.replicate 24 0,0) L2).2 T2).1 C2 _ [] _ k1 (by omega) sC' (by simp; omega)
 simp only[List.nil_append] at e0 e1 e2
 unfold zhw
 rw[zhs L2 L2 T2 C2 (List.replicate 24 0) 0 [] (by unfold maxLen; omega),e0,Option.bind_some]
 simp only
 rw[zgR _ _ _ _ _ _ _ _ (by unfold maxLen; omega),e1,Option.bind_some]
 simp only
 rw[zgQ _ _ _ _ _ _ (by unfold maxLen; omega),e2,Option.bind_some]
 have hlen:=k2.len
 simp only[List.length_replicate,hlen]
 unfold zc1 zGG
 rw[hL2,hT2,hC2]
 rfl
end
end Go.Abs.Q
namespace Go.Abs.Q
open Go Go.Abs
section
theorem ztw {a0:List zi}:{xs:List Int}→{n k:Nat}→sk a0 n xs=some k→∀ c∈xs.take k,-24≤c
 | [],n,k,h,c,hc=>by simp at hc
 | x::xs,0,k,h,c,hc=>by
  simp [sk] at h; subst h; simp at hc
 | x::xs,n+1,k,h,c,hc=>by
  unfold sk at h
  cases ha:zc2 a0 x with
  | none=>rw[ha] at h; cases h
  | some m =>
   rw[ha] at h
   simp only[Option.map_eq_some_iff] at h
   obtain⟨j,hj,rfl⟩:=h
   rw[List.take_succ_cons] at hc
   rcases List.mem_cons.1 hc with rfl | hc
   ·by_cases h0:c<0
    ·exact (zq3 ha h0).1
    ·omega
   ·exact ztw hj c hc
theorem zkE {a0:List zi} {xs:List Int} {ps:List jI} (h:zlI a0 xs=some ps):∀ c∈xs,-24≤c:=by
 obtain⟨h1,h2⟩:=zif xs.length xs ps (Nat.le_refl _) h
 intro c hc
 rw[← h1] at hc
 obtain⟨p,hp,hcp⟩:=List.mem_flatten.1 hc
 have:=ztw (h2 p hp).2 c
 rw[List.take_length] at this
 exact this hcp
theorem zrq {a0:List zi} {xs:List Int} (h:qz a0 xs=true):zep xs:=by
 obtain⟨x,r,e,ps,rfl,h0,-,-,-,-,hl,hc,-⟩:=ziT h
 refine ⟨by simp; omega,fun c hcm => ?_⟩
 rcases List.mem_cons.1 hcm with rfl | hcm
 ·omega
 ·exact zkE hc c hcm
theorem zub {a0:List zi} {r:List Int} {n:Nat} (h:zhG a0 r=some n):zep r:=by
 obtain⟨ps,hc,-,hl,-⟩:=zkp h
 exact ⟨by omega,zkE hc⟩
theorem zec {a0:List zi} {ls:List zc} (h:zeC a0 ls=true):∀ l∈ls,zep l.2:=fun l hl =>
 zrq (List.all_eq_true.1 h l hl)
theorem zjo {a0:List zi} {rs:List jI} (h:zgA a0 rs=true):∀ r∈rs,zep r:=fun r hr=>by
 obtain⟨n,hn⟩:=zhT h
 exact zub (hn r hr)
theorem zhE (a0:List zi) (L:List zc) (T:List jI) (C:List zc):zdt a0 L T C=some (cond (zb5 a0 L T C) ((zc1 L T C).1,(zc1 L T C).2.1,0,(zc1 L T C).2.2) ([],[],800,[])):=by
 unfold zdt
 rw[zK,Option.bind_some]
 cases h:zb5 a0 L T C with
 | false=>rfl
 | true =>
  obtain⟨-,h1,h2,h3,h4,h5,h6,-⟩:=zv h
  rw[Bool.not_true,cond_false,znC (by omega) (by omega) (by omega) (zec h4) (zjo h5) (zec h6),Option.bind_some]
  rfl
theorem znf:(s:List Int×Int)→(ls:List zc)→(zbj s ls).1.length=ls.length
 | _,[]=>rfl
 | s,l::ls=>by simp [zbj,znf (zeO s l.2).2 ls]
theorem zpC:(s:List Int×Int)→(ls:List jI)→(zdo s ls).1.length=ls.length
 | _,[]=>rfl
 | s,l::ls=>by simp [zdo,zpC (zeO s l).2 ls]
theorem zlb:(s:List Int×Int)→(ls:List zc)→(b:Nat)→(∀ l∈ls,l.2.length≤b)→∀ l∈(zbj s ls).1,l.2.length≤b
 | _,[],_,_,l,hl=>by cases hl
 | s,e::es,b,h,l,hl=>by
  simp only[zbj] at hl
  rcases List.mem_cons.1 hl with rfl | hl
  ·rw[zo8]; exact h e (List.mem_cons_self ..)
  ·exact zlb _ es b (fun x hx=>h x (List.mem_cons_of_mem _ hx)) l hl
theorem zn8:(s:List Int×Int)→(ls:List jI)→(b:Nat)→(∀ l∈ls,l.length≤b)→∀ l∈(zdo s ls).1,l.length≤b
 | _,[],_,_,l,hl=>by cases hl
 | s,e::es,b,h,l,hl=>by
  simp only[zdo] at hl
  rcases List.mem_cons.1 hl with rfl | hl
  ·rw[zo8]; exact h e (List.mem_cons_self ..)
  ·exact zn8 _ es b (fun x hx=>h x (List.mem_cons_of_mem _ hx)) l hl
theorem zuO {a0:List zi} {L:List zc} {T:List jI} {C:List zc} (h:zb5 a0 L T C=true) :
  qZ (zc1 L T C).1 (zc1 L T C).2.1 (zc1 L T C).2.2 (zc1 L T C).1 (zc1 L T C).2.1 (zc1 L T C).2.2=some true:=by
 obtain⟨-,h1,h2,h3,h4,h5,h6,-⟩:=zv h
 have lL:=zbc L []
 have lT:=zbc T []
 have lC:=zbc C []
 simp only[List.length_nil,Nat.zero_add] at lL lT lC
 have sL:∀ l∈zQ L [],l.2.length≤1000:=fun l h=>(zec h4 l (by simpa using (qV L []).1 h)).1
 have sT:∀ l∈zQ T [],l.length≤1000:=fun l h=>(zjo h5 l (by simpa using (qV T []).1 h)).1
 have sC:∀ l∈zQ C [],l.2.length≤1000:=fun l h=>(zec h6 l (by simpa using (qV C []).1 h)).1
 unfold zc1 zGG
 apply zeS
 ·simp only[znf]; unfold maxLen; omega
 ·intro e he
  have:=zlb _ _ 1000 sL e he
  unfold maxLen; omega
 ·simp only[zpC]; unfold maxLen; omega
 ·intro e he
  have:=zn8 _ _ 1000 sT e he
  unfold maxLen; omega
 ·simp only[znf]; unfold maxLen; omega
 ·intro e he
  have:=zlb _ _ 1000 sC e he
  unfold maxLen; omega
def zu {α:Type} (s:Int):List α→Nat→List α
 | [],_=>[]
 | e::es,i=>cond ((i:Int) != s) (e::zu s es (i+1)) (zu s es (i+1))
theorem zjb {α:Type} (s:Int):(es:List α)→(i:Nat)→(zu s es i).length≤es.length
 | [],_=>Nat.le_refl _
 | e::es,i=>by
  unfold zu
  have:=zjb s es (i+1)
  cases ((i:Int) != s)<;>simp<;>omega
theorem zr3 (s0:Int) (s8:List jI) (s10:List zc):(es:List zc)→(i:Nat)→(out:List zc)→out.length+es.length≤1000000→yg s0 s8 s10 es i out=some (s8,out++zu s0 es i,s10)
 | [],i,out,_=>by simp [yg,zu]
 | e::es,i,out,h=>by
  rw[List.length_cons] at h
  unfold yg zu
  cases ((i:Int) != s0) with
  | true =>
   rw[cond_true,cond_true,zq (show (out.length+([(e.1,e.2)]:List zc).length)*32≤140737488351232 by simp; omega),cond_true,zr3 s0 s8 s10 es (i+1) _ (by simp; omega)]
   simp
  | false=>rw[cond_false,cond_false,zr3 s0 s8 s10 es (i+1) out (by omega)]
theorem zrT (s0:Int) (s8:List jI) (s10:List zc):(es:List zc)→(i:Nat)→(out:List zc)→out.length+es.length≤1000000→yh s0 s8 s10 es i out=some (s8,out++zu s0 es i,s10)
 | [],i,out,_=>by simp [yh,zu]
 | e::es,i,out,h=>by
  rw[List.length_cons] at h
  unfold yh zu
  cases ((i:Int) != s0) with
  | true =>
   rw[cond_true,cond_true,zq (show (out.length+([(e.1,e.2)]:List zc).length)*32≤140737488351232 by simp; omega),cond_true,zrT s0 s8 s10 es (i+1) _ (by simp; omega)]
   simp
  | false=>rw[cond_false,cond_false,zrT s0 s8 s10 es (i+1) out (by omega)]
theorem znx {n:Nat} (h:n≤1000000):zhd (n:Int)=some []:=by
 unfold zhd
 have e:IntKind.wrap .i64 ((n:Int) - 0)=(n:Int):=by rw[zp]<;>omega
 rw[e,decide_eq_false (show ¬((n:Int)<0) by omega),cond_false]
 by_cases h0:n=0
 ·subst h0; rfl
 ·rw[decide_eq_true (show (n:Int)>0 by omega),cond_true,show (eqI 0 0&&eqI 0 0)=true from rfl,cond_true,show zsB (n:Int)=true from decide_eq_true (by omega),cond_true,Int.toNat_natCast,zq (by omega),cond_true]
  have:zcD (List.replicate n ([]:List Int)) none (some 0)=some []:=by
   show slc (List.replicate n ([]:List Int)) 0 0=some []
   unfold slc
   rw[decide_eq_true (show (0:Int)≤0 by omega),decide_eq_true (show (0:Int)≤(((List.replicate n ([]:List Int)).length:Nat):Int) by omega)]
   rfl
  rw[this]; rfl
theorem zlQ {n:Nat} (h:n≤1000000):ze3 (n:Int)=some []:=by
 unfold ze3
 have e:IntKind.wrap .i64 ((n:Int) - 0)=(n:Int):=by rw[zp]<;>omega
 rw[e,decide_eq_false (show ¬((n:Int)<0) by omega),cond_false]
 by_cases h0:n=0
 ·subst h0; rfl
 ·rw[decide_eq_true (show (n:Int)>0 by omega),cond_true,show (eqI 0 0&&eqI 0 0)=true from rfl,cond_true,show zsB (n:Int)=true from decide_eq_true (by omega),cond_true,Int.toNat_natCast,zq (by omega),cond_true]
  have:∀ z:zc,zcD (List.replicate n z) none (some 0)=some []:=fun z=>by
   show slc (List.replicate n z) 0 0=some []
   unfold slc
   rw[decide_eq_true (show (0:Int)≤0 by omega),decide_eq_true (show (0:Int)≤(((List.replicate n z).length:Nat):Int) by omega)]
   rfl
  rw[this]; rfl
theorem zkU {a b:List jI} (h:a.length+b.length≤1000000):ze5 [a,b]=some (a++b):=by
 have w0:IntKind.wrap .i64 ((0:Int)+((a.length:Nat):Int))=((a.length:Nat):Int):=by rw[zp]<;>omega
 have w1:IntKind.wrap .i64 (((a.length:Nat):Int)+((b.length:Nat):Int))=((a.length+b.length:Nat):Int):=by rw[zp]<;>omega
 have e0:ym [a,b] 0=some ((a.length+b.length:Nat):Int):=by
  unfold ym
  rw[w0,decide_eq_false (show ¬(((a.length:Nat):Int)<0) by omega),cond_false]
  unfold ym
  rw[w1,decide_eq_false (show ¬(((a.length+b.length:Nat):Int)<0) by omega),cond_false]
  rfl
 have e1:yq [a,b] []=some (a++b):=by
  unfold yq
  rw[zq (by simp; omega),cond_true,List.nil_append]
  unfold yq
  rw[zq (by omega),cond_true]
  rfl
 unfold ze5
 rw[zhh _ _ _ (by unfold maxLen; simp),e0,Option.bind_some,znx h,Option.bind_some,zhc _ _ (by unfold maxLen; simp),e1]
 rfl
theorem zf3 {a b:List zc} (h:a.length+b.length≤1000000):zcw [a,b]=some (a++b):=by
 have w0:IntKind.wrap .i64 ((0:Int)+((a.length:Nat):Int))=((a.length:Nat):Int):=by rw[zp]<;>omega
 have w1:IntKind.wrap .i64 (((a.length:Nat):Int)+((b.length:Nat):Int))=((a.length+b.length:Nat):Int):=by rw[zp]<;>omega
 have e0:zY [a,b] 0=some ((a.length+b.length:Nat):Int):=by
  unfold zY
  rw[w0,decide_eq_false (show ¬(((a.length:Nat):Int)<0) by omega),cond_false]
  unfold zY
  rw[w1,decide_eq_false (show ¬(((a.length+b.length:Nat):Int)<0) by omega),cond_false]
  rfl
 have e1:zZ [a,b] []=some (a++b):=by
  unfold zZ
  rw[zq (by simp; omega),cond_true,List.nil_append]
  unfold zZ
  rw[zq (by omega),cond_true]
  rfl
 unfold zcw
 rw[zgj _ _ _ (by unfold maxLen; simp),e0,Option.bind_some,zlQ h,Option.bind_some,zgb _ _ (by unfold maxLen; simp),e1]
 rfl
theorem zis {L:List zc} {T:List jI} {C:List zc} {L':List zc} {T':List jI} {C':List zc} (i j:Int) (h1:L.length≤1000) (h2:T.length≤1000) (h3:C.length≤1000) (h4:L'.length≤1000) (h5:T'.length≤1000) (h6:C'.length≤1000) :
  zez L T C i L' T' C' j=some (T++T',zu i L 0++zu j L' 0,C++C'):=by
 have hw:=zjb i L 0
 unfold zez
 rw[zkU (by omega),Option.bind_some,zf3 (by omega),Option.bind_some,
  zhN _ _ _ _ _ _ _ _ _ (by unfold maxLen; omega),zr3 _ _ _ _ _ _ (by simp; omega),Option.bind_some]
 simp only[List.nil_append]
 rw[zhJ _ _ _ _ _ (by unfold maxLen; omega),zrT _ _ _ _ _ _ (by omega),Option.bind_some]
def q8 (L:List zc) (i:Int):Bool:=decide (0≤i)&&decide (i<L.length)
theorem zdW {α:Type} {s:Int} {x:α}:(es:List α)→(i:Nat)→x∈zu s es i→x∈es
 | [],_,h=>by cases h
 | e::es,i,h=>by
  unfold zu at h
  cases hb:((i:Int) != s) with
  | true =>
   rw[hb,cond_true] at h
   rcases List.mem_cons.1 h with rfl | h
   ·exact List.mem_cons_self ..
   ·exact List.mem_cons_of_mem _ (zdW es (i+1) h)
  | false=>rw[hb,cond_false] at h; exact List.mem_cons_of_mem _ (zdW es (i+1) h)
end
end Go.Abs.Q
namespace Go.Abs.Q
open Go Go.Abs
section
def to0:List (Option jI×Int):=List.replicate 48 ((none:Option jI),(0:Int))
theorem zD1 {k:Nat} (h:k<48):to0[k]? = some (none,0):=by
 unfold to0
 rw[List.getElem?_replicate,if_pos h]
theorem ztj {α:Type} (xs:List α) (y:α):zcD (xs++[y]) none (some (xs.length:Int))=some xs:=by
 show slc (xs++[y]) 0 (xs.length:Int)=some xs
 unfold slc
 rw[decide_eq_true (show (0:Int)≤0 by omega),decide_eq_true (show (0:Int)≤(xs.length:Int) by omega),decide_eq_true (show (xs.length:Int)≤(((xs++[y]).length:Nat):Int) by simp; omega)]
 simp
theorem zzW (ps:List jI):zn ps=ps.flatten.length:=by
 induction ps with
 | nil=>rfl
 | cons p ps ih =>
  unfold zn at ih ⊢
  simp only[List.map_cons,List.sum_cons,List.flatten_cons,List.length_append,ih]
def zeN (s:List (Int×List Int)) (v:Int):Option jI:=(s.find? fun b=>b.1==v).map (·.2)
def onC (s:List (Int×List Int)) (c:Int):List Int:=cond (decide (c≥0)) [c] ((zeN s (-1 - c)).getD [c])
def onB (s:List (Int×List Int)) (r:List Int):List Int:=r.flatMap (onC s)
structure BindsOk (s:List (Int×List Int)):Prop where
 len:s.length≤1000
 all:∀ b∈s,b.2≠[]∧b.2.length≤1000
theorem ztI (v:Int):(es:List (Int×List Int))→zaQ v es=some (match zeN es v with
  | none=>.inl ()
  | some t=>.inr t)
 | []=>rfl
 | e::es=>by
  unfold zaQ zeN
  rw[List.find?_cons]
  cases he:(e.1==v) with
  | true=>rfl
  | false =>
   rw[cond_false,ztI v es]
   rfl
theorem zqA {s:List (Int×List Int)} {v:Int} {t:List Int} (h:zeN s v=some t):∃ b∈s,b.1=v∧b.2=t:=by
 unfold zeN at h
 obtain⟨b,hb,rfl⟩:=Option.map_eq_some_iff.1 h
 exact ⟨b,List.mem_of_find?_eq_some hb,by simpa using List.find?_some hb,rfl⟩
theorem zkT {α:Type} {xs:List α} (h:xs≠[]):nn xs=some xs:=by
 cases xs with
 | nil=>exact absurd rfl h
 | cons x xs=>rfl
theorem zqi {s:List (Int×List Int)} (h:BindsOk s) (v:Int):zh3 s v=some (zeN s v):=by
 unfold zh3
 rw[zjB _ _ (by have:=h.len; unfold maxLen; omega),ztI]
 cases hl:zeN s v with
 | none=>rfl
 | some t =>
  obtain⟨b,hb,-,rfl⟩:=zqA hl
  show (nn b.2).bind _=_
  rw[zkT (h.all b hb).1]
  rfl
theorem zEj {s:List (Int×List Int)} (h:BindsOk s) (c:Int):(onC s c).length≤1000:=by
 unfold onC
 cases decide (c≥0) with
 | true=>simp
 | false =>
  cases hl:zeN s (-1 - c) with
  | none=>simp
  | some t =>
   obtain⟨b,hb,-,rfl⟩:=zqA hl
   exact (h.all b hb).2
theorem zra {s:List (Int×List Int)} (h:BindsOk s):(es:List Int)→(out:List Int)→(∀ c∈es,-1000000≤c∧c≤1000000)→out.length+1000*es.length≤10000000→qK s es out=some (out++onB s es)
 | [],out,_,_=>by simp [qK,onB]
 | e::es,out,hc,hl=>by
  rw[List.length_cons] at hl
  have he:=hc e (List.mem_cons_self ..)
  have ih:=fun out' hl'=>zra h es out' (fun c hx=>hc c (List.mem_cons_of_mem _ hx)) hl'
  have hcl:=zEj h e
  have hB:onB s (e::es)=onC s e++onB s es:=by simp [onB]
  unfold qK
  rw[zbg (by omega) (by omega),Option.bind_some,zqi h,Option.bind_some,hB]
  unfold onC at hcl ⊢
  by_cases h0:e≥0
  ·rw[decide_eq_true h0,cond_true,cond_true,zq (show (out.length+([e]:List Int).length)*8≤140737488351232 by simp; omega),cond_true,ih _ (by simp; omega)]
   simp
  ·rw[decide_eq_false h0] at hcl ⊢
   simp only[cond_false] at hcl ⊢
   cases hl2:zeN s (-1 - e) with
   | none =>
    simp only[Option.isNone_none,cond_true,Option.getD_none]
    rw[zq (show (out.length+([e]:List Int).length)*8≤140737488351232 by simp; omega),cond_true,ih _ (by simp; omega)]
    simp
   | some t =>
    rw[hl2] at hcl
    simp only[Option.getD_some] at hcl
    simp only[Option.isNone_some,cond_false,Option.getD_some]
    rw[zq (by omega),cond_true,ih _ (by simp; omega)]
    simp
theorem zgE {s:List (Int×List Int)} (h:BindsOk s) {r:List Int} (hl:r.length≤1000) (hc:∀ c∈r,-1000000≤c∧c≤1000000):zkN s r=some (onB s r):=by
 unfold zkN
 rw[zkF _ _ _ (by unfold maxLen; omega),zra h r [] hc (by simp; omega)]
 rfl
def zdm (r:List Int):Prop:=r.length≤1000∧∀ c∈r,-1000000≤c∧c≤1000000
def znB (s:List (Int×List Int)) (ls:List zc):List zc:=ls.map fun l=>(l.1,onB s l.2)
def zu4 (s:List (Int×List Int)) (rs:List jI):List jI:=rs.map (onB s)
theorem zqz {s:List (Int×List Int)} (h:BindsOk s):(es out:List zc)→(∀ l∈es,zdm l.2)→out.length+es.length≤1000000→qd s es out=some (out++znB s es)
 | [],out,_,_=>by simp [qd,znB]
 | e::es,out,hn,hl=>by
  rw[List.length_cons] at hl
  have he:=hn e (List.mem_cons_self ..)
  unfold qd zaw
  rw[zgE h he.1 he.2,Option.bind_some,Option.bind_some,zq (show (out.length+([(e.1,onB s e.2)]:List zc).length)*32≤140737488351232 by simp; omega),cond_true,
   zqz h es _ (fun l hl=>hn l (List.mem_cons_of_mem _ hl)) (by simp; omega)]
  simp [znB]
theorem zpF {s:List (Int×List Int)} (h:BindsOk s) (s7:List zc):(es out:List jI)→(∀ l∈es,zdm l)→out.length+es.length≤1000000→yZ s s7 es out=some (s7,out++zu4 s es)
 | [],out,_,_=>by simp [yZ,zu4]
 | e::es,out,hn,hl=>by
  rw[List.length_cons] at hl
  have he:=hn e (List.mem_cons_self ..)
  unfold yZ zaw
  rw[zgE h he.1 he.2,Option.bind_some,Option.bind_some,zq (show (out.length+([onB s e]:List jI).length)*24≤140737488351232 by simp; omega),cond_true,
   zpF h s7 es _ (fun l hl=>hn l (List.mem_cons_of_mem _ hl)) (by simp; omega)]
  simp [zu4]
theorem zqd {s:List (Int×List Int)} (h:BindsOk s) (s4:List zc) (s5:List jI):(es out:List zc)→(∀ l∈es,zdm l.2)→out.length+es.length≤1000000→yW s s4 s5 es out=some (s4,s5,out++znB s es)
 | [],out,_,_=>by simp [yW,znB]
 | e::es,out,hn,hl=>by
  rw[List.length_cons] at hl
  have he:=hn e (List.mem_cons_self ..)
  unfold yW zaw
  rw[zgE h he.1 he.2,Option.bind_some,Option.bind_some,zq (show (out.length+([(e.1,onB s e.2)]:List zc).length)*32≤140737488351232 by simp; omega),cond_true,
   zqd h s4 s5 es _ (fun l hl=>hn l (List.mem_cons_of_mem _ hl)) (by simp; omega)]
  simp [znB]
theorem zqy {s:List (Int×List Int)} (h:BindsOk s) {L:List zc} {T:List jI} {C:List zc} (hL:∀ l∈L,zdm l.2) (hT:∀ l∈T,zdm l) (hC:∀ l∈C,zdm l.2) (h1:L.length≤1000) (h2:T.length≤1000) (h3:C.length≤1000) :
  zgu s L T C=some (znB s L,zu4 s T,znB s C):=by
 unfold zgu zjc
 rw[zir _ _ _ _ _ _ (by unfold maxLen; omega),zqz h L [] hL (by simp; omega),Option.bind_some,
  zig _ _ _ _ _ _ _ (by unfold maxLen; omega),zpF h _ T [] hT (by simp; omega),Option.bind_some,
  zh9 _ _ _ _ _ (by unfold maxLen; omega),zqd h _ _ C [] hC (by simp; omega),Option.bind_some]
 simp
end
end Go.Abs.Q
namespace Go.Abs.Q
open Go Go.Abs
def ze6 (a0:Int):Option jI :=
 cond (decide (a0<0))
 (none)
 (cond (decide ((IntKind.wrap .i64 (a0 - 0))>0))
  (cond (eqI 0 0&&eqI 0 0)
   (cond (zsB (IntKind.wrap .i64 (a0 - 0)))
    (cond (yQ (Int.toNat (IntKind.wrap .i64 (a0 - 0))) 8)
     ((zcD (List.replicate (Int.toNat (IntKind.wrap .i64 (a0 - 0))) (0:Int)) none (some 0)).bind fun y2 =>
      some y2)
     (none))
    (none))
   (none))
  (some ([]:jI)))
def zab (rec:(jR×Int×Int×jI)→Option jI) (x:(jR×Int×Int×jI)):Option jI :=
 cond (decide (x.2.2.1<x.2.1))
 ((gx x.1 x.2.2.1).bind fun e7 =>
  cond (yQ (List.length x.2.2.2+List.length e7) 8)
  (rec (x.1,x.2.1,(IntKind.wrap .i64 (x.2.2.1+1)),(x.2.2.2++e7)))
  (none))
 (some x.2.2.2)
def zaa (rec:(jR×Int×jR×Int×Int)→Option Int) (x:(jR×Int×jR×Int×Int)):Option Int :=
 cond (decide (x.2.2.2.2<x.2.2.2.1))
 ((gx x.2.2.1 x.2.2.2.2).bind fun e2 =>
  cond (decide ((IntKind.wrap .i64 (x.2.1+((List.length e2:Nat):Int)))<0))
  (none)
  (rec (x.1,(IntKind.wrap .i64 (x.2.1+((List.length e2:Nat):Int))),x.2.2.1,x.2.2.2.1,(IntKind.wrap .i64 (x.2.2.2.2+1)))))
 (some x.2.1)
def zdz (a0:jR):Option jI :=
 ((lp zaa zd) (a0,0,a0,((List.length a0:Nat):Int),0)).bind fun r9 =>
 (ze6 r9).bind fun r10 =>
 ((lp zab zd) (a0,((List.length a0:Nat):Int),0,r10)).bind fun r11 =>
 some r11
end Go.Abs.Q
namespace Go.Abs.Q
open Go Go.Abs
def zL:List jI→jI→Option jI
 | [],s3=>some s3
 | e::es,s3 =>
  cond (yQ (List.length s3+List.length e) 8)
  (zL es (s3++e))
  (none)
theorem zf9 (s0:jR) (s3:jI) (hl:List.length s0≤maxLen):lp zab zd (s0,((List.length s0:Nat):Int),0,s3)=zL s0 s3:=zaT zab (fun i s3=>(s0,((List.length s0:Nat):Int),i,s3)) (fun es i s3=>zL es s3) hl (fun r i s3 h=>by unfold zab zL; simp only[h,cond_false]) (fun r i s3 e es h g w k=>by unfold zab zL; simp only[h,cond_true,g,Option.bind_some,w,k]) s3
def zI:List jI→Int→Option Int
 | [],s1=>some s1
 | e::es,s1 =>
  cond (decide ((IntKind.wrap .i64 (s1+((List.length e:Nat):Int)))<0))
  (none)
  (zI es (IntKind.wrap .i64 (s1+((List.length e:Nat):Int))))
theorem zf8 (s0:jR) (s2:jR) (s1:Int) (hl:List.length s2≤maxLen):lp zaa zd (s0,s1,s2,((List.length s2:Nat):Int),0)=zI s2 s1:=zaT zaa (fun i s1=>(s0,s1,s2,((List.length s2:Nat):Int),i)) (fun es i s1=>zI es s1) hl (fun r i s1 h=>by unfold zaa zI; simp only[h,cond_false]) (fun r i s1 e es h g w k=>by unfold zaa zI; simp only[h,cond_true,g,Option.bind_some,w,k]) s1
end Go.Abs.Q
namespace Go.Abs.Q
open Go Go.Abs
section
end
end Go.Abs.Q
namespace Go.Abs.Q
open Go Go.Abs
end Go.Abs.Q
namespace Go.Abs.Q
open Go Go.Abs
end Go.Abs.Q
namespace Go.Abs.Q
open Go Go.Abs
section
end
end Go.Abs.Q
namespace Go.Abs.Q
open Go Go.Abs
section
end
end Go.Abs.Q
namespace Go.Abs.Q
open Go Go.Abs
section
end
end Go.Abs.Q
namespace Go.Abs.Q
open Go Go.Abs
section
end
end Go.Abs.Q
namespace Go.Abs.Q
open Go Go.Abs
section
def zJW (c:UInt8):Bool:=zkr ((UInt8.toNat c:Nat):Int)
def zJQ (c:UInt8):Bool:=decide (((UInt8.toNat c:Nat):Int)≥48)&&decide (((UInt8.toNat c:Nat):Int)≤57)
def zJV (b:Bool) (c:UInt8):Bool:=zJQ c||(b&&zJW c)
end
end Go.Abs.Q
namespace Go.Abs.Q
open Go Go.Abs
section
end
end Go.Abs.Q
namespace Go.Abs.Q
open Go Go.Abs
section
end
end Go.Abs.Q
namespace Go.Abs.Q
open Go Go.Abs
section
def Stop (c:Str):Prop:=c.takeWhile (zJV true)=[]
end
end Go.Abs.Q
namespace Go.Abs.Q
open Go Go.Abs
section
end
end Go.Abs.Q
namespace Go.Abs.Q
open Go Go.Abs
section
end
end Go.Abs.Q
namespace Go.Abs.Q
open Go Go.Abs
section
end
end Go.Abs.Q
namespace Go.Abs.Q
open Go Go.Abs
section
theorem zlO {n:Nat} (h:n≤10000000):ze6 (n:Int)=some []:=by
 unfold ze6
 have e:IntKind.wrap .i64 ((n:Int) - 0)=(n:Int):=by rw[zp]<;>omega
 rw[e,decide_eq_false (show ¬((n:Int)<0) by omega),cond_false]
 by_cases h0:n=0
 ·subst h0; rfl
 ·rw[decide_eq_true (show (n:Int)>0 by omega),cond_true,show (eqI 0 0&&eqI 0 0)=true from rfl,cond_true,show zsB (n:Int)=true from decide_eq_true (by omega),cond_true,Int.toNat_natCast,zq (by omega),cond_true]
  have:∀ z:Int,zcD (List.replicate n z) none (some 0)=some []:=fun z=>by
   show slc (List.replicate n z) 0 0=some []
   unfold slc
   rw[decide_eq_true (show (0:Int)≤0 by omega),decide_eq_true (show (0:Int)≤(((List.replicate n z).length:Nat):Int) by omega)]
   rfl
  rw[this]; rfl
theorem zEF {a b c:List Int} (h:a.length+b.length+c.length≤9000000):zdz [a,b,c]=some ((a++b)++c):=by
 have w0:IntKind.wrap .i64 ((0:Int)+((a.length:Nat):Int))=((a.length:Nat):Int):=by rw[zp]<;>omega
 have w1:IntKind.wrap .i64 (((a.length:Nat):Int)+((b.length:Nat):Int))=((a.length+b.length:Nat):Int):=by rw[zp]<;>omega
 have w2:IntKind.wrap .i64 (((a.length+b.length:Nat):Int)+((c.length:Nat):Int))=((a.length+b.length+c.length:Nat):Int):=by rw[zp]<;>omega
 have e0:zI [a,b,c] 0=some ((a.length+b.length+c.length:Nat):Int):=by
  unfold zI
  rw[w0,decide_eq_false (show ¬(((a.length:Nat):Int)<0) by omega),cond_false]
  unfold zI
  rw[w1,decide_eq_false (show ¬(((a.length+b.length:Nat):Int)<0) by omega),cond_false]
  unfold zI
  rw[w2,decide_eq_false (show ¬(((a.length+b.length+c.length:Nat):Int)<0) by omega),cond_false]
  rfl
 have e1:zL [a,b,c] []=some ((a++b)++c):=by
  unfold zL
  rw[zq (by simp; omega),cond_true,List.nil_append]
  unfold zL
  rw[zq (by omega),cond_true]
  unfold zL
  rw[zq (by simp; omega),cond_true]
  rfl
 unfold zdz
 rw[zf8 _ _ _ (by unfold maxLen; simp),e0,Option.bind_some,zlO (by omega),Option.bind_some,zf9 _ _ (by unfold maxLen; simp),e1]
 rfl
end
end Go.Abs.Q
namespace Go.Abs.Q
open Go Go.Abs
section
end
end Go.Abs.Q
namespace Go.Abs.Q
open Go Go.Abs
section
end
end Go.Abs.Q
namespace Go.Abs.Q
open Go Go.Abs
section
end
end Go.Abs.Q
namespace Go.Abs.Q
open Go Go.Abs
section
end
end Go.Abs.Q
namespace Go.Abs.Q
open Go Go.Abs
section
end
end Go.Abs.Q
namespace Go.Abs.Q
open Go Go.Abs
section
theorem zCe {a0:List zi}:{xs:List Int}→{n m:Nat}→{ys:List Int}→sk a0 n xs=some xs.length→sk a0 m ys=some ys.length→sk a0 (n+m) (xs++ys)=some (xs++ys).length
 | [],0,m,ys,_,h=>by rw[Nat.zero_add]; exact h
 | [],n+1,m,ys,h,_=>by simp [sk] at h
 | x::xs,0,m,ys,h,_=>by simp [sk] at h
 | x::xs,n+1,m,ys,h,h'=>by
  unfold sk at h
  cases ha:zc2 a0 x with
  | none=>rw[ha] at h; cases h
  | some k =>
   rw[ha] at h
   simp only[Option.map_eq_some_iff,List.length_cons] at h
   obtain⟨j,hj,hjl⟩:=h
   have hj2:j=xs.length:=by omega
   subst hj2
   have ih:=zCe hj h'
   rw[show n+1+m=(n+m)+1 from by omega,List.cons_append]
   unfold sk
   rw[ha]
   simp only
   rw[show n+m+k=n+k+m from by omega,ih]
   rfl
end
end Go.Abs.Q
namespace Go.Abs.Q
open Go Go.Abs
section
theorem zzh {a0:List zi} {x:Int} {q:Nat} (h:zc2 a0 x=some q):x<0∨x<a0.length:=by
 by_cases hx:x<0
 ·exact .inl hx
 ·obtain⟨e,-,he,-⟩:=zqq h hx
  have:=(List.getElem?_eq_some_iff.1 he).1
  exact .inr (by omega)
theorem zm1 {a0:List zi}:{xs:List Int}→{n k:Nat}→sk a0 n xs=some k→∀ c∈xs.take k,c<0∨c<a0.length
 | [],n,k,h,c,hc=>by simp at hc
 | x::xs,0,k,h,c,hc=>by
  simp [sk] at h; subst h; simp at hc
 | x::xs,n+1,k,h,c,hc=>by
  unfold sk at h
  cases ha:zc2 a0 x with
  | none=>rw[ha] at h; cases h
  | some m =>
   rw[ha] at h
   simp only[Option.map_eq_some_iff] at h
   obtain⟨j,hj,rfl⟩:=h
   rw[List.take_succ_cons] at hc
   rcases List.mem_cons.1 hc with rfl | hc
   ·exact zzh ha
   ·exact zm1 hj c hc
theorem zpL {a0:List zi} (hs:SignOk a0) {xs:List Int} {ps:List jI} (h:zlI a0 xs=some ps):∀ c∈xs,-24≤c∧c<20:=by
 obtain⟨h1,h2⟩:=zif xs.length xs ps (Nat.le_refl _) h
 have hl:=hs.len
 intro c hc
 refine ⟨zkE h c hc,?_⟩
 rw[← h1] at hc
 obtain⟨p,hp,hcp⟩:=List.mem_flatten.1 hc
 have:=zm1 (h2 p hp).2 c
 rw[List.take_length] at this
 rcases this hcp with h | h<;>omega
theorem ztN {a0:List zi} (hs:SignOk a0) {xs:List Int} (h:qz a0 xs=true):zdm xs:=by
 obtain⟨x,r,e,ps,rfl,h0,he,-,-,-,hl,hc,-⟩:=ziT h
 have:=(List.getElem?_eq_some_iff.1 he).1
 have hl2:=hs.len
 refine ⟨by simp; omega,fun c hcm => ?_⟩
 rcases List.mem_cons.1 hcm with rfl | hcm
 ·omega
 ·have:=zpL hs hc c hcm; omega
theorem zfd {a0:List zi} (hs:SignOk a0) {ls:List zc} (h:zeC a0 ls=true):∀ l∈ls,zdm l.2:=fun l hl=>ztN hs (List.all_eq_true.1 h l hl)
theorem zk7 {a0:List zi} (hs:SignOk a0) {rs:List jI} (h:zgA a0 rs=true):∀ r∈rs,zdm r:=fun r hr=>by
 obtain⟨n,hn⟩:=zhT h
 obtain⟨ps,hc,-,hl,-⟩:=zkp (hn r hr)
 exact ⟨by omega,fun c hcm=>by have:=zpL hs hc c hcm; omega⟩
end
end Go.Abs.Q
namespace Go.Abs.Q
open Go Go.Abs
def zjY (a0:Int):Option Bool :=
 some (a0 != a0)
def zl7 (a0:Int) (a1:Int):Option Bool :=
 (zjY a0).bind fun r3 =>
 cond r3
 ((zjY a1).bind fun r4 =>
  cond (!r4)
  (some true)
  (some (decide (a0<a1))))
 (some (decide (a0<a1)))
def zeD (a0:Int):Option Bool :=
 some (a0 != a0)
def yK (rec:(jI×Int×Int×Int×Int)→Option Int) (x:(jI×Int×Int×Int×Int)):Option Int :=
 cond (decide (x.2.2.2.1<x.2.2.2.2))
 ((gx x.1 (IntKind.wrap .i64 (Int.fdiv (IntKind.wrap .u64 (IntKind.wrap .i64 (x.2.2.2.1+x.2.2.2.2))) (2 ^ min (Int.toNat 1) (IntKind.bits .u64))))).bind fun e3 =>
  (zl7 e3 x.2.1).bind fun r4 =>
  cond r4
  (rec (x.1,x.2.1,x.2.2.1,(IntKind.wrap .i64 ((IntKind.wrap .i64 (Int.fdiv (IntKind.wrap .u64 (IntKind.wrap .i64 (x.2.2.2.1+x.2.2.2.2))) (2 ^ min (Int.toNat 1) (IntKind.bits .u64))))+1)),x.2.2.2.2))
  (rec (x.1,x.2.1,x.2.2.1,x.2.2.2.1,(IntKind.wrap .i64 (Int.fdiv (IntKind.wrap .u64 (IntKind.wrap .i64 (x.2.2.2.1+x.2.2.2.2))) (2 ^ min (Int.toNat 1) (IntKind.bits .u64)))))))
 (some x.2.2.2.1)
def zaG (a0:jI) (a1:Int):Option (Int×Bool) :=
 ((lp yK zd) (a0,a1,((List.length a0:Nat):Int),0,((List.length a0:Nat):Int))).bind fun r10 =>
 cond (decide (r10<((List.length a0:Nat):Int)))
 ((gx a0 r10).bind fun e11 =>
  cond (e11==a1)
  (some (r10,true))
  ((gx a0 r10).bind fun e12 =>
   (zeD e12).bind fun r13 =>
   cond r13
   ((zeD a1).bind fun r14 =>
    some (r10,r14))
   (some (r10,false))))
 (some (r10,false))
def ze4 (a0:Int) (a1:jI) (a2:jI):Option jI:=zFA a0 a1 a2
def zcj (rec:(jI×Int×Int×jI)→Option jI) (x:(jI×Int×Int×jI)):Option jI :=
 cond (decide (x.2.2.1<x.2.1))
 ((gx x.1 x.2.2.1).bind fun e11 =>
  cond (decide (e11≥0))
  (rec (x.1,x.2.1,(IntKind.wrap .i64 (x.2.2.1+1)),x.2.2.2))
  ((ye e11).bind fun r12 =>
   (zaG x.2.2.2 r12).bind fun r13 =>
   cond (!r13.2)
   ((ye e11).bind fun r14 =>
    (ze4 r13.1 x.2.2.2 ([r14]:List Int)).bind fun r15 =>
    rec (x.1,x.2.1,(IntKind.wrap .i64 (x.2.2.1+1)),r15))
   (rec (x.1,x.2.1,(IntKind.wrap .i64 (x.2.2.1+1)),x.2.2.2))))
 (some x.2.2.2)
def zc7 (a0:jI) (a1:jI):Option jI :=
 ((lp zcj zd) (a0,((List.length a0:Nat):Int),0,a1)).bind fun r17 =>
 some r17
def zcd (rec:(jR×Int×Int×jI)→Option jI) (x:(jR×Int×Int×jI)):Option jI :=
 cond (decide (x.2.2.1<x.2.1))
 ((gx x.1 x.2.2.1).bind fun e12 =>
  (zc7 e12 x.2.2.2).bind fun r13 =>
  rec (x.1,x.2.1,(IntKind.wrap .i64 (x.2.2.1+1)),r13))
 (some x.2.2.2)
def zb8 (rec:(jQ×Int×Int×jQ×jR×jQ×jI)→Option jI) (x:(jQ×Int×Int×jQ×jR×jQ×jI)):Option jI :=
 cond (decide (x.2.2.1<x.2.1))
 ((gx x.1 x.2.2.1).bind fun e7 =>
  (zc7 e7.2 x.2.2.2.2.2.2).bind fun r8 =>
  rec (x.1,x.2.1,(IntKind.wrap .i64 (x.2.2.1+1)),x.2.2.2.1,x.2.2.2.2.1,x.2.2.2.2.2.1,r8))
 (some x.2.2.2.2.2.2)
def yn (a0:jS) (a1:jQ) (a2:jR) (a3:jQ):Option (Int×jI) :=
 (zaf a0 a1 a2 a3).bind fun r15 =>
 cond (!r15)
 (some (800,([]:jI)))
 ((zcw ([a1,a3]:List jQ)).bind fun r16 =>
  ((lp zb8 zd) (r16,((List.length r16:Nat):Int),0,a1,a2,a3,([]:jI))).bind fun r17 =>
  ((lp zcd zd) (a2,((List.length a2:Nat):Int),0,r17)).bind fun r18 =>
  some (0,r18))
def qt (rec:(Int×Int×Int×jI)→Option jI) (x:(Int×Int×Int×jI)):Option jI :=
 cond (decide (x.2.1<x.1))
 ((inR x.2.1 (List.length x.2.2.2)).bind fun k6 =>
  (x.2.2.2[k6]?).bind fun x7 =>
  cond (decide (x7<0))
  ((inR x.2.1 (List.length x.2.2.2)).bind fun k8 =>
   (x.2.2.2[k8]?).bind fun x9 =>
   rec (x.1,(IntKind.wrap .i64 (x.2.1+1)),x.2.2.1,(List.set x.2.2.2 k8 (IntKind.wrap .i64 (x7 - x.2.2.1)))))
  (rec (x.1,(IntKind.wrap .i64 (x.2.1+1)),x.2.2.1,x.2.2.2)))
 (some x.2.2.2)
def ql (a0:jI) (a1:Int):Option jI :=
 (zcH a0).bind fun r11 =>
 ((lp qt zd) (((List.length r11:Nat):Int),0,a1,r11)).bind fun r12 =>
 some r12
def za4 (rec:(jQ×Int×Int×Int×jQ×jR×jQ)→Option (jQ×jR×jQ)) (x:(jQ×Int×Int×Int×jQ×jR×jQ)):Option (jQ×jR×jQ) :=
 cond (decide (x.2.2.1<x.2.1))
 ((gx x.1 x.2.2.1).bind fun e19 =>
  (ql e19.2 x.2.2.2.1).bind fun r20 =>
  cond (yQ (List.length x.2.2.2.2.2.2+List.length ([(e19.1,r20)]:List zc)) 32)
  (rec (x.1,x.2.1,(IntKind.wrap .i64 (x.2.2.1+1)),x.2.2.2.1,x.2.2.2.2.1,x.2.2.2.2.2.1,(x.2.2.2.2.2.2++([(e19.1,r20)]:List zc))))
  (none))
 (some (x.2.2.2.2.1,x.2.2.2.2.2.1,x.2.2.2.2.2.2))
def zaX (rec:(jR×Int×Int×Int×jQ×jR×jQ×jQ×jR)→Option (jQ×jR)) (x:(jR×Int×Int×Int×jQ×jR×jQ×jQ×jR)):Option (jQ×jR) :=
 cond (decide (x.2.2.1<x.2.1))
 ((gx x.1 x.2.2.1).bind fun e12 =>
  (ql e12 x.2.2.2.1).bind fun r13 =>
  cond (yQ (List.length x.2.2.2.2.2.2.2.2+List.length ([r13]:List jI)) 24)
  (rec (x.1,x.2.1,(IntKind.wrap .i64 (x.2.2.1+1)),x.2.2.2.1,x.2.2.2.2.1,x.2.2.2.2.2.1,x.2.2.2.2.2.2.1,x.2.2.2.2.2.2.2.1,(x.2.2.2.2.2.2.2.2++([r13]:List jI))))
  (none))
 (some (x.2.2.2.2.2.2.2.1,x.2.2.2.2.2.2.2.2))
def za5 (rec:(jQ×Int×Int×Int×jQ×jR×jQ×jQ)→Option jQ) (x:(jQ×Int×Int×Int×jQ×jR×jQ×jQ)):Option jQ :=
 cond (decide (x.2.2.1<x.2.1))
 ((gx x.1 x.2.2.1).bind fun e5 =>
  (ql e5.2 x.2.2.2.1).bind fun r6 =>
  cond (yQ (List.length x.2.2.2.2.2.2.2+List.length ([(e5.1,r6)]:List zc)) 32)
  (rec (x.1,x.2.1,(IntKind.wrap .i64 (x.2.2.1+1)),x.2.2.2.1,x.2.2.2.2.1,x.2.2.2.2.2.1,x.2.2.2.2.2.2.1,(x.2.2.2.2.2.2.2++([(e5.1,r6)]:List zc))))
  (none))
 (some x.2.2.2.2.2.2.2)
def zgZ (a0:jQ) (a1:jR) (a2:jQ) (a3:Int):Option (jQ×jR×jQ) :=
 ((lp za5 zd) (a0,((List.length a0:Nat):Int),0,a3,a0,a1,a2,([]:jQ))).bind fun r22 =>
 ((lp zaX zd) (a1,((List.length a1:Nat):Int),0,a3,a0,a1,a2,r22,([]:jR))).bind fun r23 =>
 ((lp za4 zd) (a2,((List.length a2:Nat):Int),0,a3,r23.1,r23.2,([]:jQ))).bind fun r24 =>
 some (r24.1,r24.2.1,r24.2.2)
def zF (a0:jQ) (a1:jR) (a2:jQ) (a3:Int):Option (jQ×jR×jQ) :=
 (zgZ a0 a1 a2 a3).bind fun r2 =>
 some (r2.1,r2.2.1,r2.2.2)
def zdI (a0:jS) (a1:jQ) (a2:jR) (a3:jQ) (a4:jQ) (a5:jR) (a6:jQ):Option (jQ×jR×Bool×jQ) :=
 (yn a0 a1 a2 a3).bind fun r14 =>
 cond (decide (((List.length r14.2:Nat):Int)>0))
 ((inR (IntKind.wrap .i64 (((List.length r14.2:Nat):Int) - 1)) (List.length r14.2)).bind fun k15 =>
  (r14.2[k15]?).bind fun x16 =>
  (yn a0 a4 a5 a6).bind fun r17 =>
  cond (decide (((List.length r17.2:Nat):Int)>0))
  ((inR (IntKind.wrap .i64 (((List.length r17.2:Nat):Int) - 1)) (List.length r17.2)).bind fun k18 =>
   (r17.2[k18]?).bind fun x19 =>
   cond (decide ((IntKind.wrap .i64 (x19+(IntKind.wrap .i64 (x16+1))))>23))
   (some (([]:jQ),([]:jR),false,([]:jQ)))
   ((zF a4 a5 a6 (IntKind.wrap .i64 (x16+1))).bind fun r20 =>
    some (r20.1,r20.2.1,true,r20.2.2)))
  ((zF a4 a5 a6 (IntKind.wrap .i64 (x16+1))).bind fun r21 =>
   some (r21.1,r21.2.1,true,r21.2.2)))
 ((yn a0 a4 a5 a6).bind fun r22 =>
  cond (decide (((List.length r22.2:Nat):Int)>0))
  ((inR (IntKind.wrap .i64 (((List.length r22.2:Nat):Int) - 1)) (List.length r22.2)).bind fun k23 =>
   (r22.2[k23]?).bind fun x24 =>
   cond (decide ((IntKind.wrap .i64 (x24+0))>23))
   (some (([]:jQ),([]:jR),false,([]:jQ)))
   ((zF a4 a5 a6 0).bind fun r25 =>
    some (r25.1,r25.2.1,true,r25.2.2)))
  ((zF a4 a5 a6 0).bind fun r26 =>
   some (r26.1,r26.2.1,true,r26.2.2)))
end Go.Abs.Q
namespace Go.Abs.Q
open Go Go.Abs
def yA:List Int→jI→Option jI
 | [],s3=>some s3
 | e::es,s3 =>
  cond (decide (e≥0))
  (yA es s3)
  ((ye e).bind fun r12 =>
   (zaG s3 r12).bind fun r13 =>
   cond (!r13.2)
   ((ye e).bind fun r14 =>
    (ze4 r13.1 s3 ([r14]:List Int)).bind fun r15 =>
    yA es r15)
   (yA es s3))
theorem ziE (s0:jI) (s3:jI) (hl:List.length s0≤maxLen):lp zcj zd (s0,((List.length s0:Nat):Int),0,s3)=yA s0 s3:=zaT zcj (fun i s3=>(s0,((List.length s0:Nat):Int),i,s3)) (fun es i s3=>yA es s3) hl (fun r i s3 h=>by unfold zcj yA; simp only[h,cond_false]) (fun r i s3 e es h g w k=>by unfold zcj yA; simp only[h,cond_true,g,Option.bind_some,w,k]) s3
def qH:List jI→jI→Option jI
 | [],s3=>some s3
 | e::es,s3 =>
  (zc7 e s3).bind fun r13 =>
  qH es r13
theorem zhV (s0:jR) (s3:jI) (hl:List.length s0≤maxLen):lp zcd zd (s0,((List.length s0:Nat):Int),0,s3)=qH s0 s3:=zaT zcd (fun i s3=>(s0,((List.length s0:Nat):Int),i,s3)) (fun es i s3=>qH es s3) hl (fun r i s3 h=>by unfold zcd qH; simp only[h,cond_false]) (fun r i s3 e es h g w k=>by unfold zcd qH; simp only[h,cond_true,g,Option.bind_some,w,k]) s3
def qI:List zc→jI→Option jI
 | [],s6=>some s6
 | e::es,s6 =>
  (zc7 e.2 s6).bind fun r8 =>
  qI es r8
theorem zik (s0:jQ) (s3:jQ) (s4:jR) (s5:jQ) (s6:jI) (hl:List.length s0≤maxLen):lp zb8 zd (s0,((List.length s0:Nat):Int),0,s3,s4,s5,s6)=qI s0 s6:=zaT zb8 (fun i s6=>(s0,((List.length s0:Nat):Int),i,s3,s4,s5,s6)) (fun es i s6=>qI es s6) hl (fun r i s6 h=>by unfold zb8 qI; simp only[h,cond_false]) (fun r i s6 e es h g w k=>by unfold zb8 qI; simp only[h,cond_true,g,Option.bind_some,w,k]) s6
def yu (s3:Int) (s4:jQ) (s5:jR):List zc→jQ→Option (jQ×jR×jQ)
 | [],s6=>some (s4,s5,s6)
 | e::es,s6 =>
  (ql e.2 s3).bind fun r20 =>
  cond (yQ (List.length s6+List.length ([(e.1,r20)]:List zc)) 32)
  (yu s3 s4 s5 es (s6++([(e.1,r20)]:List zc)))
  (none)
theorem zhy (s0:jQ) (s3:Int) (s4:jQ) (s5:jR) (s6:jQ) (hl:List.length s0≤maxLen):lp za4 zd (s0,((List.length s0:Nat):Int),0,s3,s4,s5,s6)=yu s3 s4 s5 s0 s6:=zaT za4 (fun i s6=>(s0,((List.length s0:Nat):Int),i,s3,s4,s5,s6)) (fun es i s6=>yu s3 s4 s5 es s6) hl (fun r i s6 h=>by unfold za4 yu; simp only[h,cond_false]) (fun r i s6 e es h g w k=>by unfold za4 yu; simp only[h,cond_true,g,Option.bind_some,w,k]) s6
def yk (s3:Int) (s7:jQ):List jI→jR→Option (jQ×jR)
 | [],s8=>some (s7,s8)
 | e::es,s8 =>
  (ql e s3).bind fun r13 =>
  cond (yQ (List.length s8+List.length ([r13]:List jI)) 24)
  (yk s3 s7 es (s8++([r13]:List jI)))
  (none)
theorem zgW (s0:jR) (s3:Int) (s4:jQ) (s5:jR) (s6:jQ) (s7:jQ) (s8:jR) (hl:List.length s0≤maxLen):lp zaX zd (s0,((List.length s0:Nat):Int),0,s3,s4,s5,s6,s7,s8)=yk s3 s7 s0 s8:=zaT zaX (fun i s8=>(s0,((List.length s0:Nat):Int),i,s3,s4,s5,s6,s7,s8)) (fun es i s8=>yk s3 s7 es s8) hl (fun r i s8 h=>by unfold zaX yk; simp only[h,cond_false]) (fun r i s8 e es h g w k=>by unfold zaX yk; simp only[h,cond_true,g,Option.bind_some,w,k]) s8
def yp (s3:Int):List zc→jQ→Option jQ
 | [],s7=>some s7
 | e::es,s7 =>
  (ql e.2 s3).bind fun r6 =>
  cond (yQ (List.length s7+List.length ([(e.1,r6)]:List zc)) 32)
  (yp s3 es (s7++([(e.1,r6)]:List zc)))
  (none)
theorem zg2 (s0:jQ) (s3:Int) (s4:jQ) (s5:jR) (s6:jQ) (s7:jQ) (hl:List.length s0≤maxLen):lp za5 zd (s0,((List.length s0:Nat):Int),0,s3,s4,s5,s6,s7)=yp s3 s0 s7:=zaT za5 (fun i s7=>(s0,((List.length s0:Nat):Int),i,s3,s4,s5,s6,s7)) (fun es i s7=>yp s3 es s7) hl (fun r i s7 h=>by unfold za5 yp; simp only[h,cond_false]) (fun r i s7 e es h g w k=>by unfold za5 yp; simp only[h,cond_true,g,Option.bind_some,w,k]) s7
end Go.Abs.Q
