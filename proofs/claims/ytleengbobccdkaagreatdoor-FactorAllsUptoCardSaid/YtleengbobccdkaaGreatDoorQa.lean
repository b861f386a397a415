import Derived.Test.YtleengbobccdkaaGreatDoorFc
/-
  What the functions make of plain values, and what the law says of that.
-/
namespace Go.Abs.Q
open Go Go.Abs
abbrev zq:=Str×Int×Int×Int
abbrev zrC:Tys:=.cons .str (.cons (.int .i64) (.cons (.int .i64) (.one (.int .i64))))
abbrev zl:=Bool×List Int
abbrev zjY:Tys:=.cons .bool (.one (.sl (.one (.int .i64))))
abbrev jR:=List (List Int)
abbrev jI:=List Int
abbrev jQ:=List zl
abbrev jS:=List zq
abbrev jT:=List (Int×Int×Int×Int×Int×Int×Int×jQ×jR×jQ)
abbrev jU:=Int×Int×Int×Int×Int×Int×Int×jQ×jR×jQ
def zeu (a0:Int):Option Bool :=
 cond (decide (a0≥97))
 (some (decide (a0≤122)))
 (some false)
def zaw (rec:(Str×Int×Int)→Option (Unit⊕Bool)) (x:(Str×Int×Int)):Option (Unit⊕Bool) :=
 cond (decide (x.2.2<x.2.1))
 ((gx x.1 x.2.2).bind fun c7 =>
  (zeu ((UInt8.toNat c7:Nat):Int)).bind fun r8 =>
  cond (!r8)
  ((gx x.1 x.2.2).bind fun c9 =>
   cond (decide (((UInt8.toNat c9:Nat):Int)<48))
   (some (Sum.inr false))
   ((gx x.1 x.2.2).bind fun c10 =>
    cond (decide (((UInt8.toNat c10:Nat):Int)>57))
    (some (Sum.inr false))
    (rec (x.1,x.2.1,(IntKind.wrap .i64 (x.2.2+1))))))
  (rec (x.1,x.2.1,(IntKind.wrap .i64 (x.2.2+1)))))
 (some (Sum.inl ()))
def zgM (a0:Str):Option Bool :=
 cond (a0==([]:Str))
 (some false)
 (cond (decide (((List.length a0:Nat):Int)>8))
  (some false)
  ((gx a0 0).bind fun c14 =>
   (zeu ((UInt8.toNat c14:Nat):Int)).bind fun r15 =>
   cond (!r15)
   (some false)
   (((lp zaw zi) (a0,((List.length a0:Nat):Int),0)).bind fun r16 =>
    yg r16
    (fun z17=>some true)
    (fun z18=>some z18))))
def zeB (a0:Str) (a1:Int) (a2:Int) (a3:Int):Option Bool :=
 (zgM a0).bind fun r2 =>
 cond r2
 (cond (decide (a1≥0))
  (cond (decide (a1≤2))
   (cond (decide (a2≥0))
    (cond (decide (a2≤3))
     (cond (decide (a3≥1))
      (some (decide (a3≤20)))
      (some false))
     (some false))
    (some false))
   (some false))
  (some false))
 (some false)
def zbD (rec:(jS×Str×Int×Int)→Option (Unit⊕Int)) (x:(jS×Str×Int×Int)):Option (Unit⊕Int) :=
 cond (decide (x.2.2.2<x.2.2.1))
 ((gx x.1 x.2.2.2).bind fun e2 =>
  cond (e2.1==x.2.1)
  (some (Sum.inr x.2.2.2))
  (rec (x.1,x.2.1,x.2.2.1,(IntKind.wrap .i64 (x.2.2.2+1)))))
 (some (Sum.inl ()))
def zf2 (a0:jS) (a1:Str):Option Int :=
 ((lp zbD zi) (a0,a1,((List.length a0:Nat):Int),0)).bind fun r6 =>
 yg r6
 (fun z7=>some (-1))
 (fun z8=>some z8)
def zcP (rec:(jS×Int)→Option (Unit⊕Bool)) (x:(jS×Int)):Option (Unit⊕Bool) :=
 cond (decide (x.2<((List.length x.1:Nat):Int)))
 ((gx x.1 x.2).bind fun e6 =>
  (zeB e6.1 e6.2.1 e6.2.2.1 e6.2.2.2).bind fun r7 =>
  cond (!r7)
  (some (Sum.inr false))
  ((gx x.1 x.2).bind fun e8 =>
   (zf2 x.1 e8.1).bind fun r9 =>
   cond (r9 != x.2)
   (some (Sum.inr false))
   (rec (x.1,(IntKind.wrap .i64 (x.2+1))))))
 (some (Sum.inl ()))
def zgF (a0:jS):Option Bool :=
 cond (decide (((List.length a0:Nat):Int)<1))
 (some false)
 (cond (decide (((List.length a0:Nat):Int)>20))
  (some false)
  ((gx a0 0).bind fun e13 =>
   cond (!(cond (eqS e13.1 [61]) (cond (eqI e13.2.1 0) (cond (eqI e13.2.2.1 2) (cond (eqI e13.2.2.2 1) true false) false) false) false))
   (some false)
   (((lp zcP zi) (a0,1)).bind fun r14 =>
    yg r14
    (fun z15=>some true)
    (fun z16=>some z16))))
def zaa (rec:(jI×Int×Int×Int)→Option (Unit⊕Int)) (x:(jI×Int×Int×Int)):Option (Unit⊕Int) :=
 cond (decide (x.2.2.2<x.2.2.1))
 ((gx x.1 x.2.2.2).bind fun e2 =>
  cond (x.2.1==e2)
  (some (Sum.inr x.2.2.2))
  (rec (x.1,x.2.1,x.2.2.1,(IntKind.wrap .i64 (x.2.2.2+1)))))
 (some (Sum.inl ()))
def zif (a0:jI) (a1:Int):Option Int :=
 ((lp zaa zi) (a0,a1,((List.length a0:Nat):Int),0)).bind fun r6 =>
 yg r6
 (fun z7=>some (-1))
 (fun z8=>some z8)
def zbn (a0:jI) (a1:Int):Option Bool :=
 (zif a0 a1).bind fun r2 =>
 some (decide (r2≥0))
def zik (a0:(Option jI)):Option jI :=
 cond (Option.isNone a0)
 (some ([]:jI))
 (cond (qi (List.length ([]:List Int)+List.length (Option.getD a0 [])) 8)
  (some (([]:List Int)++(Option.getD a0 [])))
  (none))
def znZ:Option jI :=
 some ([]:jI)
def zcr (a0:jI):Option jI:=zik (some a0)
def zl7 (a0:Bool) (a1:jI):Option zl :=
 (zcr a1).bind fun r2 =>
 some ((!a0),r2)
def yU (a0:Int):Option Int :=
 some (IntKind.wrap .i64 ((-1) - a0))
def zhW (a0:jS) (a1:Int):Option (Int×Bool) :=
 cond (decide (a1<0))
 ((yU 23).bind fun r4 =>
  some (0,(decide (a1≥r4))))
 (cond (decide (a1≥((List.length a0:Nat):Int)))
  (some (0,false))
  ((gx a0 a1).bind fun e5 =>
   cond (e5.2.1==0)
   (some (0,false))
   ((gx a0 a1).bind fun e6 =>
    some (e6.2.2.1,true))))
def zcf (rec:(jS×jI×Int×Int)→Option (Int×Bool)) (x:(jS×jI×Int×Int)):Option (Int×Bool) :=
 cond (decide (x.2.2.1≥((List.length x.2.1:Nat):Int)))
 (some (0,false))
 ((gx x.2.1 x.2.2.1).bind fun e5 =>
  (zhW x.1 e5).bind fun r6 =>
  cond (!r6.2)
  (some (0,false))
  (cond (decide ((IntKind.wrap .i64 (x.2.2.2+(IntKind.wrap .i64 (r6.1 - 1))))>0))
   (rec (x.1,x.2.1,(IntKind.wrap .i64 (x.2.2.1+1)),(IntKind.wrap .i64 (x.2.2.2+(IntKind.wrap .i64 (r6.1 - 1))))))
   (some ((IntKind.wrap .i64 (x.2.2.1+1)),true))))
def zfy (a0:jS) (a1:jI) (a2:Int):Option (Int×Bool) :=
 cond (decide (a2≥((List.length a1:Nat):Int)))
 (some (0,false))
 ((gx a1 a2).bind fun e8 =>
  (zhW a0 e8).bind fun r9 =>
  cond (!r9.2)
  (some (0,false))
  (cond (decide ((IntKind.wrap .i64 (1+(IntKind.wrap .i64 (r9.1 - 1))))>0))
   ((((lp zcf zi) (a0,a1,(IntKind.wrap .i64 (a2+1)),(IntKind.wrap .i64 (1+(IntKind.wrap .i64 (r9.1 - 1))))))).bind fun r10 =>
    some (r10.1,r10.2))
   (some ((IntKind.wrap .i64 (a2+1)),true))))
def zcG (rec:(jS×jI×Int×jI)→Option zl) (x:(jS×jI×Int×jI)):Option zl :=
 cond (x.2.2.1==((List.length x.2.1:Nat):Int))
 (some (true,x.2.2.2))
 ((zfy x.1 x.2.1 x.2.2.1).bind fun r4 =>
  cond (!r4.2)
  (some (false,([]:jI)))
  (cond (qi (List.length x.2.2.2+List.length ([x.2.2.1]:List Int)) 8)
   (rec (x.1,x.2.1,r4.1,(x.2.2.2++([x.2.2.1]:List Int))))
   (none)))
def zdy (a0:jS) (a1:jI):Option zl :=
 (zgF a0).bind fun r6 =>
 cond (!r6)
 (some (false,([]:jI)))
 (cond (decide (((List.length a1:Nat):Int)>48))
  (some (false,([]:jI)))
  (cond (0==((List.length a1:Nat):Int))
   (some (true,([]:jI)))
   ((zfy a0 a1 0).bind fun r7 =>
    cond (!r7.2)
    (some (false,([]:jI)))
    (cond (qi (List.length ([0]:List Int)) 8)
     ((((lp zcG zi) (a0,a1,r7.1,([0]:List Int)))).bind fun r8 =>
      some (r8.1,r8.2))
     (none)))))
def zck (a0:jS) (a1:jI):Option Bool :=
 cond (((List.length a1:Nat):Int)==0)
 (some false)
 ((gx a1 0).bind fun e9 =>
  cond (decide (e9<0))
  (some false)
  ((gx a1 0).bind fun e10 =>
   cond (decide (e10≥((List.length a0:Nat):Int)))
   (some false)
   ((gx a1 0).bind fun e11 =>
    (gx a0 e11).bind fun e12 =>
    cond (e12.2.1 != 0)
    (some false)
    ((zcv a1 (some 1) none).bind fun y13 =>
     (zdy a0 y13).bind fun r14 =>
     cond r14.1
     ((gx a1 0).bind fun e15 =>
      (gx a0 e15).bind fun e16 =>
      some (((List.length r14.2:Nat):Int)==e16.2.2.1))
     (some false)))))
def zgd (a0:jS) (a1:Bool) (a2:jI):Option Bool :=
 (zck a0 a2).bind fun r2 =>
 some r2
def qb (rec:(jS×Int×jQ×Int×Int)→Option (Int⊕(Int×Bool))) (x:(jS×Int×jQ×Int×Int)):Option (Int⊕(Int×Bool)) :=
 cond (decide (x.2.2.2.2<x.2.2.2.1))
 ((gx x.2.2.1 x.2.2.2.2).bind fun e3 =>
  (zgd x.1 e3.1 e3.2).bind fun r4 =>
  cond (!r4)
  (some (Sum.inr (0,false)))
  (rec (x.1,(IntKind.wrap .i64 (x.2.1+((List.length e3.2:Nat):Int))),x.2.2.1,x.2.2.2.1,(IntKind.wrap .i64 (x.2.2.2.2+1)))))
 (some (Sum.inl x.2.1))
def zcI (a0:jS) (a1:jQ):Option (Int×Bool) :=
 ((lp qb zi) (a0,0,a1,((List.length a1:Nat):Int),0)).bind fun r8 =>
 yg r8
 (fun z9=>some (z9,true))
 (fun z10=>some (z10.1,z10.2))
def zgq (a0:jS) (a1:jI):Option (Int×Int) :=
 (zdy a0 a1).bind fun r2 =>
 cond (!r2.1)
 (some (0,200))
 (some (((List.length r2.2:Nat):Int),0))
def qc (rec:(jS×Int×Int×jR×Int×Int)→Option (Int⊕(Int×Bool))) (x:(jS×Int×Int×jR×Int×Int)):Option (Int⊕(Int×Bool)) :=
 cond (decide (x.2.2.2.2.2<x.2.2.2.2.1))
 ((gx x.2.2.2.1 x.2.2.2.2.2).bind fun e3 =>
  (zgq x.1 e3).bind fun r4 =>
  cond (x.2.2.2.2.2==0)
  (cond (r4.2 != 0)
   (some (Sum.inr (0,false)))
   (cond (r4.1 != r4.1)
    (some (Sum.inr (0,false)))
    (rec (x.1,(IntKind.wrap .i64 (x.2.1+((List.length e3:Nat):Int))),r4.1,x.2.2.2.1,x.2.2.2.2.1,(IntKind.wrap .i64 (x.2.2.2.2.2+1))))))
  (cond (r4.2 != 0)
   (some (Sum.inr (0,false)))
   (cond (r4.1 != x.2.2.1)
    (some (Sum.inr (0,false)))
    (rec (x.1,(IntKind.wrap .i64 (x.2.1+((List.length e3:Nat):Int))),x.2.2.1,x.2.2.2.1,x.2.2.2.2.1,(IntKind.wrap .i64 (x.2.2.2.2.2+1)))))))
 (some (Sum.inl x.2.1))
def zdO (a0:jS) (a1:jR):Option (Int×Bool) :=
 ((lp qc zi) (a0,0,0,a1,((List.length a1:Nat):Int),0)).bind fun r8 =>
 yg r8
 (fun z9=>some (z9,true))
 (fun z10=>some (z10.1,z10.2))
def zcV (a0:jS) (a1:jQ) (a2:jR) (a3:jQ):Option Bool :=
 (zgF a0).bind fun r5 =>
 cond (!r5)
 (some false)
 (cond (decide (((List.length a1:Nat):Int)>5))
  (some false)
  (cond (decide (((List.length a2:Nat):Int)>3))
   (some false)
   (cond (decide (((List.length a3:Nat):Int)>3))
    (some false)
    ((zcI a0 a1).bind fun r6 =>
     (zdO a0 a2).bind fun r7 =>
     (zcI a0 a3).bind fun r8 =>
     cond r6.2
     (cond r7.2
      (cond r8.2
       (some (decide ((IntKind.wrap .i64 ((IntKind.wrap .i64 (r6.1+r7.1))+r8.1))≤240)))
       (some false))
      (some false))
     (some false)))))
def q7 (rec:(jI×jI×Int×Int)→Option (Unit⊕Bool)) (x:(jI×jI×Int×Int)):Option (Unit⊕Bool) :=
 cond (decide (x.2.2.2<x.2.2.1))
 ((gx x.1 x.2.2.2).bind fun e3 =>
  (gx x.2.1 x.2.2.2).bind fun e4 =>
  cond (e3 != e4)
  (some (Sum.inr false))
  (rec (x.1,x.2.1,x.2.2.1,(IntKind.wrap .i64 (x.2.2.2+1)))))
 (some (Sum.inl ()))
def yk (a0:jI) (a1:jI):Option Bool :=
 cond (((List.length a0:Nat):Int) != ((List.length a1:Nat):Int))
 (some false)
 (((lp q7 zi) (a0,a1,((List.length a0:Nat):Int),0)).bind fun r8 =>
  yg r8
  (fun z9=>some true)
  (fun z10=>some z10))
def zmB (a0:Bool) (a1:jI) (a2:Bool) (a3:jI):Option Bool :=
 cond (a0==a2)
 ((yk a1 a3).bind fun r2 =>
  some r2)
 (some false)
def zdJ (a0:Bool) (a1:jI) (a2:Bool) (a3:jI):Option Bool :=
 (zmB a2 a3 a0 a1).bind fun r2 =>
 some r2
def yl (rec:(jQ×Int×Int×Bool×jI)→Option (Unit⊕Int)) (x:(jQ×Int×Int×Bool×jI)):Option (Unit⊕Int) :=
 cond (decide (x.2.2.1<x.2.1))
 ((gx x.1 x.2.2.1).bind fun e3 =>
  (zdJ e3.1 e3.2 x.2.2.2.1 x.2.2.2.2).bind fun r4 =>
  cond r4
  (some (Sum.inr x.2.2.1))
  (rec (x.1,x.2.1,(IntKind.wrap .i64 (x.2.2.1+1)),x.2.2.2.1,x.2.2.2.2)))
 (some (Sum.inl ()))
def zd4 (a0:jQ) (a1:Bool) (a2:jI):Option Int :=
 ((lp yl zi) (a0,((List.length a0:Nat):Int),0,a1,a2)).bind fun r8 =>
 yg r8
 (fun z9=>some (-1))
 (fun z10=>some z10)
def zaQ (a0:jQ) (a1:Bool) (a2:jI):Option Bool :=
 (zd4 a0 a1 a2).bind fun r2 =>
 some (decide (r2≥0))
def zat (rec:(jQ×Int×Int×jQ)→Option jQ) (x:(jQ×Int×Int×jQ)):Option jQ :=
 cond (decide (x.2.2.1<x.2.1))
 ((gx x.1 x.2.2.1).bind fun e5 =>
  (zaQ x.2.2.2 e5.1 e5.2).bind fun r6 =>
  cond (!r6)
  (cond (qi (List.length x.2.2.2+List.length ([(e5.1,e5.2)]:List zl)) 32)
   (rec (x.1,x.2.1,(IntKind.wrap .i64 (x.2.2.1+1)),(x.2.2.2++([(e5.1,e5.2)]:List zl))))
   (none))
  (rec (x.1,x.2.1,(IntKind.wrap .i64 (x.2.2.1+1)),x.2.2.2)))
 (some x.2.2.2)
def zev (a0:jQ):Option jQ :=
 ((lp zat zi) (a0,((List.length a0:Nat):Int),0,([]:jQ))).bind fun r8 =>
 some r8
def zdI (a0:jI) (a1:jI):Option Bool :=
 (yk a1 a0).bind fun r2 =>
 some r2
def zW (rec:(jR×Int×Int×jI)→Option (Unit⊕Int)) (x:(jR×Int×Int×jI)):Option (Unit⊕Int) :=
 cond (decide (x.2.2.1<x.2.1))
 ((gx x.1 x.2.2.1).bind fun e3 =>
  (zdI e3 x.2.2.2).bind fun r4 =>
  cond r4
  (some (Sum.inr x.2.2.1))
  (rec (x.1,x.2.1,(IntKind.wrap .i64 (x.2.2.1+1)),x.2.2.2)))
 (some (Sum.inl ()))
def zdo (a0:jR) (a1:jI):Option Int :=
 ((lp zW zi) (a0,((List.length a0:Nat):Int),0,a1)).bind fun r8 =>
 yg r8
 (fun z9=>some (-1))
 (fun z10=>some z10)
def zaj (a0:jR) (a1:jI):Option Bool :=
 (zdo a0 a1).bind fun r2 =>
 some (decide (r2≥0))
def yS (rec:(Int×Int×jI×Int×jI)→Option (jI×Int×jI)) (x:(Int×Int×jI×Int×jI)):Option (jI×Int×jI) :=
 cond (decide (x.2.1<x.1))
 ((inR x.2.1 (List.length x.2.2.2.2)).bind fun k33 =>
  (x.2.2.2.2[k33]?).bind fun x34 =>
  cond (decide (x34≥0))
  (rec (x.1,(IntKind.wrap .i64 (x.2.1+1)),x.2.2.1,x.2.2.2.1,x.2.2.2.2))
  ((yU x34).bind fun r35 =>
   (inR r35 24).bind fun k36 =>
   (x.2.2.1[k36]?).bind fun x37 =>
   cond (x37==0)
   ((yU x34).bind fun r38 =>
    (inR r38 24).bind fun k39 =>
    (x.2.2.1[k39]?).bind fun x40 =>
    (yU x34).bind fun r41 =>
    (inR r41 24).bind fun k42 =>
    ((List.set x.2.2.1 k39 (IntKind.wrap .i64 (x.2.2.2.1+1)))[k42]?).bind fun x43 =>
    (inR x.2.1 (List.length x.2.2.2.2)).bind fun k44 =>
    (x.2.2.2.2[k44]?).bind fun x45 =>
    rec (x.1,(IntKind.wrap .i64 (x.2.1+1)),(List.set x.2.2.1 k39 (IntKind.wrap .i64 (x.2.2.2.1+1))),(IntKind.wrap .i64 (x.2.2.2.1+1)),(List.set x.2.2.2.2 k44 (zEb .i64 x43))))
   ((yU x34).bind fun r46 =>
    (inR r46 24).bind fun k47 =>
    (x.2.2.1[k47]?).bind fun x48 =>
    (inR x.2.1 (List.length x.2.2.2.2)).bind fun k49 =>
    (x.2.2.2.2[k49]?).bind fun x50 =>
    rec (x.1,(IntKind.wrap .i64 (x.2.1+1)),x.2.2.1,x.2.2.2.1,(List.set x.2.2.2.2 k49 (zEb .i64 x48))))))
 (some (x.2.2.1,x.2.2.2.1,x.2.2.2.2))
def yO (a0:jI) (a1:jI) (a2:Int):Option (jI×jI×Int) :=
 (zcr a0).bind fun r52 =>
 ((lp yS zi) (((List.length r52:Nat):Int),0,a1,a2,r52)).bind fun r53 =>
 cond (Nat.beq (List.length a1) (List.length r53.1)&&true)
 (some (r53.2.2,r53.1,r53.2.1))
 (none)
def qI (rec:(jQ×Int×Int×jI×Int×jQ×jR×jQ)→Option (jI×Int×jQ×jR×jQ)) (x:(jQ×Int×Int×jI×Int×jQ×jR×jQ)):Option (jI×Int×jQ×jR×jQ) :=
 cond (decide (x.2.2.1<x.2.1))
 ((gx x.1 x.2.2.1).bind fun e19 =>
  (yO e19.2 x.2.2.2.1 x.2.2.2.2.1).bind fun r20 =>
  cond (qi (List.length x.2.2.2.2.2.2.2+List.length ([(e19.1,r20.1)]:List zl)) 32)
  (rec (x.1,x.2.1,(IntKind.wrap .i64 (x.2.2.1+1)),r20.2.1,r20.2.2,x.2.2.2.2.2.1,x.2.2.2.2.2.2.1,(x.2.2.2.2.2.2.2++([(e19.1,r20.1)]:List zl))))
  (none))
 (some (x.2.2.2.1,x.2.2.2.2.1,x.2.2.2.2.2.1,x.2.2.2.2.2.2.1,x.2.2.2.2.2.2.2))
def qH (rec:(jR×Int×Int×jI×Int×jQ×jR×jQ×jQ×jR)→Option (jI×Int×jQ×jR)) (x:(jR×Int×Int×jI×Int×jQ×jR×jQ×jQ×jR)):Option (jI×Int×jQ×jR) :=
 cond (decide (x.2.2.1<x.2.1))
 ((gx x.1 x.2.2.1).bind fun e12 =>
  (yO e12 x.2.2.2.1 x.2.2.2.2.1).bind fun r13 =>
  cond (qi (List.length x.2.2.2.2.2.2.2.2.2+List.length ([r13.1]:List jI)) 24)
  (rec (x.1,x.2.1,(IntKind.wrap .i64 (x.2.2.1+1)),r13.2.1,r13.2.2,x.2.2.2.2.2.1,x.2.2.2.2.2.2.1,x.2.2.2.2.2.2.2.1,x.2.2.2.2.2.2.2.2.1,(x.2.2.2.2.2.2.2.2.2++([r13.1]:List jI))))
  (none))
 (some (x.2.2.2.1,x.2.2.2.2.1,x.2.2.2.2.2.2.2.2.1,x.2.2.2.2.2.2.2.2.2))
def qN (rec:(jQ×Int×Int×jI×Int×jQ×jR×jQ×jQ)→Option (jI×Int×jQ)) (x:(jQ×Int×Int×jI×Int×jQ×jR×jQ×jQ)):Option (jI×Int×jQ) :=
 cond (decide (x.2.2.1<x.2.1))
 ((gx x.1 x.2.2.1).bind fun e5 =>
  (yO e5.2 x.2.2.2.1 x.2.2.2.2.1).bind fun r6 =>
  cond (qi (List.length x.2.2.2.2.2.2.2.2+List.length ([(e5.1,r6.1)]:List zl)) 32)
  (rec (x.1,x.2.1,(IntKind.wrap .i64 (x.2.2.1+1)),r6.2.1,r6.2.2,x.2.2.2.2.2.1,x.2.2.2.2.2.2.1,x.2.2.2.2.2.2.2.1,(x.2.2.2.2.2.2.2.2++([(e5.1,r6.1)]:List zl))))
  (none))
 (some (x.2.2.2.1,x.2.2.2.2.1,x.2.2.2.2.2.2.2.2))
def zgz (a0:jQ) (a1:jR) (a2:jQ) (a3:jI) (a4:Int):Option (jQ×jR×jQ×jI×Int) :=
 ((lp qN zi) (a0,((List.length a0:Nat):Int),0,a3,a4,a0,a1,a2,([]:jQ))).bind fun r22 =>
 ((lp qH zi) (a1,((List.length a1:Nat):Int),0,r22.1,r22.2.1,a0,a1,a2,r22.2.2,([]:jR))).bind fun r23 =>
 ((lp qI zi) (a2,((List.length a2:Nat):Int),0,r23.1,r23.2.1,r23.2.2.1,r23.2.2.2,([]:jQ))).bind fun r24 =>
 cond (Nat.beq (List.length a3) (List.length r24.1)&&true)
 (some (r24.2.2.1,r24.2.2.2.1,r24.2.2.2.2,r24.1,r24.2.1))
 (none)
def zaA (rec:(jR×Int×Int×jQ×jQ×jR)→Option (jQ×jQ×jR)) (x:(jR×Int×Int×jQ×jQ×jR)):Option (jQ×jQ×jR) :=
 cond (decide (x.2.2.1<x.2.1))
 ((gx x.1 x.2.2.1).bind fun e7 =>
  (zaj x.2.2.2.2.2 e7).bind fun r8 =>
  cond (!r8)
  (cond (qi (List.length x.2.2.2.2.2+List.length ([e7]:List jI)) 24)
   (rec (x.1,x.2.1,(IntKind.wrap .i64 (x.2.2.1+1)),x.2.2.2.1,x.2.2.2.2.1,(x.2.2.2.2.2++([e7]:List jI))))
   (none))
  (rec (x.1,x.2.1,(IntKind.wrap .i64 (x.2.2.1+1)),x.2.2.2.1,x.2.2.2.2.1,x.2.2.2.2.2)))
 (some (x.2.2.2.1,x.2.2.2.2.1,x.2.2.2.2.2))
def zgY (a0:jQ) (a1:jR) (a2:jQ):Option (jQ×jR×jQ) :=
 (zev a0).bind fun r11 =>
 (zev a2).bind fun r12 =>
 ((lp zaA zi) (a1,((List.length a1:Nat):Int),0,r11,r12,([]:jR))).bind fun r13 =>
 (zgz r13.1 r13.2.2 r13.2.1 (List.replicate 24 (0:Int)) 0).bind fun r14 =>
 some (r14.1,r14.2.1,r14.2.2.1)
def zc6 (a0:jS) (a1:jQ) (a2:jR) (a3:jQ):Option (jQ×jR×Int×jQ) :=
 (zcV a0 a1 a2 a3).bind fun r3 =>
 cond (!r3)
 (some (([]:jQ),([]:jR),800,([]:jQ)))
 ((zgY a1 a2 a3).bind fun r4 =>
  some (r4.1,r4.2.1,0,r4.2.2))
def zcH (rec:(jS×jI×Int×jR)→Option (jR⊕jR)) (x:(jS×jI×Int×jR)):Option (jR⊕jR) :=
 cond (decide (x.2.2.1<((List.length x.2.1:Nat):Int)))
 ((zfy x.1 x.2.1 x.2.2.1).bind fun r5 =>
  cond (!r5.2)
  (some (Sum.inr x.2.2.2))
  ((zcv x.2.1 (some x.2.2.1) (some r5.1)).bind fun y6 =>
   cond (qi (List.length x.2.2.2+List.length ([y6]:List jI)) 24)
   (rec (x.1,x.2.1,r5.1,(x.2.2.2++([y6]:List jI))))
   (none)))
 (some (Sum.inl x.2.2.2))
def zch (a0:jS) (a1:jI):Option jR :=
 ((lp zcH zi) (a0,a1,0,([]:jR))).bind fun r10 =>
 yg r10
 (fun z11=>some z11)
 (fun z12=>some z12)
def zgB (a0:Int):Option Int :=
 some a0
def qL (rec:(jI×jI×Int)→Option (Unit⊕Bool)) (x:(jI×jI×Int)):Option (Unit⊕Bool) :=
 cond (decide (x.2.2<((List.length x.1:Nat):Int)))
 ((gx x.1 x.2.2).bind fun e3 =>
  (gx x.2.1 x.2.2).bind fun e4 =>
  cond (e3 != e4)
  (some (Sum.inr false))
  (rec (x.1,x.2.1,(IntKind.wrap .i64 (x.2.2+1)))))
 (some (Sum.inl ()))
def zbN (a0:jI) (a1:jI):Option Bool :=
 cond (((List.length a0:Nat):Int) != ((List.length a1:Nat):Int))
 (some false)
 (((lp qL zi) (a0,a1,0)).bind fun r8 =>
  yg r8
  (fun z9=>some true)
  (fun z10=>some z10))
def qF (rec:(jQ×jQ×Int)→Option (Unit⊕Bool)) (x:(jQ×jQ×Int)):Option (Unit⊕Bool) :=
 cond (decide (x.2.2<((List.length x.1:Nat):Int)))
 ((gx x.1 x.2.2).bind fun e6 =>
  (gx x.2.1 x.2.2).bind fun e7 =>
  cond (!(e6.1==e7.1))
  (some (Sum.inr false))
  ((gx x.1 x.2.2).bind fun e8 =>
   (gx x.2.1 x.2.2).bind fun e9 =>
   (zbN e8.2 e9.2).bind fun r10 =>
   cond (!r10)
   (some (Sum.inr false))
   (rec (x.1,x.2.1,(IntKind.wrap .i64 (x.2.2+1))))))
 (some (Sum.inl ()))
def zc4 (a0:jQ) (a1:jQ):Option Bool :=
 cond (((List.length a0:Nat):Int) != ((List.length a1:Nat):Int))
 (some false)
 (((lp qF zi) (a0,a1,0)).bind fun r14 =>
  yg r14
  (fun z15=>some true)
  (fun z16=>some z16))
def qD (rec:(jR×jR×Int)→Option (Unit⊕Bool)) (x:(jR×jR×Int)):Option (Unit⊕Bool) :=
 cond (decide (x.2.2<((List.length x.1:Nat):Int)))
 ((gx x.1 x.2.2).bind fun e4 =>
  (gx x.2.1 x.2.2).bind fun e5 =>
  (zbN e4 e5).bind fun r6 =>
  cond (!r6)
  (some (Sum.inr false))
  (rec (x.1,x.2.1,(IntKind.wrap .i64 (x.2.2+1)))))
 (some (Sum.inl ()))
def zej (a0:jR) (a1:jR):Option Bool :=
 cond (((List.length a0:Nat):Int) != ((List.length a1:Nat):Int))
 (some false)
 (((lp qD zi) (a0,a1,0)).bind fun r10 =>
  yg r10
  (fun z11=>some true)
  (fun z12=>some z12))
def qo (a0:jQ) (a1:jR) (a2:jQ) (a3:jQ) (a4:jR) (a5:jQ):Option Bool :=
 (zc4 a0 a3).bind fun r4 =>
 cond r4
 ((zej a1 a4).bind fun r5 =>
  cond r5
  ((zc4 a2 a5).bind fun r6 =>
   some r6)
  (some false))
 (some false)
end Go.Abs.Q
namespace Go.Abs.Q
open Go Go.Abs
section
theorem zc {X Y:Type} (s:(X→Option Y)→X→Option Y) (k:Nat):lp s (k+1)=s (lp s k):=rfl
theorem zp {α:Type} (xs:List α) (i:Nat):gx xs (i:Int)=xs[i]? := by
 unfold gx
 rw[show decide ((0:Int)≤(i:Int))=true from by simp]
 rfl
theorem ql {α:Type} (xs:List α):gx xs 0=xs[0]? := zp xs 0
theorem zu5 {α:Type} {xs:List α} {i:Int} (h0:0≤i) (h:i<xs.length):∃ x,gx xs i=some x∧x∈xs∧xs[i.toNat]? = some x:=by
 have hi:i.toNat<xs.length:=by omega
 refine ⟨xs[i.toNat],?_,List.getElem_mem hi,List.getElem?_eq_getElem hi⟩
 unfold gx
 rw[show decide ((0:Int)≤i)=true from by simp; omega,cond_true,List.getElem?_eq_getElem hi]
theorem zac {i l:Nat} (h:i<l):inR (i:Int) l=some i:=by
 unfold inR
 simp [h]
theorem zE {n:Int} (h1 : -9223372036854775808≤n) (h2:n≤9223372036854775807):IntKind.wrap .i64 n=n:=by
 simp [IntKind.wrap,IntKind.signed,IntKind.bits]
 omega
theorem zo {i l:Nat} (h:i<l) (hl:l≤maxLen):IntKind.wrap .i64 ((i:Int)+1)=((i+1:Nat):Int):=by
 unfold maxLen at hl
 rw[zE]<;>omega
theorem zn {i l:Nat} (h:i<l):decide ((i:Int)<(l:Int))=true:=by simp [h]
theorem zk {i l:Nat} (h:l≤i):decide ((i:Int)<(l:Int))=false:=by simp; omega
theorem zg {α:Type} {xs:List α} {i:Nat} (h:xs.drop i=[]):xs.length≤i:=by simpa using h
theorem ze {α:Type} {xs es:List α} {e:α} {i:Nat} (h:xs.drop i=e::es):i<xs.length:=by
 rw[← Nat.not_le]
 intro hn
 rw[List.drop_eq_nil_iff.2 hn] at h
 cases h
theorem zb {α:Type} {xs es:List α} {e:α} {i:Nat} (h:xs.drop i=e::es):xs[i]? = some e:=by
 have:=congrArg (·[0]?) h
 simpa using this
theorem za {α:Type} {xs es:List α} {e:α} {i:Nat} (h:xs.drop i=e::es):xs.drop (i+1)=es:=by
 rw[← List.drop_drop,h]
 rfl
end
end Go.Abs.Q
namespace Go.Abs.Q
open Go Go.Abs
def z5:List UInt8→Option (Unit⊕Bool)
 | []=>some (Sum.inl ())
 | e::es =>
  (zeu ((UInt8.toNat e:Nat):Int)).bind fun r8 =>
  cond (!r8)
  (cond (decide (((UInt8.toNat e:Nat):Int)<48))
   (some (Sum.inr false))
   (cond (decide (((UInt8.toNat e:Nat):Int)>57))
    (some (Sum.inr false))
    (z5 es)))
  (z5 es)
theorem zi0 (s0:Str) (hl:List.length s0≤maxLen):∀(es:List UInt8) (i:Nat) (k:Nat),s0.drop i=es→es.length<k→lp zaw k (s0,((List.length s0:Nat):Int),(i:Int))=z5 es:=by
 intro es
 induction es with
 | nil =>
  intro i k h hk
  obtain⟨k,rfl⟩:∃ k',k=k'+1:=⟨k - 1,by omega⟩
  rw[zc]
  generalize lp zaw k=rec
  unfold zaw z5
  simp only[zk (zg h),cond_false]
 | cons e es ih =>
  intro i k h hk
  obtain⟨k,rfl⟩:∃ k',k=k'+1:=⟨k - 1,by omega⟩
  rw[zc]
  have hi:=ze h
  have hk2:es.length<k:=Nat.lt_of_succ_lt_succ hk
  have key:=fun (_:Unit)=>ih (i+1) k (za h) hk2
  generalize lp zaw k=rec at key ⊢
  unfold zaw z5
  simp only[zn hi,cond_true,zp,zb h,Option.bind_some,zo hi hl,key ()]
theorem zio (s0:Str) (hl:List.length s0≤maxLen):lp zaw zi (s0,((List.length s0:Nat):Int),0)=z5 s0 :=
 zi0 s0 hl s0 0 zi rfl (Nat.lt_of_le_of_lt hl (by decide))
def qk (s1:Str):List zq→Nat→Option (Unit⊕Int)
 | [],i=>some (Sum.inl ())
 | e::es,i =>
  cond (e.1==s1)
  (some (Sum.inr (i:Int)))
  (qk s1 es (i+1))
theorem zkl (s0:jS) (s1:Str) (hl:List.length s0≤maxLen):∀(es:List zq) (i:Nat) (k:Nat),s0.drop i=es→es.length<k→lp zbD k (s0,s1,((List.length s0:Nat):Int),(i:Int))=qk s1 es i:=by
 intro es
 induction es with
 | nil =>
  intro i k h hk
  obtain⟨k,rfl⟩:∃ k',k=k'+1:=⟨k - 1,by omega⟩
  rw[zc]
  generalize lp zbD k=rec
  unfold zbD qk
  simp only[zk (zg h),cond_false]
 | cons e es ih =>
  intro i k h hk
  obtain⟨k,rfl⟩:∃ k',k=k'+1:=⟨k - 1,by omega⟩
  rw[zc]
  have hi:=ze h
  have hk2:es.length<k:=Nat.lt_of_succ_lt_succ hk
  have key:=fun (_:Unit)=>ih (i+1) k (za h) hk2
  generalize lp zbD k=rec at key ⊢
  unfold zbD qk
  simp only[zn hi,cond_true,zp,zb h,Option.bind_some,zo hi hl,key ()]
theorem zjl (s0:jS) (s1:Str) (hl:List.length s0≤maxLen):lp zbD zi (s0,s1,((List.length s0:Nat):Int),0)=qk s1 s0 0 :=
 zkl s0 s1 hl s0 0 zi rfl (Nat.lt_of_le_of_lt hl (by decide))
def zb1 (s0:jS):List zq→Nat→Option (Unit⊕Bool)
 | [],i=>some (Sum.inl ())
 | e::es,i =>
  (zeB e.1 e.2.1 e.2.2.1 e.2.2.2).bind fun r7 =>
  cond (!r7)
  (some (Sum.inr false))
  ((zf2 s0 e.1).bind fun r9 =>
   cond (r9 != (i:Int))
   (some (Sum.inr false))
   (zb1 s0 es (i+1)))
theorem zlJ (s0:jS) (hl:List.length s0≤maxLen):∀(es:List zq) (i:Nat) (k:Nat),s0.drop i=es→es.length<k→lp zcP k (s0,(i:Int))=zb1 s0 es i:=by
 intro es
 induction es with
 | nil =>
  intro i k h hk
  obtain⟨k,rfl⟩:∃ k',k=k'+1:=⟨k - 1,by omega⟩
  rw[zc]
  generalize lp zcP k=rec
  unfold zcP zb1
  simp only[zk (zg h),cond_false]
 | cons e es ih =>
  intro i k h hk
  obtain⟨k,rfl⟩:∃ k',k=k'+1:=⟨k - 1,by omega⟩
  rw[zc]
  have hi:=ze h
  have hk2:es.length<k:=Nat.lt_of_succ_lt_succ hk
  have key:=fun (_:Unit)=>ih (i+1) k (za h) hk2
  generalize lp zcP k=rec at key ⊢
  unfold zcP zb1
  simp only[zn hi,cond_true,zp,zb h,Option.bind_some,zo hi hl,key ()]
def yH (s1:Int):List Int→Nat→Option (Unit⊕Int)
 | [],i=>some (Sum.inl ())
 | e::es,i =>
  cond (s1==e)
  (some (Sum.inr (i:Int)))
  (yH s1 es (i+1))
theorem zil (s0:jI) (s1:Int) (hl:List.length s0≤maxLen):∀(es:List Int) (i:Nat) (k:Nat),s0.drop i=es→es.length<k→lp zaa k (s0,s1,((List.length s0:Nat):Int),(i:Int))=yH s1 es i:=by
 intro es
 induction es with
 | nil =>
  intro i k h hk
  obtain⟨k,rfl⟩:∃ k',k=k'+1:=⟨k - 1,by omega⟩
  rw[zc]
  generalize lp zaa k=rec
  unfold zaa yH
  simp only[zk (zg h),cond_false]
 | cons e es ih =>
  intro i k h hk
  obtain⟨k,rfl⟩:∃ k',k=k'+1:=⟨k - 1,by omega⟩
  rw[zc]
  have hi:=ze h
  have hk2:es.length<k:=Nat.lt_of_succ_lt_succ hk
  have key:=fun (_:Unit)=>ih (i+1) k (za h) hk2
  generalize lp zaa k=rec at key ⊢
  unfold zaa yH
  simp only[zn hi,cond_true,zp,zb h,Option.bind_some,zo hi hl,key ()]
theorem zhs (s0:jI) (s1:Int) (hl:List.length s0≤maxLen):lp zaa zi (s0,s1,((List.length s0:Nat):Int),0)=yH s1 s0 0 :=
 zil s0 s1 hl s0 0 zi rfl (Nat.lt_of_le_of_lt hl (by decide))
def z6 (s0:jS):List zl→Int→Option (Int⊕(Int×Bool))
 | [],s1=>some (Sum.inl s1)
 | e::es,s1 =>
  (zgd s0 e.1 e.2).bind fun r4 =>
  cond (!r4)
  (some (Sum.inr (0,false)))
  (z6 s0 es (IntKind.wrap .i64 (s1+((List.length e.2:Nat):Int))))
theorem zgu (s0:jS) (s2:jQ) (hl:List.length s2≤maxLen):∀(es:List zl) (i:Nat) (k:Nat) (s1:Int),s2.drop i=es→es.length<k→lp qb k (s0,s1,s2,((List.length s2:Nat):Int),(i:Int))=z6 s0 es s1:=by
 intro es
 induction es with
 | nil =>
  intro i k s1 h hk
  obtain⟨k,rfl⟩:∃ k',k=k'+1:=⟨k - 1,by omega⟩
  rw[zc]
  generalize lp qb k=rec
  unfold qb z6
  simp only[zk (zg h),cond_false]
 | cons e es ih =>
  intro i k s1 h hk
  obtain⟨k,rfl⟩:∃ k',k=k'+1:=⟨k - 1,by omega⟩
  rw[zc]
  have hi:=ze h
  have hk2:es.length<k:=Nat.lt_of_succ_lt_succ hk
  have key:=fun s1=>ih (i+1) k s1 (za h) hk2
  generalize lp qb k=rec at key ⊢
  unfold qb z6
  simp only[zn hi,cond_true,zp,zb h,Option.bind_some,zo hi hl,key]
theorem zfW (s0:jS) (s2:jQ) (s1:Int) (hl:List.length s2≤maxLen):lp qb zi (s0,s1,s2,((List.length s2:Nat):Int),0)=z6 s0 s2 s1 :=
 zgu s0 s2 hl s2 0 zi s1 rfl (Nat.lt_of_le_of_lt hl (by decide))
def zH (s0:jS):List jI→Nat→Int→Int→Option (Int⊕(Int×Bool))
 | [],i,s1,s2=>some (Sum.inl s1)
 | e::es,i,s1,s2 =>
  (zgq s0 e).bind fun r4 =>
  cond ((i:Int)==0)
  (cond (r4.2 != 0)
   (some (Sum.inr (0,false)))
   (cond (r4.1 != r4.1)
    (some (Sum.inr (0,false)))
    (zH s0 es (i+1) (IntKind.wrap .i64 (s1+((List.length e:Nat):Int))) r4.1)))
  (cond (r4.2 != 0)
   (some (Sum.inr (0,false)))
   (cond (r4.1 != s2)
    (some (Sum.inr (0,false)))
    (zH s0 es (i+1) (IntKind.wrap .i64 (s1+((List.length e:Nat):Int))) s2)))
theorem zgO (s0:jS) (s3:jR) (hl:List.length s3≤maxLen):∀(es:List jI) (i:Nat) (k:Nat) (s1:Int) (s2:Int),s3.drop i=es→es.length<k→lp qc k (s0,s1,s2,s3,((List.length s3:Nat):Int),(i:Int))=zH s0 es i s1 s2:=by
 intro es
 induction es with
 | nil =>
  intro i k s1 s2 h hk
  obtain⟨k,rfl⟩:∃ k',k=k'+1:=⟨k - 1,by omega⟩
  rw[zc]
  generalize lp qc k=rec
  unfold qc zH
  simp only[zk (zg h),cond_false]
 | cons e es ih =>
  intro i k s1 s2 h hk
  obtain⟨k,rfl⟩:∃ k',k=k'+1:=⟨k - 1,by omega⟩
  rw[zc]
  have hi:=ze h
  have hk2:es.length<k:=Nat.lt_of_succ_lt_succ hk
  have key:=fun s1 s2=>ih (i+1) k s1 s2 (za h) hk2
  generalize lp qc k=rec at key ⊢
  unfold qc zH
  simp only[zn hi,cond_true,zp,zb h,Option.bind_some,zo hi hl,key]
theorem zfL (s0:jS) (s3:jR) (s1:Int) (s2:Int) (hl:List.length s3≤maxLen):lp qc zi (s0,s1,s2,s3,((List.length s3:Nat):Int),0)=zH s0 s3 0 s1 s2 :=
 zgO s0 s3 hl s3 0 zi s1 s2 rfl (Nat.lt_of_le_of_lt hl (by decide))
def qm (s1:jI):List Int→Nat→Option (Unit⊕Bool)
 | [],i=>some (Sum.inl ())
 | e::es,i =>
  (gx s1 (i:Int)).bind fun e4 =>
  cond (e != e4)
  (some (Sum.inr false))
  (qm s1 es (i+1))
theorem ziw (s0:jI) (s1:jI) (hl:List.length s0≤maxLen):∀(es:List Int) (i:Nat) (k:Nat),s0.drop i=es→es.length<k→lp q7 k (s0,s1,((List.length s0:Nat):Int),(i:Int))=qm s1 es i:=by
 intro es
 induction es with
 | nil =>
  intro i k h hk
  obtain⟨k,rfl⟩:∃ k',k=k'+1:=⟨k - 1,by omega⟩
  rw[zc]
  generalize lp q7 k=rec
  unfold q7 qm
  simp only[zk (zg h),cond_false]
 | cons e es ih =>
  intro i k h hk
  obtain⟨k,rfl⟩:∃ k',k=k'+1:=⟨k - 1,by omega⟩
  rw[zc]
  have hi:=ze h
  have hk2:es.length<k:=Nat.lt_of_succ_lt_succ hk
  have key:=fun (_:Unit)=>ih (i+1) k (za h) hk2
  generalize lp q7 k=rec at key ⊢
  unfold q7 qm
  simp only[zn hi,cond_true,zp,zb h,Option.bind_some,zo hi hl,key ()]
theorem zhv (s0:jI) (s1:jI) (hl:List.length s0≤maxLen):lp q7 zi (s0,s1,((List.length s0:Nat):Int),0)=qm s1 s0 0 :=
 ziw s0 s1 hl s0 0 zi rfl (Nat.lt_of_le_of_lt hl (by decide))
def yd (s3:Bool) (s4:jI):List zl→Nat→Option (Unit⊕Int)
 | [],i=>some (Sum.inl ())
 | e::es,i =>
  (zdJ e.1 e.2 s3 s4).bind fun r4 =>
  cond r4
  (some (Sum.inr (i:Int)))
  (yd s3 s4 es (i+1))
theorem zfp (s0:jQ) (s3:Bool) (s4:jI) (hl:List.length s0≤maxLen):∀(es:List zl) (i:Nat) (k:Nat),s0.drop i=es→es.length<k→lp yl k (s0,((List.length s0:Nat):Int),(i:Int),s3,s4)=yd s3 s4 es i:=by
 intro es
 induction es with
 | nil =>
  intro i k h hk
  obtain⟨k,rfl⟩:∃ k',k=k'+1:=⟨k - 1,by omega⟩
  rw[zc]
  generalize lp yl k=rec
  unfold yl yd
  simp only[zk (zg h),cond_false]
 | cons e es ih =>
  intro i k h hk
  obtain⟨k,rfl⟩:∃ k',k=k'+1:=⟨k - 1,by omega⟩
  rw[zc]
  have hi:=ze h
  have hk2:es.length<k:=Nat.lt_of_succ_lt_succ hk
  have key:=fun (_:Unit)=>ih (i+1) k (za h) hk2
  generalize lp yl k=rec at key ⊢
  unfold yl yd
  simp only[zn hi,cond_true,zp,zb h,Option.bind_some,zo hi hl,key ()]
theorem zeV (s0:jQ) (s3:Bool) (s4:jI) (hl:List.length s0≤maxLen):lp yl zi (s0,((List.length s0:Nat):Int),0,s3,s4)=yd s3 s4 s0 0 :=
 zfp s0 s3 s4 hl s0 0 zi rfl (Nat.lt_of_le_of_lt hl (by decide))
def qf:List zl→jQ→Option jQ
 | [],s3=>some s3
 | e::es,s3 =>
  (zaQ s3 e.1 e.2).bind fun r6 =>
  cond (!r6)
  (cond (qi (List.length s3+List.length ([(e.1,e.2)]:List zl)) 32)
   (qf es (s3++([(e.1,e.2)]:List zl)))
   (none))
  (qf es s3)
theorem zi9 (s0:jQ) (hl:List.length s0≤maxLen):∀(es:List zl) (i:Nat) (k:Nat) (s3:jQ),s0.drop i=es→es.length<k→lp zat k (s0,((List.length s0:Nat):Int),(i:Int),s3)=qf es s3:=by
 intro es
 induction es with
 | nil =>
  intro i k s3 h hk
  obtain⟨k,rfl⟩:∃ k',k=k'+1:=⟨k - 1,by omega⟩
  rw[zc]
  generalize lp zat k=rec
  unfold zat qf
  simp only[zk (zg h),cond_false]
 | cons e es ih =>
  intro i k s3 h hk
  obtain⟨k,rfl⟩:∃ k',k=k'+1:=⟨k - 1,by omega⟩
  rw[zc]
  have hi:=ze h
  have hk2:es.length<k:=Nat.lt_of_succ_lt_succ hk
  have key:=fun s3=>ih (i+1) k s3 (za h) hk2
  generalize lp zat k=rec at key ⊢
  unfold zat qf
  simp only[zn hi,cond_true,zp,zb h,Option.bind_some,zo hi hl,key]
theorem zhS (s0:jQ) (s3:jQ) (hl:List.length s0≤maxLen):lp zat zi (s0,((List.length s0:Nat):Int),0,s3)=qf s0 s3 :=
 zi9 s0 hl s0 0 zi s3 rfl (Nat.lt_of_le_of_lt hl (by decide))
def zO (s3:jI):List jI→Nat→Option (Unit⊕Int)
 | [],i=>some (Sum.inl ())
 | e::es,i =>
  (zdI e s3).bind fun r4 =>
  cond r4
  (some (Sum.inr (i:Int)))
  (zO s3 es (i+1))
theorem zeO (s0:jR) (s3:jI) (hl:List.length s0≤maxLen):∀(es:List jI) (i:Nat) (k:Nat),s0.drop i=es→es.length<k→lp zW k (s0,((List.length s0:Nat):Int),(i:Int),s3)=zO s3 es i:=by
 intro es
 induction es with
 | nil =>
  intro i k h hk
  obtain⟨k,rfl⟩:∃ k',k=k'+1:=⟨k - 1,by omega⟩
  rw[zc]
  generalize lp zW k=rec
  unfold zW zO
  simp only[zk (zg h),cond_false]
 | cons e es ih =>
  intro i k h hk
  obtain⟨k,rfl⟩:∃ k',k=k'+1:=⟨k - 1,by omega⟩
  rw[zc]
  have hi:=ze h
  have hk2:es.length<k:=Nat.lt_of_succ_lt_succ hk
  have key:=fun (_:Unit)=>ih (i+1) k (za h) hk2
  generalize lp zW k=rec at key ⊢
  unfold zW zO
  simp only[zn hi,cond_true,zp,zb h,Option.bind_some,zo hi hl,key ()]
theorem zee (s0:jR) (s3:jI) (hl:List.length s0≤maxLen):lp zW zi (s0,((List.length s0:Nat):Int),0,s3)=zO s3 s0 0 :=
 zeO s0 s3 hl s0 0 zi rfl (Nat.lt_of_le_of_lt hl (by decide))
def yo (s5:jQ) (s6:jR):List zl→jI→Int→jQ→Option (jI×Int×jQ×jR×jQ)
 | [],s3,s4,s7=>some (s3,s4,s5,s6,s7)
 | e::es,s3,s4,s7 =>
  (yO e.2 s3 s4).bind fun r20 =>
  cond (qi (List.length s7+List.length ([(e.1,r20.1)]:List zl)) 32)
  (yo s5 s6 es r20.2.1 r20.2.2 (s7++([(e.1,r20.1)]:List zl)))
  (none)
theorem zhe (s0:jQ) (s5:jQ) (s6:jR) (hl:List.length s0≤maxLen):∀(es:List zl) (i:Nat) (k:Nat) (s3:jI) (s4:Int) (s7:jQ),s0.drop i=es→es.length<k→lp qI k (s0,((List.length s0:Nat):Int),(i:Int),s3,s4,s5,s6,s7)=yo s5 s6 es s3 s4 s7:=by
 intro es
 induction es with
 | nil =>
  intro i k s3 s4 s7 h hk
  obtain⟨k,rfl⟩:∃ k',k=k'+1:=⟨k - 1,by omega⟩
  rw[zc]
  generalize lp qI k=rec
  unfold qI yo
  simp only[zk (zg h),cond_false]
 | cons e es ih =>
  intro i k s3 s4 s7 h hk
  obtain⟨k,rfl⟩:∃ k',k=k'+1:=⟨k - 1,by omega⟩
  rw[zc]
  have hi:=ze h
  have hk2:es.length<k:=Nat.lt_of_succ_lt_succ hk
  have key:=fun s3 s4 s7=>ih (i+1) k s3 s4 s7 (za h) hk2
  generalize lp qI k=rec at key ⊢
  unfold qI yo
  simp only[zn hi,cond_true,zp,zb h,Option.bind_some,zo hi hl,key]
theorem zgC (s0:jQ) (s5:jQ) (s6:jR) (s3:jI) (s4:Int) (s7:jQ) (hl:List.length s0≤maxLen):lp qI zi (s0,((List.length s0:Nat):Int),0,s3,s4,s5,s6,s7)=yo s5 s6 s0 s3 s4 s7 :=
 zhe s0 s5 s6 hl s0 0 zi s3 s4 s7 rfl (Nat.lt_of_le_of_lt hl (by decide))
def yj (s8:jQ):List jI→jI→Int→jR→Option (jI×Int×jQ×jR)
 | [],s3,s4,s9=>some (s3,s4,s8,s9)
 | e::es,s3,s4,s9 =>
  (yO e s3 s4).bind fun r13 =>
  cond (qi (List.length s9+List.length ([r13.1]:List jI)) 24)
  (yj s8 es r13.2.1 r13.2.2 (s9++([r13.1]:List jI)))
  (none)
theorem zhk (s0:jR) (s5:jQ) (s6:jR) (s7:jQ) (s8:jQ) (hl:List.length s0≤maxLen):∀(es:List jI) (i:Nat) (k:Nat) (s3:jI) (s4:Int) (s9:jR),s0.drop i=es→es.length<k→lp qH k (s0,((List.length s0:Nat):Int),(i:Int),s3,s4,s5,s6,s7,s8,s9)=yj s8 es s3 s4 s9:=by
 intro es
 induction es with
 | nil =>
  intro i k s3 s4 s9 h hk
  obtain⟨k,rfl⟩:∃ k',k=k'+1:=⟨k - 1,by omega⟩
  rw[zc]
  generalize lp qH k=rec
  unfold qH yj
  simp only[zk (zg h),cond_false]
 | cons e es ih =>
  intro i k s3 s4 s9 h hk
  obtain⟨k,rfl⟩:∃ k',k=k'+1:=⟨k - 1,by omega⟩
  rw[zc]
  have hi:=ze h
  have hk2:es.length<k:=Nat.lt_of_succ_lt_succ hk
  have key:=fun s3 s4 s9=>ih (i+1) k s3 s4 s9 (za h) hk2
  generalize lp qH k=rec at key ⊢
  unfold qH yj
  simp only[zn hi,cond_true,zp,zb h,Option.bind_some,zo hi hl,key]
theorem zgL (s0:jR) (s5:jQ) (s6:jR) (s7:jQ) (s8:jQ) (s3:jI) (s4:Int) (s9:jR) (hl:List.length s0≤maxLen):lp qH zi (s0,((List.length s0:Nat):Int),0,s3,s4,s5,s6,s7,s8,s9)=yj s8 s0 s3 s4 s9 :=
 zhk s0 s5 s6 s7 s8 hl s0 0 zi s3 s4 s9 rfl (Nat.lt_of_le_of_lt hl (by decide))
def yn:List zl→jI→Int→jQ→Option (jI×Int×jQ)
 | [],s3,s4,s8=>some (s3,s4,s8)
 | e::es,s3,s4,s8 =>
  (yO e.2 s3 s4).bind fun r6 =>
  cond (qi (List.length s8+List.length ([(e.1,r6.1)]:List zl)) 32)
  (yn es r6.2.1 r6.2.2 (s8++([(e.1,r6.1)]:List zl)))
  (none)
theorem zhw (s0:jQ) (s5:jQ) (s6:jR) (s7:jQ) (hl:List.length s0≤maxLen):∀(es:List zl) (i:Nat) (k:Nat) (s3:jI) (s4:Int) (s8:jQ),s0.drop i=es→es.length<k→lp qN k (s0,((List.length s0:Nat):Int),(i:Int),s3,s4,s5,s6,s7,s8)=yn es s3 s4 s8:=by
 intro es
 induction es with
 | nil =>
  intro i k s3 s4 s8 h hk
  obtain⟨k,rfl⟩:∃ k',k=k'+1:=⟨k - 1,by omega⟩
  rw[zc]
  generalize lp qN k=rec
  unfold qN yn
  simp only[zk (zg h),cond_false]
 | cons e es ih =>
  intro i k s3 s4 s8 h hk
  obtain⟨k,rfl⟩:∃ k',k=k'+1:=⟨k - 1,by omega⟩
  rw[zc]
  have hi:=ze h
  have hk2:es.length<k:=Nat.lt_of_succ_lt_succ hk
  have key:=fun s3 s4 s8=>ih (i+1) k s3 s4 s8 (za h) hk2
  generalize lp qN k=rec at key ⊢
  unfold qN yn
  simp only[zn hi,cond_true,zp,zb h,Option.bind_some,zo hi hl,key]
theorem zg0 (s0:jQ) (s5:jQ) (s6:jR) (s7:jQ) (s3:jI) (s4:Int) (s8:jQ) (hl:List.length s0≤maxLen):lp qN zi (s0,((List.length s0:Nat):Int),0,s3,s4,s5,s6,s7,s8)=yn s0 s3 s4 s8 :=
 zhw s0 s5 s6 s7 hl s0 0 zi s3 s4 s8 rfl (Nat.lt_of_le_of_lt hl (by decide))
def y9 (s3:jQ) (s4:jQ):List jI→jR→Option (jQ×jQ×jR)
 | [],s5=>some (s3,s4,s5)
 | e::es,s5 =>
  (zaj s5 e).bind fun r8 =>
  cond (!r8)
  (cond (qi (List.length s5+List.length ([e]:List jI)) 24)
   (y9 s3 s4 es (s5++([e]:List jI)))
   (none))
  (y9 s3 s4 es s5)
theorem zi6 (s0:jR) (s3:jQ) (s4:jQ) (hl:List.length s0≤maxLen):∀(es:List jI) (i:Nat) (k:Nat) (s5:jR),s0.drop i=es→es.length<k→lp zaA k (s0,((List.length s0:Nat):Int),(i:Int),s3,s4,s5)=y9 s3 s4 es s5:=by
 intro es
 induction es with
 | nil =>
  intro i k s5 h hk
  obtain⟨k,rfl⟩:∃ k',k=k'+1:=⟨k - 1,by omega⟩
  rw[zc]
  generalize lp zaA k=rec
  unfold zaA y9
  simp only[zk (zg h),cond_false]
 | cons e es ih =>
  intro i k s5 h hk
  obtain⟨k,rfl⟩:∃ k',k=k'+1:=⟨k - 1,by omega⟩
  rw[zc]
  have hi:=ze h
  have hk2:es.length<k:=Nat.lt_of_succ_lt_succ hk
  have key:=fun s5=>ih (i+1) k s5 (za h) hk2
  generalize lp zaA k=rec at key ⊢
  unfold zaA y9
  simp only[zn hi,cond_true,zp,zb h,Option.bind_some,zo hi hl,key]
theorem zhY (s0:jR) (s3:jQ) (s4:jQ) (s5:jR) (hl:List.length s0≤maxLen):lp zaA zi (s0,((List.length s0:Nat):Int),0,s3,s4,s5)=y9 s3 s4 s0 s5 :=
 zi6 s0 s3 s4 hl s0 0 zi s5 rfl (Nat.lt_of_le_of_lt hl (by decide))
def yV (s1:jI):List Int→Nat→Option (Unit⊕Bool)
 | [],i=>some (Sum.inl ())
 | e::es,i =>
  (gx s1 (i:Int)).bind fun e4 =>
  cond (e != e4)
  (some (Sum.inr false))
  (yV s1 es (i+1))
theorem zht (s0:jI) (s1:jI) (hl:List.length s0≤maxLen):∀(es:List Int) (i:Nat) (k:Nat),s0.drop i=es→es.length<k→lp qL k (s0,s1,(i:Int))=yV s1 es i:=by
 intro es
 induction es with
 | nil =>
  intro i k h hk
  obtain⟨k,rfl⟩:∃ k',k=k'+1:=⟨k - 1,by omega⟩
  rw[zc]
  generalize lp qL k=rec
  unfold qL yV
  simp only[zk (zg h),cond_false]
 | cons e es ih =>
  intro i k h hk
  obtain⟨k,rfl⟩:∃ k',k=k'+1:=⟨k - 1,by omega⟩
  rw[zc]
  have hi:=ze h
  have hk2:es.length<k:=Nat.lt_of_succ_lt_succ hk
  have key:=fun (_:Unit)=>ih (i+1) k (za h) hk2
  generalize lp qL k=rec at key ⊢
  unfold qL yV
  simp only[zn hi,cond_true,zp,zb h,Option.bind_some,zo hi hl,key ()]
theorem zgr (s0:jI) (s1:jI) (hl:List.length s0≤maxLen):lp qL zi (s0,s1,0)=yV s1 s0 0 :=
 zht s0 s1 hl s0 0 zi rfl (Nat.lt_of_le_of_lt hl (by decide))
def yX (s1:jQ):List zl→Nat→Option (Unit⊕Bool)
 | [],i=>some (Sum.inl ())
 | e::es,i =>
  (gx s1 (i:Int)).bind fun e7 =>
  cond (!(e.1==e7.1))
  (some (Sum.inr false))
  ((gx s1 (i:Int)).bind fun e9 =>
   (zbN e.2 e9.2).bind fun r10 =>
   cond (!r10)
   (some (Sum.inr false))
   (yX s1 es (i+1)))
theorem zhf (s0:jQ) (s1:jQ) (hl:List.length s0≤maxLen):∀(es:List zl) (i:Nat) (k:Nat),s0.drop i=es→es.length<k→lp qF k (s0,s1,(i:Int))=yX s1 es i:=by
 intro es
 induction es with
 | nil =>
  intro i k h hk
  obtain⟨k,rfl⟩:∃ k',k=k'+1:=⟨k - 1,by omega⟩
  rw[zc]
  generalize lp qF k=rec
  unfold qF yX
  simp only[zk (zg h),cond_false]
 | cons e es ih =>
  intro i k h hk
  obtain⟨k,rfl⟩:∃ k',k=k'+1:=⟨k - 1,by omega⟩
  rw[zc]
  have hi:=ze h
  have hk2:es.length<k:=Nat.lt_of_succ_lt_succ hk
  have key:=fun (_:Unit)=>ih (i+1) k (za h) hk2
  generalize lp qF k=rec at key ⊢
  unfold qF yX
  simp only[zn hi,cond_true,zp,zb h,Option.bind_some,zo hi hl,key ()]
theorem zgc (s0:jQ) (s1:jQ) (hl:List.length s0≤maxLen):lp qF zi (s0,s1,0)=yX s1 s0 0 :=
 zhf s0 s1 hl s0 0 zi rfl (Nat.lt_of_le_of_lt hl (by decide))
def yW (s1:jR):List jI→Nat→Option (Unit⊕Bool)
 | [],i=>some (Sum.inl ())
 | e::es,i =>
  (gx s1 (i:Int)).bind fun e5 =>
  (zbN e e5).bind fun r6 =>
  cond (!r6)
  (some (Sum.inr false))
  (yW s1 es (i+1))
theorem zhu (s0:jR) (s1:jR) (hl:List.length s0≤maxLen):∀(es:List jI) (i:Nat) (k:Nat),s0.drop i=es→es.length<k→lp qD k (s0,s1,(i:Int))=yW s1 es i:=by
 intro es
 induction es with
 | nil =>
  intro i k h hk
  obtain⟨k,rfl⟩:∃ k',k=k'+1:=⟨k - 1,by omega⟩
  rw[zc]
  generalize lp qD k=rec
  unfold qD yW
  simp only[zk (zg h),cond_false]
 | cons e es ih =>
  intro i k h hk
  obtain⟨k,rfl⟩:∃ k',k=k'+1:=⟨k - 1,by omega⟩
  rw[zc]
  have hi:=ze h
  have hk2:es.length<k:=Nat.lt_of_succ_lt_succ hk
  have key:=fun (_:Unit)=>ih (i+1) k (za h) hk2
  generalize lp qD k=rec at key ⊢
  unfold qD yW
  simp only[zn hi,cond_true,zp,zb h,Option.bind_some,zo hi hl,key ()]
theorem zgD (s0:jR) (s1:jR) (hl:List.length s0≤maxLen):lp qD zi (s0,s1,0)=yW s1 s0 0 :=
 zhu s0 s1 hl s0 0 zi rfl (Nat.lt_of_le_of_lt hl (by decide))
end Go.Abs.Q
namespace Go.Abs.Q
open Go Go.Abs
section
def zkx (n:Int):Bool:=decide (97≤n)&&decide (n≤122)
theorem zeb (n:Int):zeu n=some (zkx n):=by
 unfold zeu zkx
 by_cases h:n≥97<;>simp [h]
def zuW (e:UInt8):Bool:=zkx ((UInt8.toNat e:Nat):Int)||(decide (48≤((UInt8.toNat e:Nat):Int))&&decide (((UInt8.toNat e:Nat):Int)≤57))
theorem zqa (es:List UInt8):z5 es=some (cond (es.all zuW) (.inl ()) (.inr false)):=by
 induction es with
 | nil=>rfl
 | cons e es ih =>
  unfold z5
  rw[zeb,Option.bind_some,ih,List.all_cons]
  unfold zuW
  cases h:zkx ((UInt8.toNat e:Nat):Int) with
  | true=>simp
  | false =>
   by_cases h1:((UInt8.toNat e:Nat):Int)<48
   ·have:¬(48≤((UInt8.toNat e:Nat):Int)):=by omega
    simp only[Bool.not_false,cond_true,decide_eq_true h1,decide_eq_false this,Bool.false_and,Bool.or_false,cond_false]
   ·have h3:48≤((UInt8.toNat e:Nat):Int):=by omega
    by_cases h2:((UInt8.toNat e:Nat):Int)>57
    ·have:¬(((UInt8.toNat e:Nat):Int)≤57):=by omega
     simp only[Bool.not_false,cond_true,decide_eq_false h1,decide_eq_true h2,decide_eq_false this,Bool.and_false,Bool.false_and,Bool.or_false,cond_false]
    ·have h4:((UInt8.toNat e:Nat):Int)≤57:=by omega
     simp only[Bool.not_false,cond_true,decide_eq_false h1,decide_eq_false h2,decide_eq_true h3,decide_eq_true h4,Bool.and_true,Bool.true_and,Bool.or_true,cond_false]
def zhU (s:Str):Bool:=match s with
 | []=>false
 | c::_=>decide (s.length≤8)&&zkx ((UInt8.toNat c:Nat):Int)&&s.all zuW
theorem zn1 (s:Str):zgM s=some (zhU s):=by
 unfold zgM zhU
 cases s with
 | nil=>rfl
 | cons c r =>
  rw[show ((c::r:Str)==([]:Str))=false from rfl,cond_false]
  by_cases h:(c::r).length≤8
  ·have h1:¬(((List.length (c::r):Nat):Int)>8):=by omega
   rw[decide_eq_false h1,cond_false,ql,List.getElem?_cons_zero,Option.bind_some,zeb,Option.bind_some,zio _ (by unfold maxLen; omega),zqa,decide_eq_true h]
   dsimp only
   cases zkx ((UInt8.toNat c:Nat):Int) with
   | false=>rfl
   | true=>cases (c::r).all zuW<;>rfl
  ·have h1:((List.length (c::r):Nat):Int)>8:=by omega
   rw[decide_eq_true h1,decide_eq_false h]
   rfl
def zw0 (e:zq):Bool:=zhU e.1&&decide (0≤e.2.1)&&decide (e.2.1≤2)&&decide (0≤e.2.2.1)&&decide (e.2.2.1≤3)&&decide (1≤e.2.2.2)&&decide (e.2.2.2≤20)
theorem zn4 (e:zq):zeB e.1 e.2.1 e.2.2.1 e.2.2.2=some (zw0 e):=by
 unfold zeB zw0
 rw[zn1,Option.bind_some]
 cases zhU e.1<;>simp only[cond_true,cond_false,Bool.true_and,Bool.false_and,ge_iff_le]
 cases decide (0≤e.2.1)<;>simp only[cond_true,cond_false,Bool.true_and,Bool.false_and]
 cases decide (e.2.1≤2)<;>simp only[cond_true,cond_false,Bool.true_and,Bool.false_and]
 cases decide (0≤e.2.2.1)<;>simp only[cond_true,cond_false,Bool.true_and,Bool.false_and]
 cases decide (e.2.2.1≤3)<;>simp only[cond_true,cond_false,Bool.true_and,Bool.false_and]
 cases decide (1≤e.2.2.2)<;>simp only[cond_true,cond_false,Bool.true_and,Bool.false_and]
def zAj (o:Option Nat):Int:=match o with
 | some i=>(i:Int)
 | none => -1
theorem zz3 (nm:Str) (es:List zq) (i:Nat):qk nm es i=some (match es.findIdx? (fun e=>e.1==nm) with
  | some j=>.inr ((i+j:Nat):Int)
  | none=>.inl ()):=by
 induction es generalizing i with
 | nil=>rfl
 | cons e es ih =>
  unfold qk
  rw[List.findIdx?_cons]
  cases h:(e.1==nm) with
  | true=>simp
  | false =>
   rw[cond_false,ih]
   cases es.findIdx? (fun e=>e.1==nm) with
   | none=>rfl
   | some j=>simp; omega
theorem zqm (a0:List zq) (nm:Str) (h:a0.length≤maxLen):zf2 a0 nm=some (zAj (a0.findIdx? (fun e=>e.1==nm))):=by
 unfold zf2
 rw[zjl _ _ h,zz3]
 cases a0.findIdx? (fun e=>e.1==nm) with
 | none=>rfl
 | some j=>simp [yg,zAj]
def zlF (a0:List zq):List zq→Nat→Bool
 | [],_=>true
 | e::es,i=>zw0 e&&(zAj (a0.findIdx? (fun d=>d.1==e.1))==(i:Int))&&zlF a0 es (i+1)
theorem zHr (a0:List zq) (h:a0.length≤maxLen) (es:List zq) (i:Nat):zb1 a0 es i=some (cond (zlF a0 es i) (.inl ()) (.inr false)):=by
 induction es generalizing i with
 | nil=>rfl
 | cons e es ih =>
  unfold zb1 zlF
  rw[zn4,Option.bind_some,zqm _ _ h,Option.bind_some,ih,bne]
  cases zw0 e with
  | false=>rfl
  | true =>
   cases (zAj (a0.findIdx? (fun d=>d.1==e.1))==(i:Int)) with
   | false=>rfl
   | true=>simp
def zrX:zq:=([61],0,2,1)
def eqQ (e:zq):Bool:=cond (eqS e.1 [61]) (cond (eqI e.2.1 0) (cond (eqI e.2.2.1 2) (cond (eqI e.2.2.2 1) true false) false) false) false
theorem zE3 (e:zq):eqQ e=true↔e=zrX:=by
 obtain⟨a,b,c,d⟩:=e
 unfold eqQ zrX eqS eqI
 cases h1:(a==([61]:List UInt8))<;>cases h2:(b==0)<;>cases h3:(c==2)<;>cases h4:(d==1)<;>simp_all
def zds (a0:List zq):Bool:=match a0 with
 | []=>false
 | e::es=>decide (a0.length≤20)&&eqQ e&&zlF a0 es 1
theorem zjS (a0:List zq):zgF a0=some (zds a0):=by
 unfold zgF zds
 cases a0 with
 | nil=>rfl
 | cons e es =>
  rw[decide_eq_false (show ¬(((List.length (e::es):Nat):Int)<1) by rw[List.length_cons]; omega),cond_false]
  by_cases h:(e::es).length≤20
  ·have h1:¬(((List.length (e::es):Nat):Int)>20):=by omega
   have hm:(e::es).length≤maxLen:=by unfold maxLen; omega
   rw[decide_eq_false h1,cond_false,ql,List.getElem?_cons_zero,Option.bind_some,decide_eq_true h]
   show cond (!(eqQ e)) _ _=some (true&&eqQ e&&zlF (e::es) es 1)
   cases eqQ e with
   | false=>rfl
   | true =>
    have:=zlJ (e::es) hm es 1 zi rfl (by simp [zi]; simp at h; omega)
    simp only[Bool.not_true,cond_false]
    rw[show ((1:Int))=((1:Nat):Int) from rfl,this,zHr _ hm]
    cases zlF (e::es) es 1<;>rfl
  ·have h1:((List.length (e::es):Nat):Int)>20:=by omega
   rw[decide_eq_true h1,decide_eq_false h]
   rfl
theorem ztI {a0:List zq}:{es:List zq}→{i:Nat}→zlF a0 es i=true→∀(j:Nat) e,es[j]? = some e→zw0 e=true∧zAj (a0.findIdx? (fun d=>d.1==e.1))=((i+j:Nat):Int)
 | [],_,_,j,e,he=>by simp at he
 | d::es,i,h,0,e,he=>by
  injection he with he; subst he
  simp only[zlF,Bool.and_eq_true] at h
  exact ⟨h.1.1,by simpa using h.1.2⟩
 | d::es,i,h,j+1,e,he=>by
  simp only[zlF,Bool.and_eq_true] at h
  have:=ztI h.2 j e (by simpa using he)
  exact ⟨this.1,by rw[this.2]; omega⟩
structure SignOk (a0:List zq):Prop where
 pos:1≤a0.length
 len:a0.length≤20
 eq:a0[0]? = some zrX
 sym:∀(i:Nat) e,a0[i+1]? = some e→zw0 e=true∧zAj (a0.findIdx? (fun d=>d.1==e.1))=((i+1:Nat):Int)
theorem zdM {a0:List zq} (h:zds a0=true):SignOk a0:=by
 unfold zds at h
 cases a0 with
 | nil=>cases h
 | cons e es =>
  simp only[Bool.and_eq_true,decide_eq_true_eq] at h
  exact ⟨by simp,h.1.1,by rw[List.getElem?_cons_zero,(zE3 e).1 h.1.2],fun i d hd=>by
   have:=ztI h.2 i d (by simpa using hd)
   exact ⟨this.1,by rw[this.2]; omega⟩⟩
theorem SignOk.max {a0:List zq} (h:SignOk a0):a0.length≤maxLen:=Nat.le_trans h.len (by unfold maxLen; omega)
theorem zxu {e:zq} (h:zw0 e=true):zhU e.1=true∧0≤e.2.1∧e.2.1≤2∧0≤e.2.2.1∧e.2.2.1≤3∧1≤e.2.2.2∧e.2.2.2≤20:=by
 unfold zw0 at h
 simp only[Bool.and_eq_true,decide_eq_true_eq] at h
 exact ⟨h.1.1.1.1.1.1,h.1.1.1.1.1.2,h.1.1.1.1.2,h.1.1.1.2,h.1.1.2,h.1.2,h.2⟩
theorem zrP {s:Str} (h:zhU s=true):1≤s.length∧s.length≤8:=by
 unfold zhU at h
 cases s with
 | nil=>cases h
 | cons c r =>
  simp only[Bool.and_eq_true,decide_eq_true_eq] at h
  exact ⟨by simp,h.1.1⟩
theorem SignOk.at {a0:List zq} (h:SignOk a0) {i:Nat} {e:zq} (he:a0[i]? = some e):1≤e.1.length∧e.1.length≤8∧0≤e.2.1∧e.2.1≤2∧0≤e.2.2.1∧e.2.2.1≤3:=by
 cases i with
 | zero =>
  rw[h.eq] at he
  injection he with he; subst he
  decide
 | succ i =>
  obtain⟨h1,h2,h3,h4,h5,_⟩:=zxu (h.sym i e he).1
  have:=zrP h1
  exact ⟨this.1,this.2,h2,h3,h4,h5⟩
def zcM (a0:List zq) (x:Int):Option Nat :=
 cond (decide (x<0)) (cond (decide (-24≤x)) (some 0) none) (match a0[x.toNat]? with
  | some e=>cond (e.2.1==0) none (some e.2.2.1.toNat)
  | none=>none)
def nOk (o:Option Nat):Int×Bool:=match o with
 | some k=>((k:Int),true)
 | none=>(0,false)
theorem zbY {x:Int} (h1 : -9223372036854775808≤x) (h2:x≤9223372036854775807):yU x=some (-1 - x):=by
 unfold yU
 rw[zE]<;>omega
theorem zlS {a0:List zq} (h:SignOk a0) (x:Int):zhW a0 x=some (nOk (zcM a0 x)):=by
 unfold zhW zcM
 by_cases h0:x<0
 ·rw[decide_eq_true h0,cond_true,cond_true,zbY (by omega) (by omega),Option.bind_some]
  by_cases h1 : -24≤x
  ·rw[decide_eq_true h1,decide_eq_true (show x ≥ -1 - 23 by omega)]; rfl
  ·rw[decide_eq_false h1,decide_eq_false (show ¬(x ≥ -1 - 23) by omega)]; rfl
 ·rw[decide_eq_false h0,cond_false,cond_false]
  by_cases h1:x≥((List.length a0:Nat):Int)
  ·rw[decide_eq_true h1,cond_true,List.getElem?_eq_none (by omega)]; rfl
  ·obtain⟨e,he1,he2,he3⟩:=zu5 (xs:=a0) (i:=x) (by omega) (by omega)
   have:=h.at he3
   rw[decide_eq_false h1,cond_false,he1,Option.bind_some,he3]
   cases he:(e.2.1==0) with
   | true=>simp only[he,cond_true]; rfl
   | false =>
    simp only[he,cond_false,Option.bind_some]
    unfold nOk
    simp only[Option.some.injEq,Prod.mk.injEq,and_true]
    omega
theorem zkM {a0:List zq} (h:SignOk a0) {x:Int} {k:Nat} (hk:zcM a0 x=some k):k≤3:=by
 unfold zcM at hk
 by_cases h0:x<0
 ·rw[decide_eq_true h0,cond_true] at hk
  by_cases h1 : -24≤x
  ·rw[decide_eq_true h1] at hk; injection hk with hk; omega
  ·rw[decide_eq_false h1] at hk; cases hk
 ·rw[decide_eq_false h0,cond_false] at hk
  cases he:a0[x.toNat]? with
  | none=>rw[he] at hk; cases hk
  | some e =>
   rw[he] at hk
   have:=h.at he
   simp only at hk
   cases hz:(e.2.1==0) with
   | true=>rw[hz] at hk; cases hk
   | false=>rw[hz] at hk; injection hk with hk; omega
def sk (a0:List zq):Nat→List Int→Option Nat
 | 0,_=>some 0
 | _+1,[]=>none
 | n+1,x::xs=>match zcM a0 x with
  | none=>none
  | some k=>(sk a0 (n+k) xs).map (· + 1)
theorem znc {a0:List zq}:{xs:List Int}→{n k:Nat}→sk a0 n xs=some k→k≤xs.length∧(0<n→0<k)∧n≤k
 | [],0,k,h=>by simp [sk] at h; omega
 | [],n+1,k,h=>by simp [sk] at h
 | x::xs,0,k,h=>by simp [sk] at h; omega
 | x::xs,n+1,k,h=>by
  unfold sk at h
  cases ha:zcM a0 x with
  | none=>rw[ha] at h; cases h
  | some m =>
   rw[ha] at h
   simp only[Option.map_eq_some_iff] at h
   obtain⟨j,hj,rfl⟩:=h
   have:=znc hj
   rw[List.length_cons]
   omega
theorem zuD {a0:List zq} (h:SignOk a0) (a1:List Int) (hl:a1.length≤1099511627776):∀(m i n:Nat) (k:Nat),a1.length - i=m→0<n→n≤1+3*i→m<k →
  lp zcf k (a0,a1,(i:Int),(n:Int))=some (match sk a0 n (a1.drop i) with
   | some j=>(((i+j:Nat):Int),true)
   | none=>(0,false)):=by
 intro m
 induction m with
 | zero =>
  intro i n k hm hn hni hk
  obtain⟨k,rfl⟩:∃ k',k=k'+1:=⟨k - 1,by omega⟩
  rw[zc]
  generalize lp zcf k=rec
  unfold zcf
  simp only[decide_eq_true (show ((i:Int)≥((List.length a1:Nat):Int)) by omega),cond_true,List.drop_eq_nil_iff.2 (show a1.length≤i by omega)]
  obtain⟨n,rfl⟩:∃ n',n=n'+1:=⟨n - 1,by omega⟩
  rfl
 | succ m ih =>
  intro i n k hm hn hni hk
  obtain⟨k,rfl⟩:∃ k',k=k'+1:=⟨k - 1,by omega⟩
  have hi:i<a1.length:=by omega
  rw[zc]
  have key:=fun n' h1 h2=>ih (i+1) n' k (by omega) h1 h2 (by omega)
  generalize lp zcf k=rec at key ⊢
  unfold zcf
  obtain⟨n,rfl⟩:∃ n',n=n'+1:=⟨n - 1,by omega⟩
  simp only[decide_eq_false (show ¬((i:Int)≥((List.length a1:Nat):Int)) by omega),cond_false,zp,List.getElem?_eq_getElem hi,Option.bind_some,zlS h,List.drop_eq_getElem_cons hi,sk]
  cases ha:zcM a0 a1[i] with
  | none=>simp [nOk]
  | some q =>
   have hq:=zkM h ha
   have e1:IntKind.wrap .i64 ((q:Int) - 1)=(q:Int) - 1:=zE (by omega) (by omega)
   have e2:IntKind.wrap .i64 (((n+1:Nat):Int)+((q:Int) - 1))=((n+q:Nat):Int):=by rw[zE]<;>omega
   have e3:IntKind.wrap .i64 ((i:Int)+1)=((i+1:Nat):Int):=by rw[zE]<;>omega
   simp only[nOk,Bool.not_true,cond_false,e1,e2,e3]
   by_cases hp:0<n+q
   ·rw[decide_eq_true (show ((n+q:Nat):Int)>0 by omega),cond_true,key _ hp (by omega)]
    cases sk a0 (n+q) (a1.drop (i+1)) with
    | none=>rfl
    | some j=>simp only[Option.map_some]; rw[show i+1+j=i+(j+1) from by omega]
   ·rw[decide_eq_false (show ¬(((n+q:Nat):Int)>0) by omega),cond_false]
    have:n+q=0:=by omega
    rw[this]
    simp [sk]
theorem zhG {a0:List zq} (h:SignOk a0) (a1:List Int) (hl:a1.length≤1099511627776) (i:Nat):zfy a0 a1 (i:Int)=some (match sk a0 1 (a1.drop i) with
   | some j=>(((i+j:Nat):Int),true)
   | none=>(0,false)):=by
 unfold zfy
 by_cases hi:i<a1.length
 ·simp only[decide_eq_false (show ¬((i:Int)≥((List.length a1:Nat):Int)) by omega),cond_false,zp,List.getElem?_eq_getElem hi,Option.bind_some,zlS h,List.drop_eq_getElem_cons hi,sk]
  cases ha:zcM a0 a1[i] with
  | none=>simp [nOk]
  | some q =>
   have hq:=zkM h ha
   have e1:IntKind.wrap .i64 ((q:Int) - 1)=(q:Int) - 1:=zE (by omega) (by omega)
   have e2:IntKind.wrap .i64 (1+((q:Int) - 1))=((q:Nat):Int):=by rw[zE]<;>omega
   have e3:IntKind.wrap .i64 ((i:Int)+1)=((i+1:Nat):Int):=by rw[zE]<;>omega
   simp only[nOk,Bool.not_true,cond_false,e1,e2,e3]
   by_cases hp:0<q
   ·rw[decide_eq_true (show (q:Int)>0 by omega),cond_true,zuD h a1 hl (a1.length - (i+1)) (i+1) q zi rfl hp (by omega) (by unfold zi; omega),Nat.zero_add]
    cases sk a0 q (a1.drop (i+1)) with
    | none=>rfl
    | some j=>simp only[Option.map_some,Option.bind_some]; rw[show i+1+j=i+(j+1) from by omega]
   ·rw[decide_eq_false (show ¬((q:Int)>0) by omega),cond_false]
    have:q=0:=by omega
    subst this
    simp [sk]
 ·simp only[decide_eq_true (show ((i:Int)≥((List.length a1:Nat):Int)) by omega),cond_true,List.drop_eq_nil_iff.2 (show a1.length≤i by omega)]
  rfl
end
end Go.Abs.Q
namespace Go.Abs.Q
open Go Go.Abs
section
def zr8 (a0:List zq):Nat→List Int→Option jR
 | _,[]=>some []
 | 0,_::_=>none
 | n+1,x::xs=>match sk a0 1 (x::xs) with
  | none=>none
  | some k=>(zr8 a0 n ((x::xs).drop k)).map ((x::xs).take k :: ·)
def zlD (a0:List zq) (xs:List Int):Option jR:=zr8 a0 xs.length xs
theorem zo5 {a0:List zq}:{n m:Nat}→{xs:List Int}→xs.length≤n→n≤m→zr8 a0 m xs=zr8 a0 n xs
 | n,m,[],_,_=>by cases n<;>cases m<;>rfl
 | 0,_,_::_,h,_=>by simp at h
 | n+1,0,_::_,_,h=>by omega
 | n+1,m+1,x::xs,h,hm=>by
  unfold zr8
  cases hk:sk a0 1 (x::xs) with
  | none=>rfl
  | some k =>
   have:=znc hk
   simp only
   rw[zo5 (n:=n) (m:=m) (by simp at h ⊢; omega) (by omega)]
theorem zmw (a0:List zq):zlD a0 []=some []:=rfl
theorem zdP {a0:List zq} {xs:List Int} (h:xs≠[]):zlD a0 xs=match sk a0 1 xs with
  | none=>none
  | some k=>(zlD a0 (xs.drop k)).map (xs.take k :: ·):=by
 cases xs with
 | nil=>exact absurd rfl h
 | cons x xs =>
  show zr8 a0 (xs.length+1) (x::xs)=_
  unfold zr8
  cases hk:sk a0 1 (x::xs) with
  | none=>rfl
  | some k =>
   have:=znc hk
   simp only
   unfold zlD
   rw[zo5 (n:=((x::xs).drop k).length) (m:=xs.length) (Nat.le_refl _) (by simp; omega)]
theorem zvN {a0:List zq}:{xs:List Int}→{n k:Nat}→sk a0 n xs=some k→sk a0 n (xs.take k)=some k
 | [],0,k,h=>by simp [sk] at h; subst h; rfl
 | [],n+1,k,h=>by simp [sk] at h
 | x::xs,0,k,h=>by simp [sk] at h; subst h; rfl
 | x::xs,n+1,k,h=>by
  unfold sk at h
  cases ha:zcM a0 x with
  | none=>rw[ha] at h; cases h
  | some m =>
   rw[ha] at h
   simp only[Option.map_eq_some_iff] at h
   obtain⟨j,hj,rfl⟩:=h
   rw[List.take_succ_cons]
   unfold sk
   rw[ha]
   simp only[zvN hj,Option.map_some]
theorem zh0 {a0:List zq}:∀(n:Nat) (xs:List Int) (ps:List jI),xs.length≤n→zlD a0 xs=some ps→ps.flatten=xs∧∀ p∈ps,p≠[]∧sk a0 1 p=some p.length:=by
 intro n
 induction n with
 | zero =>
  intro xs ps h hc
  obtain rfl:xs=[]:=List.length_eq_zero_iff.1 (by omega)
  injection hc with hc; subst hc
  exact ⟨rfl,fun p hp=>by cases hp⟩
 | succ n ih =>
  intro xs ps h hc
  by_cases hx:xs=[]
  ·subst hx
   injection hc with hc; subst hc
   exact ⟨rfl,fun p hp=>by cases hp⟩
  ·rw[zdP hx] at hc
   cases hk:sk a0 1 xs with
   | none=>rw[hk] at hc; cases hc
   | some k =>
    rw[hk] at hc
    simp only[Option.map_eq_some_iff] at hc
    obtain⟨qs,hq,rfl⟩:=hc
    have hle:=znc hk
    obtain⟨h1,h2⟩:=ih _ qs (by simp; omega) hq
    refine ⟨by rw[List.flatten_cons,h1,List.take_append_drop],fun p hp => ?_⟩
    rcases List.mem_cons.1 hp with rfl | hp
    ·have hl:(xs.take k).length=k:=by simp; omega
     exact ⟨fun e=>by rw[e] at hl; simp at hl; omega,by rw[hl]; exact zvN hk⟩
    ·exact h2 p hp
def zfc:Nat→List jI→List Int
 | _,[]=>[]
 | i,p::ps=>(i:Int)::zfc (i+p.length) ps
theorem zhL:(i:Nat)→(ps:List jI)→(zfc i ps).length=ps.length
 | _,[]=>rfl
 | i,p::ps=>by simp [zfc,zhL (i+p.length) ps]
theorem zD {n b:Nat} (h:n*b≤140737488351232):qi n b=true:=by simpa[qi] using h
theorem zrf {a0:List zq} (h:SignOk a0) (a1:List Int) (hl:a1.length≤1099511627776):∀(m i:Nat) (acc:List Int) (k:Nat),a1.length - i=m→i≤a1.length→acc.length≤i→m<k →
  lp zcG k (a0,a1,(i:Int),acc)=some (match zlD a0 (a1.drop i) with
   | some ps=>(true,acc++zfc i ps)
   | none=>(false,[])):=by
 intro m
 induction m using Nat.strongRecOn with
 | _ m ih =>
  intro i acc k hm hi hacc hk
  obtain⟨k,rfl⟩:∃ k',k=k'+1:=⟨k - 1,by omega⟩
  rw[zc]
  have key:=fun j acc' (h1:i<j) h2 h3=>ih (a1.length - j) (by omega) j acc' k rfl h2 h3 (by omega)
  generalize lp zcG k=rec at key ⊢
  unfold zcG
  by_cases he:i=a1.length
  ·subst he
   simp [zmw,zfc]
  ·have hlt:i<a1.length:=by omega
   have hne:a1.drop i≠[]:=by simp; omega
   simp only[show (((i:Int))==((List.length a1:Nat):Int))=false from by simp; omega,cond_false,zhG h a1 hl,Option.bind_some,zdP hne]
   cases hs:sk a0 1 (a1.drop i) with
   | none=>rfl
   | some j =>
    have hj:=znc hs
    rw[List.length_drop] at hj
    simp only[Bool.not_true,cond_false,List.length_singleton,zD (show (acc.length+1)*8≤140737488351232 by omega),cond_true]
    rw[key (i+j) _ (by omega) (by omega) (by simp; omega),List.drop_drop]
    cases zlD a0 (a1.drop (i+j)) with
    | none=>rfl
    | some ps =>
     simp only[Option.map_some,zfc]
     rw[List.length_take,List.length_drop,Nat.min_eq_left (by omega)]
     simp
def zb5 (a0:List zq) (a1:List Int):Option jR:=cond (zds a0&&decide (a1.length≤48)) (zlD a0 a1) none
theorem zft (a0:List zq) (a1:List Int):zdy a0 a1=some (match zb5 a0 a1 with
  | some ps=>(true,zfc 0 ps)
  | none=>(false,[])):=by
 unfold zdy zb5
 rw[zjS,Option.bind_some]
 cases hs:zds a0 with
 | false=>rfl
 | true =>
  have h:=zdM hs
  by_cases hl:a1.length≤48
  ·simp only[Bool.not_true,cond_false,decide_eq_false (show ¬(((List.length a1:Nat):Int)>48) by omega),decide_eq_true hl,Bool.and_true,cond_true]
   by_cases h0:a1=[]
   ·subst h0; rfl
   ·have hpos:0<a1.length:=List.length_pos_iff.2 h0
    simp only[show ((0:Int)==((List.length a1:Nat):Int))=false from by simp; omega,cond_false]
    have e:=zhG h a1 (by omega) 0
    rw[show ((0:Nat):Int)=0 from rfl] at e
    rw[e,Option.bind_some,List.drop_zero,zdP h0]
    cases hk:sk a0 1 a1 with
    | none=>rfl
    | some j =>
     have hj:=znc hk
     simp only[Bool.not_true,cond_false,Nat.zero_add,List.length_singleton,zD (show 1*8≤140737488351232 by omega),cond_true]
     rw[zrf h a1 (by omega) (a1.length - j) j [0] zi rfl (by omega) (by simp; omega) (by unfold zi; omega)]
     cases zlD a0 (a1.drop j) with
     | none=>rfl
     | some ps=>simp [zfc,Nat.min_eq_left hj.1]
  ·simp only[Bool.not_true,cond_false,decide_eq_true (show (((List.length a1:Nat):Int)>48) by omega),decide_eq_false hl,Bool.and_false,cond_true]
def zaS (a0:List zq) (xs:List Int):Bool:=match xs with
 | []=>false
 | x::r=>decide (0≤x)&&(match a0[x.toNat]? with
  | none=>false
  | some e=>(e.2.1==0)&&(match zb5 a0 r with
   | none=>false
   | some ps=>((ps.length:Nat):Int)==e.2.2.1))
theorem zcA {α:Type} (x:α) (r:List α):zcv (x::r) (some 1) none=some r:=by
 show slc (x::r) 1 ((x::r).length:Int)=some r
 unfold slc
 simp only[List.length_cons]
 rw[decide_eq_true (show (0:Int)≤1 by omega),decide_eq_true (show (1:Int)≤((r.length+1:Nat):Int) by omega),decide_eq_true (show ((r.length+1:Nat):Int)≤((r.length+1:Nat):Int) by omega)]
 simp
theorem zdN (a0:List zq) (xs:List Int):zck a0 xs=some (zaS a0 xs):=by
 unfold zck zaS
 cases xs with
 | nil=>rfl
 | cons x r =>
  simp only[show ((((x::r).length:Nat):Int)==0)=false from by simp; omega,cond_false,ql,List.getElem?_cons_zero,Option.bind_some]
  by_cases h0:x<0
  ·rw[decide_eq_true h0,decide_eq_false (show ¬(0≤x) by omega)]; rfl
  ·rw[decide_eq_false h0,decide_eq_true (show 0≤x by omega),cond_false,Bool.true_and]
   by_cases h1:x≥((List.length a0:Nat):Int)
   ·rw[decide_eq_true h1,List.getElem?_eq_none (by omega)]; rfl
   ·obtain⟨e,he1,he2,he3⟩:=zu5 (xs:=a0) (i:=x) (by omega) (by omega)
    simp only[decide_eq_false h1,cond_false,he1,he3,Option.bind_some,bne]
    cases hk:(e.2.1==0) with
    | false=>rfl
    | true =>
     simp only[Bool.not_true,cond_false,zcA,Option.bind_some,zft,Bool.true_and]
     cases zb5 a0 r with
     | none=>rfl
     | some ps=>simp [zhL]
def zv (xs:List jI):Nat:=(xs.map List.length).sum
def zdV (a0:List zq) (ls:List zl):Bool:=ls.all fun l=>zaS a0 l.2
theorem zih {a0:List zq} {xs:List Int} (h:zaS a0 xs=true):xs.length≤49:=by
 unfold zaS at h
 cases xs with
 | nil=>cases h
 | cons x r =>
  simp only[Bool.and_eq_true] at h
  cases he:a0[x.toNat]? with
  | none=>rw[he] at h; simp at h
  | some e =>
   rw[he] at h
   simp only[Bool.and_eq_true] at h
   cases hb:zb5 a0 r with
   | none=>rw[hb] at h; simp at h
   | some ps =>
    unfold zb5 at hb
    cases hl:decide (r.length≤48) with
    | false=>rw[hl,Bool.and_false] at hb; cases hb
    | true=>rw[decide_eq_true_eq] at hl; simp; omega
theorem zzF (a0:List zq):(es:List zl)→(t:Nat)→t+49*es.length≤1099511627776→z6 a0 es (t:Int)=some (cond (zdV a0 es) (.inl ((t+zv (es.map (·.2)):Nat):Int)) (.inr (0,false)))
 | [],t,_=>by simp [z6,zdV,zv]
 | e::es,t,h=>by
  unfold z6 zgd zdV
  rw[zdN,Option.bind_some,Option.bind_some,List.all_cons]
  cases ha:zaS a0 e.2 with
  | false=>rfl
  | true =>
   have hl:=zih ha
   rw[List.length_cons] at h
   have e1:IntKind.wrap .i64 ((t:Int)+((List.length e.2:Nat):Int))=((t+e.2.length:Nat):Int):=by rw[zE]<;>omega
   rw[e1]
   have:=zzF a0 es (t+e.2.length) (by omega)
   unfold zdV at this
   simp only[Bool.not_true,cond_false,Bool.true_and,this]
   rw[show t+e.2.length+zv (es.map (·.2))=t+zv ((e::es).map (·.2)) from by simp [zv]; omega]
theorem zfI (a0:List zq) (ls:List zl) (h:ls.length≤1000000000):zcI a0 ls=some (cond (zdV a0 ls) (((zv (ls.map (·.2)):Nat):Int),true) (0,false)):=by
 unfold zcI
 rw[zfW _ _ _ (by unfold maxLen; omega),show ((0:Int))=((0:Nat):Int) from rfl,zzF a0 ls 0 (by omega)]
 cases zdV a0 ls with
 | false=>rfl
 | true=>simp [yg]
def zhm (a0:List zq) (xs:List Int):Option Nat:=(zb5 a0 xs).map List.length
theorem zgh (a0:List zq) (xs:List Int):zgq a0 xs=some (match zhm a0 xs with
  | some n=>((n:Int),0)
  | none=>(0,200)):=by
 unfold zgq zhm
 rw[zft,Option.bind_some]
 cases zb5 a0 xs with
 | none=>rfl
 | some ps=>simp [zhL]
theorem zkr {a0:List zq} {xs:List Int} {n:Nat} (h:zhm a0 xs=some n):xs.length≤48:=by
 unfold zhm zb5 at h
 cases hl:decide (xs.length≤48) with
 | false=>rw[hl,Bool.and_false] at h; cases h
 | true=>rw[decide_eq_true_eq] at hl; exact hl
def zfP (a0:List zq) (rs:List jI):Bool:=match rs with
 | []=>true
 | r::rs=>match zhm a0 r with
  | none=>false
  | some n=>rs.all fun q=>zhm a0 q==some n
theorem zzh (a0:List zq) (w:Nat):(es:List jI)→(i t:Nat)→t+49*es.length≤1099511627776→zH a0 es (i+1) (t:Int) (w:Int)=some (cond (es.all fun q=>zhm a0 q==some w) (.inl ((t+zv es:Nat):Int)) (.inr (0,false)))
 | [],i,t,_=>by simp [zH,zv]
 | e::es,i,t,h=>by
  unfold zH
  rw[zgh,Option.bind_some,List.all_cons]
  rw[show ((((i+1:Nat):Int))==0)=false from by simp; omega,cond_false]
  cases hr:zhm a0 e with
  | none=>rfl
  | some n =>
   have hl:=zkr hr
   rw[List.length_cons] at h
   have e1:IntKind.wrap .i64 ((t:Int)+((List.length e:Nat):Int))=((t+e.length:Nat):Int):=by rw[zE]<;>omega
   have:=zzh a0 w es (i+1) (t+e.length) (by omega)
   simp only[e1,this]
   by_cases hn:n=w
   ·subst hn
    simp [zv,Nat.add_assoc]
   ·have h1:((n:Int) != (w:Int))=true:=by simp; omega
    have h2:(some n==some w)=false:=by simpa using hn
    simp [h1,h2]
theorem zlL (a0:List zq) (rs:List jI) (h:rs.length≤1000000000):zdO a0 rs=some (cond (zfP a0 rs) (((zv rs:Nat):Int),true) (0,false)):=by
 unfold zdO
 rw[zfL _ _ _ _ (by unfold maxLen; omega)]
 cases rs with
 | nil=>rfl
 | cons r rs =>
  unfold zH zfP
  rw[zgh,Option.bind_some]
  rw[show ((((0:Nat):Int))==0)=true from rfl,cond_true]
  dsimp only
  cases hr:zhm a0 r with
  | none=>rfl
  | some n =>
   have hl:=zkr hr
   rw[List.length_cons] at h
   have e1:IntKind.wrap .i64 (0+((List.length r:Nat):Int))=((r.length:Nat):Int):=by rw[zE]<;>omega
   have:=zzh a0 n rs 0 r.length (by omega)
   simp only[e1,this]
   cases hb:rs.all fun q=>zhm a0 q==some n with
   | false=>simp [yg]
   | true=>simp [yg,zv]
def zfs (a0:List zq) (a1:List zl) (a2:List jI) (a3:List zl):Bool :=
 zds a0&&decide (a1.length≤5)&&decide (a2.length≤3)&&decide (a3.length≤3)&&zdV a0 a1&&zfP a0 a2&&zdV a0 a3&&decide (zv (a1.map (·.2))+zv a2+zv (a3.map (·.2))≤240)
theorem zkj {a0:List zq}:(ls:List zl)→zdV a0 ls=true→zv (ls.map (·.2))≤49*ls.length
 | [],_=>by simp [zv]
 | l::ls,h=>by
  unfold zdV at h
  rw[List.all_cons,Bool.and_eq_true] at h
  have h1:=zih h.1
  have h2:=zkj ls h.2
  unfold zv at h2 ⊢
  simp only[List.map_cons,List.sum_cons,List.length_cons]
  omega
theorem ztz {a0:List zq} (rs:List jI) (h:zfP a0 rs=true):zv rs≤49*rs.length:=by
 cases rs with
 | nil=>simp [zv]
 | cons r rs =>
  unfold zfP at h
  dsimp only at h
  cases hr:zhm a0 r with
  | none=>rw[hr] at h; cases h
  | some n =>
   rw[hr] at h
   have h1:=zkr hr
   have h2:∀ qs:List jI,(qs.all fun q=>zhm a0 q==some n)=true→zv qs≤49*qs.length:=by
    intro qs
    induction qs with
    | nil=>intro _; simp [zv]
    | cons q qs ih =>
     intro hq
     rw[List.all_cons,Bool.and_eq_true] at hq
     have h3:=ih hq.2
     have h4:=zkr (by simpa using hq.1)
     unfold zv at h3 ⊢
     simp only[List.map_cons,List.sum_cons,List.length_cons]
     omega
   have h5:=h2 rs h
   unfold zv at h5 ⊢
   simp only[List.map_cons,List.sum_cons,List.length_cons]
   omega
theorem za3 (a0:List zq) (a1:List zl) (a2:List jI) (a3:List zl):zcV a0 a1 a2 a3=some (zfs a0 a1 a2 a3):=by
 unfold zcV zfs
 rw[zjS,Option.bind_some]
 cases zds a0 with
 | false=>rfl
 | true =>
  by_cases h1:a1.length≤5
  ·by_cases h2:a2.length≤3
   ·by_cases h3:a3.length≤3
    ·simp only[Bool.not_true,cond_false,decide_eq_false (show ¬(((List.length a1:Nat):Int)>5) by omega),decide_eq_false (show ¬(((List.length a2:Nat):Int)>3) by omega),decide_eq_false (show ¬(((List.length a3:Nat):Int)>3) by omega),
      decide_eq_true h1,decide_eq_true h2,decide_eq_true h3,zfI a0 a1 (by omega),zlL a0 a2 (by omega),zfI a0 a3 (by omega),Option.bind_some,Bool.true_and]
     cases hb1:zdV a0 a1 with
     | false=>rfl
     | true =>
      cases hb2:zfP a0 a2 with
      | false=>rfl
      | true =>
       cases hb3:zdV a0 a3 with
       | false=>rfl
       | true =>
        have s1:=zkj a1 hb1
        have s2:=ztz a2 hb2
        have s3:=zkj a3 hb3
        simp only[cond_true,Bool.true_and]
        have e1:IntKind.wrap .i64 (((zv (a1.map (·.2)):Nat):Int)+((zv a2:Nat):Int))=((zv (a1.map (·.2))+zv a2:Nat):Int):=by rw[zE]<;>omega
        have e2:IntKind.wrap .i64 (((zv (a1.map (·.2))+zv a2:Nat):Int)+((zv (a3.map (·.2)):Nat):Int))=((zv (a1.map (·.2))+zv a2+zv (a3.map (·.2)):Nat):Int):=by rw[zE]<;>omega
        simp only[e1,e2,Option.some.injEq,decide_eq_decide]
        omega
    ·simp only[Bool.not_true,cond_false,decide_eq_false (show ¬(((List.length a1:Nat):Int)>5) by omega),decide_eq_false (show ¬(((List.length a2:Nat):Int)>3) by omega),decide_eq_true (show (((List.length a3:Nat):Int)>3) by omega),decide_eq_false h3,cond_true,Bool.and_false,Bool.false_and]
   ·simp only[Bool.not_true,cond_false,decide_eq_false (show ¬(((List.length a1:Nat):Int)>5) by omega),decide_eq_true (show (((List.length a2:Nat):Int)>3) by omega),decide_eq_false h2,cond_true,Bool.and_false,Bool.false_and]
  ·simp only[Bool.not_true,cond_false,decide_eq_true (show (((List.length a1:Nat):Int)>5) by omega),decide_eq_false h1,cond_true,Bool.and_false,Bool.false_and]
end
end Go.Abs.Q
namespace Go.Abs.Q
open Go Go.Abs
section
theorem zDk {a0:List zq}:{xs:List Int}→{n m k:Nat}→sk a0 (n+m) xs=some k→∃ j,sk a0 n xs=some j∧j≤k∧sk a0 m (xs.drop j)=some (k - j)
 | xs,0,m,k,h=>⟨0,by cases xs<;>rfl,Nat.zero_le _,by simpa using h⟩
 | [],n+1,m,k,h=>by rw[show n+1+m=n+m+1 from by omega] at h; simp [sk] at h
 | x::xs,n+1,m,k,h=>by
  rw[show n+1+m=n+m+1 from by omega] at h
  unfold sk at h
  cases ha:zcM a0 x with
  | none=>rw[ha] at h; cases h
  | some q =>
   rw[ha] at h
   simp only[Option.map_eq_some_iff] at h
   obtain⟨j,hj,rfl⟩:=h
   rw[show n+m+q=(n+q)+m from by omega] at hj
   obtain⟨i,h1,h2,h3⟩:=zDk hj
   refine ⟨i+1,?_,by omega,?_⟩
   ·unfold sk; rw[ha]; simp only[h1,Option.map_some]
   ·rw[List.drop_succ_cons,h3]; congr 1; omega
theorem zEh {a0:List zq}:∀(n:Nat) (xs:List Int),sk a0 n xs=some xs.length→∃ ps,zlD a0 xs=some ps∧ps.length=n:=by
 intro n
 induction n with
 | zero =>
  intro xs h
  have:xs.length=0:=by cases xs<;>simp [sk] at h ⊢
  obtain rfl:=List.length_eq_zero_iff.1 this
  exact ⟨[],rfl,rfl⟩
 | succ n ih =>
  intro xs h
  rw[Nat.add_comm] at h
  obtain⟨j,h1,h2,h3⟩:=zDk h
  have hj:=znc h1
  have hne:xs≠[]:=fun e=>by subst e; simp at hj; omega
  obtain⟨ps,h4,h5⟩:=ih (xs.drop j) (by rw[h3,List.length_drop])
  refine ⟨xs.take j::ps,?_,by simp [h5]⟩
  rw[zdP hne,h1]
  dsimp only
  rw[h4]; rfl
theorem zrO {a0:List zq} {p:List Int} (h:sk a0 1 p=some p.length):∃ x r q,p=x::r∧zcM a0 x=some q∧sk a0 q r=some r.length:=by
 cases p with
 | nil=>simp [sk] at h
 | cons x r =>
  unfold sk at h
  cases ha:zcM a0 x with
  | none=>rw[ha] at h; cases h
  | some q =>
   rw[ha] at h
   simp only[Option.map_eq_some_iff,Nat.zero_add] at h
   obtain⟨j,hj,he⟩:=h
   rw[List.length_cons] at he
   exact ⟨x,r,q,rfl,ha,by rw[hj]; congr 1; omega⟩
theorem zqs {a0:List zq} (h:SignOk a0) (a1:List Int) (hl:a1.length≤1099511627776):∀(m i:Nat) (acc ps:List jI) (k:Nat),a1.length - i=m→i≤a1.length→acc.length≤i→zlD a0 (a1.drop i)=some ps→m<k →
  lp zcH k (a0,a1,(i:Int),acc)=some (.inl (acc++ps)):=by
 intro m
 induction m using Nat.strongRecOn with
 | _ m ih =>
  intro i acc ps k hm hi hacc hc hk
  obtain⟨k,rfl⟩:∃ k',k=k'+1:=⟨k - 1,by omega⟩
  rw[zc]
  have key:=fun j acc' ps' (h1:i<j) h2 h3 h4=>ih (a1.length - j) (by omega) j acc' ps' k rfl h2 h3 h4 (by omega)
  generalize lp zcH k=rec at key ⊢
  unfold zcH
  by_cases he:i=a1.length
  ·subst he
   rw[List.drop_length,zmw] at hc
   injection hc with hc; subst hc
   simp
  ·have hlt:i<a1.length:=by omega
   have hne:a1.drop i≠[]:=by simp; omega
   rw[zdP hne] at hc
   simp only[decide_eq_true (show (i:Int)<((List.length a1:Nat):Int) by omega),cond_true,zhG h a1 hl,Option.bind_some]
   cases hs:sk a0 1 (a1.drop i) with
   | none=>rw[hs] at hc; cases hc
   | some j =>
    rw[hs] at hc
    simp only[Option.map_eq_some_iff] at hc
    obtain⟨qs,hq,rfl⟩:=hc
    have hj:=znc hs
    rw[List.length_drop] at hj
    have e1:zcv a1 (some (i:Int)) (some ((i+j:Nat):Int))=some ((a1.drop i).take j):=by
     show slc a1 _ _=_
     unfold slc
     rw[decide_eq_true (show (0:Int)≤(i:Int) by omega),decide_eq_true (show (i:Int)≤((i+j:Nat):Int) by omega),decide_eq_true (show ((i+j:Nat):Int)≤((a1.length:Nat):Int) by omega)]
     simp only[cond_true,Int.toNat_natCast,Option.some.injEq]
     rw[List.drop_take]; congr 1; omega
    simp only[Bool.not_true,cond_false,e1,Option.bind_some,List.length_singleton,zD (show (acc.length+1)*24≤140737488351232 by omega),cond_true]
    rw[List.drop_drop] at hq
    rw[key (i+j) _ qs (by omega) (by omega) (by simp; omega) hq]
    simp
theorem zcF {a0:List zq} (h:SignOk a0) {a1:List Int} (hl:a1.length≤1099511627776) {ps:List jI} (hc:zlD a0 a1=some ps):zch a0 a1=some ps:=by
 unfold zch
 have:=zqs h a1 hl a1.length 0 [] ps zi rfl (Nat.zero_le _) (Nat.zero_le _) hc (by unfold zi; omega)
 rw[show ((0:Nat):Int)=0 from rfl] at this
 rw[this]
 rfl
theorem zec {a0:List zq} {xs:List Int} {ps:List jI} (h:zlD a0 xs=some ps):ps.length≤xs.length:=by
 obtain⟨h1,h2⟩:=zh0 xs.length xs ps (Nat.le_refl _) h
 have h3:∀ qs:List jI,(∀ p∈qs,p≠[])→qs.length≤qs.flatten.length:=by
  intro qs
  induction qs with
  | nil=>intro _; simp
  | cons q qs ih =>
   intro hq
   have:=ih fun p hp=>hq p (by simp [hp])
   have h4:=List.length_pos_iff.2 (hq q (by simp))
   simp only[List.flatten_cons,List.length_append,List.length_cons]
   omega
 have:=h3 ps fun p hp=>(h2 p hp).1
 rw[h1] at this
 exact this
def zs7 (a0:List zq) (x:Int):Str:=match a0[x.toNat]? with
 | some e=>e.1
 | none=>[]
theorem zrh {a0:List zq} {x:Int} {q:Nat} (h:zcM a0 x=some q) (hx:x<0) : -24≤x∧q=0:=by
 unfold zcM at h
 rw[decide_eq_true hx,cond_true] at h
 cases hd:decide (-24≤x) with
 | false=>rw[hd] at h; cases h
 | true=>rw[hd] at h; injection h with h; exact ⟨of_decide_eq_true hd,h.symm⟩
theorem zqV {a0:List zq} {x:Int} {q:Nat} (h:zcM a0 x=some q) (hx:¬ x<0):∃ e,gx a0 x=some e∧a0[x.toNat]? = some e∧e.2.1≠0∧q=e.2.2.1.toNat:=by
 unfold zcM at h
 rw[decide_eq_false hx,cond_false] at h
 cases he:a0[x.toNat]? with
 | none=>rw[he] at h; cases h
 | some e =>
  rw[he] at h
  have hg:gx a0 x=some e:=by
   unfold gx
   rw[decide_eq_true (show 0≤x by omega),cond_true,he]
  dsimp only at h
  cases hz:(e.2.1==0) with
  | true=>rw[hz] at h; cases h
  | false=>rw[hz] at h; injection h with h; exact ⟨e,hg,rfl,by simpa using hz,h.symm⟩
end
end Go.Abs.Q
namespace Go.Abs.Q
open Go Go.Abs
section
theorem ziF {a0:List zq} {xs:List Int} (h:zaS a0 xs=true):∃ x r e ps,xs=x::r∧0≤x∧a0[x.toNat]? = some e∧gx a0 x=some e∧e.2.1=0∧zds a0=true∧r.length≤48∧zlD a0 r=some ps∧((ps.length:Nat):Int)=e.2.2.1:=by
 unfold zaS at h
 cases xs with
 | nil=>cases h
 | cons x r =>
  simp only[Bool.and_eq_true,decide_eq_true_eq] at h
  obtain⟨h0,h⟩:=h
  cases he:a0[x.toNat]? with
  | none=>rw[he] at h; cases h
  | some e =>
   rw[he] at h
   simp only[Bool.and_eq_true] at h
   obtain⟨h1,h⟩:=h
   cases hb:zb5 a0 r with
   | none=>rw[hb] at h; cases h
   | some ps =>
    rw[hb] at h
    unfold zb5 at hb
    cases hs:zds a0 with
    | false=>rw[hs] at hb; cases hb
    | true =>
     cases hl:decide (r.length≤48) with
     | false=>rw[hs,hl] at hb; cases hb
     | true =>
      rw[hs,hl] at hb
      refine ⟨x,r,e,ps,rfl,h0,he,?_,by simpa using h1,rfl,of_decide_eq_true hl,hb,by simpa using h⟩
      unfold gx
      rw[decide_eq_true h0,cond_true,he]
theorem zkU {a0:List zq} {r:List Int} {n:Nat} (h:zhm a0 r=some n):∃ ps,zlD a0 r=some ps∧ps.length=n∧r.length≤48∧zds a0=true:=by
 have hl:=zkr h
 unfold zhm zb5 at h
 cases hs:zds a0 with
 | false=>rw[hs] at h; cases h
 | true =>
  rw[hs,decide_eq_true hl] at h
  simp only[Bool.and_true,cond_true,Option.map_eq_some_iff] at h
  obtain⟨ps,h1,h2⟩:=h
  exact ⟨ps,h1,h2,hl,rfl⟩
theorem zhO {a0:List zq} {rs:List jI} (h:zfP a0 rs=true):∃ n,∀ r∈rs,zhm a0 r=some n:=by
 cases rs with
 | nil=>exact ⟨0,fun r hr=>by cases hr⟩
 | cons r rs =>
  unfold zfP at h
  dsimp only at h
  cases hr:zhm a0 r with
  | none=>rw[hr] at h; cases h
  | some n =>
   rw[hr] at h
   refine ⟨n,fun q hq => ?_⟩
   rcases List.mem_cons.1 hq with rfl | hq
   ·exact hr
   ·simpa using List.all_eq_true.1 h q hq
theorem z4 {a0:List zq} {a1:List zl} {a2:List jI} {a3:List zl} (h:zfs a0 a1 a2 a3=true):zds a0=true∧a1.length≤5∧a2.length≤3∧a3.length≤3∧zdV a0 a1=true∧zfP a0 a2=true∧zdV a0 a3=true∧zv (a1.map (·.2))+zv a2+zv (a3.map (·.2))≤240:=by
 unfold zfs at h
 simp only[Bool.and_eq_true,decide_eq_true_eq] at h
 exact ⟨h.1.1.1.1.1.1.1,h.1.1.1.1.1.1.2,h.1.1.1.1.1.2,h.1.1.1.1.2,h.1.1.1.2,h.1.1.2,h.1.2,h.2⟩
theorem zDW {a0:List zq} {a1:List zl} {a2:List jI} {a3:List zl} (h1:zds a0=true) (h2:a1.length≤5) (h3:a2.length≤3) (h4:a3.length≤3) (h5:zdV a0 a1=true) (h6:zfP a0 a2=true) (h7:zdV a0 a3=true)
  (h8:zv (a1.map (·.2))+zv a2+zv (a3.map (·.2))≤240):zfs a0 a1 a2 a3=true:=by
 unfold zfs
 simp only[h1,decide_eq_true h2,decide_eq_true h3,decide_eq_true h4,h5,h6,h7,decide_eq_true h8,Bool.and_self]
end
end Go.Abs.Q
namespace Go.Abs.Q
open Go Go.Abs
section
end
end Go.Abs.Q
namespace Go.Abs.Q
open Go Go.Abs
section
theorem zIJ {α:Type} (s:List α) {i j:Nat} (hij:i≤j) (h:j≤s.length):zcv s (some (i:Int)) (some (j:Int))=some ((s.drop i).take (j - i)):=by
 show slc s _ _=_
 unfold slc
 rw[decide_eq_true (show (0:Int)≤(i:Int) by omega),decide_eq_true (show (i:Int)≤(j:Int) by omega),decide_eq_true (show (j:Int)≤((s.length:Nat):Int) by omega)]
 simp only[cond_true,Int.toNat_natCast,Option.some.injEq]
 rw[List.drop_take]
end
end Go.Abs.Q
namespace Go.Abs.Q
open Go Go.Abs
def zbJ (a0:jI):Option jI :=
 cond (qi (List.length ([]:List Int)+List.length a0) 8)
 (some (([]:List Int)++a0))
 (none)
def qO (rec:(jQ×Int×jQ)→Option jQ) (x:(jQ×Int×jQ)):Option jQ :=
 cond (decide (x.2.1<((List.length x.1:Nat):Int)))
 ((gx x.1 x.2.1).bind fun e7 =>
  (gx x.1 x.2.1).bind fun e8 =>
  (zbJ e8.2).bind fun r9 =>
  cond (qi (List.length x.2.2+List.length ([(e7.1,r9)]:List zl)) 32)
  (rec (x.1,(IntKind.wrap .i64 (x.2.1+1)),(x.2.2++([(e7.1,r9)]:List zl))))
  (none))
 (some x.2.2)
def zdr (a0:jQ):Option jQ :=
 ((lp qO zi) (a0,0,([]:jQ))).bind fun r11 =>
 some r11
def qE (rec:(jR×Int×jR)→Option jR) (x:(jR×Int×jR)):Option jR :=
 cond (decide (x.2.1<((List.length x.1:Nat):Int)))
 ((gx x.1 x.2.1).bind fun e5 =>
  (zbJ e5).bind fun r6 =>
  cond (qi (List.length x.2.2+List.length ([r6]:List jI)) 24)
  (rec (x.1,(IntKind.wrap .i64 (x.2.1+1)),(x.2.2++([r6]:List jI))))
  (none))
 (some x.2.2)
def zek (a0:jR):Option jR :=
 ((lp qE zi) (a0,0,([]:jR))).bind fun r8 =>
 some r8
def zbl (a0:jQ) (a1:jR) (a2:jQ):Option (jQ×jR×jQ) :=
 (zdr a0).bind fun r4 =>
 (zek a1).bind fun r5 =>
 (zdr a2).bind fun r6 =>
 some (r4,r5,r6)
def zfx (a0:Int):Option Bool :=
 cond (decide (a0≥97))
 (some (decide (a0≤122)))
 (some false)
def zau (rec:(Int×Str×Int×Int×Int)→Option (Unit⊕Bool)) (x:(Int×Str×Int×Int×Int)):Option (Unit⊕Bool) :=
 cond (decide (x.1<((List.length x.2.1:Nat):Int)))
 ((gx x.2.1 x.1).bind fun c7 =>
  (zfx ((UInt8.toNat c7:Nat):Int)).bind fun r8 =>
  cond (!r8)
  ((gx x.2.1 x.1).bind fun c9 =>
   cond (decide (((UInt8.toNat c9:Nat):Int)<48))
   (some (Sum.inr false))
   ((gx x.2.1 x.1).bind fun c10 =>
    cond (decide (((UInt8.toNat c10:Nat):Int)>57))
    (some (Sum.inr false))
    (rec ((IntKind.wrap .i64 (x.1+1)),x.2.1,x.2.2.1,x.2.2.2.1,x.2.2.2.2))))
  (rec ((IntKind.wrap .i64 (x.1+1)),x.2.1,x.2.2.1,x.2.2.2.1,x.2.2.2.2)))
 (some (Sum.inl ()))
def zez (a0:Str) (a1:Int) (a2:Int) (a3:Int):Option Bool :=
 cond (decide (((List.length a0:Nat):Int)<1))
 (some false)
 (cond (decide (((List.length a0:Nat):Int)>8))
  (some false)
  ((gx a0 0).bind fun c14 =>
   (zfx ((UInt8.toNat c14:Nat):Int)).bind fun r15 =>
   cond (!r15)
   (some false)
   (((lp zau zi) (0,a0,a1,a2,a3)).bind fun r16 =>
    yg r16
    (fun z17=>cond (decide (a1≥0))
     (cond (decide (a1≤2))
      (cond (decide (a2≥0))
       (cond (decide (a2≤3))
        (cond (decide (a3≥1))
         (some (decide (a3≤20)))
         (some false))
        (some false))
       (some false))
      (some false))
     (some false))
    (fun z18=>some z18))))
def zbI (rec:(jS×Str×Int)→Option (Unit⊕Int)) (x:(jS×Str×Int)):Option (Unit⊕Int) :=
 cond (decide (x.2.2<((List.length x.1:Nat):Int)))
 ((gx x.1 x.2.2).bind fun e2 =>
  cond (e2.1==x.2.1)
  (some (Sum.inr x.2.2))
  (rec (x.1,x.2.1,(IntKind.wrap .i64 (x.2.2+1)))))
 (some (Sum.inl ()))
def zig (a0:jS) (a1:Str):Option Int :=
 ((lp zbI zi) (a0,a1,0)).bind fun r6 =>
 yg r6
 (fun z7=>some (-1))
 (fun z8=>some z8)
def zaM (rec:(jS×Int)→Option (Unit⊕Bool)) (x:(jS×Int)):Option (Unit⊕Bool) :=
 cond (decide (x.2<((List.length x.1:Nat):Int)))
 ((gx x.1 x.2).bind fun e6 =>
  (zez e6.1 e6.2.1 e6.2.2.1 e6.2.2.2).bind fun r7 =>
  cond (!r7)
  (some (Sum.inr false))
  ((gx x.1 x.2).bind fun e8 =>
   (zig x.1 e8.1).bind fun r9 =>
   cond (r9 != x.2)
   (some (Sum.inr false))
   (rec (x.1,(IntKind.wrap .i64 (x.2+1))))))
 (some (Sum.inl ()))
def zdT (a0:jS):Option Bool :=
 cond (decide (((List.length a0:Nat):Int)<1))
 (some false)
 (cond (decide (((List.length a0:Nat):Int)>20))
  (some false)
  ((gx a0 0).bind fun e13 =>
   cond (!(cond (eqS e13.1 ([61]:Str)) (cond (eqI e13.2.1 0) (cond (eqI e13.2.2.1 2) (cond (eqI e13.2.2.2 1) true false) false) false) false))
   (some false)
   (((lp zaM zi) (a0,1)).bind fun r14 =>
    yg r14
    (fun z15=>some true)
    (fun z16=>some z16))))
def zcQ (rec:(jS×jI×Int×Int)→Option (Int⊕Int)) (x:(jS×jI×Int×Int)):Option (Int⊕Int) :=
 cond (decide (x.2.2.1>0))
 (cond (decide (x.2.2.2≥((List.length x.2.1:Nat):Int)))
  (some (Sum.inr (-1)))
  ((gx x.2.1 x.2.2.2).bind fun e8 =>
   cond (decide (e8<(-24)))
   (some (Sum.inr (-1)))
   ((gx x.2.1 x.2.2.2).bind fun e9 =>
    cond (decide (e9≥((List.length x.1:Nat):Int)))
    (some (Sum.inr (-1)))
    ((gx x.2.1 x.2.2.2).bind fun e10 =>
     cond (decide (e10≥0))
     ((gx x.2.1 x.2.2.2).bind fun e11 =>
      (gx x.1 e11).bind fun e12 =>
      cond (e12.2.1==0)
      (some (Sum.inr (-1)))
      ((gx x.2.1 x.2.2.2).bind fun e13 =>
       (gx x.1 e13).bind fun e14 =>
       rec (x.1,x.2.1,(IntKind.wrap .i64 ((IntKind.wrap .i64 (x.2.2.1 - 1))+e14.2.2.1)),(IntKind.wrap .i64 (x.2.2.2+1)))))
     (rec (x.1,x.2.1,(IntKind.wrap .i64 (x.2.2.1 - 1)),(IntKind.wrap .i64 (x.2.2.2+1))))))))
 (some (Sum.inl x.2.2.2))
def zmv (a0:jS) (a1:jI) (a2:Int):Option Int :=
 ((lp zcQ zi) (a0,a1,1,a2)).bind fun r18 =>
 yg r18
 (fun z19=>some z19)
 (fun z20=>some z20)
def zdc (rec:(jS×jI×Int×Int)→Option (Int⊕Int)) (x:(jS×jI×Int×Int)):Option (Int⊕Int) :=
 cond (decide (x.2.2.2<((List.length x.2.1:Nat):Int)))
 ((zmv x.1 x.2.1 x.2.2.2).bind fun r2 =>
  cond (decide (r2<0))
  (some (Sum.inr (-1)))
  (rec (x.1,x.2.1,(IntKind.wrap .i64 (x.2.2.1+1)),r2)))
 (some (Sum.inl x.2.2.1))
def zcX (a0:jS) (a1:jI):Option Int :=
 cond (decide (((List.length a1:Nat):Int)>48))
 (some (-1))
 (((lp zdc zi) (a0,a1,0,0)).bind fun r6 =>
  yg r6
  (fun z7=>some z7)
  (fun z8=>some z8))
def zgS (a0:jS) (a1:jI):Option Bool :=
 cond (decide (((List.length a1:Nat):Int)>0))
 ((gx a1 0).bind fun e9 =>
  cond (decide (e9≥0))
  ((gx a1 0).bind fun e10 =>
   cond (decide (e10<((List.length a0:Nat):Int)))
   ((gx a1 0).bind fun e11 =>
    (gx a0 e11).bind fun e12 =>
    cond (e12.2.1==0)
    ((zcv a1 (some 1) none).bind fun y13 =>
     (zcX a0 y13).bind fun r14 =>
     (gx a1 0).bind fun e15 =>
     (gx a0 e15).bind fun e16 =>
     some (r14==e16.2.2.1))
    (some false))
   (some false))
  (some false))
 (some false)
def zcN (a0:jS) (a1:Bool) (a2:jI):Option Bool :=
 (zdT a0).bind fun r3 =>
 cond r3
 ((zgS a0 a2).bind fun r4 =>
  some r4)
 (some false)
def zbB (rec:(Int×jQ×jR×jQ×jR)→Option jR) (x:(Int×jQ×jR×jQ×jR)):Option jR :=
 cond (decide (x.1<((List.length x.2.2.2.1:Nat):Int)))
 ((gx x.2.2.2.1 x.1).bind fun e9 =>
  cond (qi (List.length x.2.2.2.2+List.length ([e9.2]:List jI)) 24)
  (rec ((IntKind.wrap .i64 (x.1+1)),x.2.1,x.2.2.1,x.2.2.2.1,(x.2.2.2.2++([e9.2]:List jI))))
  (none))
 (some x.2.2.2.2)
def zbv (rec:(Int×jQ×jR×jQ×jR)→Option jR) (x:(Int×jQ×jR×jQ×jR)):Option jR :=
 cond (decide (x.1<((List.length x.2.2.1:Nat):Int)))
 ((gx x.2.2.1 x.1).bind fun e6 =>
  cond (qi (List.length x.2.2.2.2+List.length ([e6]:List jI)) 24)
  (rec ((IntKind.wrap .i64 (x.1+1)),x.2.1,x.2.2.1,x.2.2.2.1,(x.2.2.2.2++([e6]:List jI))))
  (none))
 (some x.2.2.2.2)
def zbu (rec:(Int×jQ×jR×jQ×jR)→Option jR) (x:(Int×jQ×jR×jQ×jR)):Option jR :=
 cond (decide (x.1<((List.length x.2.1:Nat):Int)))
 ((gx x.2.1 x.1).bind fun e3 =>
  cond (qi (List.length x.2.2.2.2+List.length ([e3.2]:List jI)) 24)
  (rec ((IntKind.wrap .i64 (x.1+1)),x.2.1,x.2.2.1,x.2.2.2.1,(x.2.2.2.2++([e3.2]:List jI))))
  (none))
 (some x.2.2.2.2)
def zf6 (a0:jQ) (a1:jR) (a2:jQ):Option jR :=
 ((lp zbu zi) (0,a0,a1,a2,([]:jR))).bind fun r11 =>
 ((lp zbv zi) (0,a0,a1,a2,r11)).bind fun r12 =>
 ((lp zbB zi) (0,a0,a1,a2,r12)).bind fun r13 =>
 some r13
def zcl (rec:(jR×Int×Int)→Option Int) (x:(jR×Int×Int)):Option Int :=
 cond (decide (x.2.2<((List.length x.1:Nat):Int)))
 ((gx x.1 x.2.2).bind fun e26 =>
  rec (x.1,(IntKind.wrap .i64 (x.2.1+((List.length e26:Nat):Int))),(IntKind.wrap .i64 (x.2.2+1))))
 (some x.2.1)
def zca (rec:(jS×Int×jQ×jR×jQ)→Option (Unit⊕Bool)) (x:(jS×Int×jQ×jR×jQ)):Option (Unit⊕Bool) :=
 cond (decide (x.2.1<((List.length x.2.2.2.1:Nat):Int)))
 ((gx x.2.2.2.1 x.2.1).bind fun e18 =>
  (zcX x.1 e18).bind fun r19 =>
  cond (decide (r19<0))
  (some (Sum.inr false))
  ((gx x.2.2.2.1 0).bind fun e20 =>
   (zcX x.1 e20).bind fun r21 =>
   cond (r19 != r21)
   (some (Sum.inr false))
   (rec (x.1,(IntKind.wrap .i64 (x.2.1+1)),x.2.2.1,x.2.2.2.1,x.2.2.2.2))))
 (some (Sum.inl ()))
def zcd (rec:(jS×Int×jQ×jR×jQ)→Option (Unit⊕Bool)) (x:(jS×Int×jQ×jR×jQ)):Option (Unit⊕Bool) :=
 cond (decide (x.2.1<((List.length x.2.2.2.2:Nat):Int)))
 ((gx x.2.2.2.2 x.2.1).bind fun e10 =>
  (zcN x.1 e10.1 e10.2).bind fun r11 =>
  cond (!r11)
  (some (Sum.inr false))
  (rec (x.1,(IntKind.wrap .i64 (x.2.1+1)),x.2.2.1,x.2.2.2.1,x.2.2.2.2)))
 (some (Sum.inl ()))
def zci (rec:(jS×Int×jQ×jR×jQ)→Option (Unit⊕Bool)) (x:(jS×Int×jQ×jR×jQ)):Option (Unit⊕Bool) :=
 cond (decide (x.2.1<((List.length x.2.2.1:Nat):Int)))
 ((gx x.2.2.1 x.2.1).bind fun e4 =>
  (zcN x.1 e4.1 e4.2).bind fun r5 =>
  cond (!r5)
  (some (Sum.inr false))
  (rec (x.1,(IntKind.wrap .i64 (x.2.1+1)),x.2.2.1,x.2.2.2.1,x.2.2.2.2)))
 (some (Sum.inl ()))
def ziG (a0:jS) (a1:jQ) (a2:jR) (a3:jQ):Option Bool :=
 (zdT a0).bind fun r31 =>
 cond (!r31)
 (some false)
 (cond (decide (((List.length a1:Nat):Int)>5))
  (some false)
  (cond (decide (((List.length a3:Nat):Int)>3))
   (some false)
   (cond (decide (((List.length a2:Nat):Int)>3))
    (some false)
    (((lp zci zi) (a0,0,a1,a2,a3)).bind fun r32 =>
     yg r32
     (fun z33=>((lp zcd zi) (a0,0,a1,a2,a3)).bind fun r34 =>
      yg r34
      (fun z35=>((lp zca zi) (a0,0,a1,a2,a3)).bind fun r36 =>
       yg r36
       (fun z37=>(zf6 a1 a2 a3).bind fun r38 =>
        ((lp zcl zi) (r38,0,0)).bind fun r39 =>
        some (decide (r39≤240)))
       (fun z40=>some z40))
      (fun z41=>some z41))
     (fun z42=>some z42)))))
def zba (rec:(jS×jI×Int×Int)→Option Int) (x:(jS×jI×Int×Int)):Option Int :=
 cond (decide (x.2.2.1>0))
 ((gx x.2.1 x.2.2.2).bind fun e4 =>
  cond (decide (e4≥0))
  ((gx x.2.1 x.2.2.2).bind fun e5 =>
   (gx x.1 e5).bind fun e6 =>
   rec (x.1,x.2.1,(IntKind.wrap .i64 ((IntKind.wrap .i64 (x.2.2.1 - 1))+e6.2.2.1)),(IntKind.wrap .i64 (x.2.2.2+1))))
  (rec (x.1,x.2.1,(IntKind.wrap .i64 (x.2.2.1 - 1)),(IntKind.wrap .i64 (x.2.2.2+1)))))
 (some x.2.2.2)
def zgW (a0:jS) (a1:jI) (a2:Int):Option Int :=
 ((lp zba zi) (a0,a1,1,a2)).bind fun r8 =>
 some r8
def zdl (rec:(jS×jI×Int×jR)→Option jR) (x:(jS×jI×Int×jR)):Option jR :=
 cond (decide (x.2.2.1<((List.length x.2.1:Nat):Int)))
 ((zgW x.1 x.2.1 x.2.2.1).bind fun r5 =>
  (zcv x.2.1 (some x.2.2.1) (some r5)).bind fun y6 =>
  cond (qi (List.length x.2.2.2+List.length ([y6]:List jI)) 24)
  (rec (x.1,x.2.1,r5,(x.2.2.2++([y6]:List jI))))
  (none))
 (some x.2.2.2)
def z1 (a0:jS) (a1:jI):Option jR :=
 ((lp zdl zi) (a0,a1,0,([]:jR))).bind fun r8 =>
 some r8
end Go.Abs.Q
namespace Go.Abs.Q
open Go Go.Abs
def ym:List zl→jQ→Option jQ
 | [],s2=>some s2
 | e::es,s2 =>
  (zbJ e.2).bind fun r9 =>
  cond (qi (List.length s2+List.length ([(e.1,r9)]:List zl)) 32)
  (ym es (s2++([(e.1,r9)]:List zl)))
  (none)
theorem zhc (s0:jQ) (hl:List.length s0≤maxLen):∀(es:List zl) (i:Nat) (k:Nat) (s2:jQ),s0.drop i=es→es.length<k→lp qO k (s0,(i:Int),s2)=ym es s2:=by
 intro es
 induction es with
 | nil =>
  intro i k s2 h hk
  obtain⟨k,rfl⟩:∃ k',k=k'+1:=⟨k - 1,by omega⟩
  rw[zc]
  generalize lp qO k=rec
  unfold qO ym
  simp only[zk (zg h),cond_false]
 | cons e es ih =>
  intro i k s2 h hk
  obtain⟨k,rfl⟩:∃ k',k=k'+1:=⟨k - 1,by omega⟩
  rw[zc]
  have hi:=ze h
  have hk2:es.length<k:=Nat.lt_of_succ_lt_succ hk
  have key:=fun s2=>ih (i+1) k s2 (za h) hk2
  generalize lp qO k=rec at key ⊢
  unfold qO ym
  simp only[zn hi,cond_true,zp,zb h,Option.bind_some,zo hi hl,key]
theorem zgj (s0:jQ) (s2:jQ) (hl:List.length s0≤maxLen):lp qO zi (s0,0,s2)=ym s0 s2 :=
 zhc s0 hl s0 0 zi s2 rfl (Nat.lt_of_le_of_lt hl (by decide))
def yp:List jI→jR→Option jR
 | [],s2=>some s2
 | e::es,s2 =>
  (zbJ e).bind fun r6 =>
  cond (qi (List.length s2+List.length ([r6]:List jI)) 24)
  (yp es (s2++([r6]:List jI)))
  (none)
theorem zhd (s0:jR) (hl:List.length s0≤maxLen):∀(es:List jI) (i:Nat) (k:Nat) (s2:jR),s0.drop i=es→es.length<k→lp qE k (s0,(i:Int),s2)=yp es s2:=by
 intro es
 induction es with
 | nil =>
  intro i k s2 h hk
  obtain⟨k,rfl⟩:∃ k',k=k'+1:=⟨k - 1,by omega⟩
  rw[zc]
  generalize lp qE k=rec
  unfold qE yp
  simp only[zk (zg h),cond_false]
 | cons e es ih =>
  intro i k s2 h hk
  obtain⟨k,rfl⟩:∃ k',k=k'+1:=⟨k - 1,by omega⟩
  rw[zc]
  have hi:=ze h
  have hk2:es.length<k:=Nat.lt_of_succ_lt_succ hk
  have key:=fun s2=>ih (i+1) k s2 (za h) hk2
  generalize lp qE k=rec at key ⊢
  unfold qE yp
  simp only[zn hi,cond_true,zp,zb h,Option.bind_some,zo hi hl,key]
theorem zgt (s0:jR) (s2:jR) (hl:List.length s0≤maxLen):lp qE zi (s0,0,s2)=yp s0 s2 :=
 zhd s0 hl s0 0 zi s2 rfl (Nat.lt_of_le_of_lt hl (by decide))
def yA:List UInt8→Option (Unit⊕Bool)
 | []=>some (Sum.inl ())
 | e::es =>
  (zfx ((UInt8.toNat e:Nat):Int)).bind fun r8 =>
  cond (!r8)
  (cond (decide (((UInt8.toNat e:Nat):Int)<48))
   (some (Sum.inr false))
   (cond (decide (((UInt8.toNat e:Nat):Int)>57))
    (some (Sum.inr false))
    (yA es)))
  (yA es)
theorem ziY (s1:Str) (s2:Int) (s3:Int) (s4:Int) (hl:List.length s1≤maxLen):∀(es:List UInt8) (i:Nat) (k:Nat),s1.drop i=es→es.length<k→lp zau k ((i:Int),s1,s2,s3,s4)=yA es:=by
 intro es
 induction es with
 | nil =>
  intro i k h hk
  obtain⟨k,rfl⟩:∃ k',k=k'+1:=⟨k - 1,by omega⟩
  rw[zc]
  generalize lp zau k=rec
  unfold zau yA
  simp only[zk (zg h),cond_false]
 | cons e es ih =>
  intro i k h hk
  obtain⟨k,rfl⟩:∃ k',k=k'+1:=⟨k - 1,by omega⟩
  rw[zc]
  have hi:=ze h
  have hk2:es.length<k:=Nat.lt_of_succ_lt_succ hk
  have key:=fun (_:Unit)=>ih (i+1) k (za h) hk2
  generalize lp zau k=rec at key ⊢
  unfold zau yA
  simp only[zn hi,cond_true,zp,zb h,Option.bind_some,zo hi hl,key ()]
theorem zhD (s1:Str) (s2:Int) (s3:Int) (s4:Int) (hl:List.length s1≤maxLen):lp zau zi (0,s1,s2,s3,s4)=yA s1 :=
 ziY s1 s2 s3 s4 hl s1 0 zi rfl (Nat.lt_of_le_of_lt hl (by decide))
def zaH (s1:Str):List zq→Nat→Option (Unit⊕Int)
 | [],i=>some (Sum.inl ())
 | e::es,i =>
  cond (e.1==s1)
  (some (Sum.inr (i:Int)))
  (zaH s1 es (i+1))
theorem zkN (s0:jS) (s1:Str) (hl:List.length s0≤maxLen):∀(es:List zq) (i:Nat) (k:Nat),s0.drop i=es→es.length<k→lp zbI k (s0,s1,(i:Int))=zaH s1 es i:=by
 intro es
 induction es with
 | nil =>
  intro i k h hk
  obtain⟨k,rfl⟩:∃ k',k=k'+1:=⟨k - 1,by omega⟩
  rw[zc]
  generalize lp zbI k=rec
  unfold zbI zaH
  simp only[zk (zg h),cond_false]
 | cons e es ih =>
  intro i k h hk
  obtain⟨k,rfl⟩:∃ k',k=k'+1:=⟨k - 1,by omega⟩
  rw[zc]
  have hi:=ze h
  have hk2:es.length<k:=Nat.lt_of_succ_lt_succ hk
  have key:=fun (_:Unit)=>ih (i+1) k (za h) hk2
  generalize lp zbI k=rec at key ⊢
  unfold zbI zaH
  simp only[zn hi,cond_true,zp,zb h,Option.bind_some,zo hi hl,key ()]
theorem zjs (s0:jS) (s1:Str) (hl:List.length s0≤maxLen):lp zbI zi (s0,s1,0)=zaH s1 s0 0 :=
 zkN s0 s1 hl s0 0 zi rfl (Nat.lt_of_le_of_lt hl (by decide))
def zap (s0:jS):List zq→Nat→Option (Unit⊕Bool)
 | [],i=>some (Sum.inl ())
 | e::es,i =>
  (zez e.1 e.2.1 e.2.2.1 e.2.2.2).bind fun r7 =>
  cond (!r7)
  (some (Sum.inr false))
  ((zig s0 e.1).bind fun r9 =>
   cond (r9 != (i:Int))
   (some (Sum.inr false))
   (zap s0 es (i+1)))
theorem zix (s0:jS) (hl:List.length s0≤maxLen):∀(es:List zq) (i:Nat) (k:Nat),s0.drop i=es→es.length<k→lp zaM k (s0,(i:Int))=zap s0 es i:=by
 intro es
 induction es with
 | nil =>
  intro i k h hk
  obtain⟨k,rfl⟩:∃ k',k=k'+1:=⟨k - 1,by omega⟩
  rw[zc]
  generalize lp zaM k=rec
  unfold zaM zap
  simp only[zk (zg h),cond_false]
 | cons e es ih =>
  intro i k h hk
  obtain⟨k,rfl⟩:∃ k',k=k'+1:=⟨k - 1,by omega⟩
  rw[zc]
  have hi:=ze h
  have hk2:es.length<k:=Nat.lt_of_succ_lt_succ hk
  have key:=fun (_:Unit)=>ih (i+1) k (za h) hk2
  generalize lp zaM k=rec at key ⊢
  unfold zaM zap
  simp only[zn hi,cond_true,zp,zb h,Option.bind_some,zo hi hl,key ()]
def zab:List zl→jR→Option jR
 | [],s4=>some s4
 | e::es,s4 =>
  cond (qi (List.length s4+List.length ([e.2]:List jI)) 24)
  (zab es (s4++([e.2]:List jI)))
  (none)
theorem zkL (s1:jQ) (s2:jR) (s3:jQ) (hl:List.length s3≤maxLen):∀(es:List zl) (i:Nat) (k:Nat) (s4:jR),s3.drop i=es→es.length<k→lp zbB k ((i:Int),s1,s2,s3,s4)=zab es s4:=by
 intro es
 induction es with
 | nil =>
  intro i k s4 h hk
  obtain⟨k,rfl⟩:∃ k',k=k'+1:=⟨k - 1,by omega⟩
  rw[zc]
  generalize lp zbB k=rec
  unfold zbB zab
  simp only[zk (zg h),cond_false]
 | cons e es ih =>
  intro i k s4 h hk
  obtain⟨k,rfl⟩:∃ k',k=k'+1:=⟨k - 1,by omega⟩
  rw[zc]
  have hi:=ze h
  have hk2:es.length<k:=Nat.lt_of_succ_lt_succ hk
  have key:=fun s4=>ih (i+1) k s4 (za h) hk2
  generalize lp zbB k=rec at key ⊢
  unfold zbB zab
  simp only[zn hi,cond_true,zp,zb h,Option.bind_some,zo hi hl,key]
theorem zjT (s1:jQ) (s2:jR) (s3:jQ) (s4:jR) (hl:List.length s3≤maxLen):lp zbB zi (0,s1,s2,s3,s4)=zab s3 s4 :=
 zkL s1 s2 s3 hl s3 0 zi s4 rfl (Nat.lt_of_le_of_lt hl (by decide))
def zaf:List jI→jR→Option jR
 | [],s4=>some s4
 | e::es,s4 =>
  cond (qi (List.length s4+List.length ([e]:List jI)) 24)
  (zaf es (s4++([e]:List jI)))
  (none)
theorem zj0 (s1:jQ) (s2:jR) (s3:jQ) (hl:List.length s2≤maxLen):∀(es:List jI) (i:Nat) (k:Nat) (s4:jR),s2.drop i=es→es.length<k→lp zbv k ((i:Int),s1,s2,s3,s4)=zaf es s4:=by
 intro es
 induction es with
 | nil =>
  intro i k s4 h hk
  obtain⟨k,rfl⟩:∃ k',k=k'+1:=⟨k - 1,by omega⟩
  rw[zc]
  generalize lp zbv k=rec
  unfold zbv zaf
  simp only[zk (zg h),cond_false]
 | cons e es ih =>
  intro i k s4 h hk
  obtain⟨k,rfl⟩:∃ k',k=k'+1:=⟨k - 1,by omega⟩
  rw[zc]
  have hi:=ze h
  have hk2:es.length<k:=Nat.lt_of_succ_lt_succ hk
  have key:=fun s4=>ih (i+1) k s4 (za h) hk2
  generalize lp zbv k=rec at key ⊢
  unfold zbv zaf
  simp only[zn hi,cond_true,zp,zb h,Option.bind_some,zo hi hl,key]
theorem zjn (s1:jQ) (s2:jR) (s3:jQ) (s4:jR) (hl:List.length s2≤maxLen):lp zbv zi (0,s1,s2,s3,s4)=zaf s2 s4 :=
 zj0 s1 s2 s3 hl s2 0 zi s4 rfl (Nat.lt_of_le_of_lt hl (by decide))
def q9:List zl→jR→Option jR
 | [],s4=>some s4
 | e::es,s4 =>
  cond (qi (List.length s4+List.length ([e.2]:List jI)) 24)
  (q9 es (s4++([e.2]:List jI)))
  (none)
theorem zj9 (s1:jQ) (s2:jR) (s3:jQ) (hl:List.length s1≤maxLen):∀(es:List zl) (i:Nat) (k:Nat) (s4:jR),s1.drop i=es→es.length<k→lp zbu k ((i:Int),s1,s2,s3,s4)=q9 es s4:=by
 intro es
 induction es with
 | nil =>
  intro i k s4 h hk
  obtain⟨k,rfl⟩:∃ k',k=k'+1:=⟨k - 1,by omega⟩
  rw[zc]
  generalize lp zbu k=rec
  unfold zbu q9
  simp only[zk (zg h),cond_false]
 | cons e es ih =>
  intro i k s4 h hk
  obtain⟨k,rfl⟩:∃ k',k=k'+1:=⟨k - 1,by omega⟩
  rw[zc]
  have hi:=ze h
  have hk2:es.length<k:=Nat.lt_of_succ_lt_succ hk
  have key:=fun s4=>ih (i+1) k s4 (za h) hk2
  generalize lp zbu k=rec at key ⊢
  unfold zbu q9
  simp only[zn hi,cond_true,zp,zb h,Option.bind_some,zo hi hl,key]
theorem zjQ (s1:jQ) (s2:jR) (s3:jQ) (s4:jR) (hl:List.length s1≤maxLen):lp zbu zi (0,s1,s2,s3,s4)=q9 s1 s4 :=
 zj9 s1 s2 s3 hl s1 0 zi s4 rfl (Nat.lt_of_le_of_lt hl (by decide))
def zax:List jI→Int→Option Int
 | [],s1=>some s1
 | e::es,s1 =>
  zax es (IntKind.wrap .i64 (s1+((List.length e:Nat):Int)))
theorem zlM (s0:jR) (hl:List.length s0≤maxLen):∀(es:List jI) (i:Nat) (k:Nat) (s1:Int),s0.drop i=es→es.length<k→lp zcl k (s0,s1,(i:Int))=zax es s1:=by
 intro es
 induction es with
 | nil =>
  intro i k s1 h hk
  obtain⟨k,rfl⟩:∃ k',k=k'+1:=⟨k - 1,by omega⟩
  rw[zc]
  generalize lp zcl k=rec
  unfold zcl zax
  simp only[zk (zg h),cond_false]
 | cons e es ih =>
  intro i k s1 h hk
  obtain⟨k,rfl⟩:∃ k',k=k'+1:=⟨k - 1,by omega⟩
  rw[zc]
  have hi:=ze h
  have hk2:es.length<k:=Nat.lt_of_succ_lt_succ hk
  have key:=fun s1=>ih (i+1) k s1 (za h) hk2
  generalize lp zcl k=rec at key ⊢
  unfold zcl zax
  simp only[zn hi,cond_true,zp,zb h,Option.bind_some,zo hi hl,key]
theorem zj4 (s0:jR) (s1:Int) (hl:List.length s0≤maxLen):lp zcl zi (s0,s1,0)=zax s0 s1 :=
 zlM s0 hl s0 0 zi s1 rfl (Nat.lt_of_le_of_lt hl (by decide))
def zaz (s0:jS) (s3:jR):List jI→Option (Unit⊕Bool)
 | []=>some (Sum.inl ())
 | e::es =>
  (zcX s0 e).bind fun r19 =>
  cond (decide (r19<0))
  (some (Sum.inr false))
  ((gx s3 0).bind fun e20 =>
   (zcX s0 e20).bind fun r21 =>
   cond (r19 != r21)
   (some (Sum.inr false))
   (zaz s0 s3 es))
theorem zk8 (s0:jS) (s2:jQ) (s3:jR) (s4:jQ) (hl:List.length s3≤maxLen):∀(es:List jI) (i:Nat) (k:Nat),s3.drop i=es→es.length<k→lp zca k (s0,(i:Int),s2,s3,s4)=zaz s0 s3 es:=by
 intro es
 induction es with
 | nil =>
  intro i k h hk
  obtain⟨k,rfl⟩:∃ k',k=k'+1:=⟨k - 1,by omega⟩
  rw[zc]
  generalize lp zca k=rec
  unfold zca zaz
  simp only[zk (zg h),cond_false]
 | cons e es ih =>
  intro i k h hk
  obtain⟨k,rfl⟩:∃ k',k=k'+1:=⟨k - 1,by omega⟩
  rw[zc]
  have hi:=ze h
  have hk2:es.length<k:=Nat.lt_of_succ_lt_succ hk
  have key:=fun (_:Unit)=>ih (i+1) k (za h) hk2
  generalize lp zca k=rec at key ⊢
  unfold zca zaz
  simp only[zn hi,cond_true,zp,zb h,Option.bind_some,zo hi hl,key ()]
theorem zkG (s0:jS) (s2:jQ) (s3:jR) (s4:jQ) (hl:List.length s3≤maxLen):lp zca zi (s0,0,s2,s3,s4)=zaz s0 s3 s3 :=
 zk8 s0 s2 s3 s4 hl s3 0 zi rfl (Nat.lt_of_le_of_lt hl (by decide))
def za8 (s0:jS):List zl→Option (Unit⊕Bool)
 | []=>some (Sum.inl ())
 | e::es =>
  (zcN s0 e.1 e.2).bind fun r11 =>
  cond (!r11)
  (some (Sum.inr false))
  (za8 s0 es)
theorem zlz (s0:jS) (s2:jQ) (s3:jR) (s4:jQ) (hl:List.length s4≤maxLen):∀(es:List zl) (i:Nat) (k:Nat),s4.drop i=es→es.length<k→lp zcd k (s0,(i:Int),s2,s3,s4)=za8 s0 es:=by
 intro es
 induction es with
 | nil =>
  intro i k h hk
  obtain⟨k,rfl⟩:∃ k',k=k'+1:=⟨k - 1,by omega⟩
  rw[zc]
  generalize lp zcd k=rec
  unfold zcd za8
  simp only[zk (zg h),cond_false]
 | cons e es ih =>
  intro i k h hk
  obtain⟨k,rfl⟩:∃ k',k=k'+1:=⟨k - 1,by omega⟩
  rw[zc]
  have hi:=ze h
  have hk2:es.length<k:=Nat.lt_of_succ_lt_succ hk
  have key:=fun (_:Unit)=>ih (i+1) k (za h) hk2
  generalize lp zcd k=rec at key ⊢
  unfold zcd za8
  simp only[zn hi,cond_true,zp,zb h,Option.bind_some,zo hi hl,key ()]
theorem zkh (s0:jS) (s2:jQ) (s3:jR) (s4:jQ) (hl:List.length s4≤maxLen):lp zcd zi (s0,0,s2,s3,s4)=za8 s0 s4 :=
 zlz s0 s2 s3 s4 hl s4 0 zi rfl (Nat.lt_of_le_of_lt hl (by decide))
def za6 (s0:jS):List zl→Option (Unit⊕Bool)
 | []=>some (Sum.inl ())
 | e::es =>
  (zcN s0 e.1 e.2).bind fun r5 =>
  cond (!r5)
  (some (Sum.inr false))
  (za6 s0 es)
theorem zlg (s0:jS) (s2:jQ) (s3:jR) (s4:jQ) (hl:List.length s2≤maxLen):∀(es:List zl) (i:Nat) (k:Nat),s2.drop i=es→es.length<k→lp zci k (s0,(i:Int),s2,s3,s4)=za6 s0 es:=by
 intro es
 induction es with
 | nil =>
  intro i k h hk
  obtain⟨k,rfl⟩:∃ k',k=k'+1:=⟨k - 1,by omega⟩
  rw[zc]
  generalize lp zci k=rec
  unfold zci za6
  simp only[zk (zg h),cond_false]
 | cons e es ih =>
  intro i k h hk
  obtain⟨k,rfl⟩:∃ k',k=k'+1:=⟨k - 1,by omega⟩
  rw[zc]
  have hi:=ze h
  have hk2:es.length<k:=Nat.lt_of_succ_lt_succ hk
  have key:=fun (_:Unit)=>ih (i+1) k (za h) hk2
  generalize lp zci k=rec at key ⊢
  unfold zci za6
  simp only[zn hi,cond_true,zp,zb h,Option.bind_some,zo hi hl,key ()]
theorem zj7 (s0:jS) (s2:jQ) (s3:jR) (s4:jQ) (hl:List.length s2≤maxLen):lp zci zi (s0,0,s2,s3,s4)=za6 s0 s2 :=
 zlg s0 s2 s3 s4 hl s2 0 zi rfl (Nat.lt_of_le_of_lt hl (by decide))
end Go.Abs.Q
namespace Go.Abs.Q
open Go Go.Abs
section
theorem zkw (n:Int):zfx n=some (zkx n):=zeb n
theorem ztX (es:List UInt8):yA es=some (cond (es.all zuW) (.inl ()) (.inr false)):=by
 have:∀ es,yA es=z5 es:=by
  intro es
  induction es with
  | nil=>rfl
  | cons e es ih =>
   unfold yA z5
   rw[zkw,zeb,ih]
 rw[this,zqa]
theorem zoe (e:zq):zez e.1 e.2.1 e.2.2.1 e.2.2.2=some (zw0 e):=by
 obtain⟨s,a,b,c⟩:=e
 unfold zez zw0 zhU
 dsimp only
 cases s with
 | nil=>rfl
 | cons x r =>
  rw[decide_eq_false (show ¬(((List.length (x::r):Nat):Int)<1) by rw[List.length_cons]; omega),cond_false]
  by_cases h:(x::r).length≤8
  ·rw[decide_eq_false (show ¬(((List.length (x::r):Nat):Int)>8) by omega),cond_false,ql,List.getElem?_cons_zero,Option.bind_some,zkw,Option.bind_some,zhD _ _ _ _ (by unfold maxLen; omega),ztX,decide_eq_true h]
   dsimp only
   cases zkx ((UInt8.toNat x:Nat):Int) with
   | false=>rfl
   | true =>
    cases (x::r).all zuW with
    | false=>rfl
    | true =>
     simp only[Bool.not_true,cond_false,cond_true,Option.bind_some,zcj,Bool.true_and,Bool.and_true,ge_iff_le]
     cases decide (0≤a)<;>simp only[cond_true,cond_false,Bool.true_and,Bool.false_and]
     cases decide (a≤2)<;>simp only[cond_true,cond_false,Bool.true_and,Bool.false_and]
     cases decide (0≤b)<;>simp only[cond_true,cond_false,Bool.true_and,Bool.false_and]
     cases decide (b≤3)<;>simp only[cond_true,cond_false,Bool.true_and,Bool.false_and]
     cases decide (1≤c)<;>simp only[cond_true,cond_false,Bool.true_and,Bool.false_and]
  ·rw[decide_eq_true (show (((List.length (x::r):Nat):Int)>8) by omega),decide_eq_false h]
   rfl
theorem zre (a0:List zq) (nm:Str) (h:a0.length≤maxLen):zig a0 nm=some (zAj (a0.findIdx? (fun e=>e.1==nm))):=by
 have:∀ es i,zaH nm es i=qk nm es i:=by
  intro es
  induction es with
  | nil=>intro i; rfl
  | cons e es ih=>intro i; unfold zaH qk; rw[ih]
 unfold zig
 rw[zjs _ _ h,this,zz3]
 cases a0.findIdx? (fun e=>e.1==nm) with
 | none=>rfl
 | some j=>simp [yg,zAj]
theorem zE6 (a0:List zq) (h:a0.length≤maxLen) (es:List zq) (i:Nat):zap a0 es i=some (cond (zlF a0 es i) (.inl ()) (.inr false)):=by
 induction es generalizing i with
 | nil=>rfl
 | cons e es ih =>
  unfold zap zlF
  rw[zoe,Option.bind_some,zre _ _ h,Option.bind_some,ih,bne]
  cases zw0 e with
  | false=>rfl
  | true =>
   cases (zAj (a0.findIdx? (fun d=>d.1==e.1))==(i:Int)) with
   | false=>rfl
   | true=>simp
theorem zhX (a0:List zq):zdT a0=some (zds a0):=by
 unfold zdT zds
 cases a0 with
 | nil=>rfl
 | cons e es =>
  rw[decide_eq_false (show ¬(((List.length (e::es):Nat):Int)<1) by rw[List.length_cons]; omega),cond_false]
  by_cases h:(e::es).length≤20
  ·have h1:¬(((List.length (e::es):Nat):Int)>20):=by omega
   have hm:(e::es).length≤maxLen:=by unfold maxLen; omega
   rw[decide_eq_false h1,cond_false,ql,List.getElem?_cons_zero,Option.bind_some,decide_eq_true h]
   show cond (!(eqQ e)) _ _=some (true&&eqQ e&&zlF (e::es) es 1)
   cases eqQ e with
   | false=>rfl
   | true =>
    have:=zix (e::es) hm es 1 zi rfl (by simp [zi]; simp at h; omega)
    simp only[Bool.not_true,cond_false]
    rw[show ((1:Int))=((1:Nat):Int) from rfl,this,zE6 _ hm]
    cases zlF (e::es) es 1<;>rfl
  ·have h1:((List.length (e::es):Nat):Int)>20:=by omega
   rw[decide_eq_true h1,decide_eq_false h]
   rfl
theorem zxm {a0:List zq} (h:SignOk a0) (a1:List Int) (hl:a1.length≤1099511627776):∀(m i n:Nat) (k:Nat),a1.length - i=m→i≤a1.length→n≤1+3*i→m+1<k →
  lp zcQ k (a0,a1,(n:Int),(i:Int))=some (match sk a0 n (a1.drop i) with
   | some j=>.inl ((i+j:Nat):Int)
   | none=>.inr (-1)):=by
 intro m
 induction m with
 | zero =>
  intro i n k hm hi hni hk
  obtain⟨k,rfl⟩:∃ k',k=k'+1:=⟨k - 1,by omega⟩
  rw[zc]
  generalize lp zcQ k=rec
  unfold zcQ
  rw[List.drop_eq_nil_iff.2 (show a1.length≤i by omega)]
  cases n with
  | zero=>simp [sk]
  | succ n =>
   simp only[decide_eq_true (show ((n+1:Nat):Int)>0 by omega),cond_true,decide_eq_true (show ((i:Int)≥((List.length a1:Nat):Int)) by omega)]
   rfl
 | succ m ih =>
  intro i n k hm hi hni hk
  obtain⟨k,rfl⟩:∃ k',k=k'+1:=⟨k - 1,by omega⟩
  have hi:i<a1.length:=by omega
  rw[zc]
  have key:=fun n' h1=>ih (i+1) n' k (by omega) (by omega) h1 (by omega)
  generalize lp zcQ k=rec at key ⊢
  unfold zcQ
  cases n with
  | zero=>simp [sk]
  | succ n =>
   have e1:IntKind.wrap .i64 (((n+1:Nat):Int) - 1)=(n:Int):=by rw[zE]<;>omega
   have e3:IntKind.wrap .i64 ((i:Int)+1)=((i+1:Nat):Int):=by rw[zE]<;>omega
   simp only[decide_eq_true (show ((n+1:Nat):Int)>0 by omega),cond_true,decide_eq_false (show ¬((i:Int)≥((List.length a1:Nat):Int)) by omega),cond_false,zp,List.getElem?_eq_getElem hi,Option.bind_some,List.drop_eq_getElem_cons hi,sk,e1,e3]
   generalize a1[i]=x
   unfold zcM
   by_cases h0:x<0
   ·rw[decide_eq_true h0,cond_true]
    by_cases h1 : -24≤x
    ·rw[decide_eq_false (show ¬(x < -24) by omega),cond_false,decide_eq_false (show ¬(x≥((List.length a0:Nat):Int)) by omega),cond_false,decide_eq_false (show ¬(x≥0) by omega),cond_false,decide_eq_true h1,cond_true,key n (by omega)]
     dsimp only
     rw[Nat.add_zero]
     cases sk a0 n (a1.drop (i+1)) with
     | none=>rfl
     | some j=>simp only[Option.map_some]; rw[show i+1+j=i+(j+1) from by omega]
    ·rw[decide_eq_true (show x < -24 by omega),decide_eq_false h1]; rfl
   ·rw[decide_eq_false h0,decide_eq_false (show ¬(x < -24) by omega),cond_false,cond_false]
    by_cases h1:x≥((List.length a0:Nat):Int)
    ·rw[decide_eq_true h1,cond_true,List.getElem?_eq_none (by omega)]
    ·obtain⟨e,he1,he2,he3⟩:=zu5 (xs:=a0) (i:=x) (by omega) (by omega)
     have hat:=h.at he3
     rw[decide_eq_false h1,cond_false,decide_eq_true (show x≥0 by omega),cond_true,he1,Option.bind_some,he3]
     dsimp only
     cases hk0:(e.2.1==0) with
     | true=>rfl
     | false =>
      have e2:IntKind.wrap .i64 ((n:Int)+e.2.2.1)=((n+e.2.2.1.toNat:Nat):Int):=by rw[zE]<;>omega
      simp only[cond_false,Option.bind_some,e2]
      rw[key _ (by omega)]
      cases sk a0 (n+e.2.2.1.toNat) (a1.drop (i+1)) with
      | none=>rfl
      | some j=>simp only[Option.map_some]; rw[show i+1+j=i+(j+1) from by omega]
def zzw (o:Option Nat):Int:=match o with
 | some k=>(k:Int)
 | none => -1
theorem zrF {a0:List zq} (h:SignOk a0) (a1:List Int) (hl:a1.length≤1099511627776) (i:Nat) (hi:i≤a1.length):zmv a0 a1 (i:Int)=some (zzw ((sk a0 1 (a1.drop i)).map (i + ·))):=by
 unfold zmv
 rw[show (1:Int)=((1:Nat):Int) from rfl,zxm h a1 hl (a1.length - i) i 1 zi rfl hi (by omega) (by unfold zi; omega)]
 cases sk a0 1 (a1.drop i) with
 | none=>rfl
 | some j=>rfl
theorem zrZ {a0:List zq} (h:SignOk a0) (a1:List Int) (hl:a1.length≤1099511627776):∀(m i n k:Nat),a1.length - i=m→i≤a1.length→n≤i→m<k →
  lp zdc k (a0,a1,(n:Int),(i:Int))=some (match zlD a0 (a1.drop i) with
   | some ps=>.inl ((n+ps.length:Nat):Int)
   | none=>.inr (-1)):=by
 intro m
 induction m using Nat.strongRecOn with
 | _ m ih =>
  intro i n k hm hi hn hk
  obtain⟨k,rfl⟩:∃ k',k=k'+1:=⟨k - 1,by omega⟩
  rw[zc]
  have key:=fun j n' (h1:i<j) h2 h3=>ih (a1.length - j) (by omega) j n' k rfl h2 h3 (by omega)
  generalize lp zdc k=rec at key ⊢
  unfold zdc
  by_cases he:i=a1.length
  ·subst he
   simp [zmw]
  ·have hlt:i<a1.length:=by omega
   have hne:a1.drop i≠[]:=by simp; omega
   simp only[zn hlt,cond_true,zrF h a1 hl i hi,Option.bind_some,zdP hne]
   cases hs:sk a0 1 (a1.drop i) with
   | none=>rfl
   | some j =>
    have hj:=znc hs
    rw[List.length_drop] at hj
    have e1:IntKind.wrap .i64 ((n:Int)+1)=((n+1:Nat):Int):=by rw[zE]<;>omega
    rw[show zzw (Option.map (fun x=>i+x) (some j))=((i+j:Nat):Int) from rfl,decide_eq_false (show ¬(((i+j:Nat):Int)<0) by omega),cond_false,e1]
    rw[key (i+j) (n+1) (by omega) (by omega) (by omega)]
    dsimp only
    rw[List.drop_drop]
    cases zlD a0 (a1.drop (i+j)) with
    | none=>rfl
    | some ps=>simp only[Option.map_some,List.length_cons]; rw[show n+1+ps.length=n+(ps.length+1) from by omega]
theorem zgP {a0:List zq} (hs:zds a0=true) (a1:List Int):zcX a0 a1=some (zzw (zhm a0 a1)):=by
 have h:=zdM hs
 unfold zcX zhm zb5
 rw[hs,Bool.true_and]
 by_cases hl:a1.length≤48
 ·have:=zrZ h a1 (by omega) a1.length 0 0 zi rfl (Nat.zero_le _) (Nat.le_refl _) (by unfold zi; omega)
  rw[show ((0:Nat):Int)=0 from rfl,List.drop_zero] at this
  rw[decide_eq_false (show ¬(((List.length a1:Nat):Int)>48) by omega),decide_eq_true hl,cond_false,cond_true,this]
  cases zlD a0 a1 with
  | none=>rfl
  | some ps=>simp [yg,zzw]
 ·rw[decide_eq_true (show (((List.length a1:Nat):Int)>48) by omega),decide_eq_false hl]; rfl
theorem znY {a0:List zq} (hs:zds a0=true) (xs:List Int):zgS a0 xs=some (zaS a0 xs):=by
 have h:=zdM hs
 unfold zgS zaS
 cases xs with
 | nil=>rfl
 | cons x r =>
  simp only[decide_eq_true (show (((x::r).length:Nat):Int)>0 by simp<;>omega),cond_true,ql,List.getElem?_cons_zero,Option.bind_some]
  by_cases h0:x<0
  ·rw[decide_eq_false (show ¬(x≥0) by omega)]; rfl
  ·rw[decide_eq_true (show x≥0 by omega),cond_true,Bool.true_and]
   by_cases h1:x≥((List.length a0:Nat):Int)
   ·rw[decide_eq_false (show ¬(x<((List.length a0:Nat):Int)) by omega),List.getElem?_eq_none (by omega)]; rfl
   ·obtain⟨e,he1,he2,he3⟩:=zu5 (xs:=a0) (i:=x) (by omega) (by omega)
    have hat:=h.at he3
    simp only[decide_eq_true (show x<((List.length a0:Nat):Int) by omega),cond_true,he1,he3,Option.bind_some]
    cases hk:(e.2.1==0) with
    | false=>rfl
    | true =>
     simp only[cond_true,zcA,Option.bind_some,zgP hs,Bool.true_and]
     unfold zhm
     cases zb5 a0 r with
     | none =>
      have:((-1:Int)==e.2.2.1)=false:=by simp; omega
      simp [zzw,this]
     | some ps=>rfl
theorem zuB {a0:List zq} {xs:List Int} (h:zaS a0 xs=true):zds a0=true:=by
 obtain⟨_,_,_,_,_,_,_,_,_,hs,_⟩:=ziF h
 exact hs
theorem znV (a0:List zq) (b:Bool) (xs:List Int):zcN a0 b xs=some (zaS a0 xs):=by
 unfold zcN
 rw[zhX,Option.bind_some]
 cases hs:zds a0 with
 | true=>rw[cond_true,znY hs]; rfl
 | false =>
  cases ha:zaS a0 xs with
  | false=>rfl
  | true=>rw[zuB ha] at hs; cases hs
theorem zw8 (s:List zl):(es:List zl)→(acc:List jI)→acc.length+es.length≤1000000→zab es acc=some (acc++es.map (·.2))∧q9 es acc=some (acc++es.map (·.2))
 | [],acc,_=>⟨by simp [zab],by simp [q9]⟩
 | e::es,acc,h=>by
  rw[List.length_cons] at h
  obtain⟨k1,k2⟩:=zw8 s es (acc++[e.2]) (by simp; omega)
  unfold zab q9
  rw[zD (show (acc.length+[e.2].length)*24≤140737488351232 by simp; omega),cond_true,cond_true,k1,k2]
  simp
theorem zBS:(es:List jI)→(acc:List jI)→acc.length+es.length≤1000000→zaf es acc=some (acc++es)
 | [],acc,_=>by simp [zaf]
 | e::es,acc,h=>by
  rw[List.length_cons] at h
  have k1:=zBS es (acc++[e]) (by simp; omega)
  unfold zaf
  rw[zD (show (acc.length+[e].length)*24≤140737488351232 by simp; omega),cond_true,k1]
  simp
theorem ziq (a1:List zl) (a2:List jI) (a3:List zl) (h1:a1.length≤1000) (h2:a2.length≤1000) (h3:a3.length≤1000):zf6 a1 a2 a3=some (a1.map (·.2)++a2++a3.map (·.2)):=by
 unfold zf6
 rw[zjQ _ _ _ _ (by unfold maxLen; omega),(zw8 [] a1 [] (by simp; omega)).2,Option.bind_some,zjn _ _ _ _ (by unfold maxLen; omega),zBS a2 _ (by simp; omega),Option.bind_some,
  zjT _ _ _ _ (by unfold maxLen; omega),(zw8 [] a3 _ (by simp; omega)).1]
 simp
theorem zze:(es:List jI)→(t:Nat)→t+zv es≤1000000000000→zax es (t:Int)=some ((t+zv es:Nat):Int)
 | [],t,_=>by simp [zax,zv]
 | e::es,t,h=>by
  have hs:zv (e::es)=e.length+zv es:=by simp [zv]
  rw[hs] at h
  unfold zax
  have e1:IntKind.wrap .i64 ((t:Int)+((List.length e:Nat):Int))=((t+e.length:Nat):Int):=by rw[zE]<;>omega
  rw[e1,zze es (t+e.length) (by omega),hs]
  congr 2
  omega
theorem zpD (a0:List zq):(es:List zl)→za6 a0 es=some (cond (zdV a0 es) (.inl ()) (.inr false))∧za8 a0 es=some (cond (zdV a0 es) (.inl ()) (.inr false))
 | []=>⟨rfl,rfl⟩
 | e::es=>by
  obtain⟨k1,k2⟩:=zpD a0 es
  unfold za6 za8
  rw[znV,k1,k2]
  unfold zdV
  rw[List.all_cons]
  cases zaS a0 e.2<;>exact ⟨rfl,rfl⟩
theorem zta {a0:List zq} (hs:zds a0=true) (s3:List jI) (r:List Int) (h0:s3[0]? = some r):(es:List jI)→zaz a0 s3 es=some (cond (es.all fun q=>(zhm a0 q).isSome&&(zhm a0 q==zhm a0 r)) (.inl ()) (.inr false))
 | []=>rfl
 | e::es=>by
  unfold zaz
  rw[zgP hs,Option.bind_some,ql,h0,Option.bind_some,zgP hs,Option.bind_some,zta hs s3 r h0 es,List.all_cons]
  cases h1:zhm a0 e with
  | none=>rfl
  | some n =>
   rw[show zzw (some n)=(n:Int) from rfl,decide_eq_false (show ¬((n:Int)<0) by omega),cond_false]
   cases h2:zhm a0 r with
   | none =>
    rw[show (((n:Int)) != zzw none)=true from by simp [zzw]<;>omega]
    rfl
   | some k =>
    by_cases hn:n=k
    ·subst hn; simp [zzw]
    ·have e1:(((n:Int)) != zzw (some k))=true:=by simp [zzw]; omega
     have e2:(some n==some k)=false:=by simpa using hn
     rw[e1,e2]; simp
theorem zuO {a0:List zq} (r:List Int) (rs:List jI):((r::rs).all fun q=>(zhm a0 q).isSome&&(zhm a0 q==zhm a0 r))=zfP a0 (r::rs):=by
 unfold zfP
 dsimp only
 cases hr:zhm a0 r with
 | none=>simp [hr]
 | some n =>
  rw[List.all_cons,hr]
  simp only[Option.isSome_some,beq_self_eq_true,Bool.true_and]
  congr 1
  funext q
  cases zhm a0 q<;>simp
theorem zgE (a0:List zq) (a1:List zl) (a2:List jI) (a3:List zl):ziG a0 a1 a2 a3=some (zfs a0 a1 a2 a3):=by
 unfold ziG zfs
 rw[zhX,Option.bind_some]
 cases hs:zds a0 with
 | false=>rfl
 | true =>
  by_cases h1:a1.length≤5
  ·by_cases h3:a3.length≤3
   ·by_cases h2:a2.length≤3
    ·simp only[Bool.not_true,cond_false,decide_eq_false (show ¬(((List.length a1:Nat):Int)>5) by omega),decide_eq_false (show ¬(((List.length a2:Nat):Int)>3) by omega),decide_eq_false (show ¬(((List.length a3:Nat):Int)>3) by omega),
      decide_eq_true h1,decide_eq_true h2,decide_eq_true h3,Bool.true_and]
     rw[zj7 _ _ _ _ (by unfold maxLen; omega),(zpD a0 a1).1]
     cases hb1:zdV a0 a1 with
     | false=>rfl
     | true =>
      simp only[cond_true,Option.bind_some,zcj,Bool.true_and]
      rw[zkh _ _ _ _ (by unfold maxLen; omega),(zpD a0 a3).2]
      cases hb3:zdV a0 a3 with
      | false=>simp [yg]
      | true =>
       simp only[cond_true,Option.bind_some,zcj,Bool.and_true]
       rw[zkG _ _ _ _ (by unfold maxLen; omega)]
       have hrows:zaz a0 a2 a2=some (cond (zfP a0 a2) (.inl ()) (.inr false)):=by
        cases a2 with
        | nil=>rfl
        | cons r rs=>rw[zta hs (r::rs) r rfl (r::rs),zuO]
       rw[hrows]
       cases hb2:zfP a0 a2 with
       | false=>rfl
       | true =>
        have s1:=zkj a1 hb1
        have s2:=ztz a2 hb2
        have s3:=zkj a3 hb3
        have hsum:zv (a1.map (·.2)++a2++a3.map (·.2))=zv (a1.map (·.2))+zv a2+zv (a3.map (·.2)):=by simp [zv]; omega
        simp only[cond_true,Option.bind_some,zcj,ziq a1 a2 a3 (by omega) (by omega) (by omega),Bool.true_and]
        rw[zj4 _ _ (by simp only[List.length_append,List.length_map]; unfold maxLen; omega),show (0:Int)=((0:Nat):Int) from rfl,zze _ 0 (by rw[hsum]; omega),Option.bind_some,Nat.zero_add,hsum]
        simp only[Option.some.injEq,decide_eq_decide]
        omega
    ·simp only[Bool.not_true,cond_false,decide_eq_false (show ¬(((List.length a1:Nat):Int)>5) by omega),decide_eq_false (show ¬(((List.length a3:Nat):Int)>3) by omega),decide_eq_true (show (((List.length a2:Nat):Int)>3) by omega),decide_eq_false h2,cond_true,Bool.and_false,Bool.false_and]
   ·simp only[Bool.not_true,cond_false,decide_eq_false (show ¬(((List.length a1:Nat):Int)>5) by omega),decide_eq_true (show (((List.length a3:Nat):Int)>3) by omega),decide_eq_false h3,cond_true,Bool.and_false,Bool.false_and]
  ·simp only[Bool.not_true,cond_false,decide_eq_true (show (((List.length a1:Nat):Int)>5) by omega),decide_eq_false h1,cond_true,Bool.and_false,Bool.false_and]
end
end Go.Abs.Q
namespace Go.Abs.Q
open Go Go.Abs
section
theorem zqU {a0:List zq} (h:SignOk a0) (a1:List Int) (hl:a1.length≤1099511627776):∀(m i n j k:Nat),a1.length - i=m→i≤a1.length→n≤1+3*i→sk a0 n (a1.drop i)=some j→m+1<k →
  lp zba k (a0,a1,(n:Int),(i:Int))=some ((i+j:Nat):Int):=by
 intro m
 induction m with
 | zero =>
  intro i n j k hm hi hni hs hk
  obtain⟨k,rfl⟩:∃ k',k=k'+1:=⟨k - 1,by omega⟩
  rw[zc]
  generalize lp zba k=rec
  unfold zba
  rw[List.drop_eq_nil_iff.2 (show a1.length≤i by omega)] at hs
  cases n with
  | zero =>
   simp [sk] at hs
   subst hs
   simp
  | succ n=>simp [sk] at hs
 | succ m ih =>
  intro i n j k hm hi hni hs hk
  obtain⟨k,rfl⟩:∃ k',k=k'+1:=⟨k - 1,by omega⟩
  have hi:i<a1.length:=by omega
  rw[zc]
  have key:=fun n' j' h1 h2=>ih (i+1) n' j' k (by omega) (by omega) h1 h2 (by omega)
  generalize lp zba k=rec at key ⊢
  unfold zba
  cases n with
  | zero =>
   simp [sk] at hs
   subst hs
   simp
  | succ n =>
   have e1:IntKind.wrap .i64 (((n+1:Nat):Int) - 1)=(n:Int):=by rw[zE]<;>omega
   have e3:IntKind.wrap .i64 ((i:Int)+1)=((i+1:Nat):Int):=by rw[zE]<;>omega
   rw[List.drop_eq_getElem_cons hi] at hs
   simp only[sk] at hs
   simp only[decide_eq_true (show ((n+1:Nat):Int)>0 by omega),cond_true,zp,List.getElem?_eq_getElem hi,Option.bind_some,e1,e3]
   generalize a1[i]=x at hs
   cases ha:zcM a0 x with
   | none=>rw[ha] at hs; cases hs
   | some q =>
    rw[ha] at hs
    simp only[Option.map_eq_some_iff] at hs
    obtain⟨j',hj',rfl⟩:=hs
    by_cases h0:x<0
    ·obtain⟨_,rfl⟩:=zrh ha h0
     rw[decide_eq_false (show ¬(x≥0) by omega),cond_false,key n j' (by omega) hj']
     rw[show i+1+j'=i+(j'+1) from by omega]
    ·obtain⟨e,he1,he2,he3,rfl⟩:=zqV ha h0
     have hat:=h.at he2
     have e2:IntKind.wrap .i64 ((n:Int)+e.2.2.1)=((n+e.2.2.1.toNat:Nat):Int):=by rw[zE]<;>omega
     rw[decide_eq_true (show x≥0 by omega),cond_true,he1,Option.bind_some,e2,key _ j' (by omega) hj']
     rw[show i+1+j'=i+(j'+1) from by omega]
theorem zn3 {a0:List zq} (h:SignOk a0) (a1:List Int) (hl:a1.length≤1099511627776) (i j:Nat) (hi:i≤a1.length) (hs:sk a0 1 (a1.drop i)=some j):zgW a0 a1 (i:Int)=some ((i+j:Nat):Int):=by
 unfold zgW
 rw[show (1:Int)=((1:Nat):Int) from rfl,zqU h a1 hl (a1.length - i) i 1 j zi rfl hi (by omega) hs (by unfold zi; omega)]
 rfl
theorem zsj {a0:List zq} (h:SignOk a0) (a1:List Int) (hl:a1.length≤1099511627776):∀(m i:Nat) (acc ps:List jI) (k:Nat),a1.length - i=m→i≤a1.length→acc.length≤i→zlD a0 (a1.drop i)=some ps→m<k →
  lp zdl k (a0,a1,(i:Int),acc)=some (acc++ps):=by
 intro m
 induction m using Nat.strongRecOn with
 | _ m ih =>
  intro i acc ps k hm hi hacc hc hk
  obtain⟨k,rfl⟩:∃ k',k=k'+1:=⟨k - 1,by omega⟩
  rw[zc]
  have key:=fun j acc' ps' (h1:i<j) h2 h3 h4=>ih (a1.length - j) (by omega) j acc' ps' k rfl h2 h3 h4 (by omega)
  generalize lp zdl k=rec at key ⊢
  unfold zdl
  by_cases he:i=a1.length
  ·subst he
   rw[List.drop_length,zmw] at hc
   injection hc with hc; subst hc
   simp
  ·have hlt:i<a1.length:=by omega
   have hne:a1.drop i≠[]:=by simp; omega
   rw[zdP hne] at hc
   cases hs:sk a0 1 (a1.drop i) with
   | none=>rw[hs] at hc; cases hc
   | some j =>
    rw[hs] at hc
    simp only[Option.map_eq_some_iff] at hc
    obtain⟨qs,hq,rfl⟩:=hc
    have hj:=znc hs
    rw[List.length_drop] at hj
    have e1:zcv a1 (some (i:Int)) (some ((i+j:Nat):Int))=some ((a1.drop i).take j):=by
     rw[zIJ a1 (by omega) (by omega),show i+j - i=j from by omega]
    simp only[decide_eq_true (show (i:Int)<((List.length a1:Nat):Int) by omega),cond_true,zn3 h a1 hl i j hi hs,Option.bind_some,e1,List.length_singleton,zD (show (acc.length+1)*24≤140737488351232 by omega)]
    rw[List.drop_drop] at hq
    rw[key (i+j) _ qs (by omega) (by omega) (by simp; omega) hq]
    simp
theorem zbP {a0:List zq} (h:SignOk a0) {a1:List Int} (hl:a1.length≤1099511627776) {ps:List jI} (hc:zlD a0 a1=some ps):z1 a0 a1=some ps:=by
 unfold z1
 have:=zsj h a1 hl a1.length 0 [] ps zi rfl (Nat.zero_le _) (Nat.zero_le _) hc (by unfold zi; omega)
 rw[show ((0:Nat):Int)=0 from rfl] at this
 rw[this]
 rfl
end
end Go.Abs.Q
namespace Go.Abs.Q
open Go Go.Abs
section
def InB (a0:List zq) (xs:List Int):Prop:=∀ x∈xs,x<(a0.length:Int)
theorem zg8 {xs:List Int} (h:xs.length≤1000000000):zbJ xs=some xs:=by
 unfold zbJ
 rw[zD (by simp only[List.length_nil]; omega)]; rfl
theorem znx:(es acc:List zl)→(∀ l∈es,l.2.length≤1000000000)→acc.length+es.length≤1000000000→ym es acc=some (acc++es)
 | [],acc,_,_=>by simp [ym]
 | e::es,acc,h,hl=>by
  rw[List.length_cons] at hl
  unfold ym
  rw[zg8 (h e (by simp)),Option.bind_some,zD (by simp only[List.length_cons,List.length_nil]; omega),cond_true,znx es _ (fun l hl=>h l (by simp [hl])) (by simp; omega)]
  simp
theorem zg7 {ls:List zl} (h:∀ l∈ls,l.2.length≤1000000000) (hl:ls.length≤1000000000):zdr ls=some ls:=by
 unfold zdr
 rw[zgj _ _ (by unfold maxLen; omega),znx ls [] h (by simp; omega)]
 rfl
theorem znl:(es acc:List jI)→(∀ l∈es,l.length≤1000000000)→acc.length+es.length≤1000000000→yp es acc=some (acc++es)
 | [],acc,_,_=>by simp [yp]
 | e::es,acc,h,hl=>by
  rw[List.length_cons] at hl
  unfold yp
  rw[zg8 (h e (by simp)),Option.bind_some,zD (by simp only[List.length_cons,List.length_nil]; omega),cond_true,znl es _ (fun l hl=>h l (by simp [hl])) (by simp; omega)]
  simp
theorem zl9 {ls:List jI} (h:∀ l∈ls,l.length≤1000000000) (hl:ls.length≤1000000000):zek ls=some ls:=by
 unfold zek
 rw[zgt _ _ (by unfold maxLen; omega),znl ls [] h (by simp; omega)]
 rfl
end
end Go.Abs.Q
namespace Go.Abs.Q
open Go Go.Abs
section
theorem zne (ys:List Int):(es:List Int)→(i:Nat)→es.length=(ys.drop i).length→yV ys es i=some (cond (decide (es=ys.drop i)) (.inl ()) (.inr false))
 | [],i,h=>by
  have:ys.drop i=[]:=List.length_eq_zero_iff.1 h.symm
  rw[this]; rfl
 | e::es,i,h=>by
  unfold yV
  rw[List.length_cons,List.length_drop] at h
  have hi:i<ys.length:=by omega
  rw[zp,List.getElem?_eq_getElem hi,Option.bind_some,List.drop_eq_getElem_cons hi,zne ys es (i+1) (by rw[List.length_drop]; omega)]
  generalize ys[i]=y
  by_cases he:e=y
  ·subst he
   rw[show (e != e)=false from by simp,cond_false]
   simp
  ·rw[show (e != y)=true from by simpa using he,cond_true]
   rw[decide_eq_false (by intro h; injection h with h1 h2; exact he h1)]
   rfl
theorem zg9 {xs ys:List Int} (h:xs.length≤maxLen):zbN xs ys=some (decide (xs=ys)):=by
 unfold zbN
 by_cases hl:xs.length=ys.length
 ·rw[show (((List.length xs:Nat):Int) != ((List.length ys:Nat):Int))=false from by simp [hl],cond_false,zgr _ _ h,zne ys xs 0 hl,List.drop_zero]
  cases decide (xs=ys)<;>rfl
 ·rw[show (((List.length xs:Nat):Int) != ((List.length ys:Nat):Int))=true from by simp; omega,cond_true,decide_eq_false (by intro h; subst h; exact hl rfl)]
theorem znM (ys:List zl):(es:List zl)→(i:Nat)→es.length=(ys.drop i).length→(∀ e∈es,e.2.length≤maxLen)→yX ys es i=some (cond (decide (es=ys.drop i)) (.inl ()) (.inr false))
 | [],i,h,_=>by
  have:ys.drop i=[]:=List.length_eq_zero_iff.1 h.symm
  rw[this]; rfl
 | e::es,i,h,hm=>by
  unfold yX
  rw[List.length_cons,List.length_drop] at h
  have hi:i<ys.length:=by omega
  rw[zp,List.getElem?_eq_getElem hi,Option.bind_some,List.drop_eq_getElem_cons hi,znM ys es (i+1) (by rw[List.length_drop]; omega) (fun x hx=>hm x (by simp [hx]))]
  generalize ys[i]=y
  obtain⟨a,b⟩:=e
  obtain⟨c,d⟩:=y
  have hb:b.length≤maxLen:=hm (a,b) (by simp)
  simp only[Option.bind_some,zg9 hb]
  by_cases h1:a=c
  ·subst h1
   by_cases h2:b=d
   ·subst h2
    simp
   ·have:¬((a,b)::es=(a,d)::ys.drop (i+1)):=fun h=>by injection h with h _; injection h with _ h; exact h2 h
    simp [h2,this]
  ·have:¬((a,b)::es=(c,d)::ys.drop (i+1)):=fun h=>by injection h with h _; injection h with h _; exact h1 h
   have h3:(a==c)=false:=by simpa using h1
   rw[h3,decide_eq_false this]; rfl
theorem zg6 {xs ys:List zl} (h:xs.length≤maxLen) (hm:∀ e∈xs,e.2.length≤maxLen):zc4 xs ys=some (decide (xs=ys)):=by
 unfold zc4
 by_cases hl:xs.length=ys.length
 ·rw[show (((List.length xs:Nat):Int) != ((List.length ys:Nat):Int))=false from by simp [hl],cond_false,zgc _ _ h,znM ys xs 0 hl hm,List.drop_zero]
  cases decide (xs=ys)<;>rfl
 ·rw[show (((List.length xs:Nat):Int) != ((List.length ys:Nat):Int))=true from by simp; omega,cond_true,decide_eq_false (by intro h; subst h; exact hl rfl)]
theorem znA (ys:List jI):(es:List jI)→(i:Nat)→es.length=(ys.drop i).length→(∀ e∈es,e.length≤maxLen)→yW ys es i=some (cond (decide (es=ys.drop i)) (.inl ()) (.inr false))
 | [],i,h,_=>by
  have:ys.drop i=[]:=List.length_eq_zero_iff.1 h.symm
  rw[this]; rfl
 | e::es,i,h,hm=>by
  unfold yW
  rw[List.length_cons,List.length_drop] at h
  have hi:i<ys.length:=by omega
  rw[zp,List.getElem?_eq_getElem hi,Option.bind_some,List.drop_eq_getElem_cons hi,zg9 (hm e (by simp)),Option.bind_some,znA ys es (i+1) (by rw[List.length_drop]; omega) (fun x hx=>hm x (by simp [hx]))]
  generalize ys[i]=y
  by_cases h1:e=y
  ·subst h1
   simp
  ·have:¬(e::es=y::ys.drop (i+1)):=fun h=>by injection h with h _; exact h1 h
   rw[decide_eq_false h1,decide_eq_false this]; rfl
theorem zmg {xs ys:List jI} (h:xs.length≤maxLen) (hm:∀ e∈xs,e.length≤maxLen):zej xs ys=some (decide (xs=ys)):=by
 unfold zej
 by_cases hl:xs.length=ys.length
 ·rw[show (((List.length xs:Nat):Int) != ((List.length ys:Nat):Int))=false from by simp [hl],cond_false,zgD _ _ h,znA ys xs 0 hl hm,List.drop_zero]
  cases decide (xs=ys)<;>rfl
 ·rw[show (((List.length xs:Nat):Int) != ((List.length ys:Nat):Int))=true from by simp; omega,cond_true,decide_eq_false (by intro h; subst h; exact hl rfl)]
theorem zcE {a0:List zl} {a1:List jI} {a2:List zl} (h0:a0.length≤maxLen) (h0m:∀ e∈a0,e.2.length≤maxLen) (h1:a1.length≤maxLen) (h1m:∀ e∈a1,e.length≤maxLen) (h2:a2.length≤maxLen) (h2m:∀ e∈a2,e.2.length≤maxLen) :
  qo a0 a1 a2 a0 a1 a2=some true:=by
 unfold qo
 rw[zg6 h0 h0m,zmg h1 h1m,zg6 h2 h2m]
 simp
theorem zBM {α:Type} {f:α→Nat} {xs:List α} {x:α} (h:x∈xs):f x≤(xs.map f).sum:=by
 induction xs with
 | nil=>cases h
 | cons y ys ih =>
  simp only[List.map_cons,List.sum_cons]
  rcases List.mem_cons.1 h with rfl | h
  ·omega
  ·have:=ih h; omega
theorem zDm {α:Type} {f:α→Nat} (hf:∀ x,1≤f x) (xs:List α):xs.length≤(xs.map f).sum:=by
 induction xs with
 | nil=>simp
 | cons y ys ih =>
  simp only[List.map_cons,List.sum_cons,List.length_cons]
  have:=hf y
  omega
theorem zwM (xs:List Int):wt (.sl (.one (.int .i64))) xs=xs.length+1:=by
 show (List.map (fun _=>1) xs).sum+1=_
 congr 1
 induction xs with
 | nil=>rfl
 | cons y ys ih=>simp only[List.map_cons,List.sum_cons,List.length_cons,ih]; omega
theorem zD9 (l:zl):wtT zjY l=l.2.length+2:=by
 show 1+wt (.sl (.one (.int .i64))) l.2=_
 rw[zwM]; omega
theorem zvU {ls:List zl} {b:Nat} (h:wt (.sl zjY) ls≤b):ls.length≤b∧∀ l∈ls,l.2.length≤b:=by
 have e:(wtT zjY:zl→Nat)=fun l=>l.2.length+2:=funext zD9
 have h:(List.map (wtT zjY:zl→Nat) ls).sum+1≤b:=h
 rw[e] at h
 replace h:(List.map (fun l:zl=>l.2.length+2) ls).sum+1≤b:=h
 have h1:=zDm (f:=fun l:zl=>l.2.length+2) (fun l=>by omega) ls
 refine ⟨by omega,fun l hl => ?_⟩
 have:=zBM (f:=fun l:zl=>l.2.length+2) hl
 omega
theorem zEY {rs:List jI} {b:Nat} (h:wt (.sl (.one (.sl (.one (.int .i64))))) rs≤b):rs.length≤b∧∀ l∈rs,l.length≤b:=by
 have e:(wtT (.one (.sl (.one (.int .i64)))):List Int→Nat)=fun l=>l.length+1:=funext zwM
 have h:(List.map (wtT (.one (.sl (.one (.int .i64)))):List Int→Nat) rs).sum+1≤b:=h
 rw[e] at h
 replace h:(List.map (fun l:List Int=>l.length+1) rs).sum+1≤b:=h
 have h1:=zDm (f:=fun l:List Int=>l.length+1) (fun l=>by omega) rs
 refine ⟨by omega,fun l hl => ?_⟩
 have:=zBM (f:=fun l:List Int=>l.length+1) hl
 omega
end
end Go.Abs.Q
namespace Go.Abs.Q
open Go Go.Abs
end Go.Abs.Q
namespace Go.Abs.Q
open Go Go.Abs
end Go.Abs.Q
namespace Go.Abs.Q
open Go Go.Abs
section
end
end Go.Abs.Q
namespace Go.Abs.Q
open Go Go.Abs
def zeC:Option jS :=
 some ([(([61]:Str),0,2,1),(([97]:Str),1,0,1),(([98]:Str),1,0,2),(([102]:Str),1,1,1),(([103]:Str),1,2,3),(([112]:Str),0,1,1),(([114]:Str),0,2,2)]:List zq)
def zcZ (a0:jQ) (a1:jR) (a2:jQ) (a3:Int):Option Bool :=
 cond (decide (a3≥0))
 (some (decide (a3<((List.length a0:Nat):Int))))
 (some false)
def yc (rec:(jR×jR×Int×Int×(List (jI×Int×jI×Int))×jI×Int×jI×Int)→Option (List (jI×Int×jI×Int))) (x:(jR×jR×Int×Int×(List (jI×Int×jI×Int))×jI×Int×jI×Int)):Option (List (jI×Int×jI×Int)) :=
 cond (decide (x.2.2.2.1<x.2.2.1))
 ((gx x.1 x.2.2.2.1).bind fun e7 =>
  (gx x.2.1 x.2.2.2.1).bind fun e8 =>
  cond (qi (List.length x.2.2.2.2.1+List.length ([(e7,x.2.2.2.2.2.2.1,e8,x.2.2.2.2.2.2.2.2)]:List (jI×Int×jI×Int))) 64)
  (rec (x.1,x.2.1,x.2.2.1,(IntKind.wrap .i64 (x.2.2.2.1+1)),(x.2.2.2.2.1++([(e7,x.2.2.2.2.2.2.1,e8,x.2.2.2.2.2.2.2.2)]:List (jI×Int×jI×Int))),x.2.2.2.2.2.1,x.2.2.2.2.2.2.1,x.2.2.2.2.2.2.2.1,x.2.2.2.2.2.2.2.2))
  (none))
 (some x.2.2.2.2.1)
def qV (a0:jI) (a1:Int) (a2:jI) (a3:Int) (a4:jS) (a5:(List ((Option jI)×Int))) (a6:(List (jI×Int×jI×Int))):Option (List (jI×Int×jI×Int)) :=
 (zch a4 a0).bind fun r10 =>
 (zch a4 a2).bind fun r11 =>
 ((lp yc zi) (r10,r11,((List.length r10:Nat):Int),0,a6,a0,a1,a2,a3)).bind fun r12 =>
 some r12
def yF (a0:jI) (a1:Int) (a2:Int):Option Int :=
 (yU a2).bind fun r2 =>
 some (IntKind.wrap .i64 (r2+a1))
def zbi (rec:(jS×(List ((Option jI)×Int))×jI×Int×Int)→Option (jI×Int)) (x:(jS×(List ((Option jI)×Int))×jI×Int×Int)):Option (jI×Int) :=
 (gx x.2.2.1 0).bind fun e6 =>
 cond (decide (e6<0))
 ((gx x.2.2.1 0).bind fun e7 =>
  (yF x.2.2.1 x.2.2.2.1 e7).bind fun r8 =>
  (inR r8 48).bind fun k9 =>
  (x.2.1[k9]?).bind fun x10 =>
  cond (Option.isNone x10.1)
  (some (x.2.2.1,x.2.2.2.1))
  (rec (x.1,x.2.1,(Option.getD x10.1 []),x10.2,x.2.2.2.2)))
 (some (x.2.2.1,x.2.2.2.1))
def zbe (a0:jI) (a1:Int) (a2:jS) (a3:(List ((Option jI)×Int))):Option (jI×Int) :=
 ((lp zbi zi) (a2,a3,a0,a1,0)).bind fun r12 =>
 some (r12.1,r12.2)
def yt (rec:(Int×jI×Int×Int×jS×(List ((Option jI)×Int))×jI×Int×(List Bool)×(List (jI×Int)))→Option (((List Bool)×(List (jI×Int)))⊕Bool)) (x:(Int×jI×Int×Int×jS×(List ((Option jI)×Int))×jI×Int×(List Bool)×(List (jI×Int)))):Option (((List Bool)×(List (jI×Int)))⊕Bool) :=
 cond (decide (x.2.2.2.1<x.2.2.1))
 ((gx x.2.1 x.2.2.2.1).bind fun e14 =>
  cond (decide (e14≥0))
  (rec (x.1,x.2.1,x.2.2.1,(IntKind.wrap .i64 (x.2.2.2.1+1)),x.2.2.2.2.1,x.2.2.2.2.2.1,x.2.2.2.2.2.2.1,x.2.2.2.2.2.2.2.1,x.2.2.2.2.2.2.2.2.1,x.2.2.2.2.2.2.2.2.2))
  ((yF x.2.2.2.2.2.2.1 x.2.2.2.2.2.2.2.1 e14).bind fun r15 =>
   cond (r15==x.1)
   (some (Sum.inr true))
   ((inR r15 48).bind fun k16 =>
    (x.2.2.2.2.2.2.2.2.1[k16]?).bind fun x17 =>
    cond (!x17)
    ((inR r15 48).bind fun k18 =>
     (x.2.2.2.2.2.1[k18]?).bind fun x19 =>
     cond (!(Option.isNone x19.1))
     ((inR r15 48).bind fun k20 =>
      (x.2.2.2.2.2.2.2.2.1[k20]?).bind fun x21 =>
      (inR r15 48).bind fun k22 =>
      (x.2.2.2.2.2.1[k22]?).bind fun x23 =>
      cond (qi (List.length x.2.2.2.2.2.2.2.2.2+List.length ([((Option.getD x23.1 []),x23.2)]:List (jI×Int))) 32)
      (rec (x.1,x.2.1,x.2.2.1,(IntKind.wrap .i64 (x.2.2.2.1+1)),x.2.2.2.2.1,x.2.2.2.2.2.1,x.2.2.2.2.2.2.1,x.2.2.2.2.2.2.2.1,(List.set x.2.2.2.2.2.2.2.2.1 k20 true),(x.2.2.2.2.2.2.2.2.2++([((Option.getD x23.1 []),x23.2)]:List (jI×Int)))))
      (none))
     (rec (x.1,x.2.1,x.2.2.1,(IntKind.wrap .i64 (x.2.2.2.1+1)),x.2.2.2.2.1,x.2.2.2.2.2.1,x.2.2.2.2.2.2.1,x.2.2.2.2.2.2.2.1,x.2.2.2.2.2.2.2.2.1,x.2.2.2.2.2.2.2.2.2)))
    (rec (x.1,x.2.1,x.2.2.1,(IntKind.wrap .i64 (x.2.2.2.1+1)),x.2.2.2.2.1,x.2.2.2.2.2.1,x.2.2.2.2.2.2.1,x.2.2.2.2.2.2.2.1,x.2.2.2.2.2.2.2.2.1,x.2.2.2.2.2.2.2.2.2)))))
 (some (Sum.inl (x.2.2.2.2.2.2.2.2.1,x.2.2.2.2.2.2.2.2.2)))
def zaI (rec:(Int×jS×(List ((Option jI)×Int))×jI×Int×(List Bool)×(List (jI×Int)))→Option (Unit⊕Bool)) (x:(Int×jS×(List ((Option jI)×Int))×jI×Int×(List Bool)×(List (jI×Int)))):Option (Unit⊕Bool) :=
 cond (decide (((List.length x.2.2.2.2.2.2:Nat):Int)>0))
 ((inR (IntKind.wrap .i64 (((List.length x.2.2.2.2.2.2:Nat):Int) - 1)) (List.length x.2.2.2.2.2.2)).bind fun k32 =>
  (x.2.2.2.2.2.2[k32]?).bind fun x33 =>
  (zcv x.2.2.2.2.2.2 none (some (IntKind.wrap .i64 (((List.length x.2.2.2.2.2.2:Nat):Int) - 1)))).bind fun y34 =>
  ((lp yt zi) (x.1,x33.1,((List.length x33.1:Nat):Int),0,x.2.1,x.2.2.1,x33.1,x33.2,x.2.2.2.2.2.1,y34)).bind fun r35 =>
  yg r35
  (fun z36=>rec (x.1,x.2.1,x.2.2.1,x33.1,x33.2,z36.1,z36.2))
  (fun z37=>some (Sum.inr z37)))
 (some (Sum.inl ()))
def zcL (a0:Int) (a1:jI) (a2:Int) (a3:jS) (a4:(List ((Option jI)×Int))):Option Bool :=
 ((lp zaI zi) (a0,a3,a4,a1,a2,(List.replicate 48 false),([(a1,a2)]:List (jI×Int)))).bind fun r41 =>
 yg r41
 (fun z42=>some false)
 (fun z43=>some z43)
def qn (a0:jI) (a1:Int) (a2:jI) (a3:Int) (a4:jS) (a5:(List ((Option jI)×Int))):Option (Bool×jS×(List ((Option jI)×Int))) :=
 (gx a0 0).bind fun e16 =>
 (yF a0 a1 e16).bind fun r17 =>
 (gx a2 0).bind fun e18 =>
 cond (decide (e18≥0))
 ((zcL r17 a2 a3 a4 a5).bind fun r19 =>
  cond r19
  (some (false,a4,a5))
  ((inR r17 48).bind fun k20 =>
   (a5[k20]?).bind fun x21 =>
   (nn a2).bind fun p22 =>
   some (true,a4,(List.set a5 k20 ((some p22),a3)))))
 ((gx a2 0).bind fun e23 =>
  (yF a2 a3 e23).bind fun r24 =>
  cond (decide (r24>r17))
  ((inR r24 48).bind fun k25 =>
   (a5[k25]?).bind fun x26 =>
   (nn a0).bind fun p27 =>
   some (true,a4,(List.set a5 k25 ((some p27),a1))))
  (cond (decide (r24<r17))
   ((inR r17 48).bind fun k28 =>
    (a5[k28]?).bind fun x29 =>
    (nn a2).bind fun p30 =>
    some (true,a4,(List.set a5 k28 ((some p30),a3))))
   (some (true,a4,a5))))
def zz (rec:(jS×(List ((Option jI)×Int))×(List (jI×Int×jI×Int)))→Option (Bool×jS×(List ((Option jI)×Int)))) (x:(jS×(List ((Option jI)×Int))×(List (jI×Int×jI×Int)))):Option (Bool×jS×(List ((Option jI)×Int))) :=
 cond (((List.length x.2.2:Nat):Int)==0)
 (some (true,x.1,x.2.1))
 ((inR (IntKind.wrap .i64 (((List.length x.2.2:Nat):Int) - 1)) (List.length x.2.2)).bind fun k27 =>
  (x.2.2[k27]?).bind fun x28 =>
  (zbe x28.1 x28.2.1 x.1 x.2.1).bind fun r29 =>
  (inR (IntKind.wrap .i64 (((List.length x.2.2:Nat):Int) - 1)) (List.length x.2.2)).bind fun k30 =>
  (x.2.2[k30]?).bind fun x31 =>
  (zbe x31.2.2.1 x31.2.2.2 x.1 x.2.1).bind fun r32 =>
  (zcv x.2.2 none (some (IntKind.wrap .i64 (((List.length x.2.2:Nat):Int) - 1)))).bind fun y33 =>
  (gx r29.1 0).bind fun e34 =>
  cond (decide (e34<0))
  ((qn r29.1 r29.2 r32.1 r32.2 x.1 x.2.1).bind fun r35 =>
   cond r35.1
   (rec (r35.2.1,r35.2.2,y33))
   (some (false,r35.2.1,r35.2.2)))
  ((gx r32.1 0).bind fun e36 =>
   cond (decide (e36<0))
   ((qn r32.1 r32.2 r29.1 r29.2 x.1 x.2.1).bind fun r37 =>
    cond r37.1
    (rec (r37.2.1,r37.2.2,y33))
    (some (false,r37.2.1,r37.2.2)))
   ((gx r29.1 0).bind fun e38 =>
    (gx r32.1 0).bind fun e39 =>
    cond (e38 != e39)
    (some (false,x.1,x.2.1))
    ((zcv r29.1 (some 1) none).bind fun y40 =>
     (zcv r32.1 (some 1) none).bind fun y41 =>
     (qV y40 r29.2 y41 r32.2 x.1 x.2.1 y33).bind fun r42 =>
     rec (x.1,x.2.1,r42)))))
def zaV (a0:jI) (a1:Int) (a2:jI) (a3:Int) (a4:jS) (a5:(List ((Option jI)×Int))):Option (Bool×jS×(List ((Option jI)×Int))) :=
 (qV a0 a1 a2 a3 a4 a5 ([]:(List (jI×Int×jI×Int)))).bind fun r53 =>
 cond (((List.length r53:Nat):Int)==0)
 (some (true,a4,a5))
 ((inR (IntKind.wrap .i64 (((List.length r53:Nat):Int) - 1)) (List.length r53)).bind fun k54 =>
  (r53[k54]?).bind fun x55 =>
  (zbe x55.1 x55.2.1 a4 a5).bind fun r56 =>
  (inR (IntKind.wrap .i64 (((List.length r53:Nat):Int) - 1)) (List.length r53)).bind fun k57 =>
  (r53[k57]?).bind fun x58 =>
  (zbe x58.2.2.1 x58.2.2.2 a4 a5).bind fun r59 =>
  (zcv r53 none (some (IntKind.wrap .i64 (((List.length r53:Nat):Int) - 1)))).bind fun y60 =>
  (gx r56.1 0).bind fun e61 =>
  cond (decide (e61<0))
  ((qn r56.1 r56.2 r59.1 r59.2 a4 a5).bind fun r62 =>
   cond r62.1
   ((((lp zz zi) (r62.2.1,r62.2.2,y60))).bind fun r63 =>
    some (r63.1,r63.2.1,r63.2.2))
   (some (false,r62.2.1,r62.2.2)))
  ((gx r59.1 0).bind fun e64 =>
   cond (decide (e64<0))
   ((qn r59.1 r59.2 r56.1 r56.2 a4 a5).bind fun r65 =>
    cond r65.1
    ((((lp zz zi) (r65.2.1,r65.2.2,y60))).bind fun r66 =>
     some (r66.1,r66.2.1,r66.2.2))
    (some (false,r65.2.1,r65.2.2)))
   ((gx r56.1 0).bind fun e67 =>
    (gx r59.1 0).bind fun e68 =>
    cond (e67 != e68)
    (some (false,a4,a5))
    ((zcv r56.1 (some 1) none).bind fun y69 =>
     (zcv r59.1 (some 1) none).bind fun y70 =>
     (qV y69 r56.2 y70 r59.2 a4 a5 y60).bind fun r71 =>
     (((lp zz zi) (a4,a5,r71))).bind fun r72 =>
     some (r72.1,r72.2.1,r72.2.2)))))
def zas (a0:(Option jI)) (a1:Int) (a2:Int):Option Int :=
 (yU a2).bind fun r2 =>
 some (IntKind.wrap .i64 (r2+a1))
def yI (rf:(((Option jI)×Int×jS×(List ((Option jI)×Int)))→Option (Option jI))) (rec:((Option jI)×Int×Int×jS×(List ((Option jI)×Int))×(Option jI)×Int×jI)→Option (jI⊕Unit)) (x:((Option jI)×Int×Int×jS×(List ((Option jI)×Int))×(Option jI)×Int×jI)):Option (jI⊕Unit) :=
 cond (decide (x.2.2.1<x.2.1))
 ((gx (Option.getD x.1 []) x.2.2.1).bind fun e27 =>
  cond (decide (e27<0))
  ((zas x.2.2.2.2.2.1 x.2.2.2.2.2.2.1 e27).bind fun r28 =>
   (inR r28 48).bind fun k29 =>
   (x.2.2.2.2.1[k29]?).bind fun x30 =>
   cond (!(Option.isNone x30.1))
   ((zas x.2.2.2.2.2.1 x.2.2.2.2.2.2.1 e27).bind fun r31 =>
    (inR r31 48).bind fun k32 =>
    (x.2.2.2.2.1[k32]?).bind fun x33 =>
    (rf (x33.1,x33.2,x.2.2.2.1,x.2.2.2.2.1)).bind fun r34 =>
    cond (Option.isNone r34)
    (some (Sum.inr ()))
    (cond (decide ((IntKind.wrap .i64 (((List.length x.2.2.2.2.2.2.2:Nat):Int)+((List.length (Option.getD r34 []):Nat):Int)))>48))
     (some (Sum.inr ()))
     (cond (qi (List.length x.2.2.2.2.2.2.2+List.length (Option.getD r34 [])) 8)
      (rec (x.1,x.2.1,(IntKind.wrap .i64 (x.2.2.1+1)),x.2.2.2.1,x.2.2.2.2.1,x.2.2.2.2.2.1,x.2.2.2.2.2.2.1,(x.2.2.2.2.2.2.2++(Option.getD r34 []))))
      (none))))
   ((((nn ([e27]:List Int)).bind fun _ =>
     some false)).bind fun z35 =>
    cond z35
    (some (Sum.inr ()))
    (cond (decide ((IntKind.wrap .i64 (((List.length x.2.2.2.2.2.2.2:Nat):Int)+((List.length ([e27]:List Int):Nat):Int)))>48))
     (some (Sum.inr ()))
     (cond (qi (List.length x.2.2.2.2.2.2.2+List.length ([e27]:List Int)) 8)
      (rec (x.1,x.2.1,(IntKind.wrap .i64 (x.2.2.1+1)),x.2.2.2.1,x.2.2.2.2.1,x.2.2.2.2.2.1,x.2.2.2.2.2.2.1,(x.2.2.2.2.2.2.2++([e27]:List Int))))
      (none)))))
  ((((nn ([e27]:List Int)).bind fun _ =>
    some false)).bind fun z36 =>
   cond z36
   (some (Sum.inr ()))
   (cond (decide ((IntKind.wrap .i64 (((List.length x.2.2.2.2.2.2.2:Nat):Int)+((List.length ([e27]:List Int):Nat):Int)))>48))
    (some (Sum.inr ()))
    (cond (qi (List.length x.2.2.2.2.2.2.2+List.length ([e27]:List Int)) 8)
     (rec (x.1,x.2.1,(IntKind.wrap .i64 (x.2.2.1+1)),x.2.2.2.1,x.2.2.2.2.1,x.2.2.2.2.2.1,x.2.2.2.2.2.2.1,(x.2.2.2.2.2.2.2++([e27]:List Int))))
     (none)))))
 (some (Sum.inl x.2.2.2.2.2.2.2))
def zdF (rf:(((Option jI)×Int×jS×(List ((Option jI)×Int)))→Option (Option jI))) (a0:(Option jI)) (a1:Int) (a2:jS) (a3:(List ((Option jI)×Int))):Option (Option jI) :=
 ((lp (yI rf) zi) (a0,((List.length (Option.getD a0 []):Nat):Int),0,a2,a3,a0,a1,([]:jI))).bind fun r40 =>
 yg r40
 (fun z41=>((nn z41).bind fun z=>some ((2:Nat),some z)).bind fun p42 =>
  some p42.2)
 (fun z43=>some (none:(Option jI)))
def zho (rf:(((Option jI)×Int×jS×(List ((Option jI)×Int)))→Option (Option jI))):(((Option jI)×Int×jS×(List ((Option jI)×Int)))→Option (Option jI)) :=
 fun (x:((Option jI)×Int×jS×(List ((Option jI)×Int))))=>zdF rf x.1 x.2.1 x.2.2.1 x.2.2.2
def zhg:(((Option jI)×Int×jS×(List ((Option jI)×Int)))→Option (Option jI)):=fun _=>none
def qU (k:Nat):(((Option jI)×Int×jS×(List ((Option jI)×Int)))→Option (Option jI)):=lpR zhg zho k
def zeQ (a0:(Option jI)) (a1:Int) (a2:jS) (a3:(List ((Option jI)×Int))):Option (Option jI):=(qU zi) (a0,a1,a2,a3)
def zbb (rec:(Int×jS×(List ((Option jI)×Int))×(List (Int×jI)))→Option ((List (Int×jI))⊕(Bool×Int))) (x:(Int×jS×(List ((Option jI)×Int))×(List (Int×jI)))):Option ((List (Int×jI))⊕(Bool×Int)) :=
 cond (decide (x.1<24))
 ((inR x.1 48).bind fun k16 =>
  (x.2.2.1[k16]?).bind fun x17 =>
  cond (Option.isNone x17.1)
  (rec ((IntKind.wrap .i64 (x.1+1)),x.2.1,x.2.2.1,x.2.2.2))
  ((inR x.1 48).bind fun k18 =>
   (x.2.2.1[k18]?).bind fun x19 =>
   (zeQ x19.1 x19.2 x.2.1 x.2.2.1).bind fun r20 =>
   cond (Option.isNone r20)
   (some (Sum.inr (false,401)))
   ((zcr (Option.getD r20 [])).bind fun r21 =>
    cond (qi (List.length x.2.2.2+List.length ([(x.1,r21)]:List (Int×jI))) 32)
    (rec ((IntKind.wrap .i64 (x.1+1)),x.2.1,x.2.2.1,(x.2.2.2++([(x.1,r21)]:List (Int×jI)))))
    (none))))
 (some (Sum.inl x.2.2.2))
def zeN (a0:jS) (a1:jI) (a2:jI):Option (Bool×Int×(List (Int×jI))) :=
 (zgq a0 a1).bind fun r25 =>
 (zgq a0 a2).bind fun r26 =>
 cond (r25.2 != 0)
 (some (false,400,([]:(List (Int×jI)))))
 (cond (r26.2 != 0)
  (some (false,400,([]:(List (Int×jI)))))
  (cond (r25.1 != r26.1)
   (some (false,0,([]:(List (Int×jI)))))
   ((zaV a1 0 a2 0 a0 (List.replicate 48 ((none:(Option jI)),(0:Int)))).bind fun r27 =>
    cond (!r27.1)
    (some (false,0,([]:(List (Int×jI)))))
    (((lp zbb zi) (0,r27.2.1,r27.2.2,([]:(List (Int×jI))))).bind fun r28 =>
     yg r28
     (fun z29=>some (true,0,z29))
     (fun z30=>some (z30.1,z30.2,([]:(List (Int×jI)))))))))
def zgb (a0:Int):Option jR :=
 cond (decide (a0<0))
 (none)
 (cond (decide ((IntKind.wrap .i64 (a0 - 0))>0))
  (cond (eqI 0 0&&eqI 0 0)
   (cond (zCK (IntKind.wrap .i64 (a0 - 0)))
    (cond (qi (Int.toNat (IntKind.wrap .i64 (a0 - 0))) 24)
     ((zcv (List.replicate (Int.toNat (IntKind.wrap .i64 (a0 - 0))) ([]:jI)) none (some 0)).bind fun y2 =>
      some y2)
     (none))
    (none))
   (none))
  (some ([]:jR)))
def qK (rec:((List jR)×Int×Int×jR)→Option jR) (x:((List jR)×Int×Int×jR)):Option jR :=
 cond (decide (x.2.2.1<x.2.1))
 ((gx x.1 x.2.2.1).bind fun e7 =>
  cond (qi (List.length x.2.2.2+List.length e7) 24)
  (rec (x.1,x.2.1,(IntKind.wrap .i64 (x.2.2.1+1)),(x.2.2.2++e7)))
  (none))
 (some x.2.2.2)
def qC (rec:((List jR)×Int×(List jR)×Int×Int)→Option Int) (x:((List jR)×Int×(List jR)×Int×Int)):Option Int :=
 cond (decide (x.2.2.2.2<x.2.2.2.1))
 ((gx x.2.2.1 x.2.2.2.2).bind fun e2 =>
  cond (decide ((IntKind.wrap .i64 (x.2.1+((List.length e2:Nat):Int)))<0))
  (none)
  (rec (x.1,(IntKind.wrap .i64 (x.2.1+((List.length e2:Nat):Int))),x.2.2.1,x.2.2.2.1,(IntKind.wrap .i64 (x.2.2.2.2+1)))))
 (some x.2.1)
def zeq (a0:(List jR)):Option jR :=
 ((lp qC zi) (a0,0,a0,((List.length a0:Nat):Int),0)).bind fun r9 =>
 (zgb r9).bind fun r10 =>
 ((lp qK zi) (a0,((List.length a0:Nat):Int),0,r10)).bind fun r11 =>
 some r11
def zeg (a0:Int):Option jQ :=
 cond (decide (a0<0))
 (none)
 (cond (decide ((IntKind.wrap .i64 (a0 - 0))>0))
  (cond (eqI 0 0&&eqI 0 0)
   (cond (zCK (IntKind.wrap .i64 (a0 - 0)))
    (cond (qi (Int.toNat (IntKind.wrap .i64 (a0 - 0))) 32)
     ((zcv (List.replicate (Int.toNat (IntKind.wrap .i64 (a0 - 0))) (false,([]:jI))) none (some 0)).bind fun y2 =>
      some y2)
     (none))
    (none))
   (none))
  (some ([]:jQ)))
def yG (rec:((List jQ)×Int×Int×jQ)→Option jQ) (x:((List jQ)×Int×Int×jQ)):Option jQ :=
 cond (decide (x.2.2.1<x.2.1))
 ((gx x.1 x.2.2.1).bind fun e7 =>
  cond (qi (List.length x.2.2.2+List.length e7) 32)
  (rec (x.1,x.2.1,(IntKind.wrap .i64 (x.2.2.1+1)),(x.2.2.2++e7)))
  (none))
 (some x.2.2.2)
def yJ (rec:((List jQ)×Int×(List jQ)×Int×Int)→Option Int) (x:((List jQ)×Int×(List jQ)×Int×Int)):Option Int :=
 cond (decide (x.2.2.2.2<x.2.2.2.1))
 ((gx x.2.2.1 x.2.2.2.2).bind fun e2 =>
  cond (decide ((IntKind.wrap .i64 (x.2.1+((List.length e2:Nat):Int)))<0))
  (none)
  (rec (x.1,(IntKind.wrap .i64 (x.2.1+((List.length e2:Nat):Int))),x.2.2.1,x.2.2.2.1,(IntKind.wrap .i64 (x.2.2.2.2+1)))))
 (some x.2.1)
def zdq (a0:(List jQ)):Option jQ :=
 ((lp yJ zi) (a0,0,a0,((List.length a0:Nat):Int),0)).bind fun r9 =>
 (zeg r9).bind fun r10 =>
 ((lp yG zi) (a0,((List.length a0:Nat):Int),0,r10)).bind fun r11 =>
 some r11
def q8 (rec:(Int×jQ×Int×Int×jR×jQ×jQ)→Option (jR×jQ×jQ)) (x:(Int×jQ×Int×Int×jR×jQ×jQ)):Option (jR×jQ×jQ) :=
 cond (decide (x.2.2.2.1<x.2.2.1))
 ((gx x.2.1 x.2.2.2.1).bind fun e8 =>
  cond (x.2.2.2.1 != x.1)
  (cond (qi (List.length x.2.2.2.2.2.1+List.length ([(e8.1,e8.2)]:List zl)) 32)
   (rec (x.1,x.2.1,x.2.2.1,(IntKind.wrap .i64 (x.2.2.2.1+1)),x.2.2.2.2.1,(x.2.2.2.2.2.1++([(e8.1,e8.2)]:List zl)),x.2.2.2.2.2.2))
   (none))
  (rec (x.1,x.2.1,x.2.2.1,(IntKind.wrap .i64 (x.2.2.2.1+1)),x.2.2.2.2.1,x.2.2.2.2.2.1,x.2.2.2.2.2.2)))
 (some (x.2.2.2.2.1,x.2.2.2.2.2.1,x.2.2.2.2.2.2))
def q4 (rec:(Int×Int×jQ×Int×Int×jQ×jR×jQ×jR×jQ×jQ)→Option (jR×jQ×jQ)) (x:(Int×Int×jQ×Int×Int×jQ×jR×jQ×jR×jQ×jQ)):Option (jR×jQ×jQ) :=
 cond (decide (x.2.2.2.2.1<x.2.2.2.1))
 ((gx x.2.2.1 x.2.2.2.2.1).bind fun e5 =>
  cond (x.2.2.2.2.1 != x.1)
  (cond (qi (List.length x.2.2.2.2.2.2.2.2.2.1+List.length ([(e5.1,e5.2)]:List zl)) 32)
   (rec (x.1,x.2.1,x.2.2.1,x.2.2.2.1,(IntKind.wrap .i64 (x.2.2.2.2.1+1)),x.2.2.2.2.2.1,x.2.2.2.2.2.2.1,x.2.2.2.2.2.2.2.1,x.2.2.2.2.2.2.2.2.1,(x.2.2.2.2.2.2.2.2.2.1++([(e5.1,e5.2)]:List zl)),x.2.2.2.2.2.2.2.2.2.2))
   (none))
  (rec (x.1,x.2.1,x.2.2.1,x.2.2.2.1,(IntKind.wrap .i64 (x.2.2.2.2.1+1)),x.2.2.2.2.2.1,x.2.2.2.2.2.2.1,x.2.2.2.2.2.2.2.1,x.2.2.2.2.2.2.2.2.1,x.2.2.2.2.2.2.2.2.2.1,x.2.2.2.2.2.2.2.2.2.2)))
 (some (x.2.2.2.2.2.2.2.2.1,x.2.2.2.2.2.2.2.2.2.1,x.2.2.2.2.2.2.2.2.2.2))
def zd0 (a0:jQ) (a1:jR) (a2:jQ) (a3:Int) (a4:jQ) (a5:jR) (a6:jQ) (a7:Int):Option (jR×jQ×jQ) :=
 (zeq ([a1,a5]:List jR)).bind fun r10 =>
 (zdq ([a2,a6]:List jQ)).bind fun r11 =>
 ((lp q4 zi) (a3,a7,a0,((List.length a0:Nat):Int),0,a4,a5,a6,r10,([]:jQ),r11)).bind fun r12 =>
 ((lp q8 zi) (a7,a4,((List.length a4:Nat):Int),0,r12.1,r12.2.1,r12.2.2)).bind fun r13 =>
 some (r13.1,r13.2.1,r13.2.2)
def zbz (rec:(Int×(List (Int×jI))×Int×Int)→Option (Unit⊕jI)) (x:(Int×(List (Int×jI))×Int×Int)):Option (Unit⊕jI) :=
 cond (decide (x.2.2.2<x.2.2.1))
 ((gx x.2.1 x.2.2.2).bind fun e2 =>
  cond (e2.1==x.1)
  (some (Sum.inr e2.2))
  (rec (x.1,x.2.1,x.2.2.1,(IntKind.wrap .i64 (x.2.2.2+1)))))
 (some (Sum.inl ()))
def zij (a0:(List (Int×jI))) (a1:Int):Option (Option jI) :=
 ((lp zbz zi) (a1,a0,((List.length a0:Nat):Int),0)).bind fun r6 =>
 yg r6
 (fun z7=>some (none:(Option jI)))
 (fun z8=>(nn z8).bind fun p9 =>
  some (some p9))
def zcU (rec:((List (Int×jI))×jI×Int×Int×jI)→Option jI) (x:((List (Int×jI))×jI×Int×Int×jI)):Option jI :=
 cond (decide (x.2.2.2.1<x.2.2.1))
 ((gx x.2.1 x.2.2.2.1).bind fun e10 =>
  (yU e10).bind fun r11 =>
  (zij x.1 r11).bind fun r12 =>
  cond (decide (e10≥0))
  (cond (qi (List.length x.2.2.2.2+List.length ([e10]:List Int)) 8)
   (rec (x.1,x.2.1,x.2.2.1,(IntKind.wrap .i64 (x.2.2.2.1+1)),(x.2.2.2.2++([e10]:List Int))))
   (none))
  (cond (Option.isNone r12)
   (cond (qi (List.length x.2.2.2.2+List.length ([e10]:List Int)) 8)
    (rec (x.1,x.2.1,x.2.2.1,(IntKind.wrap .i64 (x.2.2.2.1+1)),(x.2.2.2.2++([e10]:List Int))))
    (none))
   (cond (qi (List.length x.2.2.2.2+List.length (Option.getD r12 [])) 8)
    (rec (x.1,x.2.1,x.2.2.1,(IntKind.wrap .i64 (x.2.2.2.1+1)),(x.2.2.2.2++(Option.getD r12 []))))
    (none))))
 (some x.2.2.2.2)
def zpR (a0:(List (Int×jI))) (a1:jI):Option jI :=
 ((lp zcU zi) (a0,a1,((List.length a1:Nat):Int),0,([]:jI))).bind fun r14 =>
 some r14
def zaC (a0:jI) (a1:(List (Int×jI))):Option jI :=
 (zpR a1 a0).bind fun r2 =>
 some r2
def zaD (rec:(jQ×Int×Int×(List (Int×jI))×jQ×jR×jQ)→Option (jQ×jR×jQ)) (x:(jQ×Int×Int×(List (Int×jI))×jQ×jR×jQ)):Option (jQ×jR×jQ) :=
 cond (decide (x.2.2.1<x.2.1))
 ((gx x.1 x.2.2.1).bind fun e19 =>
  (zaC e19.2 x.2.2.2.1).bind fun r20 =>
  cond (qi (List.length x.2.2.2.2.2.2+List.length ([(e19.1,r20)]:List zl)) 32)
  (rec (x.1,x.2.1,(IntKind.wrap .i64 (x.2.2.1+1)),x.2.2.2.1,x.2.2.2.2.1,x.2.2.2.2.2.1,(x.2.2.2.2.2.2++([(e19.1,r20)]:List zl))))
  (none))
 (some (x.2.2.2.2.1,x.2.2.2.2.2.1,x.2.2.2.2.2.2))
def zay (rec:(jR×Int×Int×(List (Int×jI))×jQ×jR×jQ×jQ×jR)→Option (jQ×jR)) (x:(jR×Int×Int×(List (Int×jI))×jQ×jR×jQ×jQ×jR)):Option (jQ×jR) :=
 cond (decide (x.2.2.1<x.2.1))
 ((gx x.1 x.2.2.1).bind fun e12 =>
  (zaC e12 x.2.2.2.1).bind fun r13 =>
  cond (qi (List.length x.2.2.2.2.2.2.2.2+List.length ([r13]:List jI)) 24)
  (rec (x.1,x.2.1,(IntKind.wrap .i64 (x.2.2.1+1)),x.2.2.2.1,x.2.2.2.2.1,x.2.2.2.2.2.1,x.2.2.2.2.2.2.1,x.2.2.2.2.2.2.2.1,(x.2.2.2.2.2.2.2.2++([r13]:List jI))))
  (none))
 (some (x.2.2.2.2.2.2.2.1,x.2.2.2.2.2.2.2.2))
def zav (rec:(jQ×Int×Int×(List (Int×jI))×jQ×jR×jQ×jQ)→Option jQ) (x:(jQ×Int×Int×(List (Int×jI))×jQ×jR×jQ×jQ)):Option jQ :=
 cond (decide (x.2.2.1<x.2.1))
 ((gx x.1 x.2.2.1).bind fun e5 =>
  (zaC e5.2 x.2.2.2.1).bind fun r6 =>
  cond (qi (List.length x.2.2.2.2.2.2.2+List.length ([(e5.1,r6)]:List zl)) 32)
  (rec (x.1,x.2.1,(IntKind.wrap .i64 (x.2.2.1+1)),x.2.2.2.1,x.2.2.2.2.1,x.2.2.2.2.2.1,x.2.2.2.2.2.2.1,(x.2.2.2.2.2.2.2++([(e5.1,r6)]:List zl))))
  (none))
 (some x.2.2.2.2.2.2.2)
def zjo (a0:jQ) (a1:jR) (a2:jQ) (a3:(List (Int×jI))):Option (jQ×jR×jQ) :=
 ((lp zav zi) (a0,((List.length a0:Nat):Int),0,a3,a0,a1,a2,([]:jQ))).bind fun r22 =>
 ((lp zay zi) (a1,((List.length a1:Nat):Int),0,a3,a0,a1,a2,r22,([]:jR))).bind fun r23 =>
 ((lp zaD zi) (a2,((List.length a2:Nat):Int),0,a3,r23.1,r23.2,([]:jQ))).bind fun r24 =>
 some (r24.1,r24.2.1,r24.2.2)
def zhQ (a0:(List (Int×jI))) (a1:jQ) (a2:jR) (a3:jQ):Option (jQ×jR×jQ) :=
 (zjo a1 a2 a3 a0).bind fun r2 =>
 some (r2.1,r2.2.1,r2.2.2)
def zbX (a0:jS) (a1:jQ) (a2:jR) (a3:jQ) (a4:Int) (a5:Int):Option (jQ×jR×Bool×Int×jQ) :=
 (gx a1 a4).bind fun e11 =>
 (gx a1 a5).bind fun e12 =>
 cond (!(e11.1==e12.1))
 (some (([]:jQ),([]:jR),false,0,([]:jQ)))
 ((gx e11.2 0).bind fun e13 =>
  (gx e12.2 0).bind fun e14 =>
  cond (e13 != e14)
  (some (([]:jQ),([]:jR),false,0,([]:jQ)))
  ((zcv e11.2 (some 1) none).bind fun y15 =>
   (zcv e12.2 (some 1) none).bind fun y16 =>
   (zeN a0 y15 y16).bind fun r17 =>
   cond (r17.2.1 != 0)
   (some (([]:jQ),([]:jR),false,1401,([]:jQ)))
   (cond (!r17.1)
    (some (([]:jQ),([]:jR),false,0,([]:jQ)))
    ((zd0 a1 a2 a3 a5 ([]:jQ) ([]:jR) ([]:jQ) (-1)).bind fun r18 =>
     (zhQ r17.2.2 r18.2.1 r18.1 r18.2.2).bind fun r19 =>
     (zc6 a0 r19.1 r19.2.1 r19.2.2).bind fun r20 =>
     cond (r20.2.2.1 != 0)
     (some (([]:jQ),([]:jR),false,1401,([]:jQ)))
     (some (r20.1,r20.2.1,true,0,r20.2.2.2))))))
def qR (a0:jS) (a1:jQ) (a2:jR) (a3:jQ) (a4:Int) (a5:Int):Option (jQ×jR×Bool×Int×jQ) :=
 (zcV a0 a1 a2 a3).bind fun r5 =>
 cond (!r5)
 (some (([]:jQ),([]:jR),false,1400,([]:jQ)))
 ((zcZ a1 a2 a3 a4).bind fun r6 =>
  cond (!r6)
  (some (([]:jQ),([]:jR),false,1400,([]:jQ)))
  ((zcZ a1 a2 a3 a5).bind fun r7 =>
   cond (!r7)
   (some (([]:jQ),([]:jR),false,1400,([]:jQ)))
   (cond (a4==a5)
    (some (([]:jQ),([]:jR),false,1400,([]:jQ)))
    ((zbX a0 a1 a2 a3 a4 a5).bind fun r8 =>
     some (r8.1,r8.2.1,r8.2.2.1,r8.2.2.2.1,r8.2.2.2.2)))))
def zgv (a0:Bool) (a1:jI) (a2:jS):Option Bool :=
 (zgd a2 a0 a1).bind fun r2 =>
 some (!r2)
def zY (rec:(jQ×Int×Int×jS)→Option (Unit⊕Int)) (x:(jQ×Int×Int×jS)):Option (Unit⊕Int) :=
 cond (decide (x.2.2.1<x.2.1))
 ((gx x.1 x.2.2.1).bind fun e3 =>
  (zgv e3.1 e3.2 x.2.2.2).bind fun r4 =>
  cond r4
  (some (Sum.inr x.2.2.1))
  (rec (x.1,x.2.1,(IntKind.wrap .i64 (x.2.2.1+1)),x.2.2.2)))
 (some (Sum.inl ()))
def zc7 (a0:jQ) (a1:jS):Option Int :=
 ((lp zY zi) (a0,((List.length a0:Nat):Int),0,a1)).bind fun r8 =>
 yg r8
 (fun z9=>some (-1))
 (fun z10=>some z10)
def zcb (a0:jQ) (a1:jS):Option Bool :=
 (zc7 a0 a1).bind fun r2 =>
 some (decide (r2≥0))
def zeK (a0:jS) (a1:jI):Option Bool :=
 (zdy a0 a1).bind fun r2 =>
 cond r2.1
 (some (((List.length r2.2:Nat):Int)==1))
 (some false)
def zaB (rec:(jI×Int×Int×jI)→Option jI) (x:(jI×Int×Int×jI)):Option jI :=
 cond (decide (x.2.2.1<x.2.1))
 ((gx x.1 x.2.2.1).bind fun e7 =>
  cond (decide (e7<0))
  ((yU e7).bind fun r8 =>
   (inR r8 24).bind fun k9 =>
   (x.2.2.2[k9]?).bind fun x10 =>
   (inR r8 24).bind fun k11 =>
   (x.2.2.2[k11]?).bind fun x12 =>
   rec (x.1,x.2.1,(IntKind.wrap .i64 (x.2.2.1+1)),(List.set x.2.2.2 k11 (IntKind.wrap .i64 (x10+1)))))
  (rec (x.1,x.2.1,(IntKind.wrap .i64 (x.2.2.1+1)),x.2.2.2)))
 (some x.2.2.2)
def zex (a0:jI):Option jI :=
 ((lp zaB zi) (a0,((List.length a0:Nat):Int),0,(List.replicate 24 (0:Int)))).bind fun r14 =>
 cond (Nat.beq (List.length r14) 24)
 (cond (Nat.beq (List.length r14) 24)
  (cond (Nat.beq (List.length r14) 24)
   (some r14)
   (none))
  (none))
 (none)
def zaJ (rec:(Int×jI×jI)→Option (Unit⊕Bool)) (x:(Int×jI×jI)):Option (Unit⊕Bool) :=
 cond (decide (x.1<24))
 ((inR x.1 24).bind fun k11 =>
  (x.2.1[k11]?).bind fun x12 =>
  (inR x.1 24).bind fun k13 =>
  (x.2.2[k13]?).bind fun x14 =>
  cond (decide (x12<x14))
  (some (Sum.inr false))
  (rec ((IntKind.wrap .i64 (x.1+1)),x.2.1,x.2.2)))
 (some (Sum.inl ()))
def zfa (a0:jI) (a1:jI):Option Bool :=
 (zex a0).bind fun r18 =>
 (zex a1).bind fun r19 =>
 cond (Nat.beq (List.length (List.replicate 24 (0:Int))) 24)
 (cond (Nat.beq (List.length (List.replicate 24 (0:Int))) 24)
  (((lp zaJ zi) (0,r18,r19)).bind fun r20 =>
   yg r20
   (fun z21=>some true)
   (fun z22=>some z22))
  (none))
 (none)
def zcc (rec:(jS×Int×jI×Int×Int)→Option Int) (x:(jS×Int×jI×Int×Int)):Option Int :=
 cond (decide (x.2.2.2.2<x.2.2.2.1))
 ((gx x.2.2.1 x.2.2.2.2).bind fun e3 =>
  cond (decide (e3<0))
  (rec (x.1,(IntKind.wrap .i64 (x.2.1+1)),x.2.2.1,x.2.2.2.1,(IntKind.wrap .i64 (x.2.2.2.2+1))))
  ((gx x.1 e3).bind fun e4 =>
   rec (x.1,(IntKind.wrap .i64 (x.2.1+e4.2.2.2)),x.2.2.1,x.2.2.2.1,(IntKind.wrap .i64 (x.2.2.2.2+1)))))
 (some x.2.1)
def zgT (a0:jS) (a1:jI):Option Int :=
 ((lp zcc zi) (a0,0,a1,((List.length a1:Nat):Int),0)).bind fun r6 =>
 some r6
def zae (rec:(jR×jR×Int×Int)→Option (Unit⊕(jI×jI))) (x:(jR×jR×Int×Int)):Option (Unit⊕(jI×jI)) :=
 cond (decide (x.2.2.2<x.2.2.1))
 ((gx x.2.1 x.2.2.2).bind fun e7 =>
  cond (decide (x.2.2.2<((List.length x.1:Nat):Int)))
  ((gx x.1 x.2.2.2).bind fun e8 =>
   (yk e7 e8).bind fun r9 =>
   cond (!r9)
   ((gx x.1 x.2.2.2).bind fun e10 =>
    some (Sum.inr (e7,e10)))
   (rec (x.1,x.2.1,x.2.2.1,(IntKind.wrap .i64 (x.2.2.2+1)))))
  (rec (x.1,x.2.1,x.2.2.1,(IntKind.wrap .i64 (x.2.2.2+1)))))
 (some (Sum.inl ()))
def zh1 (a0:jS) (a1:jI) (a2:jI):Option (jI×jI) :=
 (zch a0 a2).bind fun r14 =>
 (zch a0 a1).bind fun r15 =>
 ((lp zae zi) (r14,r15,((List.length r15:Nat):Int),0)).bind fun r16 =>
 yg r16
 (fun z17=>some (([]:jI),([]:jI)))
 (fun z18=>some (z18.1,z18.2))
def zc8 (rec:(jS×jI×jI)→Option (Unit⊕Bool)) (x:(jS×jI×jI)):Option (Unit⊕Bool) :=
 (((nn x.2.1).bind fun _ =>
  some false)).bind fun z23 =>
 cond (!z23)
 ((zfa x.2.1 x.2.2).bind fun r24 =>
  cond r24
  ((zgT x.1 x.2.1).bind fun r25 =>
   (zgT x.1 x.2.2).bind fun r26 =>
   cond (r25 != r26)
   (some (Sum.inr (decide (r25>r26))))
   ((gx x.2.1 0).bind fun e27 =>
    (gx x.2.2 0).bind fun e28 =>
    cond (e27 != e28)
    ((gx x.2.1 0).bind fun e29 =>
     (gx x.2.2 0).bind fun e30 =>
     some (Sum.inr (decide (e29>e30))))
    ((zcv x.2.1 (some 1) none).bind fun y31 =>
     (zcv x.2.2 (some 1) none).bind fun y32 =>
     (zh1 x.1 y31 y32).bind fun r33 =>
     rec (x.1,r33.1,r33.2))))
  (some (Sum.inl ())))
 (some (Sum.inl ()))
def zaE (a0:jS) (a1:jI) (a2:jI):Option Bool :=
 ((lp zc8 zi) (a0,a1,a2)).bind fun r37 =>
 yg r37
 (fun z38=>some false)
 (fun z39=>some z39)
def zen (a0:jS) (a1:jI) (a2:jI):Option (Int×Int) :=
 (zeK a0 a1).bind fun r19 =>
 cond r19
 ((zeK a0 a2).bind fun r20 =>
  (zck a0 a1).bind fun r21 =>
  cond r21
  ((zck a0 a2).bind fun r22 =>
   cond (!r20)
   (cond (!r22)
    (some (0,600))
    ((yk a1 a2).bind fun r23 =>
     cond r23
     (some (1,0))
     ((zaE a0 a1 a2).bind fun r24 =>
      cond r24
      (some (2,0))
      ((zaE a0 a2 a1).bind fun r25 =>
       cond r25
       (some (0,0))
       (some (3,0))))))
   ((yk a1 a2).bind fun r26 =>
    cond r26
    (some (1,0))
    ((zaE a0 a1 a2).bind fun r27 =>
     cond r27
     (some (2,0))
     ((zaE a0 a2 a1).bind fun r28 =>
      cond r28
      (some (0,0))
      (some (3,0))))))
  (cond (!r20)
   (some (0,600))
   ((yk a1 a2).bind fun r29 =>
    cond r29
    (some (1,0))
    ((zaE a0 a1 a2).bind fun r30 =>
     cond r30
     (some (2,0))
     ((zaE a0 a2 a1).bind fun r31 =>
      cond r31
      (some (0,0))
      (some (3,0)))))))
 ((zck a0 a1).bind fun r32 =>
  cond r32
  ((zck a0 a2).bind fun r33 =>
   cond (!r33)
   (some (0,600))
   ((yk a1 a2).bind fun r34 =>
    cond r34
    (some (1,0))
    ((zaE a0 a1 a2).bind fun r35 =>
     cond r35
     (some (2,0))
     ((zaE a0 a2 a1).bind fun r36 =>
      cond r36
      (some (0,0))
      (some (3,0))))))
  (some (0,600)))
def zgi (a0:jS) (a1:Bool) (a2:jI) (a3:Bool) (a4:jI):Option (Int×Int) :=
 (zgd a0 a1 a2).bind fun r4 =>
 cond (!r4)
 (some (0,700))
 ((zgd a0 a3 a4).bind fun r5 =>
  cond (!r5)
  (some (0,700))
  ((zen a0 a2 a4).bind fun r6 =>
   cond (r6.1 != 1)
   (some (r6.1,0))
   (cond (a1==a3)
    (some (r6.1,0))
    (cond a1
     (some (2,0))
     (some (0,0))))))
def zgn (a0:Bool) (a1:jI) (a2:jS) (a3:Bool) (a4:jI):Option Bool :=
 (zgi a2 a0 a1 a3 a4).bind fun r2 =>
 some (r2.1==2)
def zU (rec:(jQ×Int×Int×jS×Bool×jI)→Option (Unit⊕Int)) (x:(jQ×Int×Int×jS×Bool×jI)):Option (Unit⊕Int) :=
 cond (decide (x.2.2.1<x.2.1))
 ((gx x.1 x.2.2.1).bind fun e3 =>
  (zgn e3.1 e3.2 x.2.2.2.1 x.2.2.2.2.1 x.2.2.2.2.2).bind fun r4 =>
  cond r4
  (some (Sum.inr x.2.2.1))
  (rec (x.1,x.2.1,(IntKind.wrap .i64 (x.2.2.1+1)),x.2.2.2.1,x.2.2.2.2.1,x.2.2.2.2.2)))
 (some (Sum.inl ()))
def zdi (a0:jQ) (a1:jS) (a2:Bool) (a3:jI):Option Int :=
 ((lp zU zi) (a0,((List.length a0:Nat):Int),0,a1,a2,a3)).bind fun r8 =>
 yg r8
 (fun z9=>some (-1))
 (fun z10=>some z10)
def q5 (a0:jQ) (a1:jS) (a2:Bool) (a3:jI):Option Bool :=
 (zdi a0 a1 a2 a3).bind fun r2 =>
 some (decide (r2≥0))
def zce (rec:(jQ×jQ×Int×Int×jS×jI)→Option jI) (x:(jQ×jQ×Int×Int×jS×jI)):Option jI :=
 cond (decide (x.2.2.2.1<x.2.2.1))
 ((gx x.2.1 x.2.2.2.1).bind fun e7 =>
  (q5 x.1 x.2.2.2.2.1 e7.1 e7.2).bind fun r8 =>
  cond (!r8)
  (cond (qi (List.length x.2.2.2.2.2+List.length ([x.2.2.2.1]:List Int)) 8)
   (rec (x.1,x.2.1,x.2.2.1,(IntKind.wrap .i64 (x.2.2.2.1+1)),x.2.2.2.2.1,(x.2.2.2.2.2++([x.2.2.2.1]:List Int))))
   (none))
  (rec (x.1,x.2.1,x.2.2.1,(IntKind.wrap .i64 (x.2.2.2.1+1)),x.2.2.2.2.1,x.2.2.2.2.2)))
 (some x.2.2.2.2.2)
def zmt (a0:jS) (a1:jQ):Option (Int×jI) :=
 (zgF a0).bind fun r10 =>
 cond (!r10)
 (some (700,([]:jI)))
 ((zcb a1 a0).bind fun r11 =>
  cond r11
  (some (700,([]:jI)))
  (((lp zce zi) (a1,a1,((List.length a1:Nat):Int),0,a0,([]:jI))).bind fun r12 =>
   some (0,r12)))
def zbq (a0:jS) (a1:Bool) (a2:jI):Option Bool :=
 cond a1
 (some false)
 ((gx a2 0).bind fun e9 =>
  cond (e9 != 0)
  (some false)
  ((zcv a2 (some 1) none).bind fun y10 =>
   (zch a0 y10).bind fun r11 =>
   (inR 0 (List.length r11)).bind fun k12 =>
   (r11[k12]?).bind fun x13 =>
   (inR 1 (List.length r11)).bind fun k14 =>
   (r11[k14]?).bind fun x15 =>
   (yk x13 x15).bind fun r16 =>
   some r16))
def zcz (a0:Bool) (a1:jI) (a2:Bool) (a3:jI):Option Bool :=
 cond (!(a2==a0))
 ((yk a3 a1).bind fun r2 =>
  some r2)
 (some false)
def zZ (rec:(jQ×Int×Int×Bool×jI)→Option (Unit⊕Int)) (x:(jQ×Int×Int×Bool×jI)):Option (Unit⊕Int) :=
 cond (decide (x.2.2.1<x.2.1))
 ((gx x.1 x.2.2.1).bind fun e3 =>
  (zcz e3.1 e3.2 x.2.2.2.1 x.2.2.2.2).bind fun r4 =>
  cond r4
  (some (Sum.inr x.2.2.1))
  (rec (x.1,x.2.1,(IntKind.wrap .i64 (x.2.2.1+1)),x.2.2.2.1,x.2.2.2.2)))
 (some (Sum.inl ()))
def zdd (a0:jQ) (a1:Bool) (a2:jI):Option Int :=
 ((lp zZ zi) (a0,((List.length a0:Nat):Int),0,a1,a2)).bind fun r8 =>
 yg r8
 (fun z9=>some (-1))
 (fun z10=>some z10)
def zal (a0:jQ) (a1:Bool) (a2:jI):Option Bool :=
 (zdd a0 a1 a2).bind fun r2 =>
 some (decide (r2≥0))
def qd (rec:(jS×jQ×Int×Int×jQ×jR×jQ)→Option (Unit⊕(Bool×Int))) (x:(jS×jQ×Int×Int×jQ×jR×jQ)):Option (Unit⊕(Bool×Int)) :=
 cond (decide (x.2.2.2.1<x.2.2.1))
 ((gx x.2.1 x.2.2.2.1).bind fun e5 =>
  (zbq x.1 e5.1 e5.2).bind fun r6 =>
  cond r6
  (some (Sum.inr (true,0)))
  ((zal x.2.2.2.2.1 e5.1 e5.2).bind fun r7 =>
   cond r7
   (some (Sum.inr (true,0)))
   (rec (x.1,x.2.1,x.2.2.1,(IntKind.wrap .i64 (x.2.2.2.1+1)),x.2.2.2.2.1,x.2.2.2.2.2.1,x.2.2.2.2.2.2))))
 (some (Sum.inl ()))
def zbZ (a0:jS) (a1:jQ) (a2:jR) (a3:jQ):Option (Bool×Int) :=
 (zcV a0 a1 a2 a3).bind fun r11 =>
 cond (!r11)
 (some (false,800))
 (((lp qd zi) (a0,a1,((List.length a1:Nat):Int),0,a1,a2,a3)).bind fun r12 =>
  yg r12
  (fun z13=>some (false,0))
  (fun z14=>some (z14.1,z14.2)))
def qz (a0:Int) (a1:Int) (a2:Int) (a3:Int) (a4:Int) (a5:Int) (a6:Int) (a7:jQ) (a8:jR) (a9:jQ) (a10:jQ) (a11:jR) (a12:jQ) (a13:Bool) (a14:Int) (a15:jS) (a16:Int) (a17:jT):Option (jS×Int×jT) :=
 cond (a14 != 0)
 (some (a15,(IntKind.wrap .i64 (a16+1)),a17))
 ((zbZ a15 a10 a11 a12).bind fun r2 =>
  cond (!a13)
  (some (a15,a16,a17))
  (cond r2.1
   (some (a15,a16,a17))
   (cond (qi (List.length a17+List.length ([(a0,a1,a2,a3,a4,a5,a6,a10,a11,a12)]:List jU)) 128)
    (some (a15,a16,(a17++([(a0,a1,a2,a3,a4,a5,a6,a10,a11,a12)]:List jU))))
    (none))))
def zdj (rec:(jS×Int×jI×Int×Int×Int×Int×jQ×jR×jQ×jS×Int×jT)→Option (jS×Int×jT)) (x:(jS×Int×jI×Int×Int×Int×Int×jQ×jR×jQ×jS×Int×jT)):Option (jS×Int×jT) :=
 cond (decide (x.2.2.2.2.1<((List.length x.2.2.2.2.2.2.2.1:Nat):Int)))
 ((zbn x.2.2.1 x.2.2.2.1).bind fun r12 =>
  cond r12
  ((zbX x.1 x.2.2.2.2.2.2.2.1 x.2.2.2.2.2.2.2.2.1 x.2.2.2.2.2.2.2.2.2.1 x.2.2.2.1 x.2.2.2.2.1).bind fun r13 =>
   (qz 2 x.2.1 x.2.2.2.1 0 (-1) x.2.2.2.2.1 0 ([]:jQ) ([]:jR) ([]:jQ) r13.1 r13.2.1 r13.2.2.2.2 r13.2.2.1 r13.2.2.2.1 x.2.2.2.2.2.2.2.2.2.2.1 x.2.2.2.2.2.2.2.2.2.2.2.1 x.2.2.2.2.2.2.2.2.2.2.2.2).bind fun r14 =>
   rec (x.1,x.2.1,x.2.2.1,x.2.2.2.1,(IntKind.wrap .i64 (x.2.2.2.2.1+1)),x.2.2.2.2.2.1,x.2.2.2.2.2.2.1,x.2.2.2.2.2.2.2.1,x.2.2.2.2.2.2.2.2.1,x.2.2.2.2.2.2.2.2.2.1,r14.1,r14.2.1,r14.2.2))
  ((zbn x.2.2.1 x.2.2.2.2.1).bind fun r15 =>
   cond r15
   ((zbX x.1 x.2.2.2.2.2.2.2.1 x.2.2.2.2.2.2.2.2.1 x.2.2.2.2.2.2.2.2.2.1 x.2.2.2.1 x.2.2.2.2.1).bind fun r16 =>
    (qz 2 x.2.1 x.2.2.2.1 0 (-1) x.2.2.2.2.1 0 ([]:jQ) ([]:jR) ([]:jQ) r16.1 r16.2.1 r16.2.2.2.2 r16.2.2.1 r16.2.2.2.1 x.2.2.2.2.2.2.2.2.2.2.1 x.2.2.2.2.2.2.2.2.2.2.2.1 x.2.2.2.2.2.2.2.2.2.2.2.2).bind fun r17 =>
    rec (x.1,x.2.1,x.2.2.1,x.2.2.2.1,(IntKind.wrap .i64 (x.2.2.2.2.1+1)),x.2.2.2.2.2.1,x.2.2.2.2.2.2.1,x.2.2.2.2.2.2.2.1,x.2.2.2.2.2.2.2.2.1,x.2.2.2.2.2.2.2.2.2.1,r17.1,r17.2.1,r17.2.2))
   (rec (x.1,x.2.1,x.2.2.1,x.2.2.2.1,(IntKind.wrap .i64 (x.2.2.2.2.1+1)),x.2.2.2.2.2.1,x.2.2.2.2.2.2.1,x.2.2.2.2.2.2.2.1,x.2.2.2.2.2.2.2.2.1,x.2.2.2.2.2.2.2.2.2.1,x.2.2.2.2.2.2.2.2.2.2.1,x.2.2.2.2.2.2.2.2.2.2.2.1,x.2.2.2.2.2.2.2.2.2.2.2.2))))
 (some (x.2.2.2.2.2.2.2.2.2.2.1,x.2.2.2.2.2.2.2.2.2.2.2.1,x.2.2.2.2.2.2.2.2.2.2.2.2))
def zc5 (rec:(jS×Int×jI×Int×Int×jQ×jR×jQ×jS×Int×jT)→Option (jS×Int×jT)) (x:(jS×Int×jI×Int×Int×jQ×jR×jQ×jS×Int×jT)):Option (jS×Int×jT) :=
 cond (decide (x.2.2.2.2.1<x.2.2.2.1))
 (((lp zdj zi) (x.1,x.2.1,x.2.2.1,x.2.2.2.2.1,(IntKind.wrap .i64 (x.2.2.2.2.1+1)),x.2.2.2.1,x.2.2.2.2.1,x.2.2.2.2.2.1,x.2.2.2.2.2.2.1,x.2.2.2.2.2.2.2.1,x.2.2.2.2.2.2.2.2.1,x.2.2.2.2.2.2.2.2.2.1,x.2.2.2.2.2.2.2.2.2.2)).bind fun r20 =>
  rec (x.1,x.2.1,x.2.2.1,x.2.2.2.1,(IntKind.wrap .i64 (x.2.2.2.2.1+1)),x.2.2.2.2.2.1,x.2.2.2.2.2.2.1,x.2.2.2.2.2.2.2.1,r20.1,r20.2.1,r20.2.2))
 (some (x.2.2.2.2.2.2.2.2.1,x.2.2.2.2.2.2.2.2.2.1,x.2.2.2.2.2.2.2.2.2.2))
def zfM (a0:jS) (a1:jQ) (a2:jR) (a3:jQ) (a4:Int):Option (Int×Int×jT) :=
 (zcV a0 a1 a2 a3).bind fun r22 =>
 cond (!r22)
 (some (0,1400,([]:jT)))
 ((zmt a0 a1).bind fun r23 =>
  ((lp zc5 zi) (a0,a4,r23.2,((List.length a1:Nat):Int),0,a1,a2,a3,a0,0,([]:jT))).bind fun r24 =>
  some (r24.2.1,0,r24.2.2))
def zkY (a0:jS) (a1:jQ) (a2:jR) (a3:jQ) (a4:Int):Option (jQ×jR×Int×jQ) :=
 (zcV a0 a1 a2 a3).bind fun r7 =>
 cond (!r7)
 (some (([]:jQ),([]:jR),1400,([]:jQ)))
 ((zcZ a1 a2 a3 a4).bind fun r8 =>
  cond (!r8)
  (some (([]:jQ),([]:jR),1400,([]:jQ)))
  (cond (((List.length a3:Nat):Int)==3)
   (some (([]:jQ),([]:jR),1401,([]:jQ)))
   ((zd0 a1 a2 a3 a4 ([]:jQ) ([]:jR) ([]:jQ) (-1)).bind fun r9 =>
    (gx a1 a4).bind fun e10 =>
    (zl7 e10.1 e10.2).bind fun r11 =>
    cond (qi (List.length r9.2.2+List.length ([(r11.1,r11.2)]:List zl)) 32)
    ((zc6 a0 r9.2.1 r9.1 (r9.2.2++([(r11.1,r11.2)]:List zl))).bind fun r12 =>
     some (r12.1,r12.2.1,0,r12.2.2.2))
    (none))))
def zdm (a0:Int) (a1:Int) (a2:Int) (a3:Int) (a4:Int) (a5:Int) (a6:Int) (a7:jQ) (a8:jR) (a9:jQ) (a10:Int) (a11:Int) (a12:Int) (a13:Int) (a14:Int) (a15:Int) (a16:Int) (a17:jQ) (a18:jR) (a19:jQ):Option Bool :=
 cond (a0==a10)
 (cond (a1==a11)
  (cond (a2==a12)
   (cond (a3==a13)
    (cond (a4==a14)
     (cond (a5==a15)
      (cond (a6==a16)
       ((qo a7 a8 a9 a17 a18 a19).bind fun r2 =>
        some r2)
       (some false))
      (some false))
     (some false))
    (some false))
   (some false))
  (some false))
 (some false)
def y7 (rec:(jT×jT×Int)→Option (Unit⊕Bool)) (x:(jT×jT×Int)):Option (Unit⊕Bool) :=
 cond (decide (x.2.2<((List.length x.1:Nat):Int)))
 ((gx x.1 x.2.2).bind fun e4 =>
  (gx x.2.1 x.2.2).bind fun e5 =>
  (zdm e4.1 e4.2.1 e4.2.2.1 e4.2.2.2.1 e4.2.2.2.2.1 e4.2.2.2.2.2.1 e4.2.2.2.2.2.2.1 e4.2.2.2.2.2.2.2.1 e4.2.2.2.2.2.2.2.2.1 e4.2.2.2.2.2.2.2.2.2 e5.1 e5.2.1 e5.2.2.1 e5.2.2.2.1 e5.2.2.2.2.1 e5.2.2.2.2.2.1 e5.2.2.2.2.2.2.1 e5.2.2.2.2.2.2.2.1 e5.2.2.2.2.2.2.2.2.1 e5.2.2.2.2.2.2.2.2.2).bind fun r6 =>
  cond (!r6)
  (some (Sum.inr false))
  (rec (x.1,x.2.1,(IntKind.wrap .i64 (x.2.2+1)))))
 (some (Sum.inl ()))
def zbW (a0:jT) (a1:jT):Option Bool :=
 cond (((List.length a0:Nat):Int) != ((List.length a1:Nat):Int))
 (some false)
 (((lp y7 zi) (a0,a1,0)).bind fun r10 =>
  yg r10
  (fun z11=>some true)
  (fun z12=>some z12))
def zjP:Option Bool :=
 (zeC).bind fun r16 =>
 (qR r16 ([(false,([5,(-1)]:List Int)),(false,([5,3,(-2)]:List Int))]:List zl) ([([(-1)]:List Int)]:List jI) ([]:jQ) 0 1).bind fun r17 =>
 (zeC).bind fun r18 =>
 (zfM r18 ([(false,([5,(-1)]:List Int)),(false,([5,3,(-2)]:List Int))]:List zl) ([([(-1)]:List Int)]:List jI) ([]:jQ) 2).bind fun r19 =>
 (zeC).bind fun r20 =>
 (zkY r20 ([(true,([5,1]:List Int))]:List zl) ([]:jR) ([]:jQ) 0).bind fun r21 =>
 (zeC).bind fun r22 =>
 (qR r22 ([(false,([5,(-1)]:List Int)),(false,([5,3,(-2)]:List Int))]:List zl) ([([(-1)]:List Int)]:List jI) ([]:jQ) 1 1).bind fun r23 =>
 cond r17.2.2.1
 ((zgB r17.2.2.2.1).bind fun r24 =>
  cond (r24==0)
  ((qo r17.1 r17.2.1 r17.2.2.2.2 ([(false,([5,3,(-1)]:List Int))]:List zl) ([([3,(-1)]:List Int)]:List jI) ([]:jQ)).bind fun r25 =>
   cond r25
   ((zgB r19.2.1).bind fun r26 =>
    cond (r26==0)
    (cond (r19.1==0)
     ((zbW r19.2.2 ([(2,2,0,0,(-1),1,0,([(false,([5,3,(-1)]:List Int))]:List zl),([([3,(-1)]:List Int)]:List jI),([]:jQ))]:List jU)).bind fun r27 =>
      cond r27
      ((zgB r21.2.2.1).bind fun r28 =>
       cond (r28==0)
       ((qo r21.1 r21.2.1 r21.2.2.2 ([]:jQ) ([]:jR) ([(false,([5,1]:List Int))]:List zl)).bind fun r29 =>
        cond r29
        ((zgB r23.2.2.2.1).bind fun r30 =>
         some (r30==1400))
        (some false))
       (some false))
      (some false))
     (some false))
    (some false))
   (some false))
  (some false))
 (some false)
end Go.Abs.Q
namespace Go.Abs.Q
open Go Go.Abs
def zJ (s1:jR) (s6:Int) (s8:Int):List jI→Nat→(List (jI×Int×jI×Int))→Option (List (jI×Int×jI×Int))
 | [],i,s4=>some s4
 | e::es,i,s4 =>
  (gx s1 (i:Int)).bind fun e8 =>
  cond (qi (List.length s4+List.length ([(e,s6,e8,s8)]:List (jI×Int×jI×Int))) 64)
  (zJ s1 s6 s8 es (i+1) (s4++([(e,s6,e8,s8)]:List (jI×Int×jI×Int))))
  (none)
theorem ze1 (s0:jR) (s1:jR) (s5:jI) (s6:Int) (s7:jI) (s8:Int) (hl:List.length s0≤maxLen):∀(es:List jI) (i:Nat) (k:Nat) (s4:(List (jI×Int×jI×Int))),s0.drop i=es→es.length<k→lp yc k (s0,s1,((List.length s0:Nat):Int),(i:Int),s4,s5,s6,s7,s8)=zJ s1 s6 s8 es i s4:=by
 intro es
 induction es with
 | nil =>
  intro i k s4 h hk
  obtain⟨k,rfl⟩:∃ k',k=k'+1:=⟨k - 1,by omega⟩
  rw[zc]
  generalize lp yc k=rec
  unfold yc zJ
  simp only[zk (zg h),cond_false]
 | cons e es ih =>
  intro i k s4 h hk
  obtain⟨k,rfl⟩:∃ k',k=k'+1:=⟨k - 1,by omega⟩
  rw[zc]
  have hi:=ze h
  have hk2:es.length<k:=Nat.lt_of_succ_lt_succ hk
  have key:=fun s4=>ih (i+1) k s4 (za h) hk2
  generalize lp yc k=rec at key ⊢
  unfold yc zJ
  simp only[zn hi,cond_true,zp,zb h,Option.bind_some,zo hi hl,key]
theorem zew (s0:jR) (s1:jR) (s5:jI) (s6:Int) (s7:jI) (s8:Int) (s4:(List (jI×Int×jI×Int))) (hl:List.length s0≤maxLen):lp yc zi (s0,s1,((List.length s0:Nat):Int),0,s4,s5,s6,s7,s8)=zJ s1 s6 s8 s0 0 s4 :=
 ze1 s0 s1 s5 s6 s7 s8 hl s0 0 zi s4 rfl (Nat.lt_of_le_of_lt hl (by decide))
def zr (s0:Int) (s5:(List ((Option jI)×Int))) (s6:jI) (s7:Int):List Int→(List Bool)→(List (jI×Int))→Option (((List Bool)×(List (jI×Int)))⊕Bool)
 | [],s8,s9=>some (Sum.inl (s8,s9))
 | e::es,s8,s9 =>
  cond (decide (e≥0))
  (zr s0 s5 s6 s7 es s8 s9)
  ((yF s6 s7 e).bind fun r15 =>
   cond (r15==s0)
   (some (Sum.inr true))
   ((inR r15 48).bind fun k16 =>
    (s8[k16]?).bind fun x17 =>
    cond (!x17)
    ((inR r15 48).bind fun k18 =>
     (s5[k18]?).bind fun x19 =>
     cond (!(Option.isNone x19.1))
     ((inR r15 48).bind fun k20 =>
      (s8[k20]?).bind fun x21 =>
      (inR r15 48).bind fun k22 =>
      (s5[k22]?).bind fun x23 =>
      cond (qi (List.length s9+List.length ([((Option.getD x23.1 []),x23.2)]:List (jI×Int))) 32)
      (zr s0 s5 s6 s7 es (List.set s8 k20 true) (s9++([((Option.getD x23.1 []),x23.2)]:List (jI×Int))))
      (none))
     (zr s0 s5 s6 s7 es s8 s9))
    (zr s0 s5 s6 s7 es s8 s9)))
theorem zfm (s0:Int) (s1:jI) (s4:jS) (s5:(List ((Option jI)×Int))) (s6:jI) (s7:Int) (hl:List.length s1≤maxLen):∀(es:List Int) (i:Nat) (k:Nat) (s8:(List Bool)) (s9:(List (jI×Int))),s1.drop i=es→es.length<k→lp yt k (s0,s1,((List.length s1:Nat):Int),(i:Int),s4,s5,s6,s7,s8,s9)=zr s0 s5 s6 s7 es s8 s9:=by
 intro es
 induction es with
 | nil =>
  intro i k s8 s9 h hk
  obtain⟨k,rfl⟩:∃ k',k=k'+1:=⟨k - 1,by omega⟩
  rw[zc]
  generalize lp yt k=rec
  unfold yt zr
  simp only[zk (zg h),cond_false]
 | cons e es ih =>
  intro i k s8 s9 h hk
  obtain⟨k,rfl⟩:∃ k',k=k'+1:=⟨k - 1,by omega⟩
  rw[zc]
  have hi:=ze h
  have hk2:es.length<k:=Nat.lt_of_succ_lt_succ hk
  have key:=fun s8 s9=>ih (i+1) k s8 s9 (za h) hk2
  generalize lp yt k=rec at key ⊢
  unfold yt zr
  simp only[zn hi,cond_true,zp,zb h,Option.bind_some,zo hi hl,key]
theorem zeW (s0:Int) (s1:jI) (s4:jS) (s5:(List ((Option jI)×Int))) (s6:jI) (s7:Int) (s8:(List Bool)) (s9:(List (jI×Int))) (hl:List.length s1≤maxLen):lp yt zi (s0,s1,((List.length s1:Nat):Int),0,s4,s5,s6,s7,s8,s9)=zr s0 s5 s6 s7 s1 s8 s9 :=
 zfm s0 s1 s4 s5 s6 s7 hl s1 0 zi s8 s9 rfl (Nat.lt_of_le_of_lt hl (by decide))
def yy:List jR→jR→Option jR
 | [],s3=>some s3
 | e::es,s3 =>
  cond (qi (List.length s3+List.length e) 24)
  (yy es (s3++e))
  (none)
theorem zhr (s0:(List jR)) (hl:List.length s0≤maxLen):∀(es:List jR) (i:Nat) (k:Nat) (s3:jR),s0.drop i=es→es.length<k→lp qK k (s0,((List.length s0:Nat):Int),(i:Int),s3)=yy es s3:=by
 intro es
 induction es with
 | nil =>
  intro i k s3 h hk
  obtain⟨k,rfl⟩:∃ k',k=k'+1:=⟨k - 1,by omega⟩
  rw[zc]
  generalize lp qK k=rec
  unfold qK yy
  simp only[zk (zg h),cond_false]
 | cons e es ih =>
  intro i k s3 h hk
  obtain⟨k,rfl⟩:∃ k',k=k'+1:=⟨k - 1,by omega⟩
  rw[zc]
  have hi:=ze h
  have hk2:es.length<k:=Nat.lt_of_succ_lt_succ hk
  have key:=fun s3=>ih (i+1) k s3 (za h) hk2
  generalize lp qK k=rec at key ⊢
  unfold qK yy
  simp only[zn hi,cond_true,zp,zb h,Option.bind_some,zo hi hl,key]
theorem zgR (s0:(List jR)) (s3:jR) (hl:List.length s0≤maxLen):lp qK zi (s0,((List.length s0:Nat):Int),0,s3)=yy s0 s3 :=
 zhr s0 hl s0 0 zi s3 rfl (Nat.lt_of_le_of_lt hl (by decide))
def yr:List jR→Int→Option Int
 | [],s1=>some s1
 | e::es,s1 =>
  cond (decide ((IntKind.wrap .i64 (s1+((List.length e:Nat):Int)))<0))
  (none)
  (yr es (IntKind.wrap .i64 (s1+((List.length e:Nat):Int))))
theorem zhj (s0:(List jR)) (s2:(List jR)) (hl:List.length s2≤maxLen):∀(es:List jR) (i:Nat) (k:Nat) (s1:Int),s2.drop i=es→es.length<k→lp qC k (s0,s1,s2,((List.length s2:Nat):Int),(i:Int))=yr es s1:=by
 intro es
 induction es with
 | nil =>
  intro i k s1 h hk
  obtain⟨k,rfl⟩:∃ k',k=k'+1:=⟨k - 1,by omega⟩
  rw[zc]
  generalize lp qC k=rec
  unfold qC yr
  simp only[zk (zg h),cond_false]
 | cons e es ih =>
  intro i k s1 h hk
  obtain⟨k,rfl⟩:∃ k',k=k'+1:=⟨k - 1,by omega⟩
  rw[zc]
  have hi:=ze h
  have hk2:es.length<k:=Nat.lt_of_succ_lt_succ hk
  have key:=fun s1=>ih (i+1) k s1 (za h) hk2
  generalize lp qC k=rec at key ⊢
  unfold qC yr
  simp only[zn hi,cond_true,zp,zb h,Option.bind_some,zo hi hl,key]
theorem zgw (s0:(List jR)) (s2:(List jR)) (s1:Int) (hl:List.length s2≤maxLen):lp qC zi (s0,s1,s2,((List.length s2:Nat):Int),0)=yr s2 s1 :=
 zhj s0 s2 hl s2 0 zi s1 rfl (Nat.lt_of_le_of_lt hl (by decide))
def zX:List jQ→jQ→Option jQ
 | [],s3=>some s3
 | e::es,s3 =>
  cond (qi (List.length s3+List.length e) 32)
  (zX es (s3++e))
  (none)
theorem zfD (s0:(List jQ)) (hl:List.length s0≤maxLen):∀(es:List jQ) (i:Nat) (k:Nat) (s3:jQ),s0.drop i=es→es.length<k→lp yG k (s0,((List.length s0:Nat):Int),(i:Int),s3)=zX es s3:=by
 intro es
 induction es with
 | nil =>
  intro i k s3 h hk
  obtain⟨k,rfl⟩:∃ k',k=k'+1:=⟨k - 1,by omega⟩
  rw[zc]
  generalize lp yG k=rec
  unfold yG zX
  simp only[zk (zg h),cond_false]
 | cons e es ih =>
  intro i k s3 h hk
  obtain⟨k,rfl⟩:∃ k',k=k'+1:=⟨k - 1,by omega⟩
  rw[zc]
  have hi:=ze h
  have hk2:es.length<k:=Nat.lt_of_succ_lt_succ hk
  have key:=fun s3=>ih (i+1) k s3 (za h) hk2
  generalize lp yG k=rec at key ⊢
  unfold yG zX
  simp only[zn hi,cond_true,zp,zb h,Option.bind_some,zo hi hl,key]
theorem zff (s0:(List jQ)) (s3:jQ) (hl:List.length s0≤maxLen):lp yG zi (s0,((List.length s0:Nat):Int),0,s3)=zX s0 s3 :=
 zfD s0 hl s0 0 zi s3 rfl (Nat.lt_of_le_of_lt hl (by decide))
def zT:List jQ→Int→Option Int
 | [],s1=>some s1
 | e::es,s1 =>
  cond (decide ((IntKind.wrap .i64 (s1+((List.length e:Nat):Int)))<0))
  (none)
  (zT es (IntKind.wrap .i64 (s1+((List.length e:Nat):Int))))
theorem zfR (s0:(List jQ)) (s2:(List jQ)) (hl:List.length s2≤maxLen):∀(es:List jQ) (i:Nat) (k:Nat) (s1:Int),s2.drop i=es→es.length<k→lp yJ k (s0,s1,s2,((List.length s2:Nat):Int),(i:Int))=zT es s1:=by
 intro es
 induction es with
 | nil =>
  intro i k s1 h hk
  obtain⟨k,rfl⟩:∃ k',k=k'+1:=⟨k - 1,by omega⟩
  rw[zc]
  generalize lp yJ k=rec
  unfold yJ zT
  simp only[zk (zg h),cond_false]
 | cons e es ih =>
  intro i k s1 h hk
  obtain⟨k,rfl⟩:∃ k',k=k'+1:=⟨k - 1,by omega⟩
  rw[zc]
  have hi:=ze h
  have hk2:es.length<k:=Nat.lt_of_succ_lt_succ hk
  have key:=fun s1=>ih (i+1) k s1 (za h) hk2
  generalize lp yJ k=rec at key ⊢
  unfold yJ zT
  simp only[zn hi,cond_true,zp,zb h,Option.bind_some,zo hi hl,key]
theorem zfn (s0:(List jQ)) (s2:(List jQ)) (s1:Int) (hl:List.length s2≤maxLen):lp yJ zi (s0,s1,s2,((List.length s2:Nat):Int),0)=zT s2 s1 :=
 zfR s0 s2 hl s2 0 zi s1 rfl (Nat.lt_of_le_of_lt hl (by decide))
def ye (s0:Int) (s4:jR) (s6:jQ):List zl→Nat→jQ→Option (jR×jQ×jQ)
 | [],i,s5=>some (s4,s5,s6)
 | e::es,i,s5 =>
  cond ((i:Int) != s0)
  (cond (qi (List.length s5+List.length ([(e.1,e.2)]:List zl)) 32)
   (ye s0 s4 s6 es (i+1) (s5++([(e.1,e.2)]:List zl)))
   (none))
  (ye s0 s4 s6 es (i+1) s5)
theorem zia (s0:Int) (s1:jQ) (s4:jR) (s6:jQ) (hl:List.length s1≤maxLen):∀(es:List zl) (i:Nat) (k:Nat) (s5:jQ),s1.drop i=es→es.length<k→lp q8 k (s0,s1,((List.length s1:Nat):Int),(i:Int),s4,s5,s6)=ye s0 s4 s6 es i s5:=by
 intro es
 induction es with
 | nil =>
  intro i k s5 h hk
  obtain⟨k,rfl⟩:∃ k',k=k'+1:=⟨k - 1,by omega⟩
  rw[zc]
  generalize lp q8 k=rec
  unfold q8 ye
  simp only[zk (zg h),cond_false]
 | cons e es ih =>
  intro i k s5 h hk
  obtain⟨k,rfl⟩:∃ k',k=k'+1:=⟨k - 1,by omega⟩
  rw[zc]
  have hi:=ze h
  have hk2:es.length<k:=Nat.lt_of_succ_lt_succ hk
  have key:=fun s5=>ih (i+1) k s5 (za h) hk2
  generalize lp q8 k=rec at key ⊢
  unfold q8 ye
  simp only[zn hi,cond_true,zp,zb h,Option.bind_some,zo hi hl,key]
theorem zhn (s0:Int) (s1:jQ) (s4:jR) (s6:jQ) (s5:jQ) (hl:List.length s1≤maxLen):lp q8 zi (s0,s1,((List.length s1:Nat):Int),0,s4,s5,s6)=ye s0 s4 s6 s1 0 s5 :=
 zia s0 s1 s4 s6 hl s1 0 zi s5 rfl (Nat.lt_of_le_of_lt hl (by decide))
def yf (s0:Int) (s8:jR) (s10:jQ):List zl→Nat→jQ→Option (jR×jQ×jQ)
 | [],i,s9=>some (s8,s9,s10)
 | e::es,i,s9 =>
  cond ((i:Int) != s0)
  (cond (qi (List.length s9+List.length ([(e.1,e.2)]:List zl)) 32)
   (yf s0 s8 s10 es (i+1) (s9++([(e.1,e.2)]:List zl)))
   (none))
  (yf s0 s8 s10 es (i+1) s9)
theorem ziv (s0:Int) (s1:Int) (s2:jQ) (s5:jQ) (s6:jR) (s7:jQ) (s8:jR) (s10:jQ) (hl:List.length s2≤maxLen):∀(es:List zl) (i:Nat) (k:Nat) (s9:jQ),s2.drop i=es→es.length<k→lp q4 k (s0,s1,s2,((List.length s2:Nat):Int),(i:Int),s5,s6,s7,s8,s9,s10)=yf s0 s8 s10 es i s9:=by
 intro es
 induction es with
 | nil =>
  intro i k s9 h hk
  obtain⟨k,rfl⟩:∃ k',k=k'+1:=⟨k - 1,by omega⟩
  rw[zc]
  generalize lp q4 k=rec
  unfold q4 yf
  simp only[zk (zg h),cond_false]
 | cons e es ih =>
  intro i k s9 h hk
  obtain⟨k,rfl⟩:∃ k',k=k'+1:=⟨k - 1,by omega⟩
  rw[zc]
  have hi:=ze h
  have hk2:es.length<k:=Nat.lt_of_succ_lt_succ hk
  have key:=fun s9=>ih (i+1) k s9 (za h) hk2
  generalize lp q4 k=rec at key ⊢
  unfold q4 yf
  simp only[zn hi,cond_true,zp,zb h,Option.bind_some,zo hi hl,key]
theorem zhq (s0:Int) (s1:Int) (s2:jQ) (s5:jQ) (s6:jR) (s7:jQ) (s8:jR) (s10:jQ) (s9:jQ) (hl:List.length s2≤maxLen):lp q4 zi (s0,s1,s2,((List.length s2:Nat):Int),0,s5,s6,s7,s8,s9,s10)=yf s0 s8 s10 s2 0 s9 :=
 ziv s0 s1 s2 s5 s6 s7 s8 s10 hl s2 0 zi s9 rfl (Nat.lt_of_le_of_lt hl (by decide))
def zaP (s0:Int):List (Int×jI)→Option (Unit⊕jI)
 | []=>some (Sum.inl ())
 | e::es =>
  cond (e.1==s0)
  (some (Sum.inr e.2))
  (zaP s0 es)
theorem zkq (s0:Int) (s1:(List (Int×jI))) (hl:List.length s1≤maxLen):∀(es:List (Int×jI)) (i:Nat) (k:Nat),s1.drop i=es→es.length<k→lp zbz k (s0,s1,((List.length s1:Nat):Int),(i:Int))=zaP s0 es:=by
 intro es
 induction es with
 | nil =>
  intro i k h hk
  obtain⟨k,rfl⟩:∃ k',k=k'+1:=⟨k - 1,by omega⟩
  rw[zc]
  generalize lp zbz k=rec
  unfold zbz zaP
  simp only[zk (zg h),cond_false]
 | cons e es ih =>
  intro i k h hk
  obtain⟨k,rfl⟩:∃ k',k=k'+1:=⟨k - 1,by omega⟩
  rw[zc]
  have hi:=ze h
  have hk2:es.length<k:=Nat.lt_of_succ_lt_succ hk
  have key:=fun (_:Unit)=>ih (i+1) k (za h) hk2
  generalize lp zbz k=rec at key ⊢
  unfold zbz zaP
  simp only[zn hi,cond_true,zp,zb h,Option.bind_some,zo hi hl,key ()]
theorem zjR (s0:Int) (s1:(List (Int×jI))) (hl:List.length s1≤maxLen):lp zbz zi (s0,s1,((List.length s1:Nat):Int),0)=zaP s0 s1 :=
 zkq s0 s1 hl s1 0 zi rfl (Nat.lt_of_le_of_lt hl (by decide))
def qX (s0:(List (Int×jI))):List Int→jI→Option jI
 | [],s4=>some s4
 | e::es,s4 =>
  (yU e).bind fun r11 =>
  (zij s0 r11).bind fun r12 =>
  cond (decide (e≥0))
  (cond (qi (List.length s4+List.length ([e]:List Int)) 8)
   (qX s0 es (s4++([e]:List Int)))
   (none))
  (cond (Option.isNone r12)
   (cond (qi (List.length s4+List.length ([e]:List Int)) 8)
    (qX s0 es (s4++([e]:List Int)))
    (none))
   (cond (qi (List.length s4+List.length (Option.getD r12 [])) 8)
    (qX s0 es (s4++(Option.getD r12 [])))
    (none)))
theorem zma (s0:(List (Int×jI))) (s1:jI) (hl:List.length s1≤maxLen):∀(es:List Int) (i:Nat) (k:Nat) (s4:jI),s1.drop i=es→es.length<k→lp zcU k (s0,s1,((List.length s1:Nat):Int),(i:Int),s4)=qX s0 es s4:=by
 intro es
 induction es with
 | nil =>
  intro i k s4 h hk
  obtain⟨k,rfl⟩:∃ k',k=k'+1:=⟨k - 1,by omega⟩
  rw[zc]
  generalize lp zcU k=rec
  unfold zcU qX
  simp only[zk (zg h),cond_false]
 | cons e es ih =>
  intro i k s4 h hk
  obtain⟨k,rfl⟩:∃ k',k=k'+1:=⟨k - 1,by omega⟩
  rw[zc]
  have hi:=ze h
  have hk2:es.length<k:=Nat.lt_of_succ_lt_succ hk
  have key:=fun s4=>ih (i+1) k s4 (za h) hk2
  generalize lp zcU k=rec at key ⊢
  unfold zcU qX
  simp only[zn hi,cond_true,zp,zb h,Option.bind_some,zo hi hl,key]
theorem zlB (s0:(List (Int×jI))) (s1:jI) (s4:jI) (hl:List.length s1≤maxLen):lp zcU zi (s0,s1,((List.length s1:Nat):Int),0,s4)=qX s0 s1 s4 :=
 zma s0 s1 hl s1 0 zi s4 rfl (Nat.lt_of_le_of_lt hl (by decide))
def yY (s3:(List (Int×jI))) (s4:jQ) (s5:jR):List zl→jQ→Option (jQ×jR×jQ)
 | [],s6=>some (s4,s5,s6)
 | e::es,s6 =>
  (zaC e.2 s3).bind fun r20 =>
  cond (qi (List.length s6+List.length ([(e.1,r20)]:List zl)) 32)
  (yY s3 s4 s5 es (s6++([(e.1,r20)]:List zl)))
  (none)
theorem zi3 (s0:jQ) (s3:(List (Int×jI))) (s4:jQ) (s5:jR) (hl:List.length s0≤maxLen):∀(es:List zl) (i:Nat) (k:Nat) (s6:jQ),s0.drop i=es→es.length<k→lp zaD k (s0,((List.length s0:Nat):Int),(i:Int),s3,s4,s5,s6)=yY s3 s4 s5 es s6:=by
 intro es
 induction es with
 | nil =>
  intro i k s6 h hk
  obtain⟨k,rfl⟩:∃ k',k=k'+1:=⟨k - 1,by omega⟩
  rw[zc]
  generalize lp zaD k=rec
  unfold zaD yY
  simp only[zk (zg h),cond_false]
 | cons e es ih =>
  intro i k s6 h hk
  obtain⟨k,rfl⟩:∃ k',k=k'+1:=⟨k - 1,by omega⟩
  rw[zc]
  have hi:=ze h
  have hk2:es.length<k:=Nat.lt_of_succ_lt_succ hk
  have key:=fun s6=>ih (i+1) k s6 (za h) hk2
  generalize lp zaD k=rec at key ⊢
  unfold zaD yY
  simp only[zn hi,cond_true,zp,zb h,Option.bind_some,zo hi hl,key]
theorem ziu (s0:jQ) (s3:(List (Int×jI))) (s4:jQ) (s5:jR) (s6:jQ) (hl:List.length s0≤maxLen):lp zaD zi (s0,((List.length s0:Nat):Int),0,s3,s4,s5,s6)=yY s3 s4 s5 s0 s6 :=
 zi3 s0 s3 s4 s5 hl s0 0 zi s6 rfl (Nat.lt_of_le_of_lt hl (by decide))
def qa (s3:(List (Int×jI))) (s7:jQ):List jI→jR→Option (jQ×jR)
 | [],s8=>some (s7,s8)
 | e::es,s8 =>
  (zaC e s3).bind fun r13 =>
  cond (qi (List.length s8+List.length ([r13]:List jI)) 24)
  (qa s3 s7 es (s8++([r13]:List jI)))
  (none)
theorem zi4 (s0:jR) (s3:(List (Int×jI))) (s4:jQ) (s5:jR) (s6:jQ) (s7:jQ) (hl:List.length s0≤maxLen):∀(es:List jI) (i:Nat) (k:Nat) (s8:jR),s0.drop i=es→es.length<k→lp zay k (s0,((List.length s0:Nat):Int),(i:Int),s3,s4,s5,s6,s7,s8)=qa s3 s7 es s8:=by
 intro es
 induction es with
 | nil =>
  intro i k s8 h hk
  obtain⟨k,rfl⟩:∃ k',k=k'+1:=⟨k - 1,by omega⟩
  rw[zc]
  generalize lp zay k=rec
  unfold zay qa
  simp only[zk (zg h),cond_false]
 | cons e es ih =>
  intro i k s8 h hk
  obtain⟨k,rfl⟩:∃ k',k=k'+1:=⟨k - 1,by omega⟩
  rw[zc]
  have hi:=ze h
  have hk2:es.length<k:=Nat.lt_of_succ_lt_succ hk
  have key:=fun s8=>ih (i+1) k s8 (za h) hk2
  generalize lp zay k=rec at key ⊢
  unfold zay qa
  simp only[zn hi,cond_true,zp,zb h,Option.bind_some,zo hi hl,key]
theorem zhR (s0:jR) (s3:(List (Int×jI))) (s4:jQ) (s5:jR) (s6:jQ) (s7:jQ) (s8:jR) (hl:List.length s0≤maxLen):lp zay zi (s0,((List.length s0:Nat):Int),0,s3,s4,s5,s6,s7,s8)=qa s3 s7 s0 s8 :=
 zi4 s0 s3 s4 s5 s6 s7 hl s0 0 zi s8 rfl (Nat.lt_of_le_of_lt hl (by decide))
def y0 (s3:(List (Int×jI))):List zl→jQ→Option jQ
 | [],s7=>some s7
 | e::es,s7 =>
  (zaC e.2 s3).bind fun r6 =>
  cond (qi (List.length s7+List.length ([(e.1,r6)]:List zl)) 32)
  (y0 s3 es (s7++([(e.1,r6)]:List zl)))
  (none)
theorem zi1 (s0:jQ) (s3:(List (Int×jI))) (s4:jQ) (s5:jR) (s6:jQ) (hl:List.length s0≤maxLen):∀(es:List zl) (i:Nat) (k:Nat) (s7:jQ),s0.drop i=es→es.length<k→lp zav k (s0,((List.length s0:Nat):Int),(i:Int),s3,s4,s5,s6,s7)=y0 s3 es s7:=by
 intro es
 induction es with
 | nil =>
  intro i k s7 h hk
  obtain⟨k,rfl⟩:∃ k',k=k'+1:=⟨k - 1,by omega⟩
  rw[zc]
  generalize lp zav k=rec
  unfold zav y0
  simp only[zk (zg h),cond_false]
 | cons e es ih =>
  intro i k s7 h hk
  obtain⟨k,rfl⟩:∃ k',k=k'+1:=⟨k - 1,by omega⟩
  rw[zc]
  have hi:=ze h
  have hk2:es.length<k:=Nat.lt_of_succ_lt_succ hk
  have key:=fun s7=>ih (i+1) k s7 (za h) hk2
  generalize lp zav k=rec at key ⊢
  unfold zav y0
  simp only[zn hi,cond_true,zp,zb h,Option.bind_some,zo hi hl,key]
theorem zh4 (s0:jQ) (s3:(List (Int×jI))) (s4:jQ) (s5:jR) (s6:jQ) (s7:jQ) (hl:List.length s0≤maxLen):lp zav zi (s0,((List.length s0:Nat):Int),0,s3,s4,s5,s6,s7)=y0 s3 s0 s7 :=
 zi1 s0 s3 s4 s5 s6 hl s0 0 zi s7 rfl (Nat.lt_of_le_of_lt hl (by decide))
def zP (s3:jS):List zl→Nat→Option (Unit⊕Int)
 | [],i=>some (Sum.inl ())
 | e::es,i =>
  (zgv e.1 e.2 s3).bind fun r4 =>
  cond r4
  (some (Sum.inr (i:Int)))
  (zP s3 es (i+1))
theorem zeS (s0:jQ) (s3:jS) (hl:List.length s0≤maxLen):∀(es:List zl) (i:Nat) (k:Nat),s0.drop i=es→es.length<k→lp zY k (s0,((List.length s0:Nat):Int),(i:Int),s3)=zP s3 es i:=by
 intro es
 induction es with
 | nil =>
  intro i k h hk
  obtain⟨k,rfl⟩:∃ k',k=k'+1:=⟨k - 1,by omega⟩
  rw[zc]
  generalize lp zY k=rec
  unfold zY zP
  simp only[zk (zg h),cond_false]
 | cons e es ih =>
  intro i k h hk
  obtain⟨k,rfl⟩:∃ k',k=k'+1:=⟨k - 1,by omega⟩
  rw[zc]
  have hi:=ze h
  have hk2:es.length<k:=Nat.lt_of_succ_lt_succ hk
  have key:=fun (_:Unit)=>ih (i+1) k (za h) hk2
  generalize lp zY k=rec at key ⊢
  unfold zY zP
  simp only[zn hi,cond_true,zp,zb h,Option.bind_some,zo hi hl,key ()]
theorem zel (s0:jQ) (s3:jS) (hl:List.length s0≤maxLen):lp zY zi (s0,((List.length s0:Nat):Int),0,s3)=zP s3 s0 0 :=
 zeS s0 s3 hl s0 0 zi rfl (Nat.lt_of_le_of_lt hl (by decide))
def yZ:List Int→jI→Option jI
 | [],s3=>some s3
 | e::es,s3 =>
  cond (decide (e<0))
  ((yU e).bind fun r8 =>
   (inR r8 24).bind fun k9 =>
   (s3[k9]?).bind fun x10 =>
   (inR r8 24).bind fun k11 =>
   (s3[k11]?).bind fun x12 =>
   yZ es (List.set s3 k11 (IntKind.wrap .i64 (x10+1))))
  (yZ es s3)
theorem ziW (s0:jI) (hl:List.length s0≤maxLen):∀(es:List Int) (i:Nat) (k:Nat) (s3:jI),s0.drop i=es→es.length<k→lp zaB k (s0,((List.length s0:Nat):Int),(i:Int),s3)=yZ es s3:=by
 intro es
 induction es with
 | nil =>
  intro i k s3 h hk
  obtain⟨k,rfl⟩:∃ k',k=k'+1:=⟨k - 1,by omega⟩
  rw[zc]
  generalize lp zaB k=rec
  unfold zaB yZ
  simp only[zk (zg h),cond_false]
 | cons e es ih =>
  intro i k s3 h hk
  obtain⟨k,rfl⟩:∃ k',k=k'+1:=⟨k - 1,by omega⟩
  rw[zc]
  have hi:=ze h
  have hk2:es.length<k:=Nat.lt_of_succ_lt_succ hk
  have key:=fun s3=>ih (i+1) k s3 (za h) hk2
  generalize lp zaB k=rec at key ⊢
  unfold zaB yZ
  simp only[zn hi,cond_true,zp,zb h,Option.bind_some,zo hi hl,key]
theorem zh6 (s0:jI) (s3:jI) (hl:List.length s0≤maxLen):lp zaB zi (s0,((List.length s0:Nat):Int),0,s3)=yZ s0 s3 :=
 ziW s0 hl s0 0 zi s3 rfl (Nat.lt_of_le_of_lt hl (by decide))
def qh (s0:jS):List Int→Int→Option Int
 | [],s1=>some s1
 | e::es,s1 =>
  cond (decide (e<0))
  (qh s0 es (IntKind.wrap .i64 (s1+1)))
  ((gx s0 e).bind fun e4 =>
   qh s0 es (IntKind.wrap .i64 (s1+e4.2.2.2)))
theorem zlo (s0:jS) (s2:jI) (hl:List.length s2≤maxLen):∀(es:List Int) (i:Nat) (k:Nat) (s1:Int),s2.drop i=es→es.length<k→lp zcc k (s0,s1,s2,((List.length s2:Nat):Int),(i:Int))=qh s0 es s1:=by
 intro es
 induction es with
 | nil =>
  intro i k s1 h hk
  obtain⟨k,rfl⟩:∃ k',k=k'+1:=⟨k - 1,by omega⟩
  rw[zc]
  generalize lp zcc k=rec
  unfold zcc qh
  simp only[zk (zg h),cond_false]
 | cons e es ih =>
  intro i k s1 h hk
  obtain⟨k,rfl⟩:∃ k',k=k'+1:=⟨k - 1,by omega⟩
  rw[zc]
  have hi:=ze h
  have hk2:es.length<k:=Nat.lt_of_succ_lt_succ hk
  have key:=fun s1=>ih (i+1) k s1 (za h) hk2
  generalize lp zcc k=rec at key ⊢
  unfold zcc qh
  simp only[zn hi,cond_true,zp,zb h,Option.bind_some,zo hi hl,key]
theorem zfb (s0:jS) (s2:jI) (s1:Int) (hl:List.length s2≤maxLen):lp zcc zi (s0,s1,s2,((List.length s2:Nat):Int),0)=qh s0 s2 s1 :=
 zlo s0 s2 hl s2 0 zi s1 rfl (Nat.lt_of_le_of_lt hl (by decide))
def yK (s0:jR):List jI→Nat→Option (Unit⊕(jI×jI))
 | [],i=>some (Sum.inl ())
 | e::es,i =>
  cond (decide ((i:Int)<((List.length s0:Nat):Int)))
  ((gx s0 (i:Int)).bind fun e8 =>
   (yk e e8).bind fun r9 =>
   cond (!r9)
   ((gx s0 (i:Int)).bind fun e10 =>
    some (Sum.inr (e,e10)))
   (yK s0 es (i+1)))
  (yK s0 es (i+1))
theorem zh8 (s0:jR) (s1:jR) (hl:List.length s1≤maxLen):∀(es:List jI) (i:Nat) (k:Nat),s1.drop i=es→es.length<k→lp zae k (s0,s1,((List.length s1:Nat):Int),(i:Int))=yK s0 es i:=by
 intro es
 induction es with
 | nil =>
  intro i k h hk
  obtain⟨k,rfl⟩:∃ k',k=k'+1:=⟨k - 1,by omega⟩
  rw[zc]
  generalize lp zae k=rec
  unfold zae yK
  simp only[zk (zg h),cond_false]
 | cons e es ih =>
  intro i k h hk
  obtain⟨k,rfl⟩:∃ k',k=k'+1:=⟨k - 1,by omega⟩
  rw[zc]
  have hi:=ze h
  have hk2:es.length<k:=Nat.lt_of_succ_lt_succ hk
  have key:=fun (_:Unit)=>ih (i+1) k (za h) hk2
  generalize lp zae k=rec at key ⊢
  unfold zae yK
  simp only[zn hi,cond_true,zp,zb h,Option.bind_some,zo hi hl,key ()]
theorem zhp (s0:jR) (s1:jR) (hl:List.length s1≤maxLen):lp zae zi (s0,s1,((List.length s1:Nat):Int),0)=yK s0 s1 0 :=
 zh8 s0 s1 hl s1 0 zi rfl (Nat.lt_of_le_of_lt hl (by decide))
def zR (s3:jS) (s4:Bool) (s5:jI):List zl→Nat→Option (Unit⊕Int)
 | [],i=>some (Sum.inl ())
 | e::es,i =>
  (zgn e.1 e.2 s3 s4 s5).bind fun r4 =>
  cond r4
  (some (Sum.inr (i:Int)))
  (zR s3 s4 s5 es (i+1))
theorem zeL (s0:jQ) (s3:jS) (s4:Bool) (s5:jI) (hl:List.length s0≤maxLen):∀(es:List zl) (i:Nat) (k:Nat),s0.drop i=es→es.length<k→lp zU k (s0,((List.length s0:Nat):Int),(i:Int),s3,s4,s5)=zR s3 s4 s5 es i:=by
 intro es
 induction es with
 | nil =>
  intro i k h hk
  obtain⟨k,rfl⟩:∃ k',k=k'+1:=⟨k - 1,by omega⟩
  rw[zc]
  generalize lp zU k=rec
  unfold zU zR
  simp only[zk (zg h),cond_false]
 | cons e es ih =>
  intro i k h hk
  obtain⟨k,rfl⟩:∃ k',k=k'+1:=⟨k - 1,by omega⟩
  rw[zc]
  have hi:=ze h
  have hk2:es.length<k:=Nat.lt_of_succ_lt_succ hk
  have key:=fun (_:Unit)=>ih (i+1) k (za h) hk2
  generalize lp zU k=rec at key ⊢
  unfold zU zR
  simp only[zn hi,cond_true,zp,zb h,Option.bind_some,zo hi hl,key ()]
theorem zed (s0:jQ) (s3:jS) (s4:Bool) (s5:jI) (hl:List.length s0≤maxLen):lp zU zi (s0,((List.length s0:Nat):Int),0,s3,s4,s5)=zR s3 s4 s5 s0 0 :=
 zeL s0 s3 s4 s5 hl s0 0 zi rfl (Nat.lt_of_le_of_lt hl (by decide))
def qY (s0:jQ) (s4:jS):List zl→Nat→jI→Option jI
 | [],i,s5=>some s5
 | e::es,i,s5 =>
  (q5 s0 s4 e.1 e.2).bind fun r8 =>
  cond (!r8)
  (cond (qi (List.length s5+List.length ([(i:Int)]:List Int)) 8)
   (qY s0 s4 es (i+1) (s5++([(i:Int)]:List Int)))
   (none))
  (qY s0 s4 es (i+1) s5)
theorem zln (s0:jQ) (s1:jQ) (s4:jS) (hl:List.length s1≤maxLen):∀(es:List zl) (i:Nat) (k:Nat) (s5:jI),s1.drop i=es→es.length<k→lp zce k (s0,s1,((List.length s1:Nat):Int),(i:Int),s4,s5)=qY s0 s4 es i s5:=by
 intro es
 induction es with
 | nil =>
  intro i k s5 h hk
  obtain⟨k,rfl⟩:∃ k',k=k'+1:=⟨k - 1,by omega⟩
  rw[zc]
  generalize lp zce k=rec
  unfold zce qY
  simp only[zk (zg h),cond_false]
 | cons e es ih =>
  intro i k s5 h hk
  obtain⟨k,rfl⟩:∃ k',k=k'+1:=⟨k - 1,by omega⟩
  rw[zc]
  have hi:=ze h
  have hk2:es.length<k:=Nat.lt_of_succ_lt_succ hk
  have key:=fun s5=>ih (i+1) k s5 (za h) hk2
  generalize lp zce k=rec at key ⊢
  unfold zce qY
  simp only[zn hi,cond_true,zp,zb h,Option.bind_some,zo hi hl,key]
theorem zka (s0:jQ) (s1:jQ) (s4:jS) (s5:jI) (hl:List.length s1≤maxLen):lp zce zi (s0,s1,((List.length s1:Nat):Int),0,s4,s5)=qY s0 s4 s1 0 s5 :=
 zln s0 s1 s4 hl s1 0 zi s5 rfl (Nat.lt_of_le_of_lt hl (by decide))
def zQ (s3:Bool) (s4:jI):List zl→Nat→Option (Unit⊕Int)
 | [],i=>some (Sum.inl ())
 | e::es,i =>
  (zcz e.1 e.2 s3 s4).bind fun r4 =>
  cond r4
  (some (Sum.inr (i:Int)))
  (zQ s3 s4 es (i+1))
theorem zeP (s0:jQ) (s3:Bool) (s4:jI) (hl:List.length s0≤maxLen):∀(es:List zl) (i:Nat) (k:Nat),s0.drop i=es→es.length<k→lp zZ k (s0,((List.length s0:Nat):Int),(i:Int),s3,s4)=zQ s3 s4 es i:=by
 intro es
 induction es with
 | nil =>
  intro i k h hk
  obtain⟨k,rfl⟩:∃ k',k=k'+1:=⟨k - 1,by omega⟩
  rw[zc]
  generalize lp zZ k=rec
  unfold zZ zQ
  simp only[zk (zg h),cond_false]
 | cons e es ih =>
  intro i k h hk
  obtain⟨k,rfl⟩:∃ k',k=k'+1:=⟨k - 1,by omega⟩
  rw[zc]
  have hi:=ze h
  have hk2:es.length<k:=Nat.lt_of_succ_lt_succ hk
  have key:=fun (_:Unit)=>ih (i+1) k (za h) hk2
  generalize lp zZ k=rec at key ⊢
  unfold zZ zQ
  simp only[zn hi,cond_true,zp,zb h,Option.bind_some,zo hi hl,key ()]
theorem zeh (s0:jQ) (s3:Bool) (s4:jI) (hl:List.length s0≤maxLen):lp zZ zi (s0,((List.length s0:Nat):Int),0,s3,s4)=zQ s3 s4 s0 0 :=
 zeP s0 s3 s4 hl s0 0 zi rfl (Nat.lt_of_le_of_lt hl (by decide))
def yE (s0:jS) (s4:jQ):List zl→Option (Unit⊕(Bool×Int))
 | []=>some (Sum.inl ())
 | e::es =>
  (zbq s0 e.1 e.2).bind fun r6 =>
  cond r6
  (some (Sum.inr (true,0)))
  ((zal s4 e.1 e.2).bind fun r7 =>
   cond r7
   (some (Sum.inr (true,0)))
   (yE s0 s4 es))
theorem zgx (s0:jS) (s1:jQ) (s4:jQ) (s5:jR) (s6:jQ) (hl:List.length s1≤maxLen):∀(es:List zl) (i:Nat) (k:Nat),s1.drop i=es→es.length<k→lp qd k (s0,s1,((List.length s1:Nat):Int),(i:Int),s4,s5,s6)=yE s0 s4 es:=by
 intro es
 induction es with
 | nil =>
  intro i k h hk
  obtain⟨k,rfl⟩:∃ k',k=k'+1:=⟨k - 1,by omega⟩
  rw[zc]
  generalize lp qd k=rec
  unfold qd yE
  simp only[zk (zg h),cond_false]
 | cons e es ih =>
  intro i k h hk
  obtain⟨k,rfl⟩:∃ k',k=k'+1:=⟨k - 1,by omega⟩
  rw[zc]
  have hi:=ze h
  have hk2:es.length<k:=Nat.lt_of_succ_lt_succ hk
  have key:=fun (_:Unit)=>ih (i+1) k (za h) hk2
  generalize lp qd k=rec at key ⊢
  unfold qd yE
  simp only[zn hi,cond_true,zp,zb h,Option.bind_some,zo hi hl,key ()]
theorem zfS (s0:jS) (s1:jQ) (s4:jQ) (s5:jR) (s6:jQ) (hl:List.length s1≤maxLen):lp qd zi (s0,s1,((List.length s1:Nat):Int),0,s4,s5,s6)=yE s0 s4 s1 :=
 zgx s0 s1 s4 s5 s6 hl s1 0 zi rfl (Nat.lt_of_le_of_lt hl (by decide))
def yD (s1:jT):List jU→Nat→Option (Unit⊕Bool)
 | [],i=>some (Sum.inl ())
 | e::es,i =>
  (gx s1 (i:Int)).bind fun e5 =>
  (zdm e.1 e.2.1 e.2.2.1 e.2.2.2.1 e.2.2.2.2.1 e.2.2.2.2.2.1 e.2.2.2.2.2.2.1 e.2.2.2.2.2.2.2.1 e.2.2.2.2.2.2.2.2.1 e.2.2.2.2.2.2.2.2.2 e5.1 e5.2.1 e5.2.2.1 e5.2.2.2.1 e5.2.2.2.2.1 e5.2.2.2.2.2.1 e5.2.2.2.2.2.2.1 e5.2.2.2.2.2.2.2.1 e5.2.2.2.2.2.2.2.2.1 e5.2.2.2.2.2.2.2.2.2).bind fun r6 =>
  cond (!r6)
  (some (Sum.inr false))
  (yD s1 es (i+1))
theorem zgN (s0:jT) (s1:jT) (hl:List.length s0≤maxLen):∀(es:List jU) (i:Nat) (k:Nat),s0.drop i=es→es.length<k→lp y7 k (s0,s1,(i:Int))=yD s1 es i:=by
 intro es
 induction es with
 | nil =>
  intro i k h hk
  obtain⟨k,rfl⟩:∃ k',k=k'+1:=⟨k - 1,by omega⟩
  rw[zc]
  generalize lp y7 k=rec
  unfold y7 yD
  simp only[zk (zg h),cond_false]
 | cons e es ih =>
  intro i k h hk
  obtain⟨k,rfl⟩:∃ k',k=k'+1:=⟨k - 1,by omega⟩
  rw[zc]
  have hi:=ze h
  have hk2:es.length<k:=Nat.lt_of_succ_lt_succ hk
  have key:=fun (_:Unit)=>ih (i+1) k (za h) hk2
  generalize lp y7 k=rec at key ⊢
  unfold y7 yD
  simp only[zn hi,cond_true,zp,zb h,Option.bind_some,zo hi hl,key ()]
theorem zfN (s0:jT) (s1:jT) (hl:List.length s0≤maxLen):lp y7 zi (s0,s1,0)=yD s1 s0 0 :=
 zgN s0 s1 hl s0 0 zi rfl (Nat.lt_of_le_of_lt hl (by decide))
end Go.Abs.Q
namespace Go.Abs.Q
open Go Go.Abs
section
theorem zhb {xs:List Int} (h:xs.length≤1099511627776):zcr xs=some xs:=by
 unfold zcr zik
 simp only[Option.isNone_some,cond_false,Option.getD_some,List.length_nil,Nat.zero_add,List.nil_append]
 rw[zD (show xs.length*8≤140737488351232 by omega)]
 rfl
theorem zs6 (ys:List Int):(es:List Int)→(i:Nat)→es.length=(ys.drop i).length→qm ys es i=some (cond (decide (es=ys.drop i)) (.inl ()) (.inr false))
 | [],i,h=>by
  have:ys.drop i=[]:=List.eq_nil_of_length_eq_zero h.symm
  rw[this]; rfl
 | e::es,i,h=>by
  cases hd:ys.drop i with
  | nil=>rw[hd] at h; simp at h
  | cons y r =>
   have hn:=za hd
   have:=zs6 ys es (i+1) (by rw[hn]; rw[hd] at h; simpa using h)
   unfold qm
   simp only[zp,zb hd,Option.bind_some,this,hn]
   by_cases he:e=y
   ·subst he
    simp
   ·have h1:(e != y)=true:=by simpa using he
    simp [h1,he]
theorem zbk {xs ys:List Int} (h:xs.length≤maxLen):yk xs ys=some (decide (xs=ys)):=by
 unfold yk
 by_cases hl:xs.length=ys.length
 ·rw[show (((List.length xs:Nat):Int) != ((List.length ys:Nat):Int))=false from by simp [hl],cond_false,zhv _ _ h,zs6 ys xs 0 hl,List.drop_zero]
  cases decide (xs=ys)<;>rfl
 ·rw[show (((List.length xs:Nat):Int) != ((List.length ys:Nat):Int))=true from by simp; omega,cond_true,decide_eq_false (by intro h; subst h; exact hl rfl)]
theorem zss {a b:Bool} {xs ys:List Int} (h:xs.length≤maxLen):zmB a xs b ys=some (decide ((a,xs)=(b,ys))):=by
 unfold zmB
 cases hab:(a==b) with
 | false =>
  have:a≠b:=by simpa using hab
  simp [this]
 | true =>
  have:a=b:=by simpa using hab
  subst this
  rw[cond_true,zbk h]
  simp
theorem ztH (l:zl) (hl:l.2.length≤maxLen):(es:List zl)→(i:Nat)→∃ r,yd l.1 l.2 es i=some r∧(l∈es→∃ j:Nat,r = .inr (j:Int))∧(l∉es→r = .inl ())
 | [],i=>⟨.inl (),rfl,(fun h=>by cases h),fun _=>rfl⟩
 | e::es,i=>by
  unfold yd zdJ
  rw[zss hl]
  simp only[Option.bind_some]
  by_cases he:(l.1,l.2)=(e.1,e.2)
  ·rw[decide_eq_true he,cond_true]
   have he':l=e:=he
   exact ⟨_,rfl,fun _=>⟨i,rfl⟩,fun h=>absurd (List.mem_cons.2 (.inl he')) h⟩
  ·rw[decide_eq_false he,cond_false]
   obtain⟨r,h1,h2,h3⟩:=ztH l hl es (i+1)
   have he':l≠e:=he
   refine ⟨r,h1,fun h=>h2 ?_,fun h=>h3 fun h'=>h (List.mem_cons_of_mem _ h')⟩
   rcases List.mem_cons.1 h with h | h
   ·exact absurd h he'
   ·exact h
theorem zhl {l:zl} {es:List zl} (hl:l.2.length≤maxLen) (h:es.length≤maxLen):zaQ es l.1 l.2=some (decide (l∈es)):=by
 unfold zaQ zd4
 rw[zeV _ _ _ h]
 obtain⟨r,h1,h2,h3⟩:=ztH l hl es 0
 rw[h1]
 by_cases hm:l∈es
 ·obtain⟨j,rfl⟩:=h2 hm
  simp [yg,hm]
 ·rw[h3 hm]
  simp [yg,hm]
def zN {α:Type} [DecidableEq α]:List α→List α→List α
 | [],out=>out
 | e::es,out=>cond (decide (e∈out)) (zN es out) (zN es (out++[e]))
theorem zaW {α:Type} [DecidableEq α]:(es out:List α)→(zN es out).length≤out.length+es.length
 | [],out=>by simp [zN]
 | e::es,out=>by
  unfold zN
  cases decide (e∈out) with
  | true=>have:=zaW es out; simp only[cond_true,List.length_cons]; omega
  | false=>have:=zaW es (out++[e]); simp only[cond_false,List.length_cons,List.length_append,List.length_nil] at this ⊢; omega
theorem q6 {α:Type} [DecidableEq α] {x:α}:(es out:List α)→(x∈zN es out↔x∈out∨x∈es)
 | [],out=>by simp [zN]
 | e::es,out=>by
  unfold zN
  by_cases h:e∈out
  ·rw[decide_eq_true h,cond_true,q6 es out,List.mem_cons]
   constructor
   ·rintro (h1 | h1)
    ·exact .inl h1
    ·exact .inr (.inr h1)
   ·rintro (h1 | rfl | h1)
    ·exact .inl h1
    ·exact .inl h
    ·exact .inr h1
  ·rw[decide_eq_false h,cond_false,q6 es (out++[e])]
   simp only[List.mem_append,List.mem_cons,List.not_mem_nil,or_false]
   constructor
   ·rintro ((h1 | h1) | h1)
    ·exact .inl h1
    ·exact .inr (.inl h1)
    ·exact .inr (.inr h1)
   ·rintro (h1 | h1 | h1)
    ·exact .inl (.inl h1)
    ·exact .inl (.inr h1)
    ·exact .inr h1
theorem zsS:(es out:List zl)→(∀ e∈es,e.2.length≤maxLen)→out.length+es.length≤1000000→qf es out=some (zN es out)
 | [],out,_,_=>rfl
 | e::es,out,h,hl=>by
  have h1:=h e (List.mem_cons_self ..)
  have hl':out.length+(es.length+1)≤1000000:=hl
  unfold qf zN
  rw[zhl h1 (by unfold maxLen; omega),Option.bind_some]
  by_cases hm:e∈out
  ·simp only[hm,decide_true,Bool.not_true,cond_false,cond_true]
   exact zsS es out (fun x hx=>h x (List.mem_cons_of_mem _ hx)) (by omega)
  ·simp only[hm,decide_false,Bool.not_false,cond_false,cond_true]
   rw[zD (show (out.length+([(e.1,e.2)]:List zl).length)*32≤140737488351232 by simp; omega),cond_true]
   exact zsS es (out++[e]) (fun x hx=>h x (List.mem_cons_of_mem _ hx)) (by simp; omega)
theorem zje {es:List zl} (h:∀ e∈es,e.2.length≤maxLen) (hl:es.length≤1000000):zev es=some (zN es []):=by
 unfold zev
 rw[zhS _ _ (by unfold maxLen; omega),zsS es [] h (by simpa using hl)]
 rfl
theorem zs4 (l:List Int) (hl:l.length≤maxLen):(es:List jI)→(i:Nat)→∃ r,zO l es i=some r∧(l∈es→∃ j:Nat,r = .inr (j:Int))∧(l∉es→r = .inl ())
 | [],i=>⟨.inl (),rfl,(fun h=>by cases h),fun _=>rfl⟩
 | e::es,i=>by
  unfold zO zdI
  rw[zbk hl]
  simp only[Option.bind_some]
  by_cases he:l=e
  ·rw[decide_eq_true he,cond_true]
   exact ⟨_,rfl,fun _=>⟨i,rfl⟩,fun h=>absurd (List.mem_cons.2 (.inl he)) h⟩
  ·rw[decide_eq_false he,cond_false]
   obtain⟨r,h1,h2,h3⟩:=zs4 l hl es (i+1)
   refine ⟨r,h1,fun h=>h2 ?_,fun h=>h3 fun h'=>h (List.mem_cons_of_mem _ h')⟩
   rcases List.mem_cons.1 h with h | h
   ·exact absurd h he
   ·exact h
theorem zfY {l:List Int} {es:List jI} (hl:l.length≤maxLen) (h:es.length≤maxLen):zaj es l=some (decide (l∈es)):=by
 unfold zaj zdo
 rw[zee _ _ h]
 obtain⟨r,h1,h2,h3⟩:=zs4 l hl es 0
 rw[h1]
 by_cases hm:l∈es
 ·obtain⟨j,rfl⟩:=h2 hm
  simp [yg,hm]
 ·rw[h3 hm]
  simp [yg,hm]
theorem zsv (s3 s4:List zl):(es out:List jI)→(∀ e∈es,e.length≤maxLen)→out.length+es.length≤1000000→y9 s3 s4 es out=some (s3,s4,zN es out)
 | [],out,_,_=>rfl
 | e::es,out,h,hl=>by
  have h1:=h e (List.mem_cons_self ..)
  have hl':out.length+(es.length+1)≤1000000:=hl
  unfold y9 zN
  rw[zfY h1 (by unfold maxLen; omega),Option.bind_some]
  by_cases hm:e∈out
  ·simp only[hm,decide_true,Bool.not_true,cond_false,cond_true]
   exact zsv s3 s4 es out (fun x hx=>h x (List.mem_cons_of_mem _ hx)) (by omega)
  ·simp only[hm,decide_false,Bool.not_false,cond_false,cond_true]
   rw[zD (show (out.length+([e]:List jI).length)*24≤140737488351232 by simp; omega),cond_true]
   exact zsv s3 s4 es (out++[e]) (fun x hx=>h x (List.mem_cons_of_mem _ hx)) (by simp; omega)
def zmu (s:List Int×Int) (c:Int):Int×(List Int×Int) :=
 cond (decide (c≥0)) (c,s) (cond (s.1.getD (-1 - c).toNat 0==0) (-(s.2+1),(s.1.set (-1 - c).toNat (s.2+1),s.2+1)) (-(s.1.getD (-1 - c).toNat 0),s))
def zd3:List Int×Int→List Int→List Int×(List Int×Int)
 | s,[]=>([],s)
 | s,c::cs=>((zmu s c).1::(zd3 (zmu s c).2 cs).1,(zd3 (zmu s c).2 cs).2)
theorem zo9:(s:List Int×Int)→(cs:List Int)→(zd3 s cs).1.length=cs.length
 | _,[]=>rfl
 | s,c::cs=>by simp [zd3,zo9 (zmu s c).2 cs]
structure RenOk (s:List Int×Int) (b:Int):Prop where
 len:s.1.length=24
 lo:0≤s.2
 hi:s.2≤b
 all:∀ x∈s.1,0≤x∧x≤s.2
theorem RenOk.more {s:List Int×Int} {b b':Int} (h:RenOk s b) (hb:b≤b'):RenOk s b':=⟨h.len,h.lo,Int.le_trans h.hi hb,h.all⟩
theorem RenOk.get {s:List Int×Int} {b:Int} (h:RenOk s b) (v:Nat):0≤s.1.getD v 0∧s.1.getD v 0≤s.2:=by
 have h0:=h.lo
 rw[List.getD_eq_getElem?_getD]
 cases hv:s.1[v]? with
 | none=>exact ⟨Int.le_refl _,h0⟩
 | some x=>exact h.all x (List.mem_of_getElem? hv)
theorem zxl {s:List Int×Int} {b:Int} (h:RenOk s b) (c:Int):RenOk (zmu s c).2 (b+1):=by
 unfold zmu
 cases decide (c≥0) with
 | true=>exact h.more (by omega)
 | false =>
  rw[cond_false]
  cases (s.1.getD (-1 - c).toNat 0==0) with
  | false=>exact h.more (by omega)
  | true =>
   refine ⟨by simpa using h.len,by have:=h.lo; simp; omega,by have:=h.hi; simp; omega,fun x hx => ?_⟩
   simp only[cond_true] at hx ⊢
   rcases List.mem_or_eq_of_mem_set hx with hx | rfl
   ·have:=h.all x hx; omega
   ·have:=h.lo; omega
theorem zjC:{s:List Int×Int}→{b:Int}→(cs:List Int)→RenOk s b→RenOk (zd3 s cs).2 (b+cs.length)
 | s,b,[],h=>by simpa[zd3] using h
 | s,b,c::cs,h=>by
  have:=zjC cs (zxl h c)
  simp only[zd3,List.length_cons]
  exact this.more (by omega)
theorem zxw {α:Type} (done es:List α) (e x:α):(done++e::es).set done.length x=done++x::es:=by
 rw[List.set_append_right _ _ (Nat.le_refl _),Nat.sub_self]
 rfl
theorem zsP {α:Type} (done es:List α) (e:α):(done++e::es)[done.length]? = some e:=by
 rw[List.getElem?_append_right (Nat.le_refl _),Nat.sub_self]
 rfl
theorem zqD:(es done:List Int)→(s:List Int×Int)→(k:Nat)→es.length<k→done.length+es.length≤1000000→RenOk s 1000000→s.2+es.length≤1000000→(∀ c∈es,-24≤c) →
  lp yS k (((done.length+es.length:Nat):Int),(done.length:Int),s.1,s.2,done++es)=some ((zd3 s es).2.1,(zd3 s es).2.2,done++(zd3 s es).1)
 | [],done,s,k,hk,hl,hs,hb,hc=>by
  obtain⟨k,rfl⟩:∃ k',k=k'+1:=⟨k - 1,by omega⟩
  rw[zc]
  generalize lp yS k=rec
  unfold yS
  simp [zd3]
 | e::es,done,s,k,hk,hl,hs,hb,hc=>by
  obtain⟨k,rfl⟩:∃ k',k=k'+1:=⟨k - 1,by omega⟩
  rw[zc]
  have he:=hc e (List.mem_cons_self ..)
  have hl':done.length+(es.length+1)≤1000000:=hl
  have hb':s.2+((es.length+1:Nat):Int)≤1000000:=hb
  have key:=fun (e':Int) (s':List Int×Int) (hs':RenOk s' 1000000) (hb2:s'.2+es.length≤1000000)=>zqD es (done++[e']) s' k (Nat.lt_of_succ_lt_succ hk) (by simp; omega) hs' hb2 (fun c hx=>hc c (List.mem_cons_of_mem _ hx))
  generalize lp yS k=rec at key ⊢
  unfold yS
  have e1:decide (((done.length:Nat):Int)<((done.length+(e::es).length:Nat):Int))=true:=by rw[decide_eq_true_eq,List.length_cons]; omega
  have e2:inR ((done.length:Nat):Int) (List.length (done++e::es))=some done.length:=zac (by simp)
  have e3:IntKind.wrap .i64 (((done.length:Nat):Int)+1)=((done.length+1:Nat):Int):=by rw[zE]<;>omega
  have key2:=fun (e':Int) (s':List Int×Int) (hs':RenOk s' 1000000) (hb2:s'.2+es.length≤1000000)=>by
   have:=key e' s' hs' hb2
   rw[List.append_assoc,List.length_append,List.length_singleton,Nat.add_assoc,Nat.add_comm 1 es.length] at this
   exact this
  simp only[e1,cond_true,e2,Option.bind_some,zsP,e3]
  by_cases h0:e≥0
  ·have hr:zmu s e=(e,s):=by unfold zmu; rw[decide_eq_true h0]; rfl
   rw[decide_eq_true h0,cond_true]
   have:=key2 e s hs (by omega)
   simp only[zd3,hr]
   exact this.trans (by simp)
  ·rw[decide_eq_false h0,cond_false]
   have h24:(-1 - e).toNat<24:=by omega
   have e4:inR (-1 - e) 24=some (-1 - e).toNat:=by
    have:=zac h24
    rwa [Int.toNat_of_nonneg (by omega)] at this
   have hget:∀ xs:List Int,xs.length=24→xs[(-1 - e).toNat]? = some (xs.getD (-1 - e).toNat 0):=fun xs hx=>by
    rw[List.getD_eq_getElem?_getD,List.getElem?_eq_getElem (by omega)]; rfl
   have hg:=hs.get (-1 - e).toNat
   have hs1:=hs.hi
   have hs0:=hs.lo
   simp only[zbY (x:=e) (by omega) (by omega),Option.bind_some,e4,hget s.1 hs.len]
   by_cases hz:s.1.getD (-1 - e).toNat 0=0
   ·have hr:zmu s e=(-(s.2+1),(s.1.set (-1 - e).toNat (s.2+1),s.2+1)):=by unfold zmu; rw[decide_eq_false h0,hz]; rfl
    have w1:IntKind.wrap .i64 (s.2+1)=s.2+1:=by rw[zE]<;>omega
    have hset:(List.set s.1 (-1 - e).toNat (s.2+1)).getD (-1 - e).toNat 0=s.2+1:=by
     rw[List.getD_eq_getElem?_getD,List.getElem?_set_self (by rw[hs.len]; exact h24)]; rfl
    have hn:zEb .i64 (s.2+1) = -(s.2+1):=by unfold zEb; rw[zE]<;>omega
    rw[hz]
    simp only[show (((0:Int)==0))=true from rfl,cond_true,w1,hget (List.set s.1 (-1 - e).toNat (s.2+1)) (by simpa using hs.len),Option.bind_some,hset,hn,zxw]
    have hok:=zxl (b:=s.2) ⟨hs.len,hs.lo,Int.le_refl _,hs.all⟩ e
    rw[hr] at hok
    have:=key2 (-(s.2+1)) (s.1.set (-1 - e).toNat (s.2+1),s.2+1) (hok.more (by omega)) (by simp only; omega)
    simp only[zd3,hr]
    exact this.trans (by simp)
   ·have hr:zmu s e=(-(s.1.getD (-1 - e).toNat 0),s):=by
     unfold zmu
     rw[decide_eq_false h0,show (s.1.getD (-1 - e).toNat 0==0)=false from by simpa using hz]; rfl
    have hn:zEb .i64 (s.1.getD (-1 - e).toNat 0) = -(s.1.getD (-1 - e).toNat 0):=by unfold zEb; rw[zE]<;>omega
    rw[show (s.1.getD (-1 - e).toNat 0==0)=false from by simpa using hz,cond_false]
    simp only[hn,zxw]
    have:=key2 (-(s.1.getD (-1 - e).toNat 0)) s hs (by omega)
    simp only[zd3,hr]
    exact this.trans (by simp)
theorem zcS {r:List Int} {s:List Int×Int} (hl:r.length≤1000) (hs:RenOk s 900000) (hc:∀ c∈r,-24≤c):yO r s.1 s.2=some ((zd3 s r).1,(zd3 s r).2.1,(zd3 s r).2.2):=by
 unfold yO
 rw[zhb (by omega),Option.bind_some]
 have h1:=hs.hi
 have:=zqD r [] s zi (by unfold zi; omega) (by simp; omega) (hs.more (by omega)) (by omega) hc
 simp only[List.length_nil,Nat.zero_add,List.nil_append] at this
 rw[show ((0:Nat):Int)=0 from rfl] at this
 rw[this,Option.bind_some]
 have hlen:=(zjC r hs).len
 simp only[hs.len,hlen]
 rfl
def za7:List Int×Int→List zl→List zl×(List Int×Int)
 | s,[]=>([],s)
 | s,l::ls=>((l.1,(zd3 s l.2).1)::(za7 (zd3 s l.2).2 ls).1,(za7 (zd3 s l.2).2 ls).2)
def zc2:List Int×Int→List jI→List jI×(List Int×Int)
 | s,[]=>([],s)
 | s,l::ls=>((zd3 s l).1::(zc2 (zd3 s l).2 ls).1,(zc2 (zd3 s l).2 ls).2)
def zdU (r:List Int):Prop:=r.length≤1000∧∀ c∈r,-24≤c
theorem zps:{s:List Int×Int}→{b:Int}→(ls:List zl)→(∀ l∈ls,zdU l.2)→RenOk s b→RenOk (za7 s ls).2 (b+1000*ls.length)
 | s,b,[],_,h=>by simpa[za7] using h
 | s,b,l::ls,hl,h=>by
  have h1:=hl l (List.mem_cons_self ..)
  have:=zps ls (fun x hx=>hl x (List.mem_cons_of_mem _ hx)) (zjC l.2 h)
  have h2:=h1.1
  simp only[za7,List.length_cons]
  exact this.more (by omega)
theorem zs1:{s:List Int×Int}→{b:Int}→(ls:List jI)→(∀ l∈ls,zdU l)→RenOk s b→RenOk (zc2 s ls).2 (b+1000*ls.length)
 | s,b,[],_,h=>by simpa[zc2] using h
 | s,b,l::ls,hl,h=>by
  have h1:=hl l (List.mem_cons_self ..)
  have:=zs1 ls (fun x hx=>hl x (List.mem_cons_of_mem _ hx)) (zjC l h)
  have h2:=h1.1
  simp only[zc2,List.length_cons]
  exact this.more (by omega)
theorem zoi:(es:List zl)→(s:List Int×Int)→(out:List zl)→(b:Int)→RenOk s b→b+1000*es.length≤900000→(∀ l∈es,zdU l.2)→out.length+es.length≤1000000 →
  yn es s.1 s.2 out=some ((za7 s es).2.1,(za7 s es).2.2,out++(za7 s es).1)
 | [],s,out,b,_,_,_,_=>by simp [yn,za7]
 | e::es,s,out,b,hs,hb,h,hl=>by
  have he:=h e (List.mem_cons_self ..)
  have h1:=he.1
  rw[List.length_cons] at hb hl
  unfold yn
  rw[zcS he.1 (hs.more (by omega)) he.2,Option.bind_some]
  rw[zD (show (out.length+([(e.1,(zd3 s e.2).1)]:List zl).length)*32≤140737488351232 by simp; omega),cond_true]
  have:=zoi es (zd3 s e.2).2 (out++[(e.1,(zd3 s e.2).1)]) _ (zjC e.2 hs) (by omega) (fun x hx=>h x (List.mem_cons_of_mem _ hx)) (by simp; omega)
  exact this.trans (by simp [za7])
theorem zoC (s8:List zl):(es:List jI)→(s:List Int×Int)→(out:List jI)→(b:Int)→RenOk s b→b+1000*es.length≤900000→(∀ l∈es,zdU l)→out.length+es.length≤1000000 →
  yj s8 es s.1 s.2 out=some ((zc2 s es).2.1,(zc2 s es).2.2,s8,out++(zc2 s es).1)
 | [],s,out,b,_,_,_,_=>by simp [yj,zc2]
 | e::es,s,out,b,hs,hb,h,hl=>by
  have he:=h e (List.mem_cons_self ..)
  have h1:=he.1
  rw[List.length_cons] at hb hl
  unfold yj
  rw[zcS he.1 (hs.more (by omega)) he.2,Option.bind_some]
  rw[zD (show (out.length+([(zd3 s e).1]:List jI).length)*24≤140737488351232 by simp; omega),cond_true]
  have:=zoC s8 es (zd3 s e).2 (out++[(zd3 s e).1]) _ (zjC e hs) (by omega) (fun x hx=>h x (List.mem_cons_of_mem _ hx)) (by simp; omega)
  exact this.trans (by simp [zc2])
theorem zor (s5:List zl) (s6:List jI):(es:List zl)→(s:List Int×Int)→(out:List zl)→(b:Int)→RenOk s b→b+1000*es.length≤900000→(∀ l∈es,zdU l.2)→out.length+es.length≤1000000 →
  yo s5 s6 es s.1 s.2 out=some ((za7 s es).2.1,(za7 s es).2.2,s5,s6,out++(za7 s es).1)
 | [],s,out,b,_,_,_,_=>by simp [yo,za7]
 | e::es,s,out,b,hs,hb,h,hl=>by
  have he:=h e (List.mem_cons_self ..)
  have h1:=he.1
  rw[List.length_cons] at hb hl
  unfold yo
  rw[zcS he.1 (hs.more (by omega)) he.2,Option.bind_some]
  rw[zD (show (out.length+([(e.1,(zd3 s e.2).1)]:List zl).length)*32≤140737488351232 by simp; omega),cond_true]
  have:=zor s5 s6 es (zd3 s e.2).2 (out++[(e.1,(zd3 s e.2).1)]) _ (zjC e.2 hs) (by omega) (fun x hx=>h x (List.mem_cons_of_mem _ hx)) (by simp; omega)
  exact this.trans (by simp [za7])
def zFQ (L:List zl) (T:List jI) (C:List zl):List zl×List jI×List zl :=
 ((za7 (List.replicate 24 0,0) L).1,(zc2 (za7 (List.replicate 24 0,0) L).2 T).1,(za7 (zc2 (za7 (List.replicate 24 0,0) L).2 T).2 C).1)
theorem zwD:RenOk (List.replicate 24 (0:Int),0) 0:=⟨rfl,Int.le_refl _,Int.le_refl _,fun x hx=>by have:=List.eq_of_mem_replicate hx; omega⟩
def zdx (L:List zl) (T:List jI) (C:List zl):List zl×List jI×List zl:=zFQ (zN L []) (zN T []) (zN C [])
theorem zn8 {L:List zl} {T:List jI} {C:List zl} (hL:L.length≤100) (hT:T.length≤100) (hC:C.length≤100) (sL:∀ l∈L,zdU l.2) (sT:∀ l∈T,zdU l) (sC:∀ l∈C,zdU l.2) :
  zgY L T C=some (zdx L T C):=by
 have big:∀ r:List Int,zdU r→r.length≤maxLen:=fun r h=>by have:=h.1; unfold maxLen; omega
 have lL:=zaW L []
 have lT:=zaW T []
 have lC:=zaW C []
 simp only[List.length_nil,Nat.zero_add] at lL lT lC
 have sL':∀ l∈zN L [],zdU l.2:=fun l h=>sL l (by simpa using (q6 L []).1 h)
 have sT':∀ l∈zN T [],zdU l:=fun l h=>sT l (by simpa using (q6 T []).1 h)
 have sC':∀ l∈zN C [],zdU l.2:=fun l h=>sC l (by simpa using (q6 C []).1 h)
 unfold zgY
 rw[zje (fun e he=>big _ (sL e he)) (by omega),Option.bind_some,zje (fun e he=>big _ (sC e he)) (by omega),Option.bind_some,
  zhY _ _ _ _ (by unfold maxLen; omega),zsv _ _ T [] (fun e he=>big _ (sT e he)) (by simp; omega),Option.bind_some]
 simp only
 generalize hL2:zN L []=L2 at lL sL'
 generalize hT2:zN T []=T2 at lT sT'
 generalize hC2:zN C []=C2 at lC sC'
 have k0:=zps L2 sL' zwD
 have k1:=zs1 T2 sT' k0
 have k2:=zps C2 sC' k1
 have e0:=zoi L2 (List.replicate 24 0,0) [] 0 zwD (by omega) sL' (by simp; omega)
 have e1:=zoC (za7 (List.replicate 24 0,0) L2).1 T2 _ [] _ k0 (by omega) sT' (by simp; omega)
 have e2:=zor (za7 (List.replicate 24 0,0) L2).1 (zc2 (za7 (List.replicate 24 0,0) L2).2 T2).1 C2 _ [] _ k1 (by omega) sC' (by simp; omega)
 simp only[List.nil_append] at e0 e1 e2
 unfold zgz
 rw[zg0 L2 L2 T2 C2 (List.replicate 24 0) 0 [] (by unfold maxLen; omega),e0,Option.bind_some]
 simp only
 rw[zgL _ _ _ _ _ _ _ _ (by unfold maxLen; omega),e1,Option.bind_some]
 simp only
 rw[zgC _ _ _ _ _ _ (by unfold maxLen; omega),e2,Option.bind_some]
 have hlen:=k2.len
 simp only[List.length_replicate,hlen]
 unfold zdx zFQ
 rw[hL2,hT2,hC2]
 rfl
end
end Go.Abs.Q
