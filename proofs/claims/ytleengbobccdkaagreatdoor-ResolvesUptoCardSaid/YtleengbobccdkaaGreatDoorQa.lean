import Derived.Test.YtleengbobccdkaaGreatDoorFc
/-
  What the functions make of plain values, and what the law says of that.
-/
namespace Go.Abs.Q
open Go Go.Abs
abbrev zQ:=Str×Int×Int×Int
abbrev zra:Tys:=.cons .str (.cons (.int .i64) (.cons (.int .i64) (.one (.int .i64))))
abbrev zt:=Bool×List Int
abbrev zdj:Tys:=.cons .bool (.one (.sl (.one (.int .i64))))
abbrev jR:=List (List Int)
abbrev jI:=List Int
abbrev jQ:=List zt
abbrev jS:=List zQ
abbrev jT:=List (Int×Int×Int×Int×Int×Int×Int×jQ×jR×jQ)
abbrev jU:=Int×Int×Int×Int×Int×Int×Int×jQ×jR×jQ
def zdG (a0:Int):Option Bool :=
 cond (decide (a0≥97))
 (some (decide (a0≤122)))
 (some false)
def q5 (rec:(Str×Int×Int)→Option (Unit⊕Bool)) (x:(Str×Int×Int)):Option (Unit⊕Bool) :=
 cond (decide (x.2.2<x.2.1))
 ((gx x.1 x.2.2).bind fun c7 =>
  (zdG ((UInt8.toNat c7:Nat):Int)).bind fun r8 =>
  cond (!r8)
  ((gx x.1 x.2.2).bind fun c9 =>
   cond (decide (((UInt8.toNat c9:Nat):Int)<48))
   (some (Sum.inr false))
   ((gx x.1 x.2.2).bind fun c10 =>
    cond (decide (((UInt8.toNat c10:Nat):Int)>57))
    (some (Sum.inr false))
    (rec (x.1,x.2.1,(IntKind.wrap .i64 (x.2.2+1))))))
  (rec (x.1,x.2.1,(IntKind.wrap .i64 (x.2.2+1)))))
 (some (Sum.inl ()))
def ze7 (a0:Str):Option Bool :=
 cond (a0==([]:Str))
 (some false)
 (cond (decide (((List.length a0:Nat):Int)>8))
  (some false)
  ((gx a0 0).bind fun c14 =>
   (zdG ((UInt8.toNat c14:Nat):Int)).bind fun r15 =>
   cond (!r15)
   (some false)
   (((lp q5 zp) (a0,((List.length a0:Nat):Int),0)).bind fun r16 =>
    qL r16
    (fun z17=>some true)
    (fun z18=>some z18))))
def zdT (a0:Str) (a1:Int) (a2:Int) (a3:Int):Option Bool :=
 (ze7 a0).bind fun r2 =>
 cond r2
 (cond (decide (a1≥0))
  (cond (decide (a1≤2))
   (cond (decide (a2≥0))
    (cond (decide (a2≤3))
     (cond (decide (a3≥1))
      (some (decide (a3≤20)))
      (some false))
     (some false))
    (some false))
   (some false))
  (some false))
 (some false)
def zaV (rec:(jS×Str×Int×Int)→Option (Unit⊕Int)) (x:(jS×Str×Int×Int)):Option (Unit⊕Int) :=
 cond (decide (x.2.2.2<x.2.2.1))
 ((gx x.1 x.2.2.2).bind fun e2 =>
  cond (e2.1==x.2.1)
  (some (Sum.inr x.2.2.2))
  (rec (x.1,x.2.1,x.2.2.1,(IntKind.wrap .i64 (x.2.2.2+1)))))
 (some (Sum.inl ()))
def zeV (a0:jS) (a1:Str):Option Int :=
 ((lp zaV zp) (a0,a1,((List.length a0:Nat):Int),0)).bind fun r6 =>
 qL r6
 (fun z7=>some (-1))
 (fun z8=>some z8)
def zbO (rec:(jS×Int)→Option (Unit⊕Bool)) (x:(jS×Int)):Option (Unit⊕Bool) :=
 cond (decide (x.2<((List.length x.1:Nat):Int)))
 ((gx x.1 x.2).bind fun e6 =>
  (zdT e6.1 e6.2.1 e6.2.2.1 e6.2.2.2).bind fun r7 =>
  cond (!r7)
  (some (Sum.inr false))
  ((gx x.1 x.2).bind fun e8 =>
   (zeV x.1 e8.1).bind fun r9 =>
   cond (r9 != x.2)
   (some (Sum.inr false))
   (rec (x.1,(IntKind.wrap .i64 (x.2+1))))))
 (some (Sum.inl ()))
def zfC (a0:jS):Option Bool :=
 cond (decide (((List.length a0:Nat):Int)<1))
 (some false)
 (cond (decide (((List.length a0:Nat):Int)>20))
  (some false)
  ((gx a0 0).bind fun e13 =>
   cond (!(cond (eqS e13.1 [61]) (cond (eqI e13.2.1 0) (cond (eqI e13.2.2.1 2) (cond (eqI e13.2.2.2 1) true false) false) false) false))
   (some false)
   (((lp zbO zp) (a0,1)).bind fun r14 =>
    qL r14
    (fun z15=>some true)
    (fun z16=>some z16))))
def zgz (a0:(Option jI)):Option jI :=
 cond (Option.isNone a0)
 (some ([]:jI))
 (cond (yY (List.length ([]:List Int)+List.length (Option.getD a0 [])) 8)
  (some (([]:List Int)++(Option.getD a0 [])))
  (none))
def zmW:Option jI :=
 some ([]:jI)
def zb2 (a0:jI):Option jI:=zgz (some a0)
def yo (a0:Int):Option Int :=
 some (IntKind.wrap .i64 ((-1) - a0))
def zg7 (a0:jS) (a1:Int):Option (Int×Bool) :=
 cond (decide (a1<0))
 ((yo 23).bind fun r4 =>
  some (0,(decide (a1≥r4))))
 (cond (decide (a1≥((List.length a0:Nat):Int)))
  (some (0,false))
  ((gx a0 a1).bind fun e5 =>
   cond (e5.2.1==0)
   (some (0,false))
   ((gx a0 a1).bind fun e6 =>
    some (e6.2.2.1,true))))
def zbf (rec:(jS×jI×Int×Int)→Option (Int×Bool)) (x:(jS×jI×Int×Int)):Option (Int×Bool) :=
 cond (decide (x.2.2.1≥((List.length x.2.1:Nat):Int)))
 (some (0,false))
 ((gx x.2.1 x.2.2.1).bind fun e5 =>
  (zg7 x.1 e5).bind fun r6 =>
  cond (!r6.2)
  (some (0,false))
  (cond (decide ((IntKind.wrap .i64 (x.2.2.2+(IntKind.wrap .i64 (r6.1 - 1))))>0))
   (rec (x.1,x.2.1,(IntKind.wrap .i64 (x.2.2.1+1)),(IntKind.wrap .i64 (x.2.2.2+(IntKind.wrap .i64 (r6.1 - 1))))))
   (some ((IntKind.wrap .i64 (x.2.2.1+1)),true))))
def zeP (a0:jS) (a1:jI) (a2:Int):Option (Int×Bool) :=
 cond (decide (a2≥((List.length a1:Nat):Int)))
 (some (0,false))
 ((gx a1 a2).bind fun e8 =>
  (zg7 a0 e8).bind fun r9 =>
  cond (!r9.2)
  (some (0,false))
  (cond (decide ((IntKind.wrap .i64 (1+(IntKind.wrap .i64 (r9.1 - 1))))>0))
   ((((lp zbf zp) (a0,a1,(IntKind.wrap .i64 (a2+1)),(IntKind.wrap .i64 (1+(IntKind.wrap .i64 (r9.1 - 1))))))).bind fun r10 =>
    some (r10.1,r10.2))
   (some ((IntKind.wrap .i64 (a2+1)),true))))
def zbA (rec:(jS×jI×Int×jI)→Option zt) (x:(jS×jI×Int×jI)):Option zt :=
 cond (x.2.2.1==((List.length x.2.1:Nat):Int))
 (some (true,x.2.2.2))
 ((zeP x.1 x.2.1 x.2.2.1).bind fun r4 =>
  cond (!r4.2)
  (some (false,([]:jI)))
  (cond (yY (List.length x.2.2.2+List.length ([x.2.2.1]:List Int)) 8)
   (rec (x.1,x.2.1,r4.1,(x.2.2.2++([x.2.2.1]:List Int))))
   (none)))
def zcQ (a0:jS) (a1:jI):Option zt :=
 (zfC a0).bind fun r6 =>
 cond (!r6)
 (some (false,([]:jI)))
 (cond (decide (((List.length a1:Nat):Int)>48))
  (some (false,([]:jI)))
  (cond (0==((List.length a1:Nat):Int))
   (some (true,([]:jI)))
   ((zeP a0 a1 0).bind fun r7 =>
    cond (!r7.2)
    (some (false,([]:jI)))
    (cond (yY (List.length ([0]:List Int)) 8)
     ((((lp zbA zp) (a0,a1,r7.1,([0]:List Int)))).bind fun r8 =>
      some (r8.1,r8.2))
     (none)))))
def zbK (a0:jS) (a1:jI):Option Bool :=
 cond (((List.length a1:Nat):Int)==0)
 (some false)
 ((gx a1 0).bind fun e9 =>
  cond (decide (e9<0))
  (some false)
  ((gx a1 0).bind fun e10 =>
   cond (decide (e10≥((List.length a0:Nat):Int)))
   (some false)
   ((gx a1 0).bind fun e11 =>
    (gx a0 e11).bind fun e12 =>
    cond (e12.2.1 != 0)
    (some false)
    ((zck a1 (some 1) none).bind fun y13 =>
     (zcQ a0 y13).bind fun r14 =>
     cond r14.1
     ((gx a1 0).bind fun e15 =>
      (gx a0 e15).bind fun e16 =>
      some (((List.length r14.2:Nat):Int)==e16.2.2.1))
     (some false)))))
def zib (a0:jS) (a1:Bool) (a2:jI):Option Bool :=
 (zbK a0 a2).bind fun r2 =>
 some r2
def yL (rec:(jS×Int×jQ×Int×Int)→Option (Int⊕(Int×Bool))) (x:(jS×Int×jQ×Int×Int)):Option (Int⊕(Int×Bool)) :=
 cond (decide (x.2.2.2.2<x.2.2.2.1))
 ((gx x.2.2.1 x.2.2.2.2).bind fun e3 =>
  (zib x.1 e3.1 e3.2).bind fun r4 =>
  cond (!r4)
  (some (Sum.inr (0,false)))
  (rec (x.1,(IntKind.wrap .i64 (x.2.1+((List.length e3.2:Nat):Int))),x.2.2.1,x.2.2.2.1,(IntKind.wrap .i64 (x.2.2.2.2+1)))))
 (some (Sum.inl x.2.1))
def zb5 (a0:jS) (a1:jQ):Option (Int×Bool) :=
 ((lp yL zp) (a0,0,a1,((List.length a1:Nat):Int),0)).bind fun r8 =>
 qL r8
 (fun z9=>some (z9,true))
 (fun z10=>some (z10.1,z10.2))
def ze8 (a0:jS) (a1:jI):Option (Int×Int) :=
 (zcQ a0 a1).bind fun r2 =>
 cond (!r2.1)
 (some (0,200))
 (some (((List.length r2.2:Nat):Int),0))
def yM (rec:(jS×Int×Int×jR×Int×Int)→Option (Int⊕(Int×Bool))) (x:(jS×Int×Int×jR×Int×Int)):Option (Int⊕(Int×Bool)) :=
 cond (decide (x.2.2.2.2.2<x.2.2.2.2.1))
 ((gx x.2.2.2.1 x.2.2.2.2.2).bind fun e3 =>
  (ze8 x.1 e3).bind fun r4 =>
  cond (x.2.2.2.2.2==0)
  (cond (r4.2 != 0)
   (some (Sum.inr (0,false)))
   (cond (r4.1 != r4.1)
    (some (Sum.inr (0,false)))
    (rec (x.1,(IntKind.wrap .i64 (x.2.1+((List.length e3:Nat):Int))),r4.1,x.2.2.2.1,x.2.2.2.2.1,(IntKind.wrap .i64 (x.2.2.2.2.2+1))))))
  (cond (r4.2 != 0)
   (some (Sum.inr (0,false)))
   (cond (r4.1 != x.2.2.1)
    (some (Sum.inr (0,false)))
    (rec (x.1,(IntKind.wrap .i64 (x.2.1+((List.length e3:Nat):Int))),x.2.2.1,x.2.2.2.1,x.2.2.2.2.1,(IntKind.wrap .i64 (x.2.2.2.2.2+1)))))))
 (some (Sum.inl x.2.1))
def zcY (a0:jS) (a1:jR):Option (Int×Bool) :=
 ((lp yM zp) (a0,0,0,a1,((List.length a1:Nat):Int),0)).bind fun r8 =>
 qL r8
 (fun z9=>some (z9,true))
 (fun z10=>some (z10.1,z10.2))
def zbz (a0:jS) (a1:jQ) (a2:jR) (a3:jQ):Option Bool :=
 (zfC a0).bind fun r5 =>
 cond (!r5)
 (some false)
 (cond (decide (((List.length a1:Nat):Int)>5))
  (some false)
  (cond (decide (((List.length a2:Nat):Int)>3))
   (some false)
   (cond (decide (((List.length a3:Nat):Int)>3))
    (some false)
    ((zb5 a0 a1).bind fun r6 =>
     (zcY a0 a2).bind fun r7 =>
     (zb5 a0 a3).bind fun r8 =>
     cond r6.2
     (cond r7.2
      (cond r8.2
       (some (decide ((IntKind.wrap .i64 ((IntKind.wrap .i64 (r6.1+r7.1))+r8.1))≤240)))
       (some false))
      (some false))
     (some false)))))
def qD (rec:(jI×jI×Int×Int)→Option (Unit⊕Bool)) (x:(jI×jI×Int×Int)):Option (Unit⊕Bool) :=
 cond (decide (x.2.2.2<x.2.2.1))
 ((gx x.1 x.2.2.2).bind fun e3 =>
  (gx x.2.1 x.2.2.2).bind fun e4 =>
  cond (e3 != e4)
  (some (Sum.inr false))
  (rec (x.1,x.2.1,x.2.2.1,(IntKind.wrap .i64 (x.2.2.2+1)))))
 (some (Sum.inl ()))
def qI (a0:jI) (a1:jI):Option Bool :=
 cond (((List.length a0:Nat):Int) != ((List.length a1:Nat):Int))
 (some false)
 (((lp qD zp) (a0,a1,((List.length a0:Nat):Int),0)).bind fun r8 =>
  qL r8
  (fun z9=>some true)
  (fun z10=>some z10))
def zkY (a0:Bool) (a1:jI) (a2:Bool) (a3:jI):Option Bool :=
 cond (a0==a2)
 ((qI a1 a3).bind fun r2 =>
  some r2)
 (some false)
def zcW (a0:Bool) (a1:jI) (a2:Bool) (a3:jI):Option Bool :=
 (zkY a2 a3 a0 a1).bind fun r2 =>
 some r2
def yj (rec:(jQ×Int×Int×Bool×jI)→Option (Unit⊕Int)) (x:(jQ×Int×Int×Bool×jI)):Option (Unit⊕Int) :=
 cond (decide (x.2.2.1<x.2.1))
 ((gx x.1 x.2.2.1).bind fun e3 =>
  (zcW e3.1 e3.2 x.2.2.2.1 x.2.2.2.2).bind fun r4 =>
  cond r4
  (some (Sum.inr x.2.2.1))
  (rec (x.1,x.2.1,(IntKind.wrap .i64 (x.2.2.1+1)),x.2.2.2.1,x.2.2.2.2)))
 (some (Sum.inl ()))
def zdq (a0:jQ) (a1:Bool) (a2:jI):Option Int :=
 ((lp yj zp) (a0,((List.length a0:Nat):Int),0,a1,a2)).bind fun r8 =>
 qL r8
 (fun z9=>some (-1))
 (fun z10=>some z10)
def zaH (a0:jQ) (a1:Bool) (a2:jI):Option Bool :=
 (zdq a0 a1 a2).bind fun r2 =>
 some (decide (r2≥0))
def qS (rec:(jQ×Int×Int×jQ)→Option jQ) (x:(jQ×Int×Int×jQ)):Option jQ :=
 cond (decide (x.2.2.1<x.2.1))
 ((gx x.1 x.2.2.1).bind fun e5 =>
  (zaH x.2.2.2 e5.1 e5.2).bind fun r6 =>
  cond (!r6)
  (cond (yY (List.length x.2.2.2+List.length ([(e5.1,e5.2)]:List zt)) 32)
   (rec (x.1,x.2.1,(IntKind.wrap .i64 (x.2.2.1+1)),(x.2.2.2++([(e5.1,e5.2)]:List zt))))
   (none))
  (rec (x.1,x.2.1,(IntKind.wrap .i64 (x.2.2.1+1)),x.2.2.2)))
 (some x.2.2.2)
def zdW (a0:jQ):Option jQ :=
 ((lp qS zp) (a0,((List.length a0:Nat):Int),0,([]:jQ))).bind fun r8 =>
 some r8
def zcX (a0:jI) (a1:jI):Option Bool :=
 (qI a1 a0).bind fun r2 =>
 some r2
def zX (rec:(jR×Int×Int×jI)→Option (Unit⊕Int)) (x:(jR×Int×Int×jI)):Option (Unit⊕Int) :=
 cond (decide (x.2.2.1<x.2.1))
 ((gx x.1 x.2.2.1).bind fun e3 =>
  (zcX e3 x.2.2.2).bind fun r4 =>
  cond r4
  (some (Sum.inr x.2.2.1))
  (rec (x.1,x.2.1,(IntKind.wrap .i64 (x.2.2.1+1)),x.2.2.2)))
 (some (Sum.inl ()))
def zcv (a0:jR) (a1:jI):Option Int :=
 ((lp zX zp) (a0,((List.length a0:Nat):Int),0,a1)).bind fun r8 =>
 qL r8
 (fun z9=>some (-1))
 (fun z10=>some z10)
def zac (a0:jR) (a1:jI):Option Bool :=
 (zcv a0 a1).bind fun r2 =>
 some (decide (r2≥0))
def yz (rec:(Int×Int×jI×Int×jI)→Option (jI×Int×jI)) (x:(Int×Int×jI×Int×jI)):Option (jI×Int×jI) :=
 cond (decide (x.2.1<x.1))
 ((inR x.2.1 (List.length x.2.2.2.2)).bind fun k33 =>
  (x.2.2.2.2[k33]?).bind fun x34 =>
  cond (decide (x34≥0))
  (rec (x.1,(IntKind.wrap .i64 (x.2.1+1)),x.2.2.1,x.2.2.2.1,x.2.2.2.2))
  ((yo x34).bind fun r35 =>
   (inR r35 24).bind fun k36 =>
   (x.2.2.1[k36]?).bind fun x37 =>
   cond (x37==0)
   ((yo x34).bind fun r38 =>
    (inR r38 24).bind fun k39 =>
    (x.2.2.1[k39]?).bind fun x40 =>
    (yo x34).bind fun r41 =>
    (inR r41 24).bind fun k42 =>
    ((List.set x.2.2.1 k39 (IntKind.wrap .i64 (x.2.2.2.1+1)))[k42]?).bind fun x43 =>
    (inR x.2.1 (List.length x.2.2.2.2)).bind fun k44 =>
    (x.2.2.2.2[k44]?).bind fun x45 =>
    rec (x.1,(IntKind.wrap .i64 (x.2.1+1)),(List.set x.2.2.1 k39 (IntKind.wrap .i64 (x.2.2.2.1+1))),(IntKind.wrap .i64 (x.2.2.2.1+1)),(List.set x.2.2.2.2 k44 (zGa .i64 x43))))
   ((yo x34).bind fun r46 =>
    (inR r46 24).bind fun k47 =>
    (x.2.2.1[k47]?).bind fun x48 =>
    (inR x.2.1 (List.length x.2.2.2.2)).bind fun k49 =>
    (x.2.2.2.2[k49]?).bind fun x50 =>
    rec (x.1,(IntKind.wrap .i64 (x.2.1+1)),x.2.2.1,x.2.2.2.1,(List.set x.2.2.2.2 k49 (zGa .i64 x48))))))
 (some (x.2.2.1,x.2.2.2.1,x.2.2.2.2))
def qb (a0:jI) (a1:jI) (a2:Int):Option (jI×jI×Int) :=
 (zb2 a0).bind fun r52 =>
 ((lp yz zp) (((List.length r52:Nat):Int),0,a1,a2,r52)).bind fun r53 =>
 cond (Nat.beq (List.length a1) (List.length r53.1)&&true)
 (some (r53.2.2,r53.1,r53.2.1))
 (none)
def qc (rec:(jQ×Int×Int×jI×Int×jQ×jR×jQ)→Option (jI×Int×jQ×jR×jQ)) (x:(jQ×Int×Int×jI×Int×jQ×jR×jQ)):Option (jI×Int×jQ×jR×jQ) :=
 cond (decide (x.2.2.1<x.2.1))
 ((gx x.1 x.2.2.1).bind fun e19 =>
  (qb e19.2 x.2.2.2.1 x.2.2.2.2.1).bind fun r20 =>
  cond (yY (List.length x.2.2.2.2.2.2.2+List.length ([(e19.1,r20.1)]:List zt)) 32)
  (rec (x.1,x.2.1,(IntKind.wrap .i64 (x.2.2.1+1)),r20.2.1,r20.2.2,x.2.2.2.2.2.1,x.2.2.2.2.2.2.1,(x.2.2.2.2.2.2.2++([(e19.1,r20.1)]:List zt))))
  (none))
 (some (x.2.2.2.1,x.2.2.2.2.1,x.2.2.2.2.2.1,x.2.2.2.2.2.2.1,x.2.2.2.2.2.2.2))
def y0 (rec:(jR×Int×Int×jI×Int×jQ×jR×jQ×jQ×jR)→Option (jI×Int×jQ×jR)) (x:(jR×Int×Int×jI×Int×jQ×jR×jQ×jQ×jR)):Option (jI×Int×jQ×jR) :=
 cond (decide (x.2.2.1<x.2.1))
 ((gx x.1 x.2.2.1).bind fun e12 =>
  (qb e12 x.2.2.2.1 x.2.2.2.2.1).bind fun r13 =>
  cond (yY (List.length x.2.2.2.2.2.2.2.2.2+List.length ([r13.1]:List jI)) 24)
  (rec (x.1,x.2.1,(IntKind.wrap .i64 (x.2.2.1+1)),r13.2.1,r13.2.2,x.2.2.2.2.2.1,x.2.2.2.2.2.2.1,x.2.2.2.2.2.2.2.1,x.2.2.2.2.2.2.2.2.1,(x.2.2.2.2.2.2.2.2.2++([r13.1]:List jI))))
  (none))
 (some (x.2.2.2.1,x.2.2.2.2.1,x.2.2.2.2.2.2.2.2.1,x.2.2.2.2.2.2.2.2.2))
def y7 (rec:(jQ×Int×Int×jI×Int×jQ×jR×jQ×jQ)→Option (jI×Int×jQ)) (x:(jQ×Int×Int×jI×Int×jQ×jR×jQ×jQ)):Option (jI×Int×jQ) :=
 cond (decide (x.2.2.1<x.2.1))
 ((gx x.1 x.2.2.1).bind fun e5 =>
  (qb e5.2 x.2.2.2.1 x.2.2.2.2.1).bind fun r6 =>
  cond (yY (List.length x.2.2.2.2.2.2.2.2+List.length ([(e5.1,r6.1)]:List zt)) 32)
  (rec (x.1,x.2.1,(IntKind.wrap .i64 (x.2.2.1+1)),r6.2.1,r6.2.2,x.2.2.2.2.2.1,x.2.2.2.2.2.2.1,x.2.2.2.2.2.2.2.1,(x.2.2.2.2.2.2.2.2++([(e5.1,r6.1)]:List zt))))
  (none))
 (some (x.2.2.2.1,x.2.2.2.2.1,x.2.2.2.2.2.2.2.2))
def zfH (a0:jQ) (a1:jR) (a2:jQ) (a3:jI) (a4:Int):Option (jQ×jR×jQ×jI×Int) :=
 ((lp y7 zp) (a0,((List.length a0:Nat):Int),0,a3,a4,a0,a1,a2,([]:jQ))).bind fun r22 =>
 ((lp y0 zp) (a1,((List.length a1:Nat):Int),0,r22.1,r22.2.1,a0,a1,a2,r22.2.2,([]:jR))).bind fun r23 =>
 ((lp qc zp) (a2,((List.length a2:Nat):Int),0,r23.1,r23.2.1,r23.2.2.1,r23.2.2.2,([]:jQ))).bind fun r24 =>
 cond (Nat.beq (List.length a3) (List.length r24.1)&&true)
 (some (r24.2.2.1,r24.2.2.2.1,r24.2.2.2.2,r24.1,r24.2.1))
 (none)
def qX (rec:(jR×Int×Int×jQ×jQ×jR)→Option (jQ×jQ×jR)) (x:(jR×Int×Int×jQ×jQ×jR)):Option (jQ×jQ×jR) :=
 cond (decide (x.2.2.1<x.2.1))
 ((gx x.1 x.2.2.1).bind fun e7 =>
  (zac x.2.2.2.2.2 e7).bind fun r8 =>
  cond (!r8)
  (cond (yY (List.length x.2.2.2.2.2+List.length ([e7]:List jI)) 24)
   (rec (x.1,x.2.1,(IntKind.wrap .i64 (x.2.2.1+1)),x.2.2.2.1,x.2.2.2.2.1,(x.2.2.2.2.2++([e7]:List jI))))
   (none))
  (rec (x.1,x.2.1,(IntKind.wrap .i64 (x.2.2.1+1)),x.2.2.2.1,x.2.2.2.2.1,x.2.2.2.2.2)))
 (some (x.2.2.2.1,x.2.2.2.2.1,x.2.2.2.2.2))
def zfh (a0:jQ) (a1:jR) (a2:jQ):Option (jQ×jR×jQ) :=
 (zdW a0).bind fun r11 =>
 (zdW a2).bind fun r12 =>
 ((lp qX zp) (a1,((List.length a1:Nat):Int),0,r11,r12,([]:jR))).bind fun r13 =>
 (zfH r13.1 r13.2.2 r13.2.1 (List.replicate 24 (0:Int)) 0).bind fun r14 =>
 some (r14.1,r14.2.1,r14.2.2.1)
def zdz (a0:jS) (a1:jQ) (a2:jR) (a3:jQ):Option (jQ×jR×Int×jQ) :=
 (zbz a0 a1 a2 a3).bind fun r3 =>
 cond (!r3)
 (some (([]:jQ),([]:jR),800,([]:jQ)))
 ((zfh a1 a2 a3).bind fun r4 =>
  some (r4.1,r4.2.1,0,r4.2.2))
def zbx (rec:(jS×jI×Int×jR)→Option (jR⊕jR)) (x:(jS×jI×Int×jR)):Option (jR⊕jR) :=
 cond (decide (x.2.2.1<((List.length x.2.1:Nat):Int)))
 ((zeP x.1 x.2.1 x.2.2.1).bind fun r5 =>
  cond (!r5.2)
  (some (Sum.inr x.2.2.2))
  ((zck x.2.1 (some x.2.2.1) (some r5.1)).bind fun y6 =>
   cond (yY (List.length x.2.2.2+List.length ([y6]:List jI)) 24)
   (rec (x.1,x.2.1,r5.1,(x.2.2.2++([y6]:List jI))))
   (none)))
 (some (Sum.inl x.2.2.2))
def zbG (a0:jS) (a1:jI):Option jR :=
 ((lp zbx zp) (a0,a1,0,([]:jR))).bind fun r10 =>
 qL r10
 (fun z11=>some z11)
 (fun z12=>some z12)
def zfD (a0:Int):Option Int :=
 some a0
def qf (rec:(jI×jI×Int)→Option (Unit⊕Bool)) (x:(jI×jI×Int)):Option (Unit⊕Bool) :=
 cond (decide (x.2.2<((List.length x.1:Nat):Int)))
 ((gx x.1 x.2.2).bind fun e3 =>
  (gx x.2.1 x.2.2).bind fun e4 =>
  cond (e3 != e4)
  (some (Sum.inr false))
  (rec (x.1,x.2.1,(IntKind.wrap .i64 (x.2.2+1)))))
 (some (Sum.inl ()))
def zbn (a0:jI) (a1:jI):Option Bool :=
 cond (((List.length a0:Nat):Int) != ((List.length a1:Nat):Int))
 (some false)
 (((lp qf zp) (a0,a1,0)).bind fun r8 =>
  qL r8
  (fun z9=>some true)
  (fun z10=>some z10))
def yZ (rec:(jQ×jQ×Int)→Option (Unit⊕Bool)) (x:(jQ×jQ×Int)):Option (Unit⊕Bool) :=
 cond (decide (x.2.2<((List.length x.1:Nat):Int)))
 ((gx x.1 x.2.2).bind fun e6 =>
  (gx x.2.1 x.2.2).bind fun e7 =>
  cond (!(e6.1==e7.1))
  (some (Sum.inr false))
  ((gx x.1 x.2.2).bind fun e8 =>
   (gx x.2.1 x.2.2).bind fun e9 =>
   (zbn e8.2 e9.2).bind fun r10 =>
   cond (!r10)
   (some (Sum.inr false))
   (rec (x.1,x.2.1,(IntKind.wrap .i64 (x.2.2+1))))))
 (some (Sum.inl ()))
def zcm (a0:jQ) (a1:jQ):Option Bool :=
 cond (((List.length a0:Nat):Int) != ((List.length a1:Nat):Int))
 (some false)
 (((lp yZ zp) (a0,a1,0)).bind fun r14 =>
  qL r14
  (fun z15=>some true)
  (fun z16=>some z16))
def qd (rec:(jR×jR×Int)→Option (Unit⊕Bool)) (x:(jR×jR×Int)):Option (Unit⊕Bool) :=
 cond (decide (x.2.2<((List.length x.1:Nat):Int)))
 ((gx x.1 x.2.2).bind fun e4 =>
  (gx x.2.1 x.2.2).bind fun e5 =>
  (zbn e4 e5).bind fun r6 =>
  cond (!r6)
  (some (Sum.inr false))
  (rec (x.1,x.2.1,(IntKind.wrap .i64 (x.2.2+1)))))
 (some (Sum.inl ()))
def zdt (a0:jR) (a1:jR):Option Bool :=
 cond (((List.length a0:Nat):Int) != ((List.length a1:Nat):Int))
 (some false)
 (((lp qd zp) (a0,a1,0)).bind fun r10 =>
  qL r10
  (fun z11=>some true)
  (fun z12=>some z12))
def yU (a0:jQ) (a1:jR) (a2:jQ) (a3:jQ) (a4:jR) (a5:jQ):Option Bool :=
 (zcm a0 a3).bind fun r4 =>
 cond r4
 ((zdt a1 a4).bind fun r5 =>
  cond r5
  ((zcm a2 a5).bind fun r6 =>
   some r6)
  (some false))
 (some false)
end Go.Abs.Q
namespace Go.Abs.Q
open Go Go.Abs
section
theorem zk {X Y:Type} (s:(X→Option Y)→X→Option Y) (k:Nat):lp s (k+1)=s (lp s k):=rfl
theorem zJ {α:Type} (xs:List α) (i:Nat):gx xs (i:Int)=xs[i]? := by
 unfold gx
 rw[show decide ((0:Int)≤(i:Int))=true from by simp]
 rfl
theorem qK {α:Type} (xs:List α):gx xs 0=xs[0]? := zJ xs 0
theorem zvw {α:Type} {xs:List α} {i:Int} (h0:0≤i) (h:i<xs.length):∃ x,gx xs i=some x∧x∈xs∧xs[i.toNat]? = some x:=by
 have hi:i.toNat<xs.length:=by omega
 refine ⟨xs[i.toNat],?_,List.getElem_mem hi,List.getElem?_eq_getElem hi⟩
 unfold gx
 rw[show decide ((0:Int)≤i)=true from by simp; omega,cond_true,List.getElem?_eq_getElem hi]
theorem zap {i l:Nat} (h:i<l):inR (i:Int) l=some i:=by
 unfold inR
 simp [h]
theorem zT {n:Int} (h1 : -9223372036854775808≤n) (h2:n≤9223372036854775807):IntKind.wrap .i64 n=n:=by
 simp [IntKind.wrap,IntKind.signed,IntKind.bits]
 omega
theorem zF {i l:Nat} (h:i<l) (hl:l≤maxLen):IntKind.wrap .i64 ((i:Int)+1)=((i+1:Nat):Int):=by
 unfold maxLen at hl
 rw[zT]<;>omega
theorem zE {i l:Nat} (h:i<l):decide ((i:Int)<(l:Int))=true:=by simp [h]
theorem zu {i l:Nat} (h:l≤i):decide ((i:Int)<(l:Int))=false:=by simp; omega
theorem zm {α:Type} {xs:List α} {i:Nat} (h:xs.drop i=[]):xs.length≤i:=by simpa using h
theorem zl {α:Type} {xs es:List α} {e:α} {i:Nat} (h:xs.drop i=e::es):i<xs.length:=by
 rw[← Nat.not_le]
 intro hn
 rw[List.drop_eq_nil_iff.2 hn] at h
 cases h
theorem zj {α:Type} {xs es:List α} {e:α} {i:Nat} (h:xs.drop i=e::es):xs[i]? = some e:=by
 have:=congrArg (·[0]?) h
 simpa using this
theorem zh {α:Type} {xs es:List α} {e:α} {i:Nat} (h:xs.drop i=e::es):xs.drop (i+1)=es:=by
 rw[← List.drop_drop,h]
 rfl
end
end Go.Abs.Q
namespace Go.Abs.Q
open Go Go.Abs
def ym:List UInt8→Option (Unit⊕Bool)
 | []=>some (Sum.inl ())
 | e::es =>
  (zdG ((UInt8.toNat e:Nat):Int)).bind fun r8 =>
  cond (!r8)
  (cond (decide (((UInt8.toNat e:Nat):Int)<48))
   (some (Sum.inr false))
   (cond (decide (((UInt8.toNat e:Nat):Int)>57))
    (some (Sum.inr false))
    (ym es)))
  (ym es)
theorem zhB (s0:Str) (hl:List.length s0≤maxLen):∀(es:List UInt8) (i:Nat) (k:Nat),s0.drop i=es→es.length<k→lp q5 k (s0,((List.length s0:Nat):Int),(i:Int))=ym es:=by
 intro es
 induction es with
 | nil =>
  intro i k h hk
  obtain⟨k,rfl⟩:∃ k',k=k'+1:=⟨k - 1,by omega⟩
  rw[zk]
  generalize lp q5 k=rec
  unfold q5 ym
  simp only[zu (zm h),cond_false]
 | cons e es ih =>
  intro i k h hk
  obtain⟨k,rfl⟩:∃ k',k=k'+1:=⟨k - 1,by omega⟩
  rw[zk]
  have hi:=zl h
  have hk2:es.length<k:=Nat.lt_of_succ_lt_succ hk
  have key:=fun (_:Unit)=>ih (i+1) k (zh h) hk2
  generalize lp q5 k=rec at key ⊢
  unfold q5 ym
  simp only[zE hi,cond_true,zJ,zj h,Option.bind_some,zF hi hl,key ()]
theorem zgJ (s0:Str) (hl:List.length s0≤maxLen):lp q5 zp (s0,((List.length s0:Nat):Int),0)=ym s0 :=
 zhB s0 hl s0 0 zp rfl (Nat.lt_of_le_of_lt hl (by decide))
def qz (s1:Str):List zQ→Nat→Option (Unit⊕Int)
 | [],i=>some (Sum.inl ())
 | e::es,i =>
  cond (e.1==s1)
  (some (Sum.inr (i:Int)))
  (qz s1 es (i+1))
theorem zjt (s0:jS) (s1:Str) (hl:List.length s0≤maxLen):∀(es:List zQ) (i:Nat) (k:Nat),s0.drop i=es→es.length<k→lp zaV k (s0,s1,((List.length s0:Nat):Int),(i:Int))=qz s1 es i:=by
 intro es
 induction es with
 | nil =>
  intro i k h hk
  obtain⟨k,rfl⟩:∃ k',k=k'+1:=⟨k - 1,by omega⟩
  rw[zk]
  generalize lp zaV k=rec
  unfold zaV qz
  simp only[zu (zm h),cond_false]
 | cons e es ih =>
  intro i k h hk
  obtain⟨k,rfl⟩:∃ k',k=k'+1:=⟨k - 1,by omega⟩
  rw[zk]
  have hi:=zl h
  have hk2:es.length<k:=Nat.lt_of_succ_lt_succ hk
  have key:=fun (_:Unit)=>ih (i+1) k (zh h) hk2
  generalize lp zaV k=rec at key ⊢
  unfold zaV qz
  simp only[zE hi,cond_true,zJ,zj h,Option.bind_some,zF hi hl,key ()]
theorem zit (s0:jS) (s1:Str) (hl:List.length s0≤maxLen):lp zaV zp (s0,s1,((List.length s0:Nat):Int),0)=qz s1 s0 0 :=
 zjt s0 s1 hl s0 0 zp rfl (Nat.lt_of_le_of_lt hl (by decide))
def zbC (s0:jS):List zQ→Nat→Option (Unit⊕Bool)
 | [],i=>some (Sum.inl ())
 | e::es,i =>
  (zdT e.1 e.2.1 e.2.2.1 e.2.2.2).bind fun r7 =>
  cond (!r7)
  (some (Sum.inr false))
  ((zeV s0 e.1).bind fun r9 =>
   cond (r9 != (i:Int))
   (some (Sum.inr false))
   (zbC s0 es (i+1)))
theorem zj2 (s0:jS) (hl:List.length s0≤maxLen):∀(es:List zQ) (i:Nat) (k:Nat),s0.drop i=es→es.length<k→lp zbO k (s0,(i:Int))=zbC s0 es i:=by
 intro es
 induction es with
 | nil =>
  intro i k h hk
  obtain⟨k,rfl⟩:∃ k',k=k'+1:=⟨k - 1,by omega⟩
  rw[zk]
  generalize lp zbO k=rec
  unfold zbO zbC
  simp only[zu (zm h),cond_false]
 | cons e es ih =>
  intro i k h hk
  obtain⟨k,rfl⟩:∃ k',k=k'+1:=⟨k - 1,by omega⟩
  rw[zk]
  have hi:=zl h
  have hk2:es.length<k:=Nat.lt_of_succ_lt_succ hk
  have key:=fun (_:Unit)=>ih (i+1) k (zh h) hk2
  generalize lp zbO k=rec at key ⊢
  unfold zbO zbC
  simp only[zE hi,cond_true,zJ,zj h,Option.bind_some,zF hi hl,key ()]
def yn (s0:jS):List zt→Int→Option (Int⊕(Int×Bool))
 | [],s1=>some (Sum.inl s1)
 | e::es,s1 =>
  (zib s0 e.1 e.2).bind fun r4 =>
  cond (!r4)
  (some (Sum.inr (0,false)))
  (yn s0 es (IntKind.wrap .i64 (s1+((List.length e.2:Nat):Int))))
theorem zfa (s0:jS) (s2:jQ) (hl:List.length s2≤maxLen):∀(es:List zt) (i:Nat) (k:Nat) (s1:Int),s2.drop i=es→es.length<k→lp yL k (s0,s1,s2,((List.length s2:Nat):Int),(i:Int))=yn s0 es s1:=by
 intro es
 induction es with
 | nil =>
  intro i k s1 h hk
  obtain⟨k,rfl⟩:∃ k',k=k'+1:=⟨k - 1,by omega⟩
  rw[zk]
  generalize lp yL k=rec
  unfold yL yn
  simp only[zu (zm h),cond_false]
 | cons e es ih =>
  intro i k s1 h hk
  obtain⟨k,rfl⟩:∃ k',k=k'+1:=⟨k - 1,by omega⟩
  rw[zk]
  have hi:=zl h
  have hk2:es.length<k:=Nat.lt_of_succ_lt_succ hk
  have key:=fun s1=>ih (i+1) k s1 (zh h) hk2
  generalize lp yL k=rec at key ⊢
  unfold yL yn
  simp only[zE hi,cond_true,zJ,zj h,Option.bind_some,zF hi hl,key]
theorem zeN (s0:jS) (s2:jQ) (s1:Int) (hl:List.length s2≤maxLen):lp yL zp (s0,s1,s2,((List.length s2:Nat):Int),0)=yn s0 s2 s1 :=
 zfa s0 s2 hl s2 0 zp s1 rfl (Nat.lt_of_le_of_lt hl (by decide))
def zW (s0:jS):List jI→Nat→Int→Int→Option (Int⊕(Int×Bool))
 | [],i,s1,s2=>some (Sum.inl s1)
 | e::es,i,s1,s2 =>
  (ze8 s0 e).bind fun r4 =>
  cond ((i:Int)==0)
  (cond (r4.2 != 0)
   (some (Sum.inr (0,false)))
   (cond (r4.1 != r4.1)
    (some (Sum.inr (0,false)))
    (zW s0 es (i+1) (IntKind.wrap .i64 (s1+((List.length e:Nat):Int))) r4.1)))
  (cond (r4.2 != 0)
   (some (Sum.inr (0,false)))
   (cond (r4.1 != s2)
    (some (Sum.inr (0,false)))
    (zW s0 es (i+1) (IntKind.wrap .i64 (s1+((List.length e:Nat):Int))) s2)))
theorem zfw (s0:jS) (s3:jR) (hl:List.length s3≤maxLen):∀(es:List jI) (i:Nat) (k:Nat) (s1:Int) (s2:Int),s3.drop i=es→es.length<k→lp yM k (s0,s1,s2,s3,((List.length s3:Nat):Int),(i:Int))=zW s0 es i s1 s2:=by
 intro es
 induction es with
 | nil =>
  intro i k s1 s2 h hk
  obtain⟨k,rfl⟩:∃ k',k=k'+1:=⟨k - 1,by omega⟩
  rw[zk]
  generalize lp yM k=rec
  unfold yM zW
  simp only[zu (zm h),cond_false]
 | cons e es ih =>
  intro i k s1 s2 h hk
  obtain⟨k,rfl⟩:∃ k',k=k'+1:=⟨k - 1,by omega⟩
  rw[zk]
  have hi:=zl h
  have hk2:es.length<k:=Nat.lt_of_succ_lt_succ hk
  have key:=fun s1 s2=>ih (i+1) k s1 s2 (zh h) hk2
  generalize lp yM k=rec at key ⊢
  unfold yM zW
  simp only[zE hi,cond_true,zJ,zj h,Option.bind_some,zF hi hl,key]
theorem zeK (s0:jS) (s3:jR) (s1:Int) (s2:Int) (hl:List.length s3≤maxLen):lp yM zp (s0,s1,s2,s3,((List.length s3:Nat):Int),0)=zW s0 s3 0 s1 s2 :=
 zfw s0 s3 hl s3 0 zp s1 s2 rfl (Nat.lt_of_le_of_lt hl (by decide))
def qB (s1:jI):List Int→Nat→Option (Unit⊕Bool)
 | [],i=>some (Sum.inl ())
 | e::es,i =>
  (gx s1 (i:Int)).bind fun e4 =>
  cond (e != e4)
  (some (Sum.inr false))
  (qB s1 es (i+1))
theorem zgy (s0:jI) (s1:jI) (hl:List.length s0≤maxLen):∀(es:List Int) (i:Nat) (k:Nat),s0.drop i=es→es.length<k→lp qD k (s0,s1,((List.length s0:Nat):Int),(i:Int))=qB s1 es i:=by
 intro es
 induction es with
 | nil =>
  intro i k h hk
  obtain⟨k,rfl⟩:∃ k',k=k'+1:=⟨k - 1,by omega⟩
  rw[zk]
  generalize lp qD k=rec
  unfold qD qB
  simp only[zu (zm h),cond_false]
 | cons e es ih =>
  intro i k h hk
  obtain⟨k,rfl⟩:∃ k',k=k'+1:=⟨k - 1,by omega⟩
  rw[zk]
  have hi:=zl h
  have hk2:es.length<k:=Nat.lt_of_succ_lt_succ hk
  have key:=fun (_:Unit)=>ih (i+1) k (zh h) hk2
  generalize lp qD k=rec at key ⊢
  unfold qD qB
  simp only[zE hi,cond_true,zJ,zj h,Option.bind_some,zF hi hl,key ()]
theorem zgg (s0:jI) (s1:jI) (hl:List.length s0≤maxLen):lp qD zp (s0,s1,((List.length s0:Nat):Int),0)=qB s1 s0 0 :=
 zgy s0 s1 hl s0 0 zp rfl (Nat.lt_of_le_of_lt hl (by decide))
def yp (s3:Bool) (s4:jI):List zt→Nat→Option (Unit⊕Int)
 | [],i=>some (Sum.inl ())
 | e::es,i =>
  (zcW e.1 e.2 s3 s4).bind fun r4 =>
  cond r4
  (some (Sum.inr (i:Int)))
  (yp s3 s4 es (i+1))
theorem zeC (s0:jQ) (s3:Bool) (s4:jI) (hl:List.length s0≤maxLen):∀(es:List zt) (i:Nat) (k:Nat),s0.drop i=es→es.length<k→lp yj k (s0,((List.length s0:Nat):Int),(i:Int),s3,s4)=yp s3 s4 es i:=by
 intro es
 induction es with
 | nil =>
  intro i k h hk
  obtain⟨k,rfl⟩:∃ k',k=k'+1:=⟨k - 1,by omega⟩
  rw[zk]
  generalize lp yj k=rec
  unfold yj yp
  simp only[zu (zm h),cond_false]
 | cons e es ih =>
  intro i k h hk
  obtain⟨k,rfl⟩:∃ k',k=k'+1:=⟨k - 1,by omega⟩
  rw[zk]
  have hi:=zl h
  have hk2:es.length<k:=Nat.lt_of_succ_lt_succ hk
  have key:=fun (_:Unit)=>ih (i+1) k (zh h) hk2
  generalize lp yj k=rec at key ⊢
  unfold yj yp
  simp only[zE hi,cond_true,zJ,zj h,Option.bind_some,zF hi hl,key ()]
theorem zd8 (s0:jQ) (s3:Bool) (s4:jI) (hl:List.length s0≤maxLen):lp yj zp (s0,((List.length s0:Nat):Int),0,s3,s4)=yp s3 s4 s0 0 :=
 zeC s0 s3 s4 hl s0 0 zp rfl (Nat.lt_of_le_of_lt hl (by decide))
def qn:List zt→jQ→Option jQ
 | [],s3=>some s3
 | e::es,s3 =>
  (zaH s3 e.1 e.2).bind fun r6 =>
  cond (!r6)
  (cond (yY (List.length s3+List.length ([(e.1,e.2)]:List zt)) 32)
   (qn es (s3++([(e.1,e.2)]:List zt)))
   (none))
  (qn es s3)
theorem zhA (s0:jQ) (hl:List.length s0≤maxLen):∀(es:List zt) (i:Nat) (k:Nat) (s3:jQ),s0.drop i=es→es.length<k→lp qS k (s0,((List.length s0:Nat):Int),(i:Int),s3)=qn es s3:=by
 intro es
 induction es with
 | nil =>
  intro i k s3 h hk
  obtain⟨k,rfl⟩:∃ k',k=k'+1:=⟨k - 1,by omega⟩
  rw[zk]
  generalize lp qS k=rec
  unfold qS qn
  simp only[zu (zm h),cond_false]
 | cons e es ih =>
  intro i k s3 h hk
  obtain⟨k,rfl⟩:∃ k',k=k'+1:=⟨k - 1,by omega⟩
  rw[zk]
  have hi:=zl h
  have hk2:es.length<k:=Nat.lt_of_succ_lt_succ hk
  have key:=fun s3=>ih (i+1) k s3 (zh h) hk2
  generalize lp qS k=rec at key ⊢
  unfold qS qn
  simp only[zE hi,cond_true,zJ,zj h,Option.bind_some,zF hi hl,key]
theorem zgU (s0:jQ) (s3:jQ) (hl:List.length s0≤maxLen):lp qS zp (s0,((List.length s0:Nat):Int),0,s3)=qn s0 s3 :=
 zhA s0 hl s0 0 zp s3 rfl (Nat.lt_of_le_of_lt hl (by decide))
def yc (s3:jI):List jI→Nat→Option (Unit⊕Int)
 | [],i=>some (Sum.inl ())
 | e::es,i =>
  (zcX e s3).bind fun r4 =>
  cond r4
  (some (Sum.inr (i:Int)))
  (yc s3 es (i+1))
theorem zd3 (s0:jR) (s3:jI) (hl:List.length s0≤maxLen):∀(es:List jI) (i:Nat) (k:Nat),s0.drop i=es→es.length<k→lp zX k (s0,((List.length s0:Nat):Int),(i:Int),s3)=yc s3 es i:=by
 intro es
 induction es with
 | nil =>
  intro i k h hk
  obtain⟨k,rfl⟩:∃ k',k=k'+1:=⟨k - 1,by omega⟩
  rw[zk]
  generalize lp zX k=rec
  unfold zX yc
  simp only[zu (zm h),cond_false]
 | cons e es ih =>
  intro i k h hk
  obtain⟨k,rfl⟩:∃ k',k=k'+1:=⟨k - 1,by omega⟩
  rw[zk]
  have hi:=zl h
  have hk2:es.length<k:=Nat.lt_of_succ_lt_succ hk
  have key:=fun (_:Unit)=>ih (i+1) k (zh h) hk2
  generalize lp zX k=rec at key ⊢
  unfold zX yc
  simp only[zE hi,cond_true,zJ,zj h,Option.bind_some,zF hi hl,key ()]
theorem zdv (s0:jR) (s3:jI) (hl:List.length s0≤maxLen):lp zX zp (s0,((List.length s0:Nat):Int),0,s3)=yc s3 s0 0 :=
 zd3 s0 s3 hl s0 0 zp rfl (Nat.lt_of_le_of_lt hl (by decide))
def yD (s5:jQ) (s6:jR):List zt→jI→Int→jQ→Option (jI×Int×jQ×jR×jQ)
 | [],s3,s4,s7=>some (s3,s4,s5,s6,s7)
 | e::es,s3,s4,s7 =>
  (qb e.2 s3 s4).bind fun r20 =>
  cond (yY (List.length s7+List.length ([(e.1,r20.1)]:List zt)) 32)
  (yD s5 s6 es r20.2.1 r20.2.2 (s7++([(e.1,r20.1)]:List zt)))
  (none)
theorem zf6 (s0:jQ) (s5:jQ) (s6:jR) (hl:List.length s0≤maxLen):∀(es:List zt) (i:Nat) (k:Nat) (s3:jI) (s4:Int) (s7:jQ),s0.drop i=es→es.length<k→lp qc k (s0,((List.length s0:Nat):Int),(i:Int),s3,s4,s5,s6,s7)=yD s5 s6 es s3 s4 s7:=by
 intro es
 induction es with
 | nil =>
  intro i k s3 s4 s7 h hk
  obtain⟨k,rfl⟩:∃ k',k=k'+1:=⟨k - 1,by omega⟩
  rw[zk]
  generalize lp qc k=rec
  unfold qc yD
  simp only[zu (zm h),cond_false]
 | cons e es ih =>
  intro i k s3 s4 s7 h hk
  obtain⟨k,rfl⟩:∃ k',k=k'+1:=⟨k - 1,by omega⟩
  rw[zk]
  have hi:=zl h
  have hk2:es.length<k:=Nat.lt_of_succ_lt_succ hk
  have key:=fun s3 s4 s7=>ih (i+1) k s3 s4 s7 (zh h) hk2
  generalize lp qc k=rec at key ⊢
  unfold qc yD
  simp only[zE hi,cond_true,zJ,zj h,Option.bind_some,zF hi hl,key]
theorem zff (s0:jQ) (s5:jQ) (s6:jR) (s3:jI) (s4:Int) (s7:jQ) (hl:List.length s0≤maxLen):lp qc zp (s0,((List.length s0:Nat):Int),0,s3,s4,s5,s6,s7)=yD s5 s6 s0 s3 s4 s7 :=
 zf6 s0 s5 s6 hl s0 0 zp s3 s4 s7 rfl (Nat.lt_of_le_of_lt hl (by decide))
def yG (s8:jQ):List jI→jI→Int→jR→Option (jI×Int×jQ×jR)
 | [],s3,s4,s9=>some (s3,s4,s8,s9)
 | e::es,s3,s4,s9 =>
  (qb e s3 s4).bind fun r13 =>
  cond (yY (List.length s9+List.length ([r13.1]:List jI)) 24)
  (yG s8 es r13.2.1 r13.2.2 (s9++([r13.1]:List jI)))
  (none)
theorem zgh (s0:jR) (s5:jQ) (s6:jR) (s7:jQ) (s8:jQ) (hl:List.length s0≤maxLen):∀(es:List jI) (i:Nat) (k:Nat) (s3:jI) (s4:Int) (s9:jR),s0.drop i=es→es.length<k→lp y0 k (s0,((List.length s0:Nat):Int),(i:Int),s3,s4,s5,s6,s7,s8,s9)=yG s8 es s3 s4 s9:=by
 intro es
 induction es with
 | nil =>
  intro i k s3 s4 s9 h hk
  obtain⟨k,rfl⟩:∃ k',k=k'+1:=⟨k - 1,by omega⟩
  rw[zk]
  generalize lp y0 k=rec
  unfold y0 yG
  simp only[zu (zm h),cond_false]
 | cons e es ih =>
  intro i k s3 s4 s9 h hk
  obtain⟨k,rfl⟩:∃ k',k=k'+1:=⟨k - 1,by omega⟩
  rw[zk]
  have hi:=zl h
  have hk2:es.length<k:=Nat.lt_of_succ_lt_succ hk
  have key:=fun s3 s4 s9=>ih (i+1) k s3 s4 s9 (zh h) hk2
  generalize lp y0 k=rec at key ⊢
  unfold y0 yG
  simp only[zE hi,cond_true,zJ,zj h,Option.bind_some,zF hi hl,key]
theorem zfm (s0:jR) (s5:jQ) (s6:jR) (s7:jQ) (s8:jQ) (s3:jI) (s4:Int) (s9:jR) (hl:List.length s0≤maxLen):lp y0 zp (s0,((List.length s0:Nat):Int),0,s3,s4,s5,s6,s7,s8,s9)=yG s8 s0 s3 s4 s9 :=
 zgh s0 s5 s6 s7 s8 hl s0 0 zp s3 s4 s9 rfl (Nat.lt_of_le_of_lt hl (by decide))
def yy:List zt→jI→Int→jQ→Option (jI×Int×jQ)
 | [],s3,s4,s8=>some (s3,s4,s8)
 | e::es,s3,s4,s8 =>
  (qb e.2 s3 s4).bind fun r6 =>
  cond (yY (List.length s8+List.length ([(e.1,r6.1)]:List zt)) 32)
  (yy es r6.2.1 r6.2.2 (s8++([(e.1,r6.1)]:List zt)))
  (none)
theorem zge (s0:jQ) (s5:jQ) (s6:jR) (s7:jQ) (hl:List.length s0≤maxLen):∀(es:List zt) (i:Nat) (k:Nat) (s3:jI) (s4:Int) (s8:jQ),s0.drop i=es→es.length<k→lp y7 k (s0,((List.length s0:Nat):Int),(i:Int),s3,s4,s5,s6,s7,s8)=yy es s3 s4 s8:=by
 intro es
 induction es with
 | nil =>
  intro i k s3 s4 s8 h hk
  obtain⟨k,rfl⟩:∃ k',k=k'+1:=⟨k - 1,by omega⟩
  rw[zk]
  generalize lp y7 k=rec
  unfold y7 yy
  simp only[zu (zm h),cond_false]
 | cons e es ih =>
  intro i k s3 s4 s8 h hk
  obtain⟨k,rfl⟩:∃ k',k=k'+1:=⟨k - 1,by omega⟩
  rw[zk]
  have hi:=zl h
  have hk2:es.length<k:=Nat.lt_of_succ_lt_succ hk
  have key:=fun s3 s4 s8=>ih (i+1) k s3 s4 s8 (zh h) hk2
  generalize lp y7 k=rec at key ⊢
  unfold y7 yy
  simp only[zE hi,cond_true,zJ,zj h,Option.bind_some,zF hi hl,key]
theorem zfd (s0:jQ) (s5:jQ) (s6:jR) (s7:jQ) (s3:jI) (s4:Int) (s8:jQ) (hl:List.length s0≤maxLen):lp y7 zp (s0,((List.length s0:Nat):Int),0,s3,s4,s5,s6,s7,s8)=yy s0 s3 s4 s8 :=
 zge s0 s5 s6 s7 hl s0 0 zp s3 s4 s8 rfl (Nat.lt_of_le_of_lt hl (by decide))
def ql (s3:jQ) (s4:jQ):List jI→jR→Option (jQ×jQ×jR)
 | [],s5=>some (s3,s4,s5)
 | e::es,s5 =>
  (zac s5 e).bind fun r8 =>
  cond (!r8)
  (cond (yY (List.length s5+List.length ([e]:List jI)) 24)
   (ql s3 s4 es (s5++([e]:List jI)))
   (none))
  (ql s3 s4 es s5)
theorem zhu (s0:jR) (s3:jQ) (s4:jQ) (hl:List.length s0≤maxLen):∀(es:List jI) (i:Nat) (k:Nat) (s5:jR),s0.drop i=es→es.length<k→lp qX k (s0,((List.length s0:Nat):Int),(i:Int),s3,s4,s5)=ql s3 s4 es s5:=by
 intro es
 induction es with
 | nil =>
  intro i k s5 h hk
  obtain⟨k,rfl⟩:∃ k',k=k'+1:=⟨k - 1,by omega⟩
  rw[zk]
  generalize lp qX k=rec
  unfold qX ql
  simp only[zu (zm h),cond_false]
 | cons e es ih =>
  intro i k s5 h hk
  obtain⟨k,rfl⟩:∃ k',k=k'+1:=⟨k - 1,by omega⟩
  rw[zk]
  have hi:=zl h
  have hk2:es.length<k:=Nat.lt_of_succ_lt_succ hk
  have key:=fun s5=>ih (i+1) k s5 (zh h) hk2
  generalize lp qX k=rec at key ⊢
  unfold qX ql
  simp only[zE hi,cond_true,zJ,zj h,Option.bind_some,zF hi hl,key]
theorem zgZ (s0:jR) (s3:jQ) (s4:jQ) (s5:jR) (hl:List.length s0≤maxLen):lp qX zp (s0,((List.length s0:Nat):Int),0,s3,s4,s5)=ql s3 s4 s0 s5 :=
 zhu s0 s3 s4 hl s0 0 zp s5 rfl (Nat.lt_of_le_of_lt hl (by decide))
def qg (s1:jI):List Int→Nat→Option (Unit⊕Bool)
 | [],i=>some (Sum.inl ())
 | e::es,i =>
  (gx s1 (i:Int)).bind fun e4 =>
  cond (e != e4)
  (some (Sum.inr false))
  (qg s1 es (i+1))
theorem zf0 (s0:jI) (s1:jI) (hl:List.length s0≤maxLen):∀(es:List Int) (i:Nat) (k:Nat),s0.drop i=es→es.length<k→lp qf k (s0,s1,(i:Int))=qg s1 es i:=by
 intro es
 induction es with
 | nil =>
  intro i k h hk
  obtain⟨k,rfl⟩:∃ k',k=k'+1:=⟨k - 1,by omega⟩
  rw[zk]
  generalize lp qf k=rec
  unfold qf qg
  simp only[zu (zm h),cond_false]
 | cons e es ih =>
  intro i k h hk
  obtain⟨k,rfl⟩:∃ k',k=k'+1:=⟨k - 1,by omega⟩
  rw[zk]
  have hi:=zl h
  have hk2:es.length<k:=Nat.lt_of_succ_lt_succ hk
  have key:=fun (_:Unit)=>ih (i+1) k (zh h) hk2
  generalize lp qf k=rec at key ⊢
  unfold qf qg
  simp only[zE hi,cond_true,zJ,zj h,Option.bind_some,zF hi hl,key ()]
theorem zfz (s0:jI) (s1:jI) (hl:List.length s0≤maxLen):lp qf zp (s0,s1,0)=qg s1 s0 0 :=
 zf0 s0 s1 hl s0 0 zp rfl (Nat.lt_of_le_of_lt hl (by decide))
def qh (s1:jQ):List zt→Nat→Option (Unit⊕Bool)
 | [],i=>some (Sum.inl ())
 | e::es,i =>
  (gx s1 (i:Int)).bind fun e7 =>
  cond (!(e.1==e7.1))
  (some (Sum.inr false))
  ((gx s1 (i:Int)).bind fun e9 =>
   (zbn e.2 e9.2).bind fun r10 =>
   cond (!r10)
   (some (Sum.inr false))
   (qh s1 es (i+1)))
theorem zfW (s0:jQ) (s1:jQ) (hl:List.length s0≤maxLen):∀(es:List zt) (i:Nat) (k:Nat),s0.drop i=es→es.length<k→lp yZ k (s0,s1,(i:Int))=qh s1 es i:=by
 intro es
 induction es with
 | nil =>
  intro i k h hk
  obtain⟨k,rfl⟩:∃ k',k=k'+1:=⟨k - 1,by omega⟩
  rw[zk]
  generalize lp yZ k=rec
  unfold yZ qh
  simp only[zu (zm h),cond_false]
 | cons e es ih =>
  intro i k h hk
  obtain⟨k,rfl⟩:∃ k',k=k'+1:=⟨k - 1,by omega⟩
  rw[zk]
  have hi:=zl h
  have hk2:es.length<k:=Nat.lt_of_succ_lt_succ hk
  have key:=fun (_:Unit)=>ih (i+1) k (zh h) hk2
  generalize lp yZ k=rec at key ⊢
  unfold yZ qh
  simp only[zE hi,cond_true,zJ,zj h,Option.bind_some,zF hi hl,key ()]
theorem zfy (s0:jQ) (s1:jQ) (hl:List.length s0≤maxLen):lp yZ zp (s0,s1,0)=qh s1 s0 0 :=
 zfW s0 s1 hl s0 0 zp rfl (Nat.lt_of_le_of_lt hl (by decide))
def qi (s1:jR):List jI→Nat→Option (Unit⊕Bool)
 | [],i=>some (Sum.inl ())
 | e::es,i =>
  (gx s1 (i:Int)).bind fun e5 =>
  (zbn e e5).bind fun r6 =>
  cond (!r6)
  (some (Sum.inr false))
  (qi s1 es (i+1))
theorem zga (s0:jR) (s1:jR) (hl:List.length s0≤maxLen):∀(es:List jI) (i:Nat) (k:Nat),s0.drop i=es→es.length<k→lp qd k (s0,s1,(i:Int))=qi s1 es i:=by
 intro es
 induction es with
 | nil =>
  intro i k h hk
  obtain⟨k,rfl⟩:∃ k',k=k'+1:=⟨k - 1,by omega⟩
  rw[zk]
  generalize lp qd k=rec
  unfold qd qi
  simp only[zu (zm h),cond_false]
 | cons e es ih =>
  intro i k h hk
  obtain⟨k,rfl⟩:∃ k',k=k'+1:=⟨k - 1,by omega⟩
  rw[zk]
  have hi:=zl h
  have hk2:es.length<k:=Nat.lt_of_succ_lt_succ hk
  have key:=fun (_:Unit)=>ih (i+1) k (zh h) hk2
  generalize lp qd k=rec at key ⊢
  unfold qd qi
  simp only[zE hi,cond_true,zJ,zj h,Option.bind_some,zF hi hl,key ()]
theorem zfF (s0:jR) (s1:jR) (hl:List.length s0≤maxLen):lp qd zp (s0,s1,0)=qi s1 s0 0 :=
 zga s0 s1 hl s0 0 zp rfl (Nat.lt_of_le_of_lt hl (by decide))
end Go.Abs.Q
namespace Go.Abs.Q
open Go Go.Abs
section
def ziK (n:Int):Bool:=decide (97≤n)&&decide (n≤122)
theorem zdC (n:Int):zdG n=some (ziK n):=by
 unfold zdG ziK
 by_cases h:n≥97<;>simp [h]
def zuz (e:UInt8):Bool:=ziK ((UInt8.toNat e:Nat):Int)||(decide (48≤((UInt8.toNat e:Nat):Int))&&decide (((UInt8.toNat e:Nat):Int)≤57))
theorem zq1 (es:List UInt8):ym es=some (cond (es.all zuz) (.inl ()) (.inr false)):=by
 induction es with
 | nil=>rfl
 | cons e es ih =>
  unfold ym
  rw[zdC,Option.bind_some,ih,List.all_cons]
  unfold zuz
  cases h:ziK ((UInt8.toNat e:Nat):Int) with
  | true=>simp
  | false =>
   by_cases h1:((UInt8.toNat e:Nat):Int)<48
   ·have:¬(48≤((UInt8.toNat e:Nat):Int)):=by omega
    simp only[Bool.not_false,cond_true,decide_eq_true h1,decide_eq_false this,Bool.false_and,Bool.or_false,cond_false]
   ·have h3:48≤((UInt8.toNat e:Nat):Int):=by omega
    by_cases h2:((UInt8.toNat e:Nat):Int)>57
    ·have:¬(((UInt8.toNat e:Nat):Int)≤57):=by omega
     simp only[Bool.not_false,cond_true,decide_eq_false h1,decide_eq_true h2,decide_eq_false this,Bool.and_false,Bool.false_and,Bool.or_false,cond_false]
    ·have h4:((UInt8.toNat e:Nat):Int)≤57:=by omega
     simp only[Bool.not_false,cond_true,decide_eq_false h1,decide_eq_false h2,decide_eq_true h3,decide_eq_true h4,Bool.and_true,Bool.true_and,Bool.or_true,cond_false]
def zgr (s:Str):Bool:=match s with
 | []=>false
 | c::_=>decide (s.length≤8)&&ziK ((UInt8.toNat c:Nat):Int)&&s.all zuz
theorem zmS (s:Str):ze7 s=some (zgr s):=by
 unfold ze7 zgr
 cases s with
 | nil=>rfl
 | cons c r =>
  rw[show ((c::r:Str)==([]:Str))=false from rfl,cond_false]
  by_cases h:(c::r).length≤8
  ·have h1:¬(((List.length (c::r):Nat):Int)>8):=by omega
   rw[decide_eq_false h1,cond_false,qK,List.getElem?_cons_zero,Option.bind_some,zdC,Option.bind_some,zgJ _ (by unfold maxLen; omega),zq1,decide_eq_true h]
   dsimp only
   cases ziK ((UInt8.toNat c:Nat):Int) with
   | false=>rfl
   | true=>cases (c::r).all zuz<;>rfl
  ·have h1:((List.length (c::r):Nat):Int)>8:=by omega
   rw[decide_eq_true h1,decide_eq_false h]
   rfl
def zyl (e:zQ):Bool:=zgr e.1&&decide (0≤e.2.1)&&decide (e.2.1≤2)&&decide (0≤e.2.2.1)&&decide (e.2.2.1≤3)&&decide (1≤e.2.2.2)&&decide (e.2.2.2≤20)
theorem zmO (e:zQ):zdT e.1 e.2.1 e.2.2.1 e.2.2.2=some (zyl e):=by
 unfold zdT zyl
 rw[zmS,Option.bind_some]
 cases zgr e.1<;>simp only[cond_true,cond_false,Bool.true_and,Bool.false_and,ge_iff_le]
 cases decide (0≤e.2.1)<;>simp only[cond_true,cond_false,Bool.true_and,Bool.false_and]
 cases decide (e.2.1≤2)<;>simp only[cond_true,cond_false,Bool.true_and,Bool.false_and]
 cases decide (0≤e.2.2.1)<;>simp only[cond_true,cond_false,Bool.true_and,Bool.false_and]
 cases decide (e.2.2.1≤3)<;>simp only[cond_true,cond_false,Bool.true_and,Bool.false_and]
 cases decide (1≤e.2.2.2)<;>simp only[cond_true,cond_false,Bool.true_and,Bool.false_and]
def zAT (o:Option Nat):Int:=match o with
 | some i=>(i:Int)
 | none => -1
theorem zvq (nm:Str) (es:List zQ) (i:Nat):qz nm es i=some (match es.findIdx? (fun e=>e.1==nm) with
  | some j=>.inr ((i+j:Nat):Int)
  | none=>.inl ()):=by
 induction es generalizing i with
 | nil=>rfl
 | cons e es ih =>
  unfold qz
  rw[List.findIdx?_cons]
  cases h:(e.1==nm) with
  | true=>simp
  | false =>
   rw[cond_false,ih]
   cases es.findIdx? (fun e=>e.1==nm) with
   | none=>rfl
   | some j=>simp; omega
theorem zpO (a0:List zQ) (nm:Str) (h:a0.length≤maxLen):zeV a0 nm=some (zAT (a0.findIdx? (fun e=>e.1==nm))):=by
 unfold zeV
 rw[zit _ _ h,zvq]
 cases a0.findIdx? (fun e=>e.1==nm) with
 | none=>rfl
 | some j=>simp [qL,zAT]
def zkf (a0:List zQ):List zQ→Nat→Bool
 | [],_=>true
 | e::es,i=>zyl e&&(zAT (a0.findIdx? (fun d=>d.1==e.1))==(i:Int))&&zkf a0 es (i+1)
theorem zLD (a0:List zQ) (h:a0.length≤maxLen) (es:List zQ) (i:Nat):zbC a0 es i=some (cond (zkf a0 es i) (.inl ()) (.inr false)):=by
 induction es generalizing i with
 | nil=>rfl
 | cons e es ih =>
  unfold zbC zkf
  rw[zmO,Option.bind_some,zpO _ _ h,Option.bind_some,ih,bne]
  cases zyl e with
  | false=>rfl
  | true =>
   cases (zAT (a0.findIdx? (fun d=>d.1==e.1))==(i:Int)) with
   | false=>rfl
   | true=>simp
def zrZ:zQ:=([61],0,2,1)
def eqQ (e:zQ):Bool:=cond (eqS e.1 [61]) (cond (eqI e.2.1 0) (cond (eqI e.2.2.1 2) (cond (eqI e.2.2.2 1) true false) false) false) false
theorem zF9 (e:zQ):eqQ e=true↔e=zrZ:=by
 obtain⟨a,b,c,d⟩:=e
 unfold eqQ zrZ eqS eqI
 cases h1:(a==([61]:List UInt8))<;>cases h2:(b==0)<;>cases h3:(c==2)<;>cases h4:(d==1)<;>simp_all
def zdU (a0:List zQ):Bool:=match a0 with
 | []=>false
 | e::es=>decide (a0.length≤20)&&eqQ e&&zkf a0 es 1
theorem zlS (a0:List zQ):zfC a0=some (zdU a0):=by
 unfold zfC zdU
 cases a0 with
 | nil=>rfl
 | cons e es =>
  rw[decide_eq_false (show ¬(((List.length (e::es):Nat):Int)<1) by rw[List.length_cons]; omega),cond_false]
  by_cases h:(e::es).length≤20
  ·have h1:¬(((List.length (e::es):Nat):Int)>20):=by omega
   have hm:(e::es).length≤maxLen:=by unfold maxLen; omega
   rw[decide_eq_false h1,cond_false,qK,List.getElem?_cons_zero,Option.bind_some,decide_eq_true h]
   show cond (!(eqQ e)) _ _=some (true&&eqQ e&&zkf (e::es) es 1)
   cases eqQ e with
   | false=>rfl
   | true =>
    have:=zj2 (e::es) hm es 1 zp rfl (by simp [zp]; simp at h; omega)
    simp only[Bool.not_true,cond_false]
    rw[show ((1:Int))=((1:Nat):Int) from rfl,this,zLD _ hm]
    cases zkf (e::es) es 1<;>rfl
  ·have h1:((List.length (e::es):Nat):Int)>20:=by omega
   rw[decide_eq_true h1,decide_eq_false h]
   rfl
theorem ztb {a0:List zQ}:{es:List zQ}→{i:Nat}→zkf a0 es i=true→∀(j:Nat) e,es[j]? = some e→zyl e=true∧zAT (a0.findIdx? (fun d=>d.1==e.1))=((i+j:Nat):Int)
 | [],_,_,j,e,he=>by simp at he
 | d::es,i,h,0,e,he=>by
  injection he with he; subst he
  simp only[zkf,Bool.and_eq_true] at h
  exact ⟨h.1.1,by simpa using h.1.2⟩
 | d::es,i,h,j+1,e,he=>by
  simp only[zkf,Bool.and_eq_true] at h
  have:=ztb h.2 j e (by simpa using he)
  exact ⟨this.1,by rw[this.2]; omega⟩
structure SignOk (a0:List zQ):Prop where
 pos:1≤a0.length
 len:a0.length≤20
 eq:a0[0]? = some zrZ
 sym:∀(i:Nat) e,a0[i+1]? = some e→zyl e=true∧zAT (a0.findIdx? (fun d=>d.1==e.1))=((i+1:Nat):Int)
theorem zi2 {a0:List zQ} (h:zdU a0=true):SignOk a0:=by
 unfold zdU at h
 cases a0 with
 | nil=>cases h
 | cons e es =>
  simp only[Bool.and_eq_true,decide_eq_true_eq] at h
  exact ⟨by simp,h.1.1,by rw[List.getElem?_cons_zero,(zF9 e).1 h.1.2],fun i d hd=>by
   have:=ztb h.2 i d (by simpa using hd)
   exact ⟨this.1,by rw[this.2]; omega⟩⟩
theorem SignOk.max {a0:List zQ} (h:SignOk a0):a0.length≤maxLen:=Nat.le_trans h.len (by unfold maxLen; omega)
theorem zz2 {e:zQ} (h:zyl e=true):zgr e.1=true∧0≤e.2.1∧e.2.1≤2∧0≤e.2.2.1∧e.2.2.1≤3∧1≤e.2.2.2∧e.2.2.2≤20:=by
 unfold zyl at h
 simp only[Bool.and_eq_true,decide_eq_true_eq] at h
 exact ⟨h.1.1.1.1.1.1,h.1.1.1.1.1.2,h.1.1.1.1.2,h.1.1.1.2,h.1.1.2,h.1.2,h.2⟩
theorem zr9 {s:Str} (h:zgr s=true):1≤s.length∧s.length≤8:=by
 unfold zgr at h
 cases s with
 | nil=>cases h
 | cons c r =>
  simp only[Bool.and_eq_true,decide_eq_true_eq] at h
  exact ⟨by simp,h.1.1⟩
theorem SignOk.at {a0:List zQ} (h:SignOk a0) {i:Nat} {e:zQ} (he:a0[i]? = some e):1≤e.1.length∧e.1.length≤8∧0≤e.2.1∧e.2.1≤2∧0≤e.2.2.1∧e.2.2.1≤3:=by
 cases i with
 | zero =>
  rw[h.eq] at he
  injection he with he; subst he
  decide
 | succ i =>
  obtain⟨h1,h2,h3,h4,h5,_⟩:=zz2 (h.sym i e he).1
  have:=zr9 h1
  exact ⟨this.1,this.2,h2,h3,h4,h5⟩
def zcp (a0:List zQ) (x:Int):Option Nat :=
 cond (decide (x<0)) (cond (decide (-24≤x)) (some 0) none) (match a0[x.toNat]? with
  | some e=>cond (e.2.1==0) none (some e.2.2.1.toNat)
  | none=>none)
def nOk (o:Option Nat):Int×Bool:=match o with
 | some k=>((k:Int),true)
 | none=>(0,false)
theorem zbB {x:Int} (h1 : -9223372036854775808≤x) (h2:x≤9223372036854775807):yo x=some (-1 - x):=by
 unfold yo
 rw[zT]<;>omega
theorem zkj {a0:List zQ} (h:SignOk a0) (x:Int):zg7 a0 x=some (nOk (zcp a0 x)):=by
 unfold zg7 zcp
 by_cases h0:x<0
 ·rw[decide_eq_true h0,cond_true,cond_true,zbB (by omega) (by omega),Option.bind_some]
  by_cases h1 : -24≤x
  ·rw[decide_eq_true h1,decide_eq_true (show x ≥ -1 - 23 by omega)]; rfl
  ·rw[decide_eq_false h1,decide_eq_false (show ¬(x ≥ -1 - 23) by omega)]; rfl
 ·rw[decide_eq_false h0,cond_false,cond_false]
  by_cases h1:x≥((List.length a0:Nat):Int)
  ·rw[decide_eq_true h1,cond_true,List.getElem?_eq_none (by omega)]; rfl
  ·obtain⟨e,he1,he2,he3⟩:=zvw (xs:=a0) (i:=x) (by omega) (by omega)
   have:=h.at he3
   rw[decide_eq_false h1,cond_false,he1,Option.bind_some,he3]
   cases he:(e.2.1==0) with
   | true=>simp only[he,cond_true]; rfl
   | false =>
    simp only[he,cond_false,Option.bind_some]
    unfold nOk
    simp only[Option.some.injEq,Prod.mk.injEq,and_true]
    omega
theorem znP {a0:List zQ} (h:SignOk a0) {x:Int} {k:Nat} (hk:zcp a0 x=some k):k≤3:=by
 unfold zcp at hk
 by_cases h0:x<0
 ·rw[decide_eq_true h0,cond_true] at hk
  by_cases h1 : -24≤x
  ·rw[decide_eq_true h1] at hk; injection hk with hk; omega
  ·rw[decide_eq_false h1] at hk; cases hk
 ·rw[decide_eq_false h0,cond_false] at hk
  cases he:a0[x.toNat]? with
  | none=>rw[he] at hk; cases hk
  | some e =>
   rw[he] at hk
   have:=h.at he
   simp only at hk
   cases hz:(e.2.1==0) with
   | true=>rw[hz] at hk; cases hk
   | false=>rw[hz] at hk; injection hk with hk; omega
def sk (a0:List zQ):Nat→List Int→Option Nat
 | 0,_=>some 0
 | _+1,[]=>none
 | n+1,x::xs=>match zcp a0 x with
  | none=>none
  | some k=>(sk a0 (n+k) xs).map (· + 1)
theorem zmG {a0:List zQ}:{xs:List Int}→{n k:Nat}→sk a0 n xs=some k→k≤xs.length∧(0<n→0<k)∧n≤k
 | [],0,k,h=>by simp [sk] at h; omega
 | [],n+1,k,h=>by simp [sk] at h
 | x::xs,0,k,h=>by simp [sk] at h; omega
 | x::xs,n+1,k,h=>by
  unfold sk at h
  cases ha:zcp a0 x with
  | none=>rw[ha] at h; cases h
  | some m =>
   rw[ha] at h
   simp only[Option.map_eq_some_iff] at h
   obtain⟨j,hj,rfl⟩:=h
   have:=zmG hj
   rw[List.length_cons]
   omega
theorem ztZ {a0:List zQ} (h:SignOk a0) (a1:List Int) (hl:a1.length≤1099511627776):∀(m i n:Nat) (k:Nat),a1.length - i=m→0<n→n≤1+3*i→m<k →
  lp zbf k (a0,a1,(i:Int),(n:Int))=some (match sk a0 n (a1.drop i) with
   | some j=>(((i+j:Nat):Int),true)
   | none=>(0,false)):=by
 intro m
 induction m with
 | zero =>
  intro i n k hm hn hni hk
  obtain⟨k,rfl⟩:∃ k',k=k'+1:=⟨k - 1,by omega⟩
  rw[zk]
  generalize lp zbf k=rec
  unfold zbf
  simp only[decide_eq_true (show ((i:Int)≥((List.length a1:Nat):Int)) by omega),cond_true,List.drop_eq_nil_iff.2 (show a1.length≤i by omega)]
  obtain⟨n,rfl⟩:∃ n',n=n'+1:=⟨n - 1,by omega⟩
  rfl
 | succ m ih =>
  intro i n k hm hn hni hk
  obtain⟨k,rfl⟩:∃ k',k=k'+1:=⟨k - 1,by omega⟩
  have hi:i<a1.length:=by omega
  rw[zk]
  have key:=fun n' h1 h2=>ih (i+1) n' k (by omega) h1 h2 (by omega)
  generalize lp zbf k=rec at key ⊢
  unfold zbf
  obtain⟨n,rfl⟩:∃ n',n=n'+1:=⟨n - 1,by omega⟩
  simp only[decide_eq_false (show ¬((i:Int)≥((List.length a1:Nat):Int)) by omega),cond_false,zJ,List.getElem?_eq_getElem hi,Option.bind_some,zkj h,List.drop_eq_getElem_cons hi,sk]
  cases ha:zcp a0 a1[i] with
  | none=>simp [nOk]
  | some q =>
   have hq:=znP h ha
   have e1:IntKind.wrap .i64 ((q:Int) - 1)=(q:Int) - 1:=zT (by omega) (by omega)
   have e2:IntKind.wrap .i64 (((n+1:Nat):Int)+((q:Int) - 1))=((n+q:Nat):Int):=by rw[zT]<;>omega
   have e3:IntKind.wrap .i64 ((i:Int)+1)=((i+1:Nat):Int):=by rw[zT]<;>omega
   simp only[nOk,Bool.not_true,cond_false,e1,e2,e3]
   by_cases hp:0<n+q
   ·rw[decide_eq_true (show ((n+q:Nat):Int)>0 by omega),cond_true,key _ hp (by omega)]
    cases sk a0 (n+q) (a1.drop (i+1)) with
    | none=>rfl
    | some j=>simp only[Option.map_some]; rw[show i+1+j=i+(j+1) from by omega]
   ·rw[decide_eq_false (show ¬(((n+q:Nat):Int)>0) by omega),cond_false]
    have:n+q=0:=by omega
    rw[this]
    simp [sk]
theorem zgC {a0:List zQ} (h:SignOk a0) (a1:List Int) (hl:a1.length≤1099511627776) (i:Nat):zeP a0 a1 (i:Int)=some (match sk a0 1 (a1.drop i) with
   | some j=>(((i+j:Nat):Int),true)
   | none=>(0,false)):=by
 unfold zeP
 by_cases hi:i<a1.length
 ·simp only[decide_eq_false (show ¬((i:Int)≥((List.length a1:Nat):Int)) by omega),cond_false,zJ,List.getElem?_eq_getElem hi,Option.bind_some,zkj h,List.drop_eq_getElem_cons hi,sk]
  cases ha:zcp a0 a1[i] with
  | none=>simp [nOk]
  | some q =>
   have hq:=znP h ha
   have e1:IntKind.wrap .i64 ((q:Int) - 1)=(q:Int) - 1:=zT (by omega) (by omega)
   have e2:IntKind.wrap .i64 (1+((q:Int) - 1))=((q:Nat):Int):=by rw[zT]<;>omega
   have e3:IntKind.wrap .i64 ((i:Int)+1)=((i+1:Nat):Int):=by rw[zT]<;>omega
   simp only[nOk,Bool.not_true,cond_false,e1,e2,e3]
   by_cases hp:0<q
   ·rw[decide_eq_true (show (q:Int)>0 by omega),cond_true,ztZ h a1 hl (a1.length - (i+1)) (i+1) q zp rfl hp (by omega) (by unfold zp; omega),Nat.zero_add]
    cases sk a0 q (a1.drop (i+1)) with
    | none=>rfl
    | some j=>simp only[Option.map_some,Option.bind_some]; rw[show i+1+j=i+(j+1) from by omega]
   ·rw[decide_eq_false (show ¬((q:Int)>0) by omega),cond_false]
    have:q=0:=by omega
    subst this
    simp [sk]
 ·simp only[decide_eq_true (show ((i:Int)≥((List.length a1:Nat):Int)) by omega),cond_true,List.drop_eq_nil_iff.2 (show a1.length≤i by omega)]
  rfl
end
end Go.Abs.Q
namespace Go.Abs.Q
open Go Go.Abs
section
def zrz (a0:List zQ):Nat→List Int→Option jR
 | _,[]=>some []
 | 0,_::_=>none
 | n+1,x::xs=>match sk a0 1 (x::xs) with
  | none=>none
  | some k=>(zrz a0 n ((x::xs).drop k)).map ((x::xs).take k :: ·)
def zjK (a0:List zQ) (xs:List Int):Option jR:=zrz a0 xs.length xs
theorem znv {a0:List zQ}:{n m:Nat}→{xs:List Int}→xs.length≤n→n≤m→zrz a0 m xs=zrz a0 n xs
 | n,m,[],_,_=>by cases n<;>cases m<;>rfl
 | 0,_,_::_,h,_=>by simp at h
 | n+1,0,_::_,_,h=>by omega
 | n+1,m+1,x::xs,h,hm=>by
  unfold zrz
  cases hk:sk a0 1 (x::xs) with
  | none=>rfl
  | some k =>
   have:=zmG hk
   simp only
   rw[znv (n:=n) (m:=m) (by simp at h ⊢; omega) (by omega)]
theorem zkX (a0:List zQ):zjK a0 []=some []:=rfl
theorem zc9 {a0:List zQ} {xs:List Int} (h:xs≠[]):zjK a0 xs=match sk a0 1 xs with
  | none=>none
  | some k=>(zjK a0 (xs.drop k)).map (xs.take k :: ·):=by
 cases xs with
 | nil=>exact absurd rfl h
 | cons x xs =>
  show zrz a0 (xs.length+1) (x::xs)=_
  unfold zrz
  cases hk:sk a0 1 (x::xs) with
  | none=>rfl
  | some k =>
   have:=zmG hk
   simp only
   unfold zjK
   rw[znv (n:=((x::xs).drop k).length) (m:=xs.length) (Nat.le_refl _) (by simp; omega)]
theorem zw0 {a0:List zQ}:{xs:List Int}→{n k:Nat}→sk a0 n xs=some k→sk a0 n (xs.take k)=some k
 | [],0,k,h=>by simp [sk] at h; subst h; rfl
 | [],n+1,k,h=>by simp [sk] at h
 | x::xs,0,k,h=>by simp [sk] at h; subst h; rfl
 | x::xs,n+1,k,h=>by
  unfold sk at h
  cases ha:zcp a0 x with
  | none=>rw[ha] at h; cases h
  | some m =>
   rw[ha] at h
   simp only[Option.map_eq_some_iff] at h
   obtain⟨j,hj,rfl⟩:=h
   rw[List.take_succ_cons]
   unfold sk
   rw[ha]
   simp only[zw0 hj,Option.map_some]
theorem zgS {a0:List zQ}:∀(n:Nat) (xs:List Int) (ps:List jI),xs.length≤n→zjK a0 xs=some ps→ps.flatten=xs∧∀ p∈ps,p≠[]∧sk a0 1 p=some p.length:=by
 intro n
 induction n with
 | zero =>
  intro xs ps h hc
  obtain rfl:xs=[]:=List.length_eq_zero_iff.1 (by omega)
  injection hc with hc; subst hc
  exact ⟨rfl,fun p hp=>by cases hp⟩
 | succ n ih =>
  intro xs ps h hc
  by_cases hx:xs=[]
  ·subst hx
   injection hc with hc; subst hc
   exact ⟨rfl,fun p hp=>by cases hp⟩
  ·rw[zc9 hx] at hc
   cases hk:sk a0 1 xs with
   | none=>rw[hk] at hc; cases hc
   | some k =>
    rw[hk] at hc
    simp only[Option.map_eq_some_iff] at hc
    obtain⟨qs,hq,rfl⟩:=hc
    have hle:=zmG hk
    obtain⟨h1,h2⟩:=ih _ qs (by simp; omega) hq
    refine ⟨by rw[List.flatten_cons,h1,List.take_append_drop],fun p hp => ?_⟩
    rcases List.mem_cons.1 hp with rfl | hp
    ·have hl:(xs.take k).length=k:=by simp; omega
     exact ⟨fun e=>by rw[e] at hl; simp at hl; omega,by rw[hl]; exact zw0 hk⟩
    ·exact h2 p hp
def zek:Nat→List jI→List Int
 | _,[]=>[]
 | i,p::ps=>(i:Int)::zek (i+p.length) ps
theorem zgw:(i:Nat)→(ps:List jI)→(zek i ps).length=ps.length
 | _,[]=>rfl
 | i,p::ps=>by simp [zek,zgw (i+p.length) ps]
theorem zP {n b:Nat} (h:n*b≤140737488351232):yY n b=true:=by simpa[yY] using h
theorem zqF {a0:List zQ} (h:SignOk a0) (a1:List Int) (hl:a1.length≤1099511627776):∀(m i:Nat) (acc:List Int) (k:Nat),a1.length - i=m→i≤a1.length→acc.length≤i→m<k →
  lp zbA k (a0,a1,(i:Int),acc)=some (match zjK a0 (a1.drop i) with
   | some ps=>(true,acc++zek i ps)
   | none=>(false,[])):=by
 intro m
 induction m using Nat.strongRecOn with
 | _ m ih =>
  intro i acc k hm hi hacc hk
  obtain⟨k,rfl⟩:∃ k',k=k'+1:=⟨k - 1,by omega⟩
  rw[zk]
  have key:=fun j acc' (h1:i<j) h2 h3=>ih (a1.length - j) (by omega) j acc' k rfl h2 h3 (by omega)
  generalize lp zbA k=rec at key ⊢
  unfold zbA
  by_cases he:i=a1.length
  ·subst he
   simp [zkX,zek]
  ·have hlt:i<a1.length:=by omega
   have hne:a1.drop i≠[]:=by simp; omega
   simp only[show (((i:Int))==((List.length a1:Nat):Int))=false from by simp; omega,cond_false,zgC h a1 hl,Option.bind_some,zc9 hne]
   cases hs:sk a0 1 (a1.drop i) with
   | none=>rfl
   | some j =>
    have hj:=zmG hs
    rw[List.length_drop] at hj
    simp only[Bool.not_true,cond_false,List.length_singleton,zP (show (acc.length+1)*8≤140737488351232 by omega),cond_true]
    rw[key (i+j) _ (by omega) (by omega) (by simp; omega),List.drop_drop]
    cases zjK a0 (a1.drop (i+j)) with
    | none=>rfl
    | some ps =>
     simp only[Option.map_some,zek]
     rw[List.length_take,List.length_drop,Nat.min_eq_left (by omega)]
     simp
def zcb (a0:List zQ) (a1:List Int):Option jR:=cond (zdU a0&&decide (a1.length≤48)) (zjK a0 a1) none
theorem zhO (a0:List zQ) (a1:List Int):zcQ a0 a1=some (match zcb a0 a1 with
  | some ps=>(true,zek 0 ps)
  | none=>(false,[])):=by
 unfold zcQ zcb
 rw[zlS,Option.bind_some]
 cases hs:zdU a0 with
 | false=>rfl
 | true =>
  have h:=zi2 hs
  by_cases hl:a1.length≤48
  ·simp only[Bool.not_true,cond_false,decide_eq_false (show ¬(((List.length a1:Nat):Int)>48) by omega),decide_eq_true hl,Bool.and_true,cond_true]
   by_cases h0:a1=[]
   ·subst h0; rfl
   ·have hpos:0<a1.length:=List.length_pos_iff.2 h0
    simp only[show ((0:Int)==((List.length a1:Nat):Int))=false from by simp; omega,cond_false]
    have e:=zgC h a1 (by omega) 0
    rw[show ((0:Nat):Int)=0 from rfl] at e
    rw[e,Option.bind_some,List.drop_zero,zc9 h0]
    cases hk:sk a0 1 a1 with
    | none=>rfl
    | some j =>
     have hj:=zmG hk
     simp only[Bool.not_true,cond_false,Nat.zero_add,List.length_singleton,zP (show 1*8≤140737488351232 by omega),cond_true]
     rw[zqF h a1 (by omega) (a1.length - j) j [0] zp rfl (by omega) (by simp; omega) (by unfold zp; omega)]
     cases zjK a0 (a1.drop j) with
     | none=>rfl
     | some ps=>simp [zek,Nat.min_eq_left hj.1]
  ·simp only[Bool.not_true,cond_false,decide_eq_true (show (((List.length a1:Nat):Int)>48) by omega),decide_eq_false hl,Bool.and_false,cond_true]
def zf9 (a0:List zQ) (xs:List Int):Bool:=match xs with
 | []=>false
 | x::r=>decide (0≤x)&&(match a0[x.toNat]? with
  | none=>false
  | some e=>(e.2.1==0)&&(match zcb a0 r with
   | none=>false
   | some ps=>((ps.length:Nat):Int)==e.2.2.1))
theorem zc0 {α:Type} (x:α) (r:List α):zck (x::r) (some 1) none=some r:=by
 show slc (x::r) 1 ((x::r).length:Int)=some r
 unfold slc
 simp only[List.length_cons]
 rw[decide_eq_true (show (0:Int)≤1 by omega),decide_eq_true (show (1:Int)≤((r.length+1:Nat):Int) by omega),decide_eq_true (show ((r.length+1:Nat):Int)≤((r.length+1:Nat):Int) by omega)]
 simp
theorem zmX (a0:List zQ) (xs:List Int):zbK a0 xs=some (zf9 a0 xs):=by
 unfold zbK zf9
 cases xs with
 | nil=>rfl
 | cons x r =>
  simp only[show ((((x::r).length:Nat):Int)==0)=false from by simp; omega,cond_false,qK,List.getElem?_cons_zero,Option.bind_some]
  by_cases h0:x<0
  ·rw[decide_eq_true h0,decide_eq_false (show ¬(0≤x) by omega)]; rfl
  ·rw[decide_eq_false h0,decide_eq_true (show 0≤x by omega),cond_false,Bool.true_and]
   by_cases h1:x≥((List.length a0:Nat):Int)
   ·rw[decide_eq_true h1,List.getElem?_eq_none (by omega)]; rfl
   ·obtain⟨e,he1,he2,he3⟩:=zvw (xs:=a0) (i:=x) (by omega) (by omega)
    simp only[decide_eq_false h1,cond_false,he1,he3,Option.bind_some,bne]
    cases hk:(e.2.1==0) with
    | false=>rfl
    | true =>
     simp only[Bool.not_true,cond_false,zc0,Option.bind_some,zhO,Bool.true_and]
     cases zcb a0 r with
     | none=>rfl
     | some ps=>simp [zgw]
def zG (xs:List jI):Nat:=(xs.map List.length).sum
def zeD (a0:List zQ) (ls:List zt):Bool:=ls.all fun l=>zf9 a0 l.2
theorem ziZ {a0:List zQ} {xs:List Int} (h:zf9 a0 xs=true):xs.length≤49:=by
 unfold zf9 at h
 cases xs with
 | nil=>cases h
 | cons x r =>
  simp only[Bool.and_eq_true] at h
  cases he:a0[x.toNat]? with
  | none=>rw[he] at h; simp at h
  | some e =>
   rw[he] at h
   simp only[Bool.and_eq_true] at h
   cases hb:zcb a0 r with
   | none=>rw[hb] at h; simp at h
   | some ps =>
    unfold zcb at hb
    cases hl:decide (r.length≤48) with
    | false=>rw[hl,Bool.and_false] at hb; cases hb
    | true=>rw[decide_eq_true_eq] at hl; simp; omega
theorem zwF (a0:List zQ):(es:List zt)→(t:Nat)→t+49*es.length≤1099511627776→yn a0 es (t:Int)=some (cond (zeD a0 es) (.inl ((t+zG (es.map (·.2)):Nat):Int)) (.inr (0,false)))
 | [],t,_=>by simp [yn,zeD,zG]
 | e::es,t,h=>by
  unfold yn zib zeD
  rw[zmX,Option.bind_some,Option.bind_some,List.all_cons]
  cases ha:zf9 a0 e.2 with
  | false=>rfl
  | true =>
   have hl:=ziZ ha
   rw[List.length_cons] at h
   have e1:IntKind.wrap .i64 ((t:Int)+((List.length e.2:Nat):Int))=((t+e.2.length:Nat):Int):=by rw[zT]<;>omega
   rw[e1]
   have:=zwF a0 es (t+e.2.length) (by omega)
   unfold zeD at this
   simp only[Bool.not_true,cond_false,Bool.true_and,this]
   rw[show t+e.2.length+zG (es.map (·.2))=t+zG ((e::es).map (·.2)) from by simp [zG]; omega]
theorem zeU (a0:List zQ) (ls:List zt) (h:ls.length≤1000000000):zb5 a0 ls=some (cond (zeD a0 ls) (((zG (ls.map (·.2)):Nat):Int),true) (0,false)):=by
 unfold zb5
 rw[zeN _ _ _ (by unfold maxLen; omega),show ((0:Int))=((0:Nat):Int) from rfl,zwF a0 ls 0 (by omega)]
 cases zeD a0 ls with
 | false=>rfl
 | true=>simp [qL]
def zhP (a0:List zQ) (xs:List Int):Option Nat:=(zcb a0 xs).map List.length
theorem zfo (a0:List zQ) (xs:List Int):ze8 a0 xs=some (match zhP a0 xs with
  | some n=>((n:Int),0)
  | none=>(0,200)):=by
 unfold ze8 zhP
 rw[zhO,Option.bind_some]
 cases zcb a0 xs with
 | none=>rfl
 | some ps=>simp [zgw]
theorem ziE {a0:List zQ} {xs:List Int} {n:Nat} (h:zhP a0 xs=some n):xs.length≤48:=by
 unfold zhP zcb at h
 cases hl:decide (xs.length≤48) with
 | false=>rw[hl,Bool.and_false] at h; cases h
 | true=>rw[decide_eq_true_eq] at hl; exact hl
def zih (a0:List zQ) (rs:List jI):Bool:=match rs with
 | []=>true
 | r::rs=>match zhP a0 r with
  | none=>false
  | some n=>rs.all fun q=>zhP a0 q==some n
theorem zwy (a0:List zQ) (w:Nat):(es:List jI)→(i t:Nat)→t+49*es.length≤1099511627776→zW a0 es (i+1) (t:Int) (w:Int)=some (cond (es.all fun q=>zhP a0 q==some w) (.inl ((t+zG es:Nat):Int)) (.inr (0,false)))
 | [],i,t,_=>by simp [zW,zG]
 | e::es,i,t,h=>by
  unfold zW
  rw[zfo,Option.bind_some,List.all_cons]
  rw[show ((((i+1:Nat):Int))==0)=false from by simp; omega,cond_false]
  cases hr:zhP a0 e with
  | none=>rfl
  | some n =>
   have hl:=ziE hr
   rw[List.length_cons] at h
   have e1:IntKind.wrap .i64 ((t:Int)+((List.length e:Nat):Int))=((t+e.length:Nat):Int):=by rw[zT]<;>omega
   have:=zwy a0 w es (i+1) (t+e.length) (by omega)
   simp only[e1,this]
   by_cases hn:n=w
   ·subst hn
    simp [zG,Nat.add_assoc]
   ·have h1:((n:Int) != (w:Int))=true:=by simp; omega
    have h2:(some n==some w)=false:=by simpa using hn
    simp [h1,h2]
theorem zkd (a0:List zQ) (rs:List jI) (h:rs.length≤1000000000):zcY a0 rs=some (cond (zih a0 rs) (((zG rs:Nat):Int),true) (0,false)):=by
 unfold zcY
 rw[zeK _ _ _ _ (by unfold maxLen; omega)]
 cases rs with
 | nil=>rfl
 | cons r rs =>
  unfold zW zih
  rw[zfo,Option.bind_some]
  rw[show ((((0:Nat):Int))==0)=true from rfl,cond_true]
  dsimp only
  cases hr:zhP a0 r with
  | none=>rfl
  | some n =>
   have hl:=ziE hr
   rw[List.length_cons] at h
   have e1:IntKind.wrap .i64 (0+((List.length r:Nat):Int))=((r.length:Nat):Int):=by rw[zT]<;>omega
   have:=zwy a0 n rs 0 r.length (by omega)
   simp only[e1,this]
   cases hb:rs.all fun q=>zhP a0 q==some n with
   | false=>simp [qL]
   | true=>simp [qL,zG]
def zhL (a0:List zQ) (a1:List zt) (a2:List jI) (a3:List zt):Bool :=
 zdU a0&&decide (a1.length≤5)&&decide (a2.length≤3)&&decide (a3.length≤3)&&zeD a0 a1&&zih a0 a2&&zeD a0 a3&&decide (zG (a1.map (·.2))+zG a2+zG (a3.map (·.2))≤240)
theorem zjp {a0:List zQ}:(ls:List zt)→zeD a0 ls=true→zG (ls.map (·.2))≤49*ls.length
 | [],_=>by simp [zG]
 | l::ls,h=>by
  unfold zeD at h
  rw[List.all_cons,Bool.and_eq_true] at h
  have h1:=ziZ h.1
  have h2:=zjp ls h.2
  unfold zG at h2 ⊢
  simp only[List.map_cons,List.sum_cons,List.length_cons]
  omega
theorem ztf {a0:List zQ} (rs:List jI) (h:zih a0 rs=true):zG rs≤49*rs.length:=by
 cases rs with
 | nil=>simp [zG]
 | cons r rs =>
  unfold zih at h
  dsimp only at h
  cases hr:zhP a0 r with
  | none=>rw[hr] at h; cases h
  | some n =>
   rw[hr] at h
   have h1:=ziE hr
   have h2:∀ qs:List jI,(qs.all fun q=>zhP a0 q==some n)=true→zG qs≤49*qs.length:=by
    intro qs
    induction qs with
    | nil=>intro _; simp [zG]
    | cons q qs ih =>
     intro hq
     rw[List.all_cons,Bool.and_eq_true] at hq
     have h3:=ih hq.2
     have h4:=ziE (by simpa using hq.1)
     unfold zG at h3 ⊢
     simp only[List.map_cons,List.sum_cons,List.length_cons]
     omega
   have h5:=h2 rs h
   unfold zG at h5 ⊢
   simp only[List.map_cons,List.sum_cons,List.length_cons]
   omega
theorem zdu (a0:List zQ) (a1:List zt) (a2:List jI) (a3:List zt):zbz a0 a1 a2 a3=some (zhL a0 a1 a2 a3):=by
 unfold zbz zhL
 rw[zlS,Option.bind_some]
 cases zdU a0 with
 | false=>rfl
 | true =>
  by_cases h1:a1.length≤5
  ·by_cases h2:a2.length≤3
   ·by_cases h3:a3.length≤3
    ·simp only[Bool.not_true,cond_false,decide_eq_false (show ¬(((List.length a1:Nat):Int)>5) by omega),decide_eq_false (show ¬(((List.length a2:Nat):Int)>3) by omega),decide_eq_false (show ¬(((List.length a3:Nat):Int)>3) by omega),
      decide_eq_true h1,decide_eq_true h2,decide_eq_true h3,zeU a0 a1 (by omega),zkd a0 a2 (by omega),zeU a0 a3 (by omega),Option.bind_some,Bool.true_and]
     cases hb1:zeD a0 a1 with
     | false=>rfl
     | true =>
      cases hb2:zih a0 a2 with
      | false=>rfl
      | true =>
       cases hb3:zeD a0 a3 with
       | false=>rfl
       | true =>
        have s1:=zjp a1 hb1
        have s2:=ztf a2 hb2
        have s3:=zjp a3 hb3
        simp only[cond_true,Bool.true_and]
        have e1:IntKind.wrap .i64 (((zG (a1.map (·.2)):Nat):Int)+((zG a2:Nat):Int))=((zG (a1.map (·.2))+zG a2:Nat):Int):=by rw[zT]<;>omega
        have e2:IntKind.wrap .i64 (((zG (a1.map (·.2))+zG a2:Nat):Int)+((zG (a3.map (·.2)):Nat):Int))=((zG (a1.map (·.2))+zG a2+zG (a3.map (·.2)):Nat):Int):=by rw[zT]<;>omega
        simp only[e1,e2,Option.some.injEq,decide_eq_decide]
        omega
    ·simp only[Bool.not_true,cond_false,decide_eq_false (show ¬(((List.length a1:Nat):Int)>5) by omega),decide_eq_false (show ¬(((List.length a2:Nat):Int)>3) by omega),decide_eq_true (show (((List.length a3:Nat):Int)>3) by omega),decide_eq_false h3,cond_true,Bool.and_false,Bool.false_and]
   ·simp only[Bool.not_true,cond_false,decide_eq_false (show ¬(((List.length a1:Nat):Int)>5) by omega),decide_eq_true (show (((List.length a2:Nat):Int)>3) by omega),decide_eq_false h2,cond_true,Bool.and_false,Bool.false_and]
  ·simp only[Bool.not_true,cond_false,decide_eq_true (show (((List.length a1:Nat):Int)>5) by omega),decide_eq_false h1,cond_true,Bool.and_false,Bool.false_and]
end
end Go.Abs.Q
namespace Go.Abs.Q
open Go Go.Abs
section
theorem zFq {a0:List zQ}:{xs:List Int}→{n m k:Nat}→sk a0 (n+m) xs=some k→∃ j,sk a0 n xs=some j∧j≤k∧sk a0 m (xs.drop j)=some (k - j)
 | xs,0,m,k,h=>⟨0,by cases xs<;>rfl,Nat.zero_le _,by simpa using h⟩
 | [],n+1,m,k,h=>by rw[show n+1+m=n+m+1 from by omega] at h; simp [sk] at h
 | x::xs,n+1,m,k,h=>by
  rw[show n+1+m=n+m+1 from by omega] at h
  unfold sk at h
  cases ha:zcp a0 x with
  | none=>rw[ha] at h; cases h
  | some q =>
   rw[ha] at h
   simp only[Option.map_eq_some_iff] at h
   obtain⟨j,hj,rfl⟩:=h
   rw[show n+m+q=(n+q)+m from by omega] at hj
   obtain⟨i,h1,h2,h3⟩:=zFq hj
   refine ⟨i+1,?_,by omega,?_⟩
   ·unfold sk; rw[ha]; simp only[h1,Option.map_some]
   ·rw[List.drop_succ_cons,h3]; congr 1; omega
theorem zIh {a0:List zQ}:∀(n:Nat) (xs:List Int),sk a0 n xs=some xs.length→∃ ps,zjK a0 xs=some ps∧ps.length=n:=by
 intro n
 induction n with
 | zero =>
  intro xs h
  have:xs.length=0:=by cases xs<;>simp [sk] at h ⊢
  obtain rfl:=List.length_eq_zero_iff.1 this
  exact ⟨[],rfl,rfl⟩
 | succ n ih =>
  intro xs h
  rw[Nat.add_comm] at h
  obtain⟨j,h1,h2,h3⟩:=zFq h
  have hj:=zmG h1
  have hne:xs≠[]:=fun e=>by subst e; simp at hj; omega
  obtain⟨ps,h4,h5⟩:=ih (xs.drop j) (by rw[h3,List.length_drop])
  refine ⟨xs.take j::ps,?_,by simp [h5]⟩
  rw[zc9 hne,h1]
  dsimp only
  rw[h4]; rfl
theorem zr5 {a0:List zQ} {p:List Int} (h:sk a0 1 p=some p.length):∃ x r q,p=x::r∧zcp a0 x=some q∧sk a0 q r=some r.length:=by
 cases p with
 | nil=>simp [sk] at h
 | cons x r =>
  unfold sk at h
  cases ha:zcp a0 x with
  | none=>rw[ha] at h; cases h
  | some q =>
   rw[ha] at h
   simp only[Option.map_eq_some_iff,Nat.zero_add] at h
   obtain⟨j,hj,he⟩:=h
   rw[List.length_cons] at he
   exact ⟨x,r,q,rfl,ha,by rw[hj]; congr 1; omega⟩
theorem zq5 {a0:List zQ} (h:SignOk a0) (a1:List Int) (hl:a1.length≤1099511627776):∀(m i:Nat) (acc ps:List jI) (k:Nat),a1.length - i=m→i≤a1.length→acc.length≤i→zjK a0 (a1.drop i)=some ps→m<k →
  lp zbx k (a0,a1,(i:Int),acc)=some (.inl (acc++ps)):=by
 intro m
 induction m using Nat.strongRecOn with
 | _ m ih =>
  intro i acc ps k hm hi hacc hc hk
  obtain⟨k,rfl⟩:∃ k',k=k'+1:=⟨k - 1,by omega⟩
  rw[zk]
  have key:=fun j acc' ps' (h1:i<j) h2 h3 h4=>ih (a1.length - j) (by omega) j acc' ps' k rfl h2 h3 h4 (by omega)
  generalize lp zbx k=rec at key ⊢
  unfold zbx
  by_cases he:i=a1.length
  ·subst he
   rw[List.drop_length,zkX] at hc
   injection hc with hc; subst hc
   simp
  ·have hlt:i<a1.length:=by omega
   have hne:a1.drop i≠[]:=by simp; omega
   rw[zc9 hne] at hc
   simp only[decide_eq_true (show (i:Int)<((List.length a1:Nat):Int) by omega),cond_true,zgC h a1 hl,Option.bind_some]
   cases hs:sk a0 1 (a1.drop i) with
   | none=>rw[hs] at hc; cases hc
   | some j =>
    rw[hs] at hc
    simp only[Option.map_eq_some_iff] at hc
    obtain⟨qs,hq,rfl⟩:=hc
    have hj:=zmG hs
    rw[List.length_drop] at hj
    have e1:zck a1 (some (i:Int)) (some ((i+j:Nat):Int))=some ((a1.drop i).take j):=by
     show slc a1 _ _=_
     unfold slc
     rw[decide_eq_true (show (0:Int)≤(i:Int) by omega),decide_eq_true (show (i:Int)≤((i+j:Nat):Int) by omega),decide_eq_true (show ((i+j:Nat):Int)≤((a1.length:Nat):Int) by omega)]
     simp only[cond_true,Int.toNat_natCast,Option.some.injEq]
     rw[List.drop_take]; congr 1; omega
    simp only[Bool.not_true,cond_false,e1,Option.bind_some,List.length_singleton,zP (show (acc.length+1)*24≤140737488351232 by omega),cond_true]
    rw[List.drop_drop] at hq
    rw[key (i+j) _ qs (by omega) (by omega) (by simp; omega) hq]
    simp
theorem zhI {a0:List zQ} (h:SignOk a0) {a1:List Int} (hl:a1.length≤1099511627776) {ps:List jI} (hc:zjK a0 a1=some ps):zbG a0 a1=some ps:=by
 unfold zbG
 have:=zq5 h a1 hl a1.length 0 [] ps zp rfl (Nat.zero_le _) (Nat.zero_le _) hc (by unfold zp; omega)
 rw[show ((0:Nat):Int)=0 from rfl] at this
 rw[this]
 rfl
theorem zkS {a0:List zQ} {xs:List Int} {ps:List jI} (h:zjK a0 xs=some ps):ps.length≤xs.length:=by
 obtain⟨h1,h2⟩:=zgS xs.length xs ps (Nat.le_refl _) h
 have h3:∀ qs:List jI,(∀ p∈qs,p≠[])→qs.length≤qs.flatten.length:=by
  intro qs
  induction qs with
  | nil=>intro _; simp
  | cons q qs ih =>
   intro hq
   have:=ih fun p hp=>hq p (by simp [hp])
   have h4:=List.length_pos_iff.2 (hq q (by simp))
   simp only[List.flatten_cons,List.length_append,List.length_cons]
   omega
 have:=h3 ps fun p hp=>(h2 p hp).1
 rw[h1] at this
 exact this
def ztd (a0:List zQ) (x:Int):Str:=match a0[x.toNat]? with
 | some e=>e.1
 | none=>[]
theorem zq0 {a0:List zQ} {x:Int} {q:Nat} (h:zcp a0 x=some q) (hx:x<0) : -24≤x∧q=0:=by
 unfold zcp at h
 rw[decide_eq_true hx,cond_true] at h
 cases hd:decide (-24≤x) with
 | false=>rw[hd] at h; cases h
 | true=>rw[hd] at h; injection h with h; exact ⟨of_decide_eq_true hd,h.symm⟩
theorem zpQ {a0:List zQ} {x:Int} {q:Nat} (h:zcp a0 x=some q) (hx:¬ x<0):∃ e,gx a0 x=some e∧a0[x.toNat]? = some e∧e.2.1≠0∧q=e.2.2.1.toNat:=by
 unfold zcp at h
 rw[decide_eq_false hx,cond_false] at h
 cases he:a0[x.toNat]? with
 | none=>rw[he] at h; cases h
 | some e =>
  rw[he] at h
  have hg:gx a0 x=some e:=by
   unfold gx
   rw[decide_eq_true (show 0≤x by omega),cond_true,he]
  dsimp only at h
  cases hz:(e.2.1==0) with
  | true=>rw[hz] at h; cases h
  | false=>rw[hz] at h; injection h with h; exact ⟨e,hg,rfl,by simpa using hz,h.symm⟩
end
end Go.Abs.Q
namespace Go.Abs.Q
open Go Go.Abs
section
theorem zhj {a0:List zQ} {xs:List Int} (h:zf9 a0 xs=true):∃ x r e ps,xs=x::r∧0≤x∧a0[x.toNat]? = some e∧gx a0 x=some e∧e.2.1=0∧zdU a0=true∧r.length≤48∧zjK a0 r=some ps∧((ps.length:Nat):Int)=e.2.2.1:=by
 unfold zf9 at h
 cases xs with
 | nil=>cases h
 | cons x r =>
  simp only[Bool.and_eq_true,decide_eq_true_eq] at h
  obtain⟨h0,h⟩:=h
  cases he:a0[x.toNat]? with
  | none=>rw[he] at h; cases h
  | some e =>
   rw[he] at h
   simp only[Bool.and_eq_true] at h
   obtain⟨h1,h⟩:=h
   cases hb:zcb a0 r with
   | none=>rw[hb] at h; cases h
   | some ps =>
    rw[hb] at h
    unfold zcb at hb
    cases hs:zdU a0 with
    | false=>rw[hs] at hb; cases hb
    | true =>
     cases hl:decide (r.length≤48) with
     | false=>rw[hs,hl] at hb; cases hb
     | true =>
      rw[hs,hl] at hb
      refine ⟨x,r,e,ps,rfl,h0,he,?_,by simpa using h1,rfl,of_decide_eq_true hl,hb,by simpa using h⟩
      unfold gx
      rw[decide_eq_true h0,cond_true,he]
theorem zpF {a0:List zQ} {r:List Int} {n:Nat} (h:zhP a0 r=some n):∃ ps,zjK a0 r=some ps∧ps.length=n∧r.length≤48∧zdU a0=true:=by
 have hl:=ziE h
 unfold zhP zcb at h
 cases hs:zdU a0 with
 | false=>rw[hs] at h; cases h
 | true =>
  rw[hs,decide_eq_true hl] at h
  simp only[Bool.and_true,cond_true,Option.map_eq_some_iff] at h
  obtain⟨ps,h1,h2⟩:=h
  exact ⟨ps,h1,h2,hl,rfl⟩
theorem zqV {a0:List zQ} {rs:List jI} (h:zih a0 rs=true):∃ n,∀ r∈rs,zhP a0 r=some n:=by
 cases rs with
 | nil=>exact ⟨0,fun r hr=>by cases hr⟩
 | cons r rs =>
  unfold zih at h
  dsimp only at h
  cases hr:zhP a0 r with
  | none=>rw[hr] at h; cases h
  | some n =>
   rw[hr] at h
   refine ⟨n,fun q hq => ?_⟩
   rcases List.mem_cons.1 hq with rfl | hq
   ·exact hr
   ·simpa using List.all_eq_true.1 h q hq
theorem zaF {a0:List zQ} {a1:List zt} {a2:List jI} {a3:List zt} (h:zhL a0 a1 a2 a3=true):zdU a0=true∧a1.length≤5∧a2.length≤3∧a3.length≤3∧zeD a0 a1=true∧zih a0 a2=true∧zeD a0 a3=true∧zG (a1.map (·.2))+zG a2+zG (a3.map (·.2))≤240:=by
 unfold zhL at h
 simp only[Bool.and_eq_true,decide_eq_true_eq] at h
 exact ⟨h.1.1.1.1.1.1.1,h.1.1.1.1.1.1.2,h.1.1.1.1.1.2,h.1.1.1.1.2,h.1.1.1.2,h.1.1.2,h.1.2,h.2⟩
end
end Go.Abs.Q
namespace Go.Abs.Q
open Go Go.Abs
section
end
end Go.Abs.Q
namespace Go.Abs.Q
open Go Go.Abs
section
theorem zKK {α:Type} (s:List α) {i j:Nat} (hij:i≤j) (h:j≤s.length):zck s (some (i:Int)) (some (j:Int))=some ((s.drop i).take (j - i)):=by
 show slc s _ _=_
 unfold slc
 rw[decide_eq_true (show (0:Int)≤(i:Int) by omega),decide_eq_true (show (i:Int)≤(j:Int) by omega),decide_eq_true (show (j:Int)≤((s.length:Nat):Int) by omega)]
 simp only[cond_true,Int.toNat_natCast,Option.some.injEq]
 rw[List.drop_take]
end
end Go.Abs.Q
namespace Go.Abs.Q
open Go Go.Abs
def zbg (a0:jI):Option jI :=
 cond (yY (List.length ([]:List Int)+List.length a0) 8)
 (some (([]:List Int)++a0))
 (none)
def yV (rec:(jQ×Int×jQ)→Option jQ) (x:(jQ×Int×jQ)):Option jQ :=
 cond (decide (x.2.1<((List.length x.1:Nat):Int)))
 ((gx x.1 x.2.1).bind fun e7 =>
  (gx x.1 x.2.1).bind fun e8 =>
  (zbg e8.2).bind fun r9 =>
  cond (yY (List.length x.2.2+List.length ([(e7.1,r9)]:List zt)) 32)
  (rec (x.1,(IntKind.wrap .i64 (x.2.1+1)),(x.2.2++([(e7.1,r9)]:List zt))))
  (none))
 (some x.2.2)
def zcw (a0:jQ):Option jQ :=
 ((lp yV zp) (a0,0,([]:jQ))).bind fun r11 =>
 some r11
def yW (rec:(jR×Int×jR)→Option jR) (x:(jR×Int×jR)):Option jR :=
 cond (decide (x.2.1<((List.length x.1:Nat):Int)))
 ((gx x.1 x.2.1).bind fun e5 =>
  (zbg e5).bind fun r6 =>
  cond (yY (List.length x.2.2+List.length ([r6]:List jI)) 24)
  (rec (x.1,(IntKind.wrap .i64 (x.2.1+1)),(x.2.2++([r6]:List jI))))
  (none))
 (some x.2.2)
def zdA (a0:jR):Option jR :=
 ((lp yW zp) (a0,0,([]:jR))).bind fun r8 =>
 some r8
def zad (a0:jQ) (a1:jR) (a2:jQ):Option (jQ×jR×jQ) :=
 (zcw a0).bind fun r4 =>
 (zdA a1).bind fun r5 =>
 (zcw a2).bind fun r6 =>
 some (r4,r5,r6)
def ze1 (a0:Int):Option Bool :=
 cond (decide (a0≥97))
 (some (decide (a0≤122)))
 (some false)
def q3 (rec:(Int×Str×Int×Int×Int)→Option (Unit⊕Bool)) (x:(Int×Str×Int×Int×Int)):Option (Unit⊕Bool) :=
 cond (decide (x.1<((List.length x.2.1:Nat):Int)))
 ((gx x.2.1 x.1).bind fun c7 =>
  (ze1 ((UInt8.toNat c7:Nat):Int)).bind fun r8 =>
  cond (!r8)
  ((gx x.2.1 x.1).bind fun c9 =>
   cond (decide (((UInt8.toNat c9:Nat):Int)<48))
   (some (Sum.inr false))
   ((gx x.2.1 x.1).bind fun c10 =>
    cond (decide (((UInt8.toNat c10:Nat):Int)>57))
    (some (Sum.inr false))
    (rec ((IntKind.wrap .i64 (x.1+1)),x.2.1,x.2.2.1,x.2.2.2.1,x.2.2.2.2))))
  (rec ((IntKind.wrap .i64 (x.1+1)),x.2.1,x.2.2.1,x.2.2.2.1,x.2.2.2.2)))
 (some (Sum.inl ()))
def zd5 (a0:Str) (a1:Int) (a2:Int) (a3:Int):Option Bool :=
 cond (decide (((List.length a0:Nat):Int)<1))
 (some false)
 (cond (decide (((List.length a0:Nat):Int)>8))
  (some false)
  ((gx a0 0).bind fun c14 =>
   (ze1 ((UInt8.toNat c14:Nat):Int)).bind fun r15 =>
   cond (!r15)
   (some false)
   (((lp q3 zp) (0,a0,a1,a2,a3)).bind fun r16 =>
    qL r16
    (fun z17=>cond (decide (a1≥0))
     (cond (decide (a1≤2))
      (cond (decide (a2≥0))
       (cond (decide (a2≤3))
        (cond (decide (a3≥1))
         (some (decide (a3≤20)))
         (some false))
        (some false))
       (some false))
      (some false))
     (some false))
    (fun z18=>some z18))))
def zaO (rec:(jS×Str×Int)→Option (Unit⊕Int)) (x:(jS×Str×Int)):Option (Unit⊕Int) :=
 cond (decide (x.2.2<((List.length x.1:Nat):Int)))
 ((gx x.1 x.2.2).bind fun e2 =>
  cond (e2.1==x.2.1)
  (some (Sum.inr x.2.2))
  (rec (x.1,x.2.1,(IntKind.wrap .i64 (x.2.2+1)))))
 (some (Sum.inl ()))
def zgB (a0:jS) (a1:Str):Option Int :=
 ((lp zaO zp) (a0,a1,0)).bind fun r6 =>
 qL r6
 (fun z7=>some (-1))
 (fun z8=>some z8)
def zah (rec:(jS×Int)→Option (Unit⊕Bool)) (x:(jS×Int)):Option (Unit⊕Bool) :=
 cond (decide (x.2<((List.length x.1:Nat):Int)))
 ((gx x.1 x.2).bind fun e6 =>
  (zd5 e6.1 e6.2.1 e6.2.2.1 e6.2.2.2).bind fun r7 =>
  cond (!r7)
  (some (Sum.inr false))
  ((gx x.1 x.2).bind fun e8 =>
   (zgB x.1 e8.1).bind fun r9 =>
   cond (r9 != x.2)
   (some (Sum.inr false))
   (rec (x.1,(IntKind.wrap .i64 (x.2+1))))))
 (some (Sum.inl ()))
def zdh (a0:jS):Option Bool :=
 cond (decide (((List.length a0:Nat):Int)<1))
 (some false)
 (cond (decide (((List.length a0:Nat):Int)>20))
  (some false)
  ((gx a0 0).bind fun e13 =>
   cond (!(cond (eqS e13.1 ([61]:Str)) (cond (eqI e13.2.1 0) (cond (eqI e13.2.2.1 2) (cond (eqI e13.2.2.2 1) true false) false) false) false))
   (some false)
   (((lp zah zp) (a0,1)).bind fun r14 =>
    qL r14
    (fun z15=>some true)
    (fun z16=>some z16))))
def zbN (rec:(jS×jI×Int×Int)→Option (Int⊕Int)) (x:(jS×jI×Int×Int)):Option (Int⊕Int) :=
 cond (decide (x.2.2.1>0))
 (cond (decide (x.2.2.2≥((List.length x.2.1:Nat):Int)))
  (some (Sum.inr (-1)))
  ((gx x.2.1 x.2.2.2).bind fun e8 =>
   cond (decide (e8<(-24)))
   (some (Sum.inr (-1)))
   ((gx x.2.1 x.2.2.2).bind fun e9 =>
    cond (decide (e9≥((List.length x.1:Nat):Int)))
    (some (Sum.inr (-1)))
    ((gx x.2.1 x.2.2.2).bind fun e10 =>
     cond (decide (e10≥0))
     ((gx x.2.1 x.2.2.2).bind fun e11 =>
      (gx x.1 e11).bind fun e12 =>
      cond (e12.2.1==0)
      (some (Sum.inr (-1)))
      ((gx x.2.1 x.2.2.2).bind fun e13 =>
       (gx x.1 e13).bind fun e14 =>
       rec (x.1,x.2.1,(IntKind.wrap .i64 ((IntKind.wrap .i64 (x.2.2.1 - 1))+e14.2.2.1)),(IntKind.wrap .i64 (x.2.2.2+1)))))
     (rec (x.1,x.2.1,(IntKind.wrap .i64 (x.2.2.1 - 1)),(IntKind.wrap .i64 (x.2.2.2+1))))))))
 (some (Sum.inl x.2.2.2))
def zkR (a0:jS) (a1:jI) (a2:Int):Option Int :=
 ((lp zbN zp) (a0,a1,1,a2)).bind fun r18 =>
 qL r18
 (fun z19=>some z19)
 (fun z20=>some z20)
def zb3 (rec:(jS×jI×Int×Int)→Option (Int⊕Int)) (x:(jS×jI×Int×Int)):Option (Int⊕Int) :=
 cond (decide (x.2.2.2<((List.length x.2.1:Nat):Int)))
 ((zkR x.1 x.2.1 x.2.2.2).bind fun r2 =>
  cond (decide (r2<0))
  (some (Sum.inr (-1)))
  (rec (x.1,x.2.1,(IntKind.wrap .i64 (x.2.2.1+1)),r2)))
 (some (Sum.inl x.2.2.1))
def zci (a0:jS) (a1:jI):Option Int :=
 cond (decide (((List.length a1:Nat):Int)>48))
 (some (-1))
 (((lp zb3 zp) (a0,a1,0,0)).bind fun r6 =>
  qL r6
  (fun z7=>some z7)
  (fun z8=>some z8))
def zfq (a0:jS) (a1:jI):Option Bool :=
 cond (decide (((List.length a1:Nat):Int)>0))
 ((gx a1 0).bind fun e9 =>
  cond (decide (e9≥0))
  ((gx a1 0).bind fun e10 =>
   cond (decide (e10<((List.length a0:Nat):Int)))
   ((gx a1 0).bind fun e11 =>
    (gx a0 e11).bind fun e12 =>
    cond (e12.2.1==0)
    ((zck a1 (some 1) none).bind fun y13 =>
     (zci a0 y13).bind fun r14 =>
     (gx a1 0).bind fun e15 =>
     (gx a0 e15).bind fun e16 =>
     some (r14==e16.2.2.1))
    (some false))
   (some false))
  (some false))
 (some false)
def zca (a0:jS) (a1:Bool) (a2:jI):Option Bool :=
 (zdh a0).bind fun r3 =>
 cond r3
 ((zfq a0 a2).bind fun r4 =>
  some r4)
 (some false)
def zaY (rec:(Int×jQ×jR×jQ×jR)→Option jR) (x:(Int×jQ×jR×jQ×jR)):Option jR :=
 cond (decide (x.1<((List.length x.2.2.2.1:Nat):Int)))
 ((gx x.2.2.2.1 x.1).bind fun e9 =>
  cond (yY (List.length x.2.2.2.2+List.length ([e9.2]:List jI)) 24)
  (rec ((IntKind.wrap .i64 (x.1+1)),x.2.1,x.2.2.1,x.2.2.2.1,(x.2.2.2.2++([e9.2]:List jI))))
  (none))
 (some x.2.2.2.2)
def zaX (rec:(Int×jQ×jR×jQ×jR)→Option jR) (x:(Int×jQ×jR×jQ×jR)):Option jR :=
 cond (decide (x.1<((List.length x.2.2.1:Nat):Int)))
 ((gx x.2.2.1 x.1).bind fun e6 =>
  cond (yY (List.length x.2.2.2.2+List.length ([e6]:List jI)) 24)
  (rec ((IntKind.wrap .i64 (x.1+1)),x.2.1,x.2.2.1,x.2.2.2.1,(x.2.2.2.2++([e6]:List jI))))
  (none))
 (some x.2.2.2.2)
def zaU (rec:(Int×jQ×jR×jQ×jR)→Option jR) (x:(Int×jQ×jR×jQ×jR)):Option jR :=
 cond (decide (x.1<((List.length x.2.1:Nat):Int)))
 ((gx x.2.1 x.1).bind fun e3 =>
  cond (yY (List.length x.2.2.2.2+List.length ([e3.2]:List jI)) 24)
  (rec ((IntKind.wrap .i64 (x.1+1)),x.2.1,x.2.2.1,x.2.2.2.1,(x.2.2.2.2++([e3.2]:List jI))))
  (none))
 (some x.2.2.2.2)
def zeO (a0:jQ) (a1:jR) (a2:jQ):Option jR :=
 ((lp zaU zp) (0,a0,a1,a2,([]:jR))).bind fun r11 =>
 ((lp zaX zp) (0,a0,a1,a2,r11)).bind fun r12 =>
 ((lp zaY zp) (0,a0,a1,a2,r12)).bind fun r13 =>
 some r13
def zbj (rec:(jR×Int×Int)→Option Int) (x:(jR×Int×Int)):Option Int :=
 cond (decide (x.2.2<((List.length x.1:Nat):Int)))
 ((gx x.1 x.2.2).bind fun e26 =>
  rec (x.1,(IntKind.wrap .i64 (x.2.1+((List.length e26:Nat):Int))),(IntKind.wrap .i64 (x.2.2+1))))
 (some x.2.1)
def zbo (rec:(jS×Int×jQ×jR×jQ)→Option (Unit⊕Bool)) (x:(jS×Int×jQ×jR×jQ)):Option (Unit⊕Bool) :=
 cond (decide (x.2.1<((List.length x.2.2.2.1:Nat):Int)))
 ((gx x.2.2.2.1 x.2.1).bind fun e18 =>
  (zci x.1 e18).bind fun r19 =>
  cond (decide (r19<0))
  (some (Sum.inr false))
  ((gx x.2.2.2.1 0).bind fun e20 =>
   (zci x.1 e20).bind fun r21 =>
   cond (r19 != r21)
   (some (Sum.inr false))
   (rec (x.1,(IntKind.wrap .i64 (x.2.1+1)),x.2.2.1,x.2.2.2.1,x.2.2.2.2))))
 (some (Sum.inl ()))
def zbl (rec:(jS×Int×jQ×jR×jQ)→Option (Unit⊕Bool)) (x:(jS×Int×jQ×jR×jQ)):Option (Unit⊕Bool) :=
 cond (decide (x.2.1<((List.length x.2.2.2.2:Nat):Int)))
 ((gx x.2.2.2.2 x.2.1).bind fun e10 =>
  (zca x.1 e10.1 e10.2).bind fun r11 =>
  cond (!r11)
  (some (Sum.inr false))
  (rec (x.1,(IntKind.wrap .i64 (x.2.1+1)),x.2.2.1,x.2.2.2.1,x.2.2.2.2)))
 (some (Sum.inl ()))
def zbk (rec:(jS×Int×jQ×jR×jQ)→Option (Unit⊕Bool)) (x:(jS×Int×jQ×jR×jQ)):Option (Unit⊕Bool) :=
 cond (decide (x.2.1<((List.length x.2.2.1:Nat):Int)))
 ((gx x.2.2.1 x.2.1).bind fun e4 =>
  (zca x.1 e4.1 e4.2).bind fun r5 =>
  cond (!r5)
  (some (Sum.inr false))
  (rec (x.1,(IntKind.wrap .i64 (x.2.1+1)),x.2.2.1,x.2.2.2.1,x.2.2.2.2)))
 (some (Sum.inl ()))
def zhn (a0:jS) (a1:jQ) (a2:jR) (a3:jQ):Option Bool :=
 (zdh a0).bind fun r31 =>
 cond (!r31)
 (some false)
 (cond (decide (((List.length a1:Nat):Int)>5))
  (some false)
  (cond (decide (((List.length a3:Nat):Int)>3))
   (some false)
   (cond (decide (((List.length a2:Nat):Int)>3))
    (some false)
    (((lp zbk zp) (a0,0,a1,a2,a3)).bind fun r32 =>
     qL r32
     (fun z33=>((lp zbl zp) (a0,0,a1,a2,a3)).bind fun r34 =>
      qL r34
      (fun z35=>((lp zbo zp) (a0,0,a1,a2,a3)).bind fun r36 =>
       qL r36
       (fun z37=>(zeO a1 a2 a3).bind fun r38 =>
        ((lp zbj zp) (r38,0,0)).bind fun r39 =>
        some (decide (r39≤240)))
       (fun z40=>some z40))
      (fun z41=>some z41))
     (fun z42=>some z42)))))
def zau (rec:(jS×jI×Int×Int)→Option Int) (x:(jS×jI×Int×Int)):Option Int :=
 cond (decide (x.2.2.1>0))
 ((gx x.2.1 x.2.2.2).bind fun e4 =>
  cond (decide (e4≥0))
  ((gx x.2.1 x.2.2.2).bind fun e5 =>
   (gx x.1 e5).bind fun e6 =>
   rec (x.1,x.2.1,(IntKind.wrap .i64 ((IntKind.wrap .i64 (x.2.2.1 - 1))+e6.2.2.1)),(IntKind.wrap .i64 (x.2.2.2+1))))
  (rec (x.1,x.2.1,(IntKind.wrap .i64 (x.2.2.1 - 1)),(IntKind.wrap .i64 (x.2.2.2+1)))))
 (some x.2.2.2)
def zfA (a0:jS) (a1:jI) (a2:Int):Option Int :=
 ((lp zau zp) (a0,a1,1,a2)).bind fun r8 =>
 some r8
def zbT (rec:(jS×jI×Int×jR)→Option jR) (x:(jS×jI×Int×jR)):Option jR :=
 cond (decide (x.2.2.1<((List.length x.2.1:Nat):Int)))
 ((zfA x.1 x.2.1 x.2.2.1).bind fun r5 =>
  (zck x.2.1 (some x.2.2.1) (some r5)).bind fun y6 =>
  cond (yY (List.length x.2.2.2+List.length ([y6]:List jI)) 24)
  (rec (x.1,x.2.1,r5,(x.2.2.2++([y6]:List jI))))
  (none))
 (some x.2.2.2)
def qo (a0:jS) (a1:jI):Option jR :=
 ((lp zbT zp) (a0,a1,0,([]:jR))).bind fun r8 =>
 some r8
end Go.Abs.Q
namespace Go.Abs.Q
open Go Go.Abs
def yB:List zt→jQ→Option jQ
 | [],s2=>some s2
 | e::es,s2 =>
  (zbg e.2).bind fun r9 =>
  cond (yY (List.length s2+List.length ([(e.1,r9)]:List zt)) 32)
  (yB es (s2++([(e.1,r9)]:List zt)))
  (none)
theorem zf7 (s0:jQ) (hl:List.length s0≤maxLen):∀(es:List zt) (i:Nat) (k:Nat) (s2:jQ),s0.drop i=es→es.length<k→lp yV k (s0,(i:Int),s2)=yB es s2:=by
 intro es
 induction es with
 | nil =>
  intro i k s2 h hk
  obtain⟨k,rfl⟩:∃ k',k=k'+1:=⟨k - 1,by omega⟩
  rw[zk]
  generalize lp yV k=rec
  unfold yV yB
  simp only[zu (zm h),cond_false]
 | cons e es ih =>
  intro i k s2 h hk
  obtain⟨k,rfl⟩:∃ k',k=k'+1:=⟨k - 1,by omega⟩
  rw[zk]
  have hi:=zl h
  have hk2:es.length<k:=Nat.lt_of_succ_lt_succ hk
  have key:=fun s2=>ih (i+1) k s2 (zh h) hk2
  generalize lp yV k=rec at key ⊢
  unfold yV yB
  simp only[zE hi,cond_true,zJ,zj h,Option.bind_some,zF hi hl,key]
theorem zfk (s0:jQ) (s2:jQ) (hl:List.length s0≤maxLen):lp yV zp (s0,0,s2)=yB s0 s2 :=
 zf7 s0 hl s0 0 zp s2 rfl (Nat.lt_of_le_of_lt hl (by decide))
def yF:List jI→jR→Option jR
 | [],s2=>some s2
 | e::es,s2 =>
  (zbg e).bind fun r6 =>
  cond (yY (List.length s2+List.length ([r6]:List jI)) 24)
  (yF es (s2++([r6]:List jI)))
  (none)
theorem zfX (s0:jR) (hl:List.length s0≤maxLen):∀(es:List jI) (i:Nat) (k:Nat) (s2:jR),s0.drop i=es→es.length<k→lp yW k (s0,(i:Int),s2)=yF es s2:=by
 intro es
 induction es with
 | nil =>
  intro i k s2 h hk
  obtain⟨k,rfl⟩:∃ k',k=k'+1:=⟨k - 1,by omega⟩
  rw[zk]
  generalize lp yW k=rec
  unfold yW yF
  simp only[zu (zm h),cond_false]
 | cons e es ih =>
  intro i k s2 h hk
  obtain⟨k,rfl⟩:∃ k',k=k'+1:=⟨k - 1,by omega⟩
  rw[zk]
  have hi:=zl h
  have hk2:es.length<k:=Nat.lt_of_succ_lt_succ hk
  have key:=fun s2=>ih (i+1) k s2 (zh h) hk2
  generalize lp yW k=rec at key ⊢
  unfold yW yF
  simp only[zE hi,cond_true,zJ,zj h,Option.bind_some,zF hi hl,key]
theorem zfE (s0:jR) (s2:jR) (hl:List.length s0≤maxLen):lp yW zp (s0,0,s2)=yF s0 s2 :=
 zfX s0 hl s0 0 zp s2 rfl (Nat.lt_of_le_of_lt hl (by decide))
def yO:List UInt8→Option (Unit⊕Bool)
 | []=>some (Sum.inl ())
 | e::es =>
  (ze1 ((UInt8.toNat e:Nat):Int)).bind fun r8 =>
  cond (!r8)
  (cond (decide (((UInt8.toNat e:Nat):Int)<48))
   (some (Sum.inr false))
   (cond (decide (((UInt8.toNat e:Nat):Int)>57))
    (some (Sum.inr false))
    (yO es)))
  (yO es)
theorem zhs (s1:Str) (s2:Int) (s3:Int) (s4:Int) (hl:List.length s1≤maxLen):∀(es:List UInt8) (i:Nat) (k:Nat),s1.drop i=es→es.length<k→lp q3 k ((i:Int),s1,s2,s3,s4)=yO es:=by
 intro es
 induction es with
 | nil =>
  intro i k h hk
  obtain⟨k,rfl⟩:∃ k',k=k'+1:=⟨k - 1,by omega⟩
  rw[zk]
  generalize lp q3 k=rec
  unfold q3 yO
  simp only[zu (zm h),cond_false]
 | cons e es ih =>
  intro i k h hk
  obtain⟨k,rfl⟩:∃ k',k=k'+1:=⟨k - 1,by omega⟩
  rw[zk]
  have hi:=zl h
  have hk2:es.length<k:=Nat.lt_of_succ_lt_succ hk
  have key:=fun (_:Unit)=>ih (i+1) k (zh h) hk2
  generalize lp q3 k=rec at key ⊢
  unfold q3 yO
  simp only[zE hi,cond_true,zJ,zj h,Option.bind_some,zF hi hl,key ()]
theorem zgl (s1:Str) (s2:Int) (s3:Int) (s4:Int) (hl:List.length s1≤maxLen):lp q3 zp (0,s1,s2,s3,s4)=yO s1 :=
 zhs s1 s2 s3 s4 hl s1 0 zp rfl (Nat.lt_of_le_of_lt hl (by decide))
def zaB (s1:Str):List zQ→Nat→Option (Unit⊕Int)
 | [],i=>some (Sum.inl ())
 | e::es,i =>
  cond (e.1==s1)
  (some (Sum.inr (i:Int)))
  (zaB s1 es (i+1))
theorem zjs (s0:jS) (s1:Str) (hl:List.length s0≤maxLen):∀(es:List zQ) (i:Nat) (k:Nat),s0.drop i=es→es.length<k→lp zaO k (s0,s1,(i:Int))=zaB s1 es i:=by
 intro es
 induction es with
 | nil =>
  intro i k h hk
  obtain⟨k,rfl⟩:∃ k',k=k'+1:=⟨k - 1,by omega⟩
  rw[zk]
  generalize lp zaO k=rec
  unfold zaO zaB
  simp only[zu (zm h),cond_false]
 | cons e es ih =>
  intro i k h hk
  obtain⟨k,rfl⟩:∃ k',k=k'+1:=⟨k - 1,by omega⟩
  rw[zk]
  have hi:=zl h
  have hk2:es.length<k:=Nat.lt_of_succ_lt_succ hk
  have key:=fun (_:Unit)=>ih (i+1) k (zh h) hk2
  generalize lp zaO k=rec at key ⊢
  unfold zaO zaB
  simp only[zE hi,cond_true,zJ,zj h,Option.bind_some,zF hi hl,key ()]
theorem ziq (s0:jS) (s1:Str) (hl:List.length s0≤maxLen):lp zaO zp (s0,s1,0)=zaB s1 s0 0 :=
 zjs s0 s1 hl s0 0 zp rfl (Nat.lt_of_le_of_lt hl (by decide))
def zak (s0:jS):List zQ→Nat→Option (Unit⊕Bool)
 | [],i=>some (Sum.inl ())
 | e::es,i =>
  (zd5 e.1 e.2.1 e.2.2.1 e.2.2.2).bind fun r7 =>
  cond (!r7)
  (some (Sum.inr false))
  ((zgB s0 e.1).bind fun r9 =>
   cond (r9 != (i:Int))
   (some (Sum.inr false))
   (zak s0 es (i+1)))
theorem zg2 (s0:jS) (hl:List.length s0≤maxLen):∀(es:List zQ) (i:Nat) (k:Nat),s0.drop i=es→es.length<k→lp zah k (s0,(i:Int))=zak s0 es i:=by
 intro es
 induction es with
 | nil =>
  intro i k h hk
  obtain⟨k,rfl⟩:∃ k',k=k'+1:=⟨k - 1,by omega⟩
  rw[zk]
  generalize lp zah k=rec
  unfold zah zak
  simp only[zu (zm h),cond_false]
 | cons e es ih =>
  intro i k h hk
  obtain⟨k,rfl⟩:∃ k',k=k'+1:=⟨k - 1,by omega⟩
  rw[zk]
  have hi:=zl h
  have hk2:es.length<k:=Nat.lt_of_succ_lt_succ hk
  have key:=fun (_:Unit)=>ih (i+1) k (zh h) hk2
  generalize lp zah k=rec at key ⊢
  unfold zah zak
  simp only[zE hi,cond_true,zJ,zj h,Option.bind_some,zF hi hl,key ()]
def zag:List zt→jR→Option jR
 | [],s4=>some s4
 | e::es,s4 =>
  cond (yY (List.length s4+List.length ([e.2]:List jI)) 24)
  (zag es (s4++([e.2]:List jI)))
  (none)
theorem zi5 (s1:jQ) (s2:jR) (s3:jQ) (hl:List.length s3≤maxLen):∀(es:List zt) (i:Nat) (k:Nat) (s4:jR),s3.drop i=es→es.length<k→lp zaY k ((i:Int),s1,s2,s3,s4)=zag es s4:=by
 intro es
 induction es with
 | nil =>
  intro i k s4 h hk
  obtain⟨k,rfl⟩:∃ k',k=k'+1:=⟨k - 1,by omega⟩
  rw[zk]
  generalize lp zaY k=rec
  unfold zaY zag
  simp only[zu (zm h),cond_false]
 | cons e es ih =>
  intro i k s4 h hk
  obtain⟨k,rfl⟩:∃ k',k=k'+1:=⟨k - 1,by omega⟩
  rw[zk]
  have hi:=zl h
  have hk2:es.length<k:=Nat.lt_of_succ_lt_succ hk
  have key:=fun s4=>ih (i+1) k s4 (zh h) hk2
  generalize lp zaY k=rec at key ⊢
  unfold zaY zag
  simp only[zE hi,cond_true,zJ,zj h,Option.bind_some,zF hi hl,key]
theorem zhV (s1:jQ) (s2:jR) (s3:jQ) (s4:jR) (hl:List.length s3≤maxLen):lp zaY zp (0,s1,s2,s3,s4)=zag s3 s4 :=
 zi5 s1 s2 s3 hl s3 0 zp s4 rfl (Nat.lt_of_le_of_lt hl (by decide))
def zaf:List jI→jR→Option jR
 | [],s4=>some s4
 | e::es,s4 =>
  cond (yY (List.length s4+List.length ([e]:List jI)) 24)
  (zaf es (s4++([e]:List jI)))
  (none)
theorem zji (s1:jQ) (s2:jR) (s3:jQ) (hl:List.length s2≤maxLen):∀(es:List jI) (i:Nat) (k:Nat) (s4:jR),s2.drop i=es→es.length<k→lp zaX k ((i:Int),s1,s2,s3,s4)=zaf es s4:=by
 intro es
 induction es with
 | nil =>
  intro i k s4 h hk
  obtain⟨k,rfl⟩:∃ k',k=k'+1:=⟨k - 1,by omega⟩
  rw[zk]
  generalize lp zaX k=rec
  unfold zaX zaf
  simp only[zu (zm h),cond_false]
 | cons e es ih =>
  intro i k s4 h hk
  obtain⟨k,rfl⟩:∃ k',k=k'+1:=⟨k - 1,by omega⟩
  rw[zk]
  have hi:=zl h
  have hk2:es.length<k:=Nat.lt_of_succ_lt_succ hk
  have key:=fun s4=>ih (i+1) k s4 (zh h) hk2
  generalize lp zaX k=rec at key ⊢
  unfold zaX zaf
  simp only[zE hi,cond_true,zJ,zj h,Option.bind_some,zF hi hl,key]
theorem zie (s1:jQ) (s2:jR) (s3:jQ) (s4:jR) (hl:List.length s2≤maxLen):lp zaX zp (0,s1,s2,s3,s4)=zaf s2 s4 :=
 zji s1 s2 s3 hl s2 0 zp s4 rfl (Nat.lt_of_le_of_lt hl (by decide))
def q8:List zt→jR→Option jR
 | [],s4=>some s4
 | e::es,s4 =>
  cond (yY (List.length s4+List.length ([e.2]:List jI)) 24)
  (q8 es (s4++([e.2]:List jI)))
  (none)
theorem zjq (s1:jQ) (s2:jR) (s3:jQ) (hl:List.length s1≤maxLen):∀(es:List zt) (i:Nat) (k:Nat) (s4:jR),s1.drop i=es→es.length<k→lp zaU k ((i:Int),s1,s2,s3,s4)=q8 es s4:=by
 intro es
 induction es with
 | nil =>
  intro i k s4 h hk
  obtain⟨k,rfl⟩:∃ k',k=k'+1:=⟨k - 1,by omega⟩
  rw[zk]
  generalize lp zaU k=rec
  unfold zaU q8
  simp only[zu (zm h),cond_false]
 | cons e es ih =>
  intro i k s4 h hk
  obtain⟨k,rfl⟩:∃ k',k=k'+1:=⟨k - 1,by omega⟩
  rw[zk]
  have hi:=zl h
  have hk2:es.length<k:=Nat.lt_of_succ_lt_succ hk
  have key:=fun s4=>ih (i+1) k s4 (zh h) hk2
  generalize lp zaU k=rec at key ⊢
  unfold zaU q8
  simp only[zE hi,cond_true,zJ,zj h,Option.bind_some,zF hi hl,key]
theorem zh9 (s1:jQ) (s2:jR) (s3:jQ) (s4:jR) (hl:List.length s1≤maxLen):lp zaU zp (0,s1,s2,s3,s4)=q8 s1 s4 :=
 zjq s1 s2 s3 hl s1 0 zp s4 rfl (Nat.lt_of_le_of_lt hl (by decide))
def zav:List jI→Int→Option Int
 | [],s1=>some s1
 | e::es,s1 =>
  zav es (IntKind.wrap .i64 (s1+((List.length e:Nat):Int)))
theorem zjR (s0:jR) (hl:List.length s0≤maxLen):∀(es:List jI) (i:Nat) (k:Nat) (s1:Int),s0.drop i=es→es.length<k→lp zbj k (s0,s1,(i:Int))=zav es s1:=by
 intro es
 induction es with
 | nil =>
  intro i k s1 h hk
  obtain⟨k,rfl⟩:∃ k',k=k'+1:=⟨k - 1,by omega⟩
  rw[zk]
  generalize lp zbj k=rec
  unfold zbj zav
  simp only[zu (zm h),cond_false]
 | cons e es ih =>
  intro i k s1 h hk
  obtain⟨k,rfl⟩:∃ k',k=k'+1:=⟨k - 1,by omega⟩
  rw[zk]
  have hi:=zl h
  have hk2:es.length<k:=Nat.lt_of_succ_lt_succ hk
  have key:=fun s1=>ih (i+1) k s1 (zh h) hk2
  generalize lp zbj k=rec at key ⊢
  unfold zbj zav
  simp only[zE hi,cond_true,zJ,zj h,Option.bind_some,zF hi hl,key]
theorem zja (s0:jR) (s1:Int) (hl:List.length s0≤maxLen):lp zbj zp (s0,s1,0)=zav s0 s1 :=
 zjR s0 hl s0 0 zp s1 rfl (Nat.lt_of_le_of_lt hl (by decide))
def zat (s0:jS) (s3:jR):List jI→Option (Unit⊕Bool)
 | []=>some (Sum.inl ())
 | e::es =>
  (zci s0 e).bind fun r19 =>
  cond (decide (r19<0))
  (some (Sum.inr false))
  ((gx s3 0).bind fun e20 =>
   (zci s0 e20).bind fun r21 =>
   cond (r19 != r21)
   (some (Sum.inr false))
   (zat s0 s3 es))
theorem zjM (s0:jS) (s2:jQ) (s3:jR) (s4:jQ) (hl:List.length s3≤maxLen):∀(es:List jI) (i:Nat) (k:Nat),s3.drop i=es→es.length<k→lp zbo k (s0,(i:Int),s2,s3,s4)=zat s0 s3 es:=by
 intro es
 induction es with
 | nil =>
  intro i k h hk
  obtain⟨k,rfl⟩:∃ k',k=k'+1:=⟨k - 1,by omega⟩
  rw[zk]
  generalize lp zbo k=rec
  unfold zbo zat
  simp only[zu (zm h),cond_false]
 | cons e es ih =>
  intro i k h hk
  obtain⟨k,rfl⟩:∃ k',k=k'+1:=⟨k - 1,by omega⟩
  rw[zk]
  have hi:=zl h
  have hk2:es.length<k:=Nat.lt_of_succ_lt_succ hk
  have key:=fun (_:Unit)=>ih (i+1) k (zh h) hk2
  generalize lp zbo k=rec at key ⊢
  unfold zbo zat
  simp only[zE hi,cond_true,zJ,zj h,Option.bind_some,zF hi hl,key ()]
theorem zi1 (s0:jS) (s2:jQ) (s3:jR) (s4:jQ) (hl:List.length s3≤maxLen):lp zbo zp (s0,0,s2,s3,s4)=zat s0 s3 s3 :=
 zjM s0 s2 s3 s4 hl s3 0 zp rfl (Nat.lt_of_le_of_lt hl (by decide))
def za5 (s0:jS):List zt→Option (Unit⊕Bool)
 | []=>some (Sum.inl ())
 | e::es =>
  (zca s0 e.1 e.2).bind fun r11 =>
  cond (!r11)
  (some (Sum.inr false))
  (za5 s0 es)
theorem zj9 (s0:jS) (s2:jQ) (s3:jR) (s4:jQ) (hl:List.length s4≤maxLen):∀(es:List zt) (i:Nat) (k:Nat),s4.drop i=es→es.length<k→lp zbl k (s0,(i:Int),s2,s3,s4)=za5 s0 es:=by
 intro es
 induction es with
 | nil =>
  intro i k h hk
  obtain⟨k,rfl⟩:∃ k',k=k'+1:=⟨k - 1,by omega⟩
  rw[zk]
  generalize lp zbl k=rec
  unfold zbl za5
  simp only[zu (zm h),cond_false]
 | cons e es ih =>
  intro i k h hk
  obtain⟨k,rfl⟩:∃ k',k=k'+1:=⟨k - 1,by omega⟩
  rw[zk]
  have hi:=zl h
  have hk2:es.length<k:=Nat.lt_of_succ_lt_succ hk
  have key:=fun (_:Unit)=>ih (i+1) k (zh h) hk2
  generalize lp zbl k=rec at key ⊢
  unfold zbl za5
  simp only[zE hi,cond_true,zJ,zj h,Option.bind_some,zF hi hl,key ()]
theorem zju (s0:jS) (s2:jQ) (s3:jR) (s4:jQ) (hl:List.length s4≤maxLen):lp zbl zp (s0,0,s2,s3,s4)=za5 s0 s4 :=
 zj9 s0 s2 s3 s4 hl s4 0 zp rfl (Nat.lt_of_le_of_lt hl (by decide))
def za8 (s0:jS):List zt→Option (Unit⊕Bool)
 | []=>some (Sum.inl ())
 | e::es =>
  (zca s0 e.1 e.2).bind fun r5 =>
  cond (!r5)
  (some (Sum.inr false))
  (za8 s0 es)
theorem zjV (s0:jS) (s2:jQ) (s3:jR) (s4:jQ) (hl:List.length s2≤maxLen):∀(es:List zt) (i:Nat) (k:Nat),s2.drop i=es→es.length<k→lp zbk k (s0,(i:Int),s2,s3,s4)=za8 s0 es:=by
 intro es
 induction es with
 | nil =>
  intro i k h hk
  obtain⟨k,rfl⟩:∃ k',k=k'+1:=⟨k - 1,by omega⟩
  rw[zk]
  generalize lp zbk k=rec
  unfold zbk za8
  simp only[zu (zm h),cond_false]
 | cons e es ih =>
  intro i k h hk
  obtain⟨k,rfl⟩:∃ k',k=k'+1:=⟨k - 1,by omega⟩
  rw[zk]
  have hi:=zl h
  have hk2:es.length<k:=Nat.lt_of_succ_lt_succ hk
  have key:=fun (_:Unit)=>ih (i+1) k (zh h) hk2
  generalize lp zbk k=rec at key ⊢
  unfold zbk za8
  simp only[zE hi,cond_true,zJ,zj h,Option.bind_some,zF hi hl,key ()]
theorem zjj (s0:jS) (s2:jQ) (s3:jR) (s4:jQ) (hl:List.length s2≤maxLen):lp zbk zp (s0,0,s2,s3,s4)=za8 s0 s2 :=
 zjV s0 s2 s3 s4 hl s2 0 zp rfl (Nat.lt_of_le_of_lt hl (by decide))
end Go.Abs.Q
namespace Go.Abs.Q
open Go Go.Abs
section
theorem ziM (n:Int):ze1 n=some (ziK n):=zdC n
theorem ztT (es:List UInt8):yO es=some (cond (es.all zuz) (.inl ()) (.inr false)):=by
 have:∀ es,yO es=ym es:=by
  intro es
  induction es with
  | nil=>rfl
  | cons e es ih =>
   unfold yO ym
   rw[ziM,zdC,ih]
 rw[this,zq1]
theorem zmH (e:zQ):zd5 e.1 e.2.1 e.2.2.1 e.2.2.2=some (zyl e):=by
 obtain⟨s,a,b,c⟩:=e
 unfold zd5 zyl zgr
 dsimp only
 cases s with
 | nil=>rfl
 | cons x r =>
  rw[decide_eq_false (show ¬(((List.length (x::r):Nat):Int)<1) by rw[List.length_cons]; omega),cond_false]
  by_cases h:(x::r).length≤8
  ·rw[decide_eq_false (show ¬(((List.length (x::r):Nat):Int)>8) by omega),cond_false,qK,List.getElem?_cons_zero,Option.bind_some,ziM,Option.bind_some,zgl _ _ _ _ (by unfold maxLen; omega),ztT,decide_eq_true h]
   dsimp only
   cases ziK ((UInt8.toNat x:Nat):Int) with
   | false=>rfl
   | true =>
    cases (x::r).all zuz with
    | false=>rfl
    | true =>
     simp only[Bool.not_true,cond_false,cond_true,Option.bind_some,zcr,Bool.true_and,Bool.and_true,ge_iff_le]
     cases decide (0≤a)<;>simp only[cond_true,cond_false,Bool.true_and,Bool.false_and]
     cases decide (a≤2)<;>simp only[cond_true,cond_false,Bool.true_and,Bool.false_and]
     cases decide (0≤b)<;>simp only[cond_true,cond_false,Bool.true_and,Bool.false_and]
     cases decide (b≤3)<;>simp only[cond_true,cond_false,Bool.true_and,Bool.false_and]
     cases decide (1≤c)<;>simp only[cond_true,cond_false,Bool.true_and,Bool.false_and]
  ·rw[decide_eq_true (show (((List.length (x::r):Nat):Int)>8) by omega),decide_eq_false h]
   rfl
theorem zqq (a0:List zQ) (nm:Str) (h:a0.length≤maxLen):zgB a0 nm=some (zAT (a0.findIdx? (fun e=>e.1==nm))):=by
 have:∀ es i,zaB nm es i=qz nm es i:=by
  intro es
  induction es with
  | nil=>intro i; rfl
  | cons e es ih=>intro i; unfold zaB qz; rw[ih]
 unfold zgB
 rw[ziq _ _ h,this,zvq]
 cases a0.findIdx? (fun e=>e.1==nm) with
 | none=>rfl
 | some j=>simp [qL,zAT]
theorem zGf (a0:List zQ) (h:a0.length≤maxLen) (es:List zQ) (i:Nat):zak a0 es i=some (cond (zkf a0 es i) (.inl ()) (.inr false)):=by
 induction es generalizing i with
 | nil=>rfl
 | cons e es ih =>
  unfold zak zkf
  rw[zmH,Option.bind_some,zqq _ _ h,Option.bind_some,ih,bne]
  cases zyl e with
  | false=>rfl
  | true =>
   cases (zAT (a0.findIdx? (fun d=>d.1==e.1))==(i:Int)) with
   | false=>rfl
   | true=>simp
theorem zg3 (a0:List zQ):zdh a0=some (zdU a0):=by
 unfold zdh zdU
 cases a0 with
 | nil=>rfl
 | cons e es =>
  rw[decide_eq_false (show ¬(((List.length (e::es):Nat):Int)<1) by rw[List.length_cons]; omega),cond_false]
  by_cases h:(e::es).length≤20
  ·have h1:¬(((List.length (e::es):Nat):Int)>20):=by omega
   have hm:(e::es).length≤maxLen:=by unfold maxLen; omega
   rw[decide_eq_false h1,cond_false,qK,List.getElem?_cons_zero,Option.bind_some,decide_eq_true h]
   show cond (!(eqQ e)) _ _=some (true&&eqQ e&&zkf (e::es) es 1)
   cases eqQ e with
   | false=>rfl
   | true =>
    have:=zg2 (e::es) hm es 1 zp rfl (by simp [zp]; simp at h; omega)
    simp only[Bool.not_true,cond_false]
    rw[show ((1:Int))=((1:Nat):Int) from rfl,this,zGf _ hm]
    cases zkf (e::es) es 1<;>rfl
  ·have h1:((List.length (e::es):Nat):Int)>20:=by omega
   rw[decide_eq_true h1,decide_eq_false h]
   rfl
theorem zzt {a0:List zQ} (h:SignOk a0) (a1:List Int) (hl:a1.length≤1099511627776):∀(m i n:Nat) (k:Nat),a1.length - i=m→i≤a1.length→n≤1+3*i→m+1<k →
  lp zbN k (a0,a1,(n:Int),(i:Int))=some (match sk a0 n (a1.drop i) with
   | some j=>.inl ((i+j:Nat):Int)
   | none=>.inr (-1)):=by
 intro m
 induction m with
 | zero =>
  intro i n k hm hi hni hk
  obtain⟨k,rfl⟩:∃ k',k=k'+1:=⟨k - 1,by omega⟩
  rw[zk]
  generalize lp zbN k=rec
  unfold zbN
  rw[List.drop_eq_nil_iff.2 (show a1.length≤i by omega)]
  cases n with
  | zero=>simp [sk]
  | succ n =>
   simp only[decide_eq_true (show ((n+1:Nat):Int)>0 by omega),cond_true,decide_eq_true (show ((i:Int)≥((List.length a1:Nat):Int)) by omega)]
   rfl
 | succ m ih =>
  intro i n k hm hi hni hk
  obtain⟨k,rfl⟩:∃ k',k=k'+1:=⟨k - 1,by omega⟩
  have hi:i<a1.length:=by omega
  rw[zk]
  have key:=fun n' h1=>ih (i+1) n' k (by omega) (by omega) h1 (by omega)
  generalize lp zbN k=rec at key ⊢
  unfold zbN
  cases n with
  | zero=>simp [sk]
  | succ n =>
   have e1:IntKind.wrap .i64 (((n+1:Nat):Int) - 1)=(n:Int):=by rw[zT]<;>omega
   have e3:IntKind.wrap .i64 ((i:Int)+1)=((i+1:Nat):Int):=by rw[zT]<;>omega
   simp only[decide_eq_true (show ((n+1:Nat):Int)>0 by omega),cond_true,decide_eq_false (show ¬((i:Int)≥((List.length a1:Nat):Int)) by omega),cond_false,zJ,List.getElem?_eq_getElem hi,Option.bind_some,List.drop_eq_getElem_cons hi,sk,e1,e3]
   generalize a1[i]=x
   unfold zcp
   by_cases h0:x<0
   ·rw[decide_eq_true h0,cond_true]
    by_cases h1 : -24≤x
    ·rw[decide_eq_false (show ¬(x < -24) by omega),cond_false,decide_eq_false (show ¬(x≥((List.length a0:Nat):Int)) by omega),cond_false,decide_eq_false (show ¬(x≥0) by omega),cond_false,decide_eq_true h1,cond_true,key n (by omega)]
     dsimp only
     rw[Nat.add_zero]
     cases sk a0 n (a1.drop (i+1)) with
     | none=>rfl
     | some j=>simp only[Option.map_some]; rw[show i+1+j=i+(j+1) from by omega]
    ·rw[decide_eq_true (show x < -24 by omega),decide_eq_false h1]; rfl
   ·rw[decide_eq_false h0,decide_eq_false (show ¬(x < -24) by omega),cond_false,cond_false]
    by_cases h1:x≥((List.length a0:Nat):Int)
    ·rw[decide_eq_true h1,cond_true,List.getElem?_eq_none (by omega)]
    ·obtain⟨e,he1,he2,he3⟩:=zvw (xs:=a0) (i:=x) (by omega) (by omega)
     have hat:=h.at he3
     rw[decide_eq_false h1,cond_false,decide_eq_true (show x≥0 by omega),cond_true,he1,Option.bind_some,he3]
     dsimp only
     cases hk0:(e.2.1==0) with
     | true=>rfl
     | false =>
      have e2:IntKind.wrap .i64 ((n:Int)+e.2.2.1)=((n+e.2.2.1.toNat:Nat):Int):=by rw[zT]<;>omega
      simp only[cond_false,Option.bind_some,e2]
      rw[key _ (by omega)]
      cases sk a0 (n+e.2.2.1.toNat) (a1.drop (i+1)) with
      | none=>rfl
      | some j=>simp only[Option.map_some]; rw[show i+1+j=i+(j+1) from by omega]
def zwb (o:Option Nat):Int:=match o with
 | some k=>(k:Int)
 | none => -1
theorem zsm {a0:List zQ} (h:SignOk a0) (a1:List Int) (hl:a1.length≤1099511627776) (i:Nat) (hi:i≤a1.length):zkR a0 a1 (i:Int)=some (zwb ((sk a0 1 (a1.drop i)).map (i + ·))):=by
 unfold zkR
 rw[show (1:Int)=((1:Nat):Int) from rfl,zzt h a1 hl (a1.length - i) i 1 zp rfl hi (by omega) (by unfold zp; omega)]
 cases sk a0 1 (a1.drop i) with
 | none=>rfl
 | some j=>rfl
theorem zri {a0:List zQ} (h:SignOk a0) (a1:List Int) (hl:a1.length≤1099511627776):∀(m i n k:Nat),a1.length - i=m→i≤a1.length→n≤i→m<k →
  lp zb3 k (a0,a1,(n:Int),(i:Int))=some (match zjK a0 (a1.drop i) with
   | some ps=>.inl ((n+ps.length:Nat):Int)
   | none=>.inr (-1)):=by
 intro m
 induction m using Nat.strongRecOn with
 | _ m ih =>
  intro i n k hm hi hn hk
  obtain⟨k,rfl⟩:∃ k',k=k'+1:=⟨k - 1,by omega⟩
  rw[zk]
  have key:=fun j n' (h1:i<j) h2 h3=>ih (a1.length - j) (by omega) j n' k rfl h2 h3 (by omega)
  generalize lp zb3 k=rec at key ⊢
  unfold zb3
  by_cases he:i=a1.length
  ·subst he
   simp [zkX]
  ·have hlt:i<a1.length:=by omega
   have hne:a1.drop i≠[]:=by simp; omega
   simp only[zE hlt,cond_true,zsm h a1 hl i hi,Option.bind_some,zc9 hne]
   cases hs:sk a0 1 (a1.drop i) with
   | none=>rfl
   | some j =>
    have hj:=zmG hs
    rw[List.length_drop] at hj
    have e1:IntKind.wrap .i64 ((n:Int)+1)=((n+1:Nat):Int):=by rw[zT]<;>omega
    rw[show zwb (Option.map (fun x=>i+x) (some j))=((i+j:Nat):Int) from rfl,decide_eq_false (show ¬(((i+j:Nat):Int)<0) by omega),cond_false,e1]
    rw[key (i+j) (n+1) (by omega) (by omega) (by omega)]
    dsimp only
    rw[List.drop_drop]
    cases zjK a0 (a1.drop (i+j)) with
    | none=>rfl
    | some ps=>simp only[Option.map_some,List.length_cons]; rw[show n+1+ps.length=n+(ps.length+1) from by omega]
theorem zfu {a0:List zQ} (hs:zdU a0=true) (a1:List Int):zci a0 a1=some (zwb (zhP a0 a1)):=by
 have h:=zi2 hs
 unfold zci zhP zcb
 rw[hs,Bool.true_and]
 by_cases hl:a1.length≤48
 ·have:=zri h a1 (by omega) a1.length 0 0 zp rfl (Nat.zero_le _) (Nat.le_refl _) (by unfold zp; omega)
  rw[show ((0:Nat):Int)=0 from rfl,List.drop_zero] at this
  rw[decide_eq_false (show ¬(((List.length a1:Nat):Int)>48) by omega),decide_eq_true hl,cond_false,cond_true,this]
  cases zjK a0 a1 with
  | none=>rfl
  | some ps=>simp [qL,zwb]
 ·rw[decide_eq_true (show (((List.length a1:Nat):Int)>48) by omega),decide_eq_false hl]; rfl
theorem zmU {a0:List zQ} (hs:zdU a0=true) (xs:List Int):zfq a0 xs=some (zf9 a0 xs):=by
 have h:=zi2 hs
 unfold zfq zf9
 cases xs with
 | nil=>rfl
 | cons x r =>
  simp only[decide_eq_true (show (((x::r).length:Nat):Int)>0 by simp<;>omega),cond_true,qK,List.getElem?_cons_zero,Option.bind_some]
  by_cases h0:x<0
  ·rw[decide_eq_false (show ¬(x≥0) by omega)]; rfl
  ·rw[decide_eq_true (show x≥0 by omega),cond_true,Bool.true_and]
   by_cases h1:x≥((List.length a0:Nat):Int)
   ·rw[decide_eq_false (show ¬(x<((List.length a0:Nat):Int)) by omega),List.getElem?_eq_none (by omega)]; rfl
   ·obtain⟨e,he1,he2,he3⟩:=zvw (xs:=a0) (i:=x) (by omega) (by omega)
    have hat:=h.at he3
    simp only[decide_eq_true (show x<((List.length a0:Nat):Int) by omega),cond_true,he1,he3,Option.bind_some]
    cases hk:(e.2.1==0) with
    | false=>rfl
    | true =>
     simp only[cond_true,zc0,Option.bind_some,zfu hs,Bool.true_and]
     unfold zhP
     cases zcb a0 r with
     | none =>
      have:((-1:Int)==e.2.2.1)=false:=by simp; omega
      simp [zwb,this]
     | some ps=>rfl
theorem zuL {a0:List zQ} {xs:List Int} (h:zf9 a0 xs=true):zdU a0=true:=by
 obtain⟨_,_,_,_,_,_,_,_,_,hs,_⟩:=zhj h
 exact hs
theorem zmJ (a0:List zQ) (b:Bool) (xs:List Int):zca a0 b xs=some (zf9 a0 xs):=by
 unfold zca
 rw[zg3,Option.bind_some]
 cases hs:zdU a0 with
 | true=>rw[cond_true,zmU hs]; rfl
 | false =>
  cases ha:zf9 a0 xs with
  | false=>rfl
  | true=>rw[zuL ha] at hs; cases hs
theorem zwg (s:List zt):(es:List zt)→(acc:List jI)→acc.length+es.length≤1000000→zag es acc=some (acc++es.map (·.2))∧q8 es acc=some (acc++es.map (·.2))
 | [],acc,_=>⟨by simp [zag],by simp [q8]⟩
 | e::es,acc,h=>by
  rw[List.length_cons] at h
  obtain⟨k1,k2⟩:=zwg s es (acc++[e.2]) (by simp; omega)
  unfold zag q8
  rw[zP (show (acc.length+[e.2].length)*24≤140737488351232 by simp; omega),cond_true,cond_true,k1,k2]
  simp
theorem zEt:(es:List jI)→(acc:List jI)→acc.length+es.length≤1000000→zaf es acc=some (acc++es)
 | [],acc,_=>by simp [zaf]
 | e::es,acc,h=>by
  rw[List.length_cons] at h
  have k1:=zEt es (acc++[e]) (by simp; omega)
  unfold zaf
  rw[zP (show (acc.length+[e].length)*24≤140737488351232 by simp; omega),cond_true,k1]
  simp
theorem zgW (a1:List zt) (a2:List jI) (a3:List zt) (h1:a1.length≤1000) (h2:a2.length≤1000) (h3:a3.length≤1000):zeO a1 a2 a3=some (a1.map (·.2)++a2++a3.map (·.2)):=by
 unfold zeO
 rw[zh9 _ _ _ _ (by unfold maxLen; omega),(zwg [] a1 [] (by simp; omega)).2,Option.bind_some,zie _ _ _ _ (by unfold maxLen; omega),zEt a2 _ (by simp; omega),Option.bind_some,
  zhV _ _ _ _ (by unfold maxLen; omega),(zwg [] a3 _ (by simp; omega)).1]
 simp
theorem zvA:(es:List jI)→(t:Nat)→t+zG es≤1000000000000→zav es (t:Int)=some ((t+zG es:Nat):Int)
 | [],t,_=>by simp [zav,zG]
 | e::es,t,h=>by
  have hs:zG (e::es)=e.length+zG es:=by simp [zG]
  rw[hs] at h
  unfold zav
  have e1:IntKind.wrap .i64 ((t:Int)+((List.length e:Nat):Int))=((t+e.length:Nat):Int):=by rw[zT]<;>omega
  rw[e1,zvA es (t+e.length) (by omega),hs]
  congr 2
  omega
theorem zoD (a0:List zQ):(es:List zt)→za8 a0 es=some (cond (zeD a0 es) (.inl ()) (.inr false))∧za5 a0 es=some (cond (zeD a0 es) (.inl ()) (.inr false))
 | []=>⟨rfl,rfl⟩
 | e::es=>by
  obtain⟨k1,k2⟩:=zoD a0 es
  unfold za8 za5
  rw[zmJ,k1,k2]
  unfold zeD
  rw[List.all_cons]
  cases zf9 a0 e.2<;>exact ⟨rfl,rfl⟩
theorem zs8 {a0:List zQ} (hs:zdU a0=true) (s3:List jI) (r:List Int) (h0:s3[0]? = some r):(es:List jI)→zat a0 s3 es=some (cond (es.all fun q=>(zhP a0 q).isSome&&(zhP a0 q==zhP a0 r)) (.inl ()) (.inr false))
 | []=>rfl
 | e::es=>by
  unfold zat
  rw[zfu hs,Option.bind_some,qK,h0,Option.bind_some,zfu hs,Option.bind_some,zs8 hs s3 r h0 es,List.all_cons]
  cases h1:zhP a0 e with
  | none=>rfl
  | some n =>
   rw[show zwb (some n)=(n:Int) from rfl,decide_eq_false (show ¬((n:Int)<0) by omega),cond_false]
   cases h2:zhP a0 r with
   | none =>
    rw[show (((n:Int)) != zwb none)=true from by simp [zwb]<;>omega]
    rfl
   | some k =>
    by_cases hn:n=k
    ·subst hn; simp [zwb]
    ·have e1:(((n:Int)) != zwb (some k))=true:=by simp [zwb]; omega
     have e2:(some n==some k)=false:=by simpa using hn
     rw[e1,e2]; simp
theorem zux {a0:List zQ} (r:List Int) (rs:List jI):((r::rs).all fun q=>(zhP a0 q).isSome&&(zhP a0 q==zhP a0 r))=zih a0 (r::rs):=by
 unfold zih
 dsimp only
 cases hr:zhP a0 r with
 | none=>simp [hr]
 | some n =>
  rw[List.all_cons,hr]
  simp only[Option.isSome_some,beq_self_eq_true,Bool.true_and]
  congr 1
  funext q
  cases zhP a0 q<;>simp
theorem zh1 (a0:List zQ) (a1:List zt) (a2:List jI) (a3:List zt):zhn a0 a1 a2 a3=some (zhL a0 a1 a2 a3):=by
 unfold zhn zhL
 rw[zg3,Option.bind_some]
 cases hs:zdU a0 with
 | false=>rfl
 | true =>
  by_cases h1:a1.length≤5
  ·by_cases h3:a3.length≤3
   ·by_cases h2:a2.length≤3
    ·simp only[Bool.not_true,cond_false,decide_eq_false (show ¬(((List.length a1:Nat):Int)>5) by omega),decide_eq_false (show ¬(((List.length a2:Nat):Int)>3) by omega),decide_eq_false (show ¬(((List.length a3:Nat):Int)>3) by omega),
      decide_eq_true h1,decide_eq_true h2,decide_eq_true h3,Bool.true_and]
     rw[zjj _ _ _ _ (by unfold maxLen; omega),(zoD a0 a1).1]
     cases hb1:zeD a0 a1 with
     | false=>rfl
     | true =>
      simp only[cond_true,Option.bind_some,zcr,Bool.true_and]
      rw[zju _ _ _ _ (by unfold maxLen; omega),(zoD a0 a3).2]
      cases hb3:zeD a0 a3 with
      | false=>simp [qL]
      | true =>
       simp only[cond_true,Option.bind_some,zcr,Bool.and_true]
       rw[zi1 _ _ _ _ (by unfold maxLen; omega)]
       have hrows:zat a0 a2 a2=some (cond (zih a0 a2) (.inl ()) (.inr false)):=by
        cases a2 with
        | nil=>rfl
        | cons r rs=>rw[zs8 hs (r::rs) r rfl (r::rs),zux]
       rw[hrows]
       cases hb2:zih a0 a2 with
       | false=>rfl
       | true =>
        have s1:=zjp a1 hb1
        have s2:=ztf a2 hb2
        have s3:=zjp a3 hb3
        have hsum:zG (a1.map (·.2)++a2++a3.map (·.2))=zG (a1.map (·.2))+zG a2+zG (a3.map (·.2)):=by simp [zG]; omega
        simp only[cond_true,Option.bind_some,zcr,zgW a1 a2 a3 (by omega) (by omega) (by omega),Bool.true_and]
        rw[zja _ _ (by simp only[List.length_append,List.length_map]; unfold maxLen; omega),show (0:Int)=((0:Nat):Int) from rfl,zvA _ 0 (by rw[hsum]; omega),Option.bind_some,Nat.zero_add,hsum]
        simp only[Option.some.injEq,decide_eq_decide]
        omega
    ·simp only[Bool.not_true,cond_false,decide_eq_false (show ¬(((List.length a1:Nat):Int)>5) by omega),decide_eq_false (show ¬(((List.length a3:Nat):Int)>3) by omega),decide_eq_true (show (((List.length a2:Nat):Int)>3) by omega),decide_eq_false h2,cond_true,Bool.and_false,Bool.false_and]
   ·simp only[Bool.not_true,cond_false,decide_eq_false (show ¬(((List.length a1:Nat):Int)>5) by omega),decide_eq_true (show (((List.length a3:Nat):Int)>3) by omega),decide_eq_false h3,cond_true,Bool.and_false,Bool.false_and]
  ·simp only[Bool.not_true,cond_false,decide_eq_true (show (((List.length a1:Nat):Int)>5) by omega),decide_eq_false h1,cond_true,Bool.and_false,Bool.false_and]
end
end Go.Abs.Q
namespace Go.Abs.Q
open Go Go.Abs
section
theorem zpV {a0:List zQ} (h:SignOk a0) (a1:List Int) (hl:a1.length≤1099511627776):∀(m i n j k:Nat),a1.length - i=m→i≤a1.length→n≤1+3*i→sk a0 n (a1.drop i)=some j→m+1<k →
  lp zau k (a0,a1,(n:Int),(i:Int))=some ((i+j:Nat):Int):=by
 intro m
 induction m with
 | zero =>
  intro i n j k hm hi hni hs hk
  obtain⟨k,rfl⟩:∃ k',k=k'+1:=⟨k - 1,by omega⟩
  rw[zk]
  generalize lp zau k=rec
  unfold zau
  rw[List.drop_eq_nil_iff.2 (show a1.length≤i by omega)] at hs
  cases n with
  | zero =>
   simp [sk] at hs
   subst hs
   simp
  | succ n=>simp [sk] at hs
 | succ m ih =>
  intro i n j k hm hi hni hs hk
  obtain⟨k,rfl⟩:∃ k',k=k'+1:=⟨k - 1,by omega⟩
  have hi:i<a1.length:=by omega
  rw[zk]
  have key:=fun n' j' h1 h2=>ih (i+1) n' j' k (by omega) (by omega) h1 h2 (by omega)
  generalize lp zau k=rec at key ⊢
  unfold zau
  cases n with
  | zero =>
   simp [sk] at hs
   subst hs
   simp
  | succ n =>
   have e1:IntKind.wrap .i64 (((n+1:Nat):Int) - 1)=(n:Int):=by rw[zT]<;>omega
   have e3:IntKind.wrap .i64 ((i:Int)+1)=((i+1:Nat):Int):=by rw[zT]<;>omega
   rw[List.drop_eq_getElem_cons hi] at hs
   simp only[sk] at hs
   simp only[decide_eq_true (show ((n+1:Nat):Int)>0 by omega),cond_true,zJ,List.getElem?_eq_getElem hi,Option.bind_some,e1,e3]
   generalize a1[i]=x at hs
   cases ha:zcp a0 x with
   | none=>rw[ha] at hs; cases hs
   | some q =>
    rw[ha] at hs
    simp only[Option.map_eq_some_iff] at hs
    obtain⟨j',hj',rfl⟩:=hs
    by_cases h0:x<0
    ·obtain⟨_,rfl⟩:=zq0 ha h0
     rw[decide_eq_false (show ¬(x≥0) by omega),cond_false,key n j' (by omega) hj']
     rw[show i+1+j'=i+(j'+1) from by omega]
    ·obtain⟨e,he1,he2,he3,rfl⟩:=zpQ ha h0
     have hat:=h.at he2
     have e2:IntKind.wrap .i64 ((n:Int)+e.2.2.1)=((n+e.2.2.1.toNat:Nat):Int):=by rw[zT]<;>omega
     rw[decide_eq_true (show x≥0 by omega),cond_true,he1,Option.bind_some,e2,key _ j' (by omega) hj']
     rw[show i+1+j'=i+(j'+1) from by omega]
theorem zmP {a0:List zQ} (h:SignOk a0) (a1:List Int) (hl:a1.length≤1099511627776) (i j:Nat) (hi:i≤a1.length) (hs:sk a0 1 (a1.drop i)=some j):zfA a0 a1 (i:Int)=some ((i+j:Nat):Int):=by
 unfold zfA
 rw[show (1:Int)=((1:Nat):Int) from rfl,zpV h a1 hl (a1.length - i) i 1 j zp rfl hi (by omega) hs (by unfold zp; omega)]
 rfl
theorem zsE {a0:List zQ} (h:SignOk a0) (a1:List Int) (hl:a1.length≤1099511627776):∀(m i:Nat) (acc ps:List jI) (k:Nat),a1.length - i=m→i≤a1.length→acc.length≤i→zjK a0 (a1.drop i)=some ps→m<k →
  lp zbT k (a0,a1,(i:Int),acc)=some (acc++ps):=by
 intro m
 induction m using Nat.strongRecOn with
 | _ m ih =>
  intro i acc ps k hm hi hacc hc hk
  obtain⟨k,rfl⟩:∃ k',k=k'+1:=⟨k - 1,by omega⟩
  rw[zk]
  have key:=fun j acc' ps' (h1:i<j) h2 h3 h4=>ih (a1.length - j) (by omega) j acc' ps' k rfl h2 h3 h4 (by omega)
  generalize lp zbT k=rec at key ⊢
  unfold zbT
  by_cases he:i=a1.length
  ·subst he
   rw[List.drop_length,zkX] at hc
   injection hc with hc; subst hc
   simp
  ·have hlt:i<a1.length:=by omega
   have hne:a1.drop i≠[]:=by simp; omega
   rw[zc9 hne] at hc
   cases hs:sk a0 1 (a1.drop i) with
   | none=>rw[hs] at hc; cases hc
   | some j =>
    rw[hs] at hc
    simp only[Option.map_eq_some_iff] at hc
    obtain⟨qs,hq,rfl⟩:=hc
    have hj:=zmG hs
    rw[List.length_drop] at hj
    have e1:zck a1 (some (i:Int)) (some ((i+j:Nat):Int))=some ((a1.drop i).take j):=by
     rw[zKK a1 (by omega) (by omega),show i+j - i=j from by omega]
    simp only[decide_eq_true (show (i:Int)<((List.length a1:Nat):Int) by omega),cond_true,zmP h a1 hl i j hi hs,Option.bind_some,e1,List.length_singleton,zP (show (acc.length+1)*24≤140737488351232 by omega)]
    rw[List.drop_drop] at hq
    rw[key (i+j) _ qs (by omega) (by omega) (by simp; omega) hq]
    simp
theorem zdw {a0:List zQ} (h:SignOk a0) {a1:List Int} (hl:a1.length≤1099511627776) {ps:List jI} (hc:zjK a0 a1=some ps):qo a0 a1=some ps:=by
 unfold qo
 have:=zsE h a1 hl a1.length 0 [] ps zp rfl (Nat.zero_le _) (Nat.zero_le _) hc (by unfold zp; omega)
 rw[show ((0:Nat):Int)=0 from rfl] at this
 rw[this]
 rfl
end
end Go.Abs.Q
namespace Go.Abs.Q
open Go Go.Abs
section
def InB (a0:List zQ) (xs:List Int):Prop:=∀ x∈xs,x<(a0.length:Int)
theorem zfU {xs:List Int} (h:xs.length≤1000000000):zbg xs=some xs:=by
 unfold zbg
 rw[zP (by simp only[List.length_nil]; omega)]; rfl
theorem zk8:(es acc:List zt)→(∀ l∈es,l.2.length≤1000000000)→acc.length+es.length≤1000000000→yB es acc=some (acc++es)
 | [],acc,_,_=>by simp [yB]
 | e::es,acc,h,hl=>by
  rw[List.length_cons] at hl
  unfold yB
  rw[zfU (h e (by simp)),Option.bind_some,zP (by simp only[List.length_cons,List.length_nil]; omega),cond_true,zk8 es _ (fun l hl=>h l (by simp [hl])) (by simp; omega)]
  simp
theorem zfQ {ls:List zt} (h:∀ l∈ls,l.2.length≤1000000000) (hl:ls.length≤1000000000):zcw ls=some ls:=by
 unfold zcw
 rw[zfk _ _ (by unfold maxLen; omega),zk8 ls [] h (by simp; omega)]
 rfl
theorem zle:(es acc:List jI)→(∀ l∈es,l.length≤1000000000)→acc.length+es.length≤1000000000→yF es acc=some (acc++es)
 | [],acc,_,_=>by simp [yF]
 | e::es,acc,h,hl=>by
  rw[List.length_cons] at hl
  unfold yF
  rw[zfU (h e (by simp)),Option.bind_some,zP (by simp only[List.length_cons,List.length_nil]; omega),cond_true,zle es _ (fun l hl=>h l (by simp [hl])) (by simp; omega)]
  simp
theorem zkF {ls:List jI} (h:∀ l∈ls,l.length≤1000000000) (hl:ls.length≤1000000000):zdA ls=some ls:=by
 unfold zdA
 rw[zfE _ _ (by unfold maxLen; omega),zle ls [] h (by simp; omega)]
 rfl
end
end Go.Abs.Q
namespace Go.Abs.Q
open Go Go.Abs
section
theorem zmz (ys:List Int):(es:List Int)→(i:Nat)→es.length=(ys.drop i).length→qg ys es i=some (cond (decide (es=ys.drop i)) (.inl ()) (.inr false))
 | [],i,h=>by
  have:ys.drop i=[]:=List.length_eq_zero_iff.1 h.symm
  rw[this]; rfl
 | e::es,i,h=>by
  unfold qg
  rw[List.length_cons,List.length_drop] at h
  have hi:i<ys.length:=by omega
  rw[zJ,List.getElem?_eq_getElem hi,Option.bind_some,List.drop_eq_getElem_cons hi,zmz ys es (i+1) (by rw[List.length_drop]; omega)]
  generalize ys[i]=y
  by_cases he:e=y
  ·subst he
   rw[show (e != e)=false from by simp,cond_false]
   simp
  ·rw[show (e != y)=true from by simpa using he,cond_true]
   rw[decide_eq_false (by intro h; injection h with h1 h2; exact he h1)]
   rfl
theorem zfT {xs ys:List Int} (h:xs.length≤maxLen):zbn xs ys=some (decide (xs=ys)):=by
 unfold zbn
 by_cases hl:xs.length=ys.length
 ·rw[show (((List.length xs:Nat):Int) != ((List.length ys:Nat):Int))=false from by simp [hl],cond_false,zfz _ _ h,zmz ys xs 0 hl,List.drop_zero]
  cases decide (xs=ys)<;>rfl
 ·rw[show (((List.length xs:Nat):Int) != ((List.length ys:Nat):Int))=true from by simp; omega,cond_true,decide_eq_false (by intro h; subst h; exact hl rfl)]
theorem zlb (ys:List zt):(es:List zt)→(i:Nat)→es.length=(ys.drop i).length→(∀ e∈es,e.2.length≤maxLen)→qh ys es i=some (cond (decide (es=ys.drop i)) (.inl ()) (.inr false))
 | [],i,h,_=>by
  have:ys.drop i=[]:=List.length_eq_zero_iff.1 h.symm
  rw[this]; rfl
 | e::es,i,h,hm=>by
  unfold qh
  rw[List.length_cons,List.length_drop] at h
  have hi:i<ys.length:=by omega
  rw[zJ,List.getElem?_eq_getElem hi,Option.bind_some,List.drop_eq_getElem_cons hi,zlb ys es (i+1) (by rw[List.length_drop]; omega) (fun x hx=>hm x (by simp [hx]))]
  generalize ys[i]=y
  obtain⟨a,b⟩:=e
  obtain⟨c,d⟩:=y
  have hb:b.length≤maxLen:=hm (a,b) (by simp)
  simp only[Option.bind_some,zfT hb]
  by_cases h1:a=c
  ·subst h1
   by_cases h2:b=d
   ·subst h2
    simp
   ·have:¬((a,b)::es=(a,d)::ys.drop (i+1)):=fun h=>by injection h with h _; injection h with _ h; exact h2 h
    simp [h2,this]
  ·have:¬((a,b)::es=(c,d)::ys.drop (i+1)):=fun h=>by injection h with h _; injection h with h _; exact h1 h
   have h3:(a==c)=false:=by simpa using h1
   rw[h3,decide_eq_false this]; rfl
theorem zfO {xs ys:List zt} (h:xs.length≤maxLen) (hm:∀ e∈xs,e.2.length≤maxLen):zcm xs ys=some (decide (xs=ys)):=by
 unfold zcm
 by_cases hl:xs.length=ys.length
 ·rw[show (((List.length xs:Nat):Int) != ((List.length ys:Nat):Int))=false from by simp [hl],cond_false,zfy _ _ h,zlb ys xs 0 hl hm,List.drop_zero]
  cases decide (xs=ys)<;>rfl
 ·rw[show (((List.length xs:Nat):Int) != ((List.length ys:Nat):Int))=true from by simp; omega,cond_true,decide_eq_false (by intro h; subst h; exact hl rfl)]
theorem zmy (ys:List jI):(es:List jI)→(i:Nat)→es.length=(ys.drop i).length→(∀ e∈es,e.length≤maxLen)→qi ys es i=some (cond (decide (es=ys.drop i)) (.inl ()) (.inr false))
 | [],i,h,_=>by
  have:ys.drop i=[]:=List.length_eq_zero_iff.1 h.symm
  rw[this]; rfl
 | e::es,i,h,hm=>by
  unfold qi
  rw[List.length_cons,List.length_drop] at h
  have hi:i<ys.length:=by omega
  rw[zJ,List.getElem?_eq_getElem hi,Option.bind_some,List.drop_eq_getElem_cons hi,zfT (hm e (by simp)),Option.bind_some,zmy ys es (i+1) (by rw[List.length_drop]; omega) (fun x hx=>hm x (by simp [hx]))]
  generalize ys[i]=y
  by_cases h1:e=y
  ·subst h1
   simp
  ·have:¬(e::es=y::ys.drop (i+1)):=fun h=>by injection h with h _; exact h1 h
   rw[decide_eq_false h1,decide_eq_false this]; rfl
theorem zkG {xs ys:List jI} (h:xs.length≤maxLen) (hm:∀ e∈xs,e.length≤maxLen):zdt xs ys=some (decide (xs=ys)):=by
 unfold zdt
 by_cases hl:xs.length=ys.length
 ·rw[show (((List.length xs:Nat):Int) != ((List.length ys:Nat):Int))=false from by simp [hl],cond_false,zfF _ _ h,zmy ys xs 0 hl hm,List.drop_zero]
  cases decide (xs=ys)<;>rfl
 ·rw[show (((List.length xs:Nat):Int) != ((List.length ys:Nat):Int))=true from by simp; omega,cond_true,decide_eq_false (by intro h; subst h; exact hl rfl)]
theorem zb4 {a0:List zt} {a1:List jI} {a2:List zt} (h0:a0.length≤maxLen) (h0m:∀ e∈a0,e.2.length≤maxLen) (h1:a1.length≤maxLen) (h1m:∀ e∈a1,e.length≤maxLen) (h2:a2.length≤maxLen) (h2m:∀ e∈a2,e.2.length≤maxLen) :
  yU a0 a1 a2 a0 a1 a2=some true:=by
 unfold yU
 rw[zfO h0 h0m,zkG h1 h1m,zfO h2 h2m]
 simp
theorem zEL {α:Type} {f:α→Nat} {xs:List α} {x:α} (h:x∈xs):f x≤(xs.map f).sum:=by
 induction xs with
 | nil=>cases h
 | cons y ys ih =>
  simp only[List.map_cons,List.sum_cons]
  rcases List.mem_cons.1 h with rfl | h
  ·omega
  ·have:=ih h; omega
theorem zER {α:Type} {f:α→Nat} (hf:∀ x,1≤f x) (xs:List α):xs.length≤(xs.map f).sum:=by
 induction xs with
 | nil=>simp
 | cons y ys ih =>
  simp only[List.map_cons,List.sum_cons,List.length_cons]
  have:=hf y
  omega
theorem zyt (xs:List Int):wt (.sl (.one (.int .i64))) xs=xs.length+1:=by
 show (List.map (fun _=>1) xs).sum+1=_
 congr 1
 induction xs with
 | nil=>rfl
 | cons y ys ih=>simp only[List.map_cons,List.sum_cons,List.length_cons,ih]; omega
theorem zIO (l:zt):wtT zdj l=l.2.length+2:=by
 show 1+wt (.sl (.one (.int .i64))) l.2=_
 rw[zyt]; omega
theorem zzA {ls:List zt} {b:Nat} (h:wt (.sl zdj) ls≤b):ls.length≤b∧∀ l∈ls,l.2.length≤b:=by
 have e:(wtT zdj:zt→Nat)=fun l=>l.2.length+2:=funext zIO
 have h:(List.map (wtT zdj:zt→Nat) ls).sum+1≤b:=h
 rw[e] at h
 replace h:(List.map (fun l:zt=>l.2.length+2) ls).sum+1≤b:=h
 have h1:=zER (f:=fun l:zt=>l.2.length+2) (fun l=>by omega) ls
 refine ⟨by omega,fun l hl => ?_⟩
 have:=zEL (f:=fun l:zt=>l.2.length+2) hl
 omega
theorem zGD {rs:List jI} {b:Nat} (h:wt (.sl (.one (.sl (.one (.int .i64))))) rs≤b):rs.length≤b∧∀ l∈rs,l.length≤b:=by
 have e:(wtT (.one (.sl (.one (.int .i64)))):List Int→Nat)=fun l=>l.length+1:=funext zyt
 have h:(List.map (wtT (.one (.sl (.one (.int .i64)))):List Int→Nat) rs).sum+1≤b:=h
 rw[e] at h
 replace h:(List.map (fun l:List Int=>l.length+1) rs).sum+1≤b:=h
 have h1:=zER (f:=fun l:List Int=>l.length+1) (fun l=>by omega) rs
 refine ⟨by omega,fun l hl => ?_⟩
 have:=zEL (f:=fun l:List Int=>l.length+1) hl
 omega
end
end Go.Abs.Q
namespace Go.Abs.Q
open Go Go.Abs
end Go.Abs.Q
namespace Go.Abs.Q
open Go Go.Abs
end Go.Abs.Q
namespace Go.Abs.Q
open Go Go.Abs
section
end
end Go.Abs.Q
namespace Go.Abs.Q
open Go Go.Abs
def z6 (rec:(jR×jR×Int×Int×(List (jI×Int×jI×Int))×jI×Int×jI×Int)→Option (List (jI×Int×jI×Int))) (x:(jR×jR×Int×Int×(List (jI×Int×jI×Int))×jI×Int×jI×Int)):Option (List (jI×Int×jI×Int)) :=
 cond (decide (x.2.2.2.1<x.2.2.1))
 ((gx x.1 x.2.2.2.1).bind fun e7 =>
  (gx x.2.1 x.2.2.2.1).bind fun e8 =>
  cond (yY (List.length x.2.2.2.2.1+List.length ([(e7,x.2.2.2.2.2.2.1,e8,x.2.2.2.2.2.2.2.2)]:List (jI×Int×jI×Int))) 64)
  (rec (x.1,x.2.1,x.2.2.1,(IntKind.wrap .i64 (x.2.2.2.1+1)),(x.2.2.2.2.1++([(e7,x.2.2.2.2.2.2.1,e8,x.2.2.2.2.2.2.2.2)]:List (jI×Int×jI×Int))),x.2.2.2.2.2.1,x.2.2.2.2.2.2.1,x.2.2.2.2.2.2.2.1,x.2.2.2.2.2.2.2.2))
  (none))
 (some x.2.2.2.2.1)
def qN (a0:jI) (a1:Int) (a2:jI) (a3:Int) (a4:jS) (a5:(List ((Option jI)×Int))) (a6:(List (jI×Int×jI×Int))):Option (List (jI×Int×jI×Int)) :=
 (zbG a4 a0).bind fun r10 =>
 (zbG a4 a2).bind fun r11 =>
 ((lp z6 zp) (r10,r11,((List.length r10:Nat):Int),0,a6,a0,a1,a2,a3)).bind fun r12 =>
 some r12
def yR (a0:jI) (a1:Int) (a2:Int):Option Int :=
 (yo a2).bind fun r2 =>
 some (IntKind.wrap .i64 (r2+a1))
def zaA (rec:(jS×(List ((Option jI)×Int))×jI×Int×Int)→Option (jI×Int)) (x:(jS×(List ((Option jI)×Int))×jI×Int×Int)):Option (jI×Int) :=
 (gx x.2.2.1 0).bind fun e6 =>
 cond (decide (e6<0))
 ((gx x.2.2.1 0).bind fun e7 =>
  (yR x.2.2.1 x.2.2.2.1 e7).bind fun r8 =>
  (inR r8 48).bind fun k9 =>
  (x.2.1[k9]?).bind fun x10 =>
  cond (Option.isNone x10.1)
  (some (x.2.2.1,x.2.2.2.1))
  (rec (x.1,x.2.1,(Option.getD x10.1 []),x10.2,x.2.2.2.2)))
 (some (x.2.2.1,x.2.2.2.1))
def za6 (a0:jI) (a1:Int) (a2:jS) (a3:(List ((Option jI)×Int))):Option (jI×Int) :=
 ((lp zaA zp) (a2,a3,a0,a1,0)).bind fun r12 =>
 some (r12.1,r12.2)
def yl (rec:(Int×jI×Int×Int×jS×(List ((Option jI)×Int))×jI×Int×(List Bool)×(List (jI×Int)))→Option (((List Bool)×(List (jI×Int)))⊕Bool)) (x:(Int×jI×Int×Int×jS×(List ((Option jI)×Int))×jI×Int×(List Bool)×(List (jI×Int)))):Option (((List Bool)×(List (jI×Int)))⊕Bool) :=
 cond (decide (x.2.2.2.1<x.2.2.1))
 ((gx x.2.1 x.2.2.2.1).bind fun e14 =>
  cond (decide (e14≥0))
  (rec (x.1,x.2.1,x.2.2.1,(IntKind.wrap .i64 (x.2.2.2.1+1)),x.2.2.2.2.1,x.2.2.2.2.2.1,x.2.2.2.2.2.2.1,x.2.2.2.2.2.2.2.1,x.2.2.2.2.2.2.2.2.1,x.2.2.2.2.2.2.2.2.2))
  ((yR x.2.2.2.2.2.2.1 x.2.2.2.2.2.2.2.1 e14).bind fun r15 =>
   cond (r15==x.1)
   (some (Sum.inr true))
   ((inR r15 48).bind fun k16 =>
    (x.2.2.2.2.2.2.2.2.1[k16]?).bind fun x17 =>
    cond (!x17)
    ((inR r15 48).bind fun k18 =>
     (x.2.2.2.2.2.1[k18]?).bind fun x19 =>
     cond (!(Option.isNone x19.1))
     ((inR r15 48).bind fun k20 =>
      (x.2.2.2.2.2.2.2.2.1[k20]?).bind fun x21 =>
      (inR r15 48).bind fun k22 =>
      (x.2.2.2.2.2.1[k22]?).bind fun x23 =>
      cond (yY (List.length x.2.2.2.2.2.2.2.2.2+List.length ([((Option.getD x23.1 []),x23.2)]:List (jI×Int))) 32)
      (rec (x.1,x.2.1,x.2.2.1,(IntKind.wrap .i64 (x.2.2.2.1+1)),x.2.2.2.2.1,x.2.2.2.2.2.1,x.2.2.2.2.2.2.1,x.2.2.2.2.2.2.2.1,(List.set x.2.2.2.2.2.2.2.2.1 k20 true),(x.2.2.2.2.2.2.2.2.2++([((Option.getD x23.1 []),x23.2)]:List (jI×Int)))))
      (none))
     (rec (x.1,x.2.1,x.2.2.1,(IntKind.wrap .i64 (x.2.2.2.1+1)),x.2.2.2.2.1,x.2.2.2.2.2.1,x.2.2.2.2.2.2.1,x.2.2.2.2.2.2.2.1,x.2.2.2.2.2.2.2.2.1,x.2.2.2.2.2.2.2.2.2)))
    (rec (x.1,x.2.1,x.2.2.1,(IntKind.wrap .i64 (x.2.2.2.1+1)),x.2.2.2.2.1,x.2.2.2.2.2.1,x.2.2.2.2.2.2.1,x.2.2.2.2.2.2.2.1,x.2.2.2.2.2.2.2.2.1,x.2.2.2.2.2.2.2.2.2)))))
 (some (Sum.inl (x.2.2.2.2.2.2.2.2.1,x.2.2.2.2.2.2.2.2.2)))
def qQ (rec:(Int×jS×(List ((Option jI)×Int))×jI×Int×(List Bool)×(List (jI×Int)))→Option (Unit⊕Bool)) (x:(Int×jS×(List ((Option jI)×Int))×jI×Int×(List Bool)×(List (jI×Int)))):Option (Unit⊕Bool) :=
 cond (decide (((List.length x.2.2.2.2.2.2:Nat):Int)>0))
 ((inR (IntKind.wrap .i64 (((List.length x.2.2.2.2.2.2:Nat):Int) - 1)) (List.length x.2.2.2.2.2.2)).bind fun k32 =>
  (x.2.2.2.2.2.2[k32]?).bind fun x33 =>
  (zck x.2.2.2.2.2.2 none (some (IntKind.wrap .i64 (((List.length x.2.2.2.2.2.2:Nat):Int) - 1)))).bind fun y34 =>
  ((lp yl zp) (x.1,x33.1,((List.length x33.1:Nat):Int),0,x.2.1,x.2.2.1,x33.1,x33.2,x.2.2.2.2.2.1,y34)).bind fun r35 =>
  qL r35
  (fun z36=>rec (x.1,x.2.1,x.2.2.1,x33.1,x33.2,z36.1,z36.2))
  (fun z37=>some (Sum.inr z37)))
 (some (Sum.inl ()))
def zb8 (a0:Int) (a1:jI) (a2:Int) (a3:jS) (a4:(List ((Option jI)×Int))):Option Bool :=
 ((lp qQ zp) (a0,a3,a4,a1,a2,(List.replicate 48 false),([(a1,a2)]:List (jI×Int)))).bind fun r41 =>
 qL r41
 (fun z42=>some false)
 (fun z43=>some z43)
def qx (a0:jI) (a1:Int) (a2:jI) (a3:Int) (a4:jS) (a5:(List ((Option jI)×Int))):Option (Bool×jS×(List ((Option jI)×Int))) :=
 (gx a0 0).bind fun e16 =>
 (yR a0 a1 e16).bind fun r17 =>
 (gx a2 0).bind fun e18 =>
 cond (decide (e18≥0))
 ((zb8 r17 a2 a3 a4 a5).bind fun r19 =>
  cond r19
  (some (false,a4,a5))
  ((inR r17 48).bind fun k20 =>
   (a5[k20]?).bind fun x21 =>
   (nn a2).bind fun p22 =>
   some (true,a4,(List.set a5 k20 ((some p22),a3)))))
 ((gx a2 0).bind fun e23 =>
  (yR a2 a3 e23).bind fun r24 =>
  cond (decide (r24>r17))
  ((inR r24 48).bind fun k25 =>
   (a5[k25]?).bind fun x26 =>
   (nn a0).bind fun p27 =>
   some (true,a4,(List.set a5 k25 ((some p27),a1))))
  (cond (decide (r24<r17))
   ((inR r17 48).bind fun k28 =>
    (a5[k28]?).bind fun x29 =>
    (nn a2).bind fun p30 =>
    some (true,a4,(List.set a5 k28 ((some p30),a3))))
   (some (true,a4,a5))))
def zI (rec:(jS×(List ((Option jI)×Int))×(List (jI×Int×jI×Int)))→Option (Bool×jS×(List ((Option jI)×Int)))) (x:(jS×(List ((Option jI)×Int))×(List (jI×Int×jI×Int)))):Option (Bool×jS×(List ((Option jI)×Int))) :=
 cond (((List.length x.2.2:Nat):Int)==0)
 (some (true,x.1,x.2.1))
 ((inR (IntKind.wrap .i64 (((List.length x.2.2:Nat):Int) - 1)) (List.length x.2.2)).bind fun k27 =>
  (x.2.2[k27]?).bind fun x28 =>
  (za6 x28.1 x28.2.1 x.1 x.2.1).bind fun r29 =>
  (inR (IntKind.wrap .i64 (((List.length x.2.2:Nat):Int) - 1)) (List.length x.2.2)).bind fun k30 =>
  (x.2.2[k30]?).bind fun x31 =>
  (za6 x31.2.2.1 x31.2.2.2 x.1 x.2.1).bind fun r32 =>
  (zck x.2.2 none (some (IntKind.wrap .i64 (((List.length x.2.2:Nat):Int) - 1)))).bind fun y33 =>
  (gx r29.1 0).bind fun e34 =>
  cond (decide (e34<0))
  ((qx r29.1 r29.2 r32.1 r32.2 x.1 x.2.1).bind fun r35 =>
   cond r35.1
   (rec (r35.2.1,r35.2.2,y33))
   (some (false,r35.2.1,r35.2.2)))
  ((gx r32.1 0).bind fun e36 =>
   cond (decide (e36<0))
   ((qx r32.1 r32.2 r29.1 r29.2 x.1 x.2.1).bind fun r37 =>
    cond r37.1
    (rec (r37.2.1,r37.2.2,y33))
    (some (false,r37.2.1,r37.2.2)))
   ((gx r29.1 0).bind fun e38 =>
    (gx r32.1 0).bind fun e39 =>
    cond (e38 != e39)
    (some (false,x.1,x.2.1))
    ((zck r29.1 (some 1) none).bind fun y40 =>
     (zck r32.1 (some 1) none).bind fun y41 =>
     (qN y40 r29.2 y41 r32.2 x.1 x.2.1 y33).bind fun r42 =>
     rec (x.1,x.2.1,r42)))))
def zaL (a0:jI) (a1:Int) (a2:jI) (a3:Int) (a4:jS) (a5:(List ((Option jI)×Int))):Option (Bool×jS×(List ((Option jI)×Int))) :=
 (qN a0 a1 a2 a3 a4 a5 ([]:(List (jI×Int×jI×Int)))).bind fun r53 =>
 cond (((List.length r53:Nat):Int)==0)
 (some (true,a4,a5))
 ((inR (IntKind.wrap .i64 (((List.length r53:Nat):Int) - 1)) (List.length r53)).bind fun k54 =>
  (r53[k54]?).bind fun x55 =>
  (za6 x55.1 x55.2.1 a4 a5).bind fun r56 =>
  (inR (IntKind.wrap .i64 (((List.length r53:Nat):Int) - 1)) (List.length r53)).bind fun k57 =>
  (r53[k57]?).bind fun x58 =>
  (za6 x58.2.2.1 x58.2.2.2 a4 a5).bind fun r59 =>
  (zck r53 none (some (IntKind.wrap .i64 (((List.length r53:Nat):Int) - 1)))).bind fun y60 =>
  (gx r56.1 0).bind fun e61 =>
  cond (decide (e61<0))
  ((qx r56.1 r56.2 r59.1 r59.2 a4 a5).bind fun r62 =>
   cond r62.1
   ((((lp zI zp) (r62.2.1,r62.2.2,y60))).bind fun r63 =>
    some (r63.1,r63.2.1,r63.2.2))
   (some (false,r62.2.1,r62.2.2)))
  ((gx r59.1 0).bind fun e64 =>
   cond (decide (e64<0))
   ((qx r59.1 r59.2 r56.1 r56.2 a4 a5).bind fun r65 =>
    cond r65.1
    ((((lp zI zp) (r65.2.1,r65.2.2,y60))).bind fun r66 =>
     some (r66.1,r66.2.1,r66.2.2))
    (some (false,r65.2.1,r65.2.2)))
   ((gx r56.1 0).bind fun e67 =>
    (gx r59.1 0).bind fun e68 =>
    cond (e67 != e68)
    (some (false,a4,a5))
    ((zck r56.1 (some 1) none).bind fun y69 =>
     (zck r59.1 (some 1) none).bind fun y70 =>
     (qN y69 r56.2 y70 r59.2 a4 a5 y60).bind fun r71 =>
     (((lp zI zp) (a4,a5,r71))).bind fun r72 =>
     some (r72.1,r72.2.1,r72.2.2)))))
def zao (a0:(Option jI)) (a1:Int) (a2:Int):Option Int :=
 (yo a2).bind fun r2 =>
 some (IntKind.wrap .i64 (r2+a1))
def yr (rf:(((Option jI)×Int×jS×(List ((Option jI)×Int)))→Option (Option jI))) (rec:((Option jI)×Int×Int×jS×(List ((Option jI)×Int))×(Option jI)×Int×jI)→Option (jI⊕Unit)) (x:((Option jI)×Int×Int×jS×(List ((Option jI)×Int))×(Option jI)×Int×jI)):Option (jI⊕Unit) :=
 cond (decide (x.2.2.1<x.2.1))
 ((gx (Option.getD x.1 []) x.2.2.1).bind fun e27 =>
  cond (decide (e27<0))
  ((zao x.2.2.2.2.2.1 x.2.2.2.2.2.2.1 e27).bind fun r28 =>
   (inR r28 48).bind fun k29 =>
   (x.2.2.2.2.1[k29]?).bind fun x30 =>
   cond (!(Option.isNone x30.1))
   ((zao x.2.2.2.2.2.1 x.2.2.2.2.2.2.1 e27).bind fun r31 =>
    (inR r31 48).bind fun k32 =>
    (x.2.2.2.2.1[k32]?).bind fun x33 =>
    (rf (x33.1,x33.2,x.2.2.2.1,x.2.2.2.2.1)).bind fun r34 =>
    cond (Option.isNone r34)
    (some (Sum.inr ()))
    (cond (decide ((IntKind.wrap .i64 (((List.length x.2.2.2.2.2.2.2:Nat):Int)+((List.length (Option.getD r34 []):Nat):Int)))>48))
     (some (Sum.inr ()))
     (cond (yY (List.length x.2.2.2.2.2.2.2+List.length (Option.getD r34 [])) 8)
      (rec (x.1,x.2.1,(IntKind.wrap .i64 (x.2.2.1+1)),x.2.2.2.1,x.2.2.2.2.1,x.2.2.2.2.2.1,x.2.2.2.2.2.2.1,(x.2.2.2.2.2.2.2++(Option.getD r34 []))))
      (none))))
   ((((nn ([e27]:List Int)).bind fun _ =>
     some false)).bind fun z35 =>
    cond z35
    (some (Sum.inr ()))
    (cond (decide ((IntKind.wrap .i64 (((List.length x.2.2.2.2.2.2.2:Nat):Int)+((List.length ([e27]:List Int):Nat):Int)))>48))
     (some (Sum.inr ()))
     (cond (yY (List.length x.2.2.2.2.2.2.2+List.length ([e27]:List Int)) 8)
      (rec (x.1,x.2.1,(IntKind.wrap .i64 (x.2.2.1+1)),x.2.2.2.1,x.2.2.2.2.1,x.2.2.2.2.2.1,x.2.2.2.2.2.2.1,(x.2.2.2.2.2.2.2++([e27]:List Int))))
      (none)))))
  ((((nn ([e27]:List Int)).bind fun _ =>
    some false)).bind fun z36 =>
   cond z36
   (some (Sum.inr ()))
   (cond (decide ((IntKind.wrap .i64 (((List.length x.2.2.2.2.2.2.2:Nat):Int)+((List.length ([e27]:List Int):Nat):Int)))>48))
    (some (Sum.inr ()))
    (cond (yY (List.length x.2.2.2.2.2.2.2+List.length ([e27]:List Int)) 8)
     (rec (x.1,x.2.1,(IntKind.wrap .i64 (x.2.2.1+1)),x.2.2.2.1,x.2.2.2.2.1,x.2.2.2.2.2.1,x.2.2.2.2.2.2.1,(x.2.2.2.2.2.2.2++([e27]:List Int))))
     (none)))))
 (some (Sum.inl x.2.2.2.2.2.2.2))
def zcS (rf:(((Option jI)×Int×jS×(List ((Option jI)×Int)))→Option (Option jI))) (a0:(Option jI)) (a1:Int) (a2:jS) (a3:(List ((Option jI)×Int))):Option (Option jI) :=
 ((lp (yr rf) zp) (a0,((List.length (Option.getD a0 []):Nat):Int),0,a2,a3,a0,a1,([]:jI))).bind fun r40 =>
 qL r40
 (fun z41=>((nn z41).bind fun z=>some ((2:Nat),some z)).bind fun p42 =>
  some p42.2)
 (fun z43=>some (none:(Option jI)))
def zf3 (rf:(((Option jI)×Int×jS×(List ((Option jI)×Int)))→Option (Option jI))):(((Option jI)×Int×jS×(List ((Option jI)×Int)))→Option (Option jI)) :=
 fun (x:((Option jI)×Int×jS×(List ((Option jI)×Int))))=>zcS rf x.1 x.2.1 x.2.2.1 x.2.2.2
def zf2:(((Option jI)×Int×jS×(List ((Option jI)×Int)))→Option (Option jI)):=fun _=>none
def qr (k:Nat):(((Option jI)×Int×jS×(List ((Option jI)×Int)))→Option (Option jI)):=lpR zf2 zf3 k
def zdM (a0:(Option jI)) (a1:Int) (a2:jS) (a3:(List ((Option jI)×Int))):Option (Option jI):=(qr zp) (a0,a1,a2,a3)
def zay (rec:(Int×jS×(List ((Option jI)×Int))×(List (Int×jI)))→Option ((List (Int×jI))⊕(Bool×Int))) (x:(Int×jS×(List ((Option jI)×Int))×(List (Int×jI)))):Option ((List (Int×jI))⊕(Bool×Int)) :=
 cond (decide (x.1<24))
 ((inR x.1 48).bind fun k16 =>
  (x.2.2.1[k16]?).bind fun x17 =>
  cond (Option.isNone x17.1)
  (rec ((IntKind.wrap .i64 (x.1+1)),x.2.1,x.2.2.1,x.2.2.2))
  ((inR x.1 48).bind fun k18 =>
   (x.2.2.1[k18]?).bind fun x19 =>
   (zdM x19.1 x19.2 x.2.1 x.2.2.1).bind fun r20 =>
   cond (Option.isNone r20)
   (some (Sum.inr (false,401)))
   ((zb2 (Option.getD r20 [])).bind fun r21 =>
    cond (yY (List.length x.2.2.2+List.length ([(x.1,r21)]:List (Int×jI))) 32)
    (rec ((IntKind.wrap .i64 (x.1+1)),x.2.1,x.2.2.1,(x.2.2.2++([(x.1,r21)]:List (Int×jI)))))
    (none))))
 (some (Sum.inl x.2.2.2))
def zd0 (a0:jS) (a1:jI) (a2:jI):Option (Bool×Int×(List (Int×jI))) :=
 (ze8 a0 a1).bind fun r25 =>
 (ze8 a0 a2).bind fun r26 =>
 cond (r25.2 != 0)
 (some (false,400,([]:(List (Int×jI)))))
 (cond (r26.2 != 0)
  (some (false,400,([]:(List (Int×jI)))))
  (cond (r25.1 != r26.1)
   (some (false,0,([]:(List (Int×jI)))))
   ((zaL a1 0 a2 0 a0 (List.replicate 48 ((none:(Option jI)),(0:Int)))).bind fun r27 =>
    cond (!r27.1)
    (some (false,0,([]:(List (Int×jI)))))
    (((lp zay zp) (0,r27.2.1,r27.2.2,([]:(List (Int×jI))))).bind fun r28 =>
     qL r28
     (fun z29=>some (true,0,z29))
     (fun z30=>some (z30.1,z30.2,([]:(List (Int×jI)))))))))
def zfe (a0:Int):Option jR :=
 cond (decide (a0<0))
 (none)
 (cond (decide ((IntKind.wrap .i64 (a0 - 0))>0))
  (cond (eqI 0 0&&eqI 0 0)
   (cond (zuF (IntKind.wrap .i64 (a0 - 0)))
    (cond (yY (Int.toNat (IntKind.wrap .i64 (a0 - 0))) 24)
     ((zck (List.replicate (Int.toNat (IntKind.wrap .i64 (a0 - 0))) ([]:jI)) none (some 0)).bind fun y2 =>
      some y2)
     (none))
    (none))
   (none))
  (some ([]:jR)))
def y9 (rec:((List jR)×Int×Int×jR)→Option jR) (x:((List jR)×Int×Int×jR)):Option jR :=
 cond (decide (x.2.2.1<x.2.1))
 ((gx x.1 x.2.2.1).bind fun e7 =>
  cond (yY (List.length x.2.2.2+List.length e7) 24)
  (rec (x.1,x.2.1,(IntKind.wrap .i64 (x.2.2.1+1)),(x.2.2.2++e7)))
  (none))
 (some x.2.2.2)
def y5 (rec:((List jR)×Int×(List jR)×Int×Int)→Option Int) (x:((List jR)×Int×(List jR)×Int×Int)):Option Int :=
 cond (decide (x.2.2.2.2<x.2.2.2.1))
 ((gx x.2.2.1 x.2.2.2.2).bind fun e2 =>
  cond (decide ((IntKind.wrap .i64 (x.2.1+((List.length e2:Nat):Int)))<0))
  (none)
  (rec (x.1,(IntKind.wrap .i64 (x.2.1+((List.length e2:Nat):Int))),x.2.2.1,x.2.2.2.1,(IntKind.wrap .i64 (x.2.2.2.2+1)))))
 (some x.2.1)
def zdy (a0:(List jR)):Option jR :=
 ((lp y5 zp) (a0,0,a0,((List.length a0:Nat):Int),0)).bind fun r9 =>
 (zfe r9).bind fun r10 =>
 ((lp y9 zp) (a0,((List.length a0:Nat):Int),0,r10)).bind fun r11 =>
 some r11
def zdx (a0:Int):Option jQ :=
 cond (decide (a0<0))
 (none)
 (cond (decide ((IntKind.wrap .i64 (a0 - 0))>0))
  (cond (eqI 0 0&&eqI 0 0)
   (cond (zuF (IntKind.wrap .i64 (a0 - 0)))
    (cond (yY (Int.toNat (IntKind.wrap .i64 (a0 - 0))) 32)
     ((zck (List.replicate (Int.toNat (IntKind.wrap .i64 (a0 - 0))) (false,([]:jI))) none (some 0)).bind fun y2 =>
      some y2)
     (none))
    (none))
   (none))
  (some ([]:jQ)))
def yu (rec:((List jQ)×Int×Int×jQ)→Option jQ) (x:((List jQ)×Int×Int×jQ)):Option jQ :=
 cond (decide (x.2.2.1<x.2.1))
 ((gx x.1 x.2.2.1).bind fun e7 =>
  cond (yY (List.length x.2.2.2+List.length e7) 32)
  (rec (x.1,x.2.1,(IntKind.wrap .i64 (x.2.2.1+1)),(x.2.2.2++e7)))
  (none))
 (some x.2.2.2)
def yv (rec:((List jQ)×Int×(List jQ)×Int×Int)→Option Int) (x:((List jQ)×Int×(List jQ)×Int×Int)):Option Int :=
 cond (decide (x.2.2.2.2<x.2.2.2.1))
 ((gx x.2.2.1 x.2.2.2.2).bind fun e2 =>
  cond (decide ((IntKind.wrap .i64 (x.2.1+((List.length e2:Nat):Int)))<0))
  (none)
  (rec (x.1,(IntKind.wrap .i64 (x.2.1+((List.length e2:Nat):Int))),x.2.2.1,x.2.2.2.1,(IntKind.wrap .i64 (x.2.2.2.2+1)))))
 (some x.2.1)
def zbR (a0:(List jQ)):Option jQ :=
 ((lp yv zp) (a0,0,a0,((List.length a0:Nat):Int),0)).bind fun r9 =>
 (zdx r9).bind fun r10 =>
 ((lp yu zp) (a0,((List.length a0:Nat):Int),0,r10)).bind fun r11 =>
 some r11
def qC (rec:(Int×jQ×Int×Int×jR×jQ×jQ)→Option (jR×jQ×jQ)) (x:(Int×jQ×Int×Int×jR×jQ×jQ)):Option (jR×jQ×jQ) :=
 cond (decide (x.2.2.2.1<x.2.2.1))
 ((gx x.2.1 x.2.2.2.1).bind fun e8 =>
  cond (x.2.2.2.1 != x.1)
  (cond (yY (List.length x.2.2.2.2.2.1+List.length ([(e8.1,e8.2)]:List zt)) 32)
   (rec (x.1,x.2.1,x.2.2.1,(IntKind.wrap .i64 (x.2.2.2.1+1)),x.2.2.2.2.1,(x.2.2.2.2.2.1++([(e8.1,e8.2)]:List zt)),x.2.2.2.2.2.2))
   (none))
  (rec (x.1,x.2.1,x.2.2.1,(IntKind.wrap .i64 (x.2.2.2.1+1)),x.2.2.2.2.1,x.2.2.2.2.2.1,x.2.2.2.2.2.2)))
 (some (x.2.2.2.2.1,x.2.2.2.2.2.1,x.2.2.2.2.2.2))
def qF (rec:(Int×Int×jQ×Int×Int×jQ×jR×jQ×jR×jQ×jQ)→Option (jR×jQ×jQ)) (x:(Int×Int×jQ×Int×Int×jQ×jR×jQ×jR×jQ×jQ)):Option (jR×jQ×jQ) :=
 cond (decide (x.2.2.2.2.1<x.2.2.2.1))
 ((gx x.2.2.1 x.2.2.2.2.1).bind fun e5 =>
  cond (x.2.2.2.2.1 != x.1)
  (cond (yY (List.length x.2.2.2.2.2.2.2.2.2.1+List.length ([(e5.1,e5.2)]:List zt)) 32)
   (rec (x.1,x.2.1,x.2.2.1,x.2.2.2.1,(IntKind.wrap .i64 (x.2.2.2.2.1+1)),x.2.2.2.2.2.1,x.2.2.2.2.2.2.1,x.2.2.2.2.2.2.2.1,x.2.2.2.2.2.2.2.2.1,(x.2.2.2.2.2.2.2.2.2.1++([(e5.1,e5.2)]:List zt)),x.2.2.2.2.2.2.2.2.2.2))
   (none))
  (rec (x.1,x.2.1,x.2.2.1,x.2.2.2.1,(IntKind.wrap .i64 (x.2.2.2.2.1+1)),x.2.2.2.2.2.1,x.2.2.2.2.2.2.1,x.2.2.2.2.2.2.2.1,x.2.2.2.2.2.2.2.2.1,x.2.2.2.2.2.2.2.2.2.1,x.2.2.2.2.2.2.2.2.2.2)))
 (some (x.2.2.2.2.2.2.2.2.1,x.2.2.2.2.2.2.2.2.2.1,x.2.2.2.2.2.2.2.2.2.2))
def zem (a0:jQ) (a1:jR) (a2:jQ) (a3:Int) (a4:jQ) (a5:jR) (a6:jQ) (a7:Int):Option (jR×jQ×jQ) :=
 (zdy ([a1,a5]:List jR)).bind fun r10 =>
 (zbR ([a2,a6]:List jQ)).bind fun r11 =>
 ((lp qF zp) (a3,a7,a0,((List.length a0:Nat):Int),0,a4,a5,a6,r10,([]:jQ),r11)).bind fun r12 =>
 ((lp qC zp) (a7,a4,((List.length a4:Nat):Int),0,r12.1,r12.2.1,r12.2.2)).bind fun r13 =>
 some (r13.1,r13.2.1,r13.2.2)
def zaS (rec:(Int×(List (Int×jI))×Int×Int)→Option (Unit⊕jI)) (x:(Int×(List (Int×jI))×Int×Int)):Option (Unit⊕jI) :=
 cond (decide (x.2.2.2<x.2.2.1))
 ((gx x.2.1 x.2.2.2).bind fun e2 =>
  cond (e2.1==x.1)
  (some (Sum.inr e2.2))
  (rec (x.1,x.2.1,x.2.2.1,(IntKind.wrap .i64 (x.2.2.2+1)))))
 (some (Sum.inl ()))
def zgp (a0:(List (Int×jI))) (a1:Int):Option (Option jI) :=
 ((lp zaS zp) (a1,a0,((List.length a0:Nat):Int),0)).bind fun r6 =>
 qL r6
 (fun z7=>some (none:(Option jI)))
 (fun z8=>(nn z8).bind fun p9 =>
  some (some p9))
def zbV (rec:((List (Int×jI))×jI×Int×Int×jI)→Option jI) (x:((List (Int×jI))×jI×Int×Int×jI)):Option jI :=
 cond (decide (x.2.2.2.1<x.2.2.1))
 ((gx x.2.1 x.2.2.2.1).bind fun e10 =>
  (yo e10).bind fun r11 =>
  (zgp x.1 r11).bind fun r12 =>
  cond (decide (e10≥0))
  (cond (yY (List.length x.2.2.2.2+List.length ([e10]:List Int)) 8)
   (rec (x.1,x.2.1,x.2.2.1,(IntKind.wrap .i64 (x.2.2.2.1+1)),(x.2.2.2.2++([e10]:List Int))))
   (none))
  (cond (Option.isNone r12)
   (cond (yY (List.length x.2.2.2.2+List.length ([e10]:List Int)) 8)
    (rec (x.1,x.2.1,x.2.2.1,(IntKind.wrap .i64 (x.2.2.2.1+1)),(x.2.2.2.2++([e10]:List Int))))
    (none))
   (cond (yY (List.length x.2.2.2.2+List.length (Option.getD r12 [])) 8)
    (rec (x.1,x.2.1,x.2.2.1,(IntKind.wrap .i64 (x.2.2.2.1+1)),(x.2.2.2.2++(Option.getD r12 []))))
    (none))))
 (some x.2.2.2.2)
def zo4 (a0:(List (Int×jI))) (a1:jI):Option jI :=
 ((lp zbV zp) (a0,a1,((List.length a1:Nat):Int),0,([]:jI))).bind fun r14 =>
 some r14
def zaq (a0:jI) (a1:(List (Int×jI))):Option jI :=
 (zo4 a1 a0).bind fun r2 =>
 some r2
def qU (rec:(jQ×Int×Int×(List (Int×jI))×jQ×jR×jQ)→Option (jQ×jR×jQ)) (x:(jQ×Int×Int×(List (Int×jI))×jQ×jR×jQ)):Option (jQ×jR×jQ) :=
 cond (decide (x.2.2.1<x.2.1))
 ((gx x.1 x.2.2.1).bind fun e19 =>
  (zaq e19.2 x.2.2.2.1).bind fun r20 =>
  cond (yY (List.length x.2.2.2.2.2.2+List.length ([(e19.1,r20)]:List zt)) 32)
  (rec (x.1,x.2.1,(IntKind.wrap .i64 (x.2.2.1+1)),x.2.2.2.1,x.2.2.2.2.1,x.2.2.2.2.2.1,(x.2.2.2.2.2.2++([(e19.1,r20)]:List zt))))
  (none))
 (some (x.2.2.2.2.1,x.2.2.2.2.2.1,x.2.2.2.2.2.2))
def qR (rec:(jR×Int×Int×(List (Int×jI))×jQ×jR×jQ×jQ×jR)→Option (jQ×jR)) (x:(jR×Int×Int×(List (Int×jI))×jQ×jR×jQ×jQ×jR)):Option (jQ×jR) :=
 cond (decide (x.2.2.1<x.2.1))
 ((gx x.1 x.2.2.1).bind fun e12 =>
  (zaq e12 x.2.2.2.1).bind fun r13 =>
  cond (yY (List.length x.2.2.2.2.2.2.2.2+List.length ([r13]:List jI)) 24)
  (rec (x.1,x.2.1,(IntKind.wrap .i64 (x.2.2.1+1)),x.2.2.2.1,x.2.2.2.2.1,x.2.2.2.2.2.1,x.2.2.2.2.2.2.1,x.2.2.2.2.2.2.2.1,(x.2.2.2.2.2.2.2.2++([r13]:List jI))))
  (none))
 (some (x.2.2.2.2.2.2.2.1,x.2.2.2.2.2.2.2.2))
def qZ (rec:(jQ×Int×Int×(List (Int×jI))×jQ×jR×jQ×jQ)→Option jQ) (x:(jQ×Int×Int×(List (Int×jI))×jQ×jR×jQ×jQ)):Option jQ :=
 cond (decide (x.2.2.1<x.2.1))
 ((gx x.1 x.2.2.1).bind fun e5 =>
  (zaq e5.2 x.2.2.2.1).bind fun r6 =>
  cond (yY (List.length x.2.2.2.2.2.2.2+List.length ([(e5.1,r6)]:List zt)) 32)
  (rec (x.1,x.2.1,(IntKind.wrap .i64 (x.2.2.1+1)),x.2.2.2.1,x.2.2.2.2.1,x.2.2.2.2.2.1,x.2.2.2.2.2.2.1,(x.2.2.2.2.2.2.2++([(e5.1,r6)]:List zt))))
  (none))
 (some x.2.2.2.2.2.2.2)
def zh0 (a0:jQ) (a1:jR) (a2:jQ) (a3:(List (Int×jI))):Option (jQ×jR×jQ) :=
 ((lp qZ zp) (a0,((List.length a0:Nat):Int),0,a3,a0,a1,a2,([]:jQ))).bind fun r22 =>
 ((lp qR zp) (a1,((List.length a1:Nat):Int),0,a3,a0,a1,a2,r22,([]:jR))).bind fun r23 =>
 ((lp qU zp) (a2,((List.length a2:Nat):Int),0,a3,r23.1,r23.2,([]:jQ))).bind fun r24 =>
 some (r24.1,r24.2.1,r24.2.2)
def zgj (a0:(List (Int×jI))) (a1:jQ) (a2:jR) (a3:jQ):Option (jQ×jR×jQ) :=
 (zh0 a1 a2 a3 a0).bind fun r2 =>
 some (r2.1,r2.2.1,r2.2.2)
def zlc (a0:Bool) (a1:jI) (a2:jS):Option Bool :=
 (zib a2 a0 a1).bind fun r2 =>
 some (!r2)
def zbL (rec:(jQ×Int×Int×jS)→Option (Unit⊕Int)) (x:(jQ×Int×Int×jS)):Option (Unit⊕Int) :=
 cond (decide (x.2.2.1<x.2.1))
 ((gx x.1 x.2.2.1).bind fun e3 =>
  (zlc e3.1 e3.2 x.2.2.2).bind fun r4 =>
  cond r4
  (some (Sum.inr x.2.2.1))
  (rec (x.1,x.2.1,(IntKind.wrap .i64 (x.2.2.1+1)),x.2.2.2)))
 (some (Sum.inl ()))
def zej (a0:jQ) (a1:jS):Option Int :=
 ((lp zbL zp) (a0,((List.length a0:Nat):Int),0,a1)).bind fun r8 =>
 qL r8
 (fun z9=>some (-1))
 (fun z10=>some z10)
def zdc (a0:jQ) (a1:jS):Option Bool :=
 (zej a0 a1).bind fun r2 =>
 some (decide (r2≥0))
def zii (a0:jS) (a1:jI):Option Bool :=
 (zcQ a0 a1).bind fun r2 =>
 cond r2.1
 (some (((List.length r2.2:Nat):Int)==1))
 (some false)
def zeG (rec:(jI×Int×Int×jI)→Option jI) (x:(jI×Int×Int×jI)):Option jI :=
 cond (decide (x.2.2.1<x.2.1))
 ((gx x.1 x.2.2.1).bind fun e7 =>
  cond (decide (e7<0))
  ((yo e7).bind fun r8 =>
   (inR r8 24).bind fun k9 =>
   (x.2.2.2[k9]?).bind fun x10 =>
   (inR r8 24).bind fun k11 =>
   (x.2.2.2[k11]?).bind fun x12 =>
   rec (x.1,x.2.1,(IntKind.wrap .i64 (x.2.2.1+1)),(List.set x.2.2.2 k11 (IntKind.wrap .i64 (x10+1)))))
  (rec (x.1,x.2.1,(IntKind.wrap .i64 (x.2.2.1+1)),x.2.2.2)))
 (some x.2.2.2)
def ziw (a0:jI):Option jI :=
 ((lp zeG zp) (a0,((List.length a0:Nat):Int),0,(List.replicate 24 (0:Int)))).bind fun r14 =>
 cond (Nat.beq (List.length r14) 24)
 (cond (Nat.beq (List.length r14) 24)
  (cond (Nat.beq (List.length r14) 24)
   (some r14)
   (none))
  (none))
 (none)
def zdJ (rec:(Int×jI×jI)→Option (Unit⊕Bool)) (x:(Int×jI×jI)):Option (Unit⊕Bool) :=
 cond (decide (x.1<24))
 ((inR x.1 24).bind fun k11 =>
  (x.2.1[k11]?).bind fun x12 =>
  (inR x.1 24).bind fun k13 =>
  (x.2.2[k13]?).bind fun x14 =>
  cond (decide (x12<x14))
  (some (Sum.inr false))
  (rec ((IntKind.wrap .i64 (x.1+1)),x.2.1,x.2.2)))
 (some (Sum.inl ()))
def zkn (a0:jI) (a1:jI):Option Bool :=
 (ziw a0).bind fun r18 =>
 (ziw a1).bind fun r19 =>
 cond (Nat.beq (List.length (List.replicate 24 (0:Int))) 24)
 (cond (Nat.beq (List.length (List.replicate 24 (0:Int))) 24)
  (((lp zdJ zp) (0,r18,r19)).bind fun r20 =>
   qL r20
   (fun z21=>some true)
   (fun z22=>some z22))
  (none))
 (none)
def zhU (rec:(jS×Int×jI×Int×Int)→Option Int) (x:(jS×Int×jI×Int×Int)):Option Int :=
 cond (decide (x.2.2.2.2<x.2.2.2.1))
 ((gx x.2.2.1 x.2.2.2.2).bind fun e3 =>
  cond (decide (e3<0))
  (rec (x.1,(IntKind.wrap .i64 (x.2.1+1)),x.2.2.1,x.2.2.2.1,(IntKind.wrap .i64 (x.2.2.2.2+1))))
  ((gx x.1 e3).bind fun e4 =>
   rec (x.1,(IntKind.wrap .i64 (x.2.1+e4.2.2.2)),x.2.2.1,x.2.2.2.1,(IntKind.wrap .i64 (x.2.2.2.2+1)))))
 (some x.2.1)
def zoZ (a0:jS) (a1:jI):Option Int :=
 ((lp zhU zp) (a0,0,a1,((List.length a1:Nat):Int),0)).bind fun r6 =>
 some r6
def zdY (rec:(jR×jR×Int×Int)→Option (Unit⊕(jI×jI))) (x:(jR×jR×Int×Int)):Option (Unit⊕(jI×jI)) :=
 cond (decide (x.2.2.2<x.2.2.1))
 ((gx x.2.1 x.2.2.2).bind fun e7 =>
  cond (decide (x.2.2.2<((List.length x.1:Nat):Int)))
  ((gx x.1 x.2.2.2).bind fun e8 =>
   (qI e7 e8).bind fun r9 =>
   cond (!r9)
   ((gx x.1 x.2.2.2).bind fun e10 =>
    some (Sum.inr (e7,e10)))
   (rec (x.1,x.2.1,x.2.2.1,(IntKind.wrap .i64 (x.2.2.2+1)))))
  (rec (x.1,x.2.1,x.2.2.1,(IntKind.wrap .i64 (x.2.2.2+1)))))
 (some (Sum.inl ()))
def zkC (a0:jS) (a1:jI) (a2:jI):Option (jI×jI) :=
 (zbG a0 a2).bind fun r14 =>
 (zbG a0 a1).bind fun r15 =>
 ((lp zdY zp) (r14,r15,((List.length r15:Nat):Int),0)).bind fun r16 =>
 qL r16
 (fun z17=>some (([]:jI),([]:jI)))
 (fun z18=>some (z18.1,z18.2))
def zfJ (rec:(jS×jI×jI)→Option (Unit⊕Bool)) (x:(jS×jI×jI)):Option (Unit⊕Bool) :=
 (((nn x.2.1).bind fun _ =>
  some false)).bind fun z23 =>
 cond (!z23)
 ((zkn x.2.1 x.2.2).bind fun r24 =>
  cond r24
  ((zoZ x.1 x.2.1).bind fun r25 =>
   (zoZ x.1 x.2.2).bind fun r26 =>
   cond (r25 != r26)
   (some (Sum.inr (decide (r25>r26))))
   ((gx x.2.1 0).bind fun e27 =>
    (gx x.2.2 0).bind fun e28 =>
    cond (e27 != e28)
    ((gx x.2.1 0).bind fun e29 =>
     (gx x.2.2 0).bind fun e30 =>
     some (Sum.inr (decide (e29>e30))))
    ((zck x.2.1 (some 1) none).bind fun y31 =>
     (zck x.2.2 (some 1) none).bind fun y32 =>
     (zkC x.1 y31 y32).bind fun r33 =>
     rec (x.1,r33.1,r33.2))))
  (some (Sum.inl ())))
 (some (Sum.inl ()))
def zbW (a0:jS) (a1:jI) (a2:jI):Option Bool :=
 ((lp zfJ zp) (a0,a1,a2)).bind fun r37 =>
 qL r37
 (fun z38=>some false)
 (fun z39=>some z39)
def zjx (a0:jS) (a1:jI) (a2:jI):Option (Int×Int) :=
 (zii a0 a1).bind fun r19 =>
 cond r19
 ((zii a0 a2).bind fun r20 =>
  (zbK a0 a1).bind fun r21 =>
  cond r21
  ((zbK a0 a2).bind fun r22 =>
   cond (!r20)
   (cond (!r22)
    (some (0,600))
    ((qI a1 a2).bind fun r23 =>
     cond r23
     (some (1,0))
     ((zbW a0 a1 a2).bind fun r24 =>
      cond r24
      (some (2,0))
      ((zbW a0 a2 a1).bind fun r25 =>
       cond r25
       (some (0,0))
       (some (3,0))))))
   ((qI a1 a2).bind fun r26 =>
    cond r26
    (some (1,0))
    ((zbW a0 a1 a2).bind fun r27 =>
     cond r27
     (some (2,0))
     ((zbW a0 a2 a1).bind fun r28 =>
      cond r28
      (some (0,0))
      (some (3,0))))))
  (cond (!r20)
   (some (0,600))
   ((qI a1 a2).bind fun r29 =>
    cond r29
    (some (1,0))
    ((zbW a0 a1 a2).bind fun r30 =>
     cond r30
     (some (2,0))
     ((zbW a0 a2 a1).bind fun r31 =>
      cond r31
      (some (0,0))
      (some (3,0)))))))
 ((zbK a0 a1).bind fun r32 =>
  cond r32
  ((zbK a0 a2).bind fun r33 =>
   cond (!r33)
   (some (0,600))
   ((qI a1 a2).bind fun r34 =>
    cond r34
    (some (1,0))
    ((zbW a0 a1 a2).bind fun r35 =>
     cond r35
     (some (2,0))
     ((zbW a0 a2 a1).bind fun r36 =>
      cond r36
      (some (0,0))
      (some (3,0))))))
  (some (0,600)))
def zld (a0:jS) (a1:Bool) (a2:jI) (a3:Bool) (a4:jI):Option (Int×Int) :=
 (zib a0 a1 a2).bind fun r4 =>
 cond (!r4)
 (some (0,700))
 ((zib a0 a3 a4).bind fun r5 =>
  cond (!r5)
  (some (0,700))
  ((zjx a0 a2 a4).bind fun r6 =>
   cond (r6.1 != 1)
   (some (r6.1,0))
   (cond (a1==a3)
    (some (r6.1,0))
    (cond a1
     (some (2,0))
     (some (0,0))))))
def zlP (a0:Bool) (a1:jI) (a2:jS) (a3:Bool) (a4:jI):Option Bool :=
 (zld a2 a0 a1 a3 a4).bind fun r2 =>
 some (r2.1==2)
def zbF (rec:(jQ×Int×Int×jS×Bool×jI)→Option (Unit⊕Int)) (x:(jQ×Int×Int×jS×Bool×jI)):Option (Unit⊕Int) :=
 cond (decide (x.2.2.1<x.2.1))
 ((gx x.1 x.2.2.1).bind fun e3 =>
  (zlP e3.1 e3.2 x.2.2.2.1 x.2.2.2.2.1 x.2.2.2.2.2).bind fun r4 =>
  cond r4
  (some (Sum.inr x.2.2.1))
  (rec (x.1,x.2.1,(IntKind.wrap .i64 (x.2.2.1+1)),x.2.2.2.1,x.2.2.2.2.1,x.2.2.2.2.2)))
 (some (Sum.inl ()))
def zeh (a0:jQ) (a1:jS) (a2:Bool) (a3:jI):Option Int :=
 ((lp zbF zp) (a0,((List.length a0:Nat):Int),0,a1,a2,a3)).bind fun r8 =>
 qL r8
 (fun z9=>some (-1))
 (fun z10=>some z10)
def zc3 (a0:jQ) (a1:jS) (a2:Bool) (a3:jI):Option Bool :=
 (zeh a0 a1 a2 a3).bind fun r2 =>
 some (decide (r2≥0))
def zh4 (rec:(jQ×jQ×Int×Int×jS×jI)→Option jI) (x:(jQ×jQ×Int×Int×jS×jI)):Option jI :=
 cond (decide (x.2.2.2.1<x.2.2.1))
 ((gx x.2.1 x.2.2.2.1).bind fun e7 =>
  (zc3 x.1 x.2.2.2.2.1 e7.1 e7.2).bind fun r8 =>
  cond (!r8)
  (cond (yY (List.length x.2.2.2.2.2+List.length ([x.2.2.2.1]:List Int)) 8)
   (rec (x.1,x.2.1,x.2.2.1,(IntKind.wrap .i64 (x.2.2.2.1+1)),x.2.2.2.2.1,(x.2.2.2.2.2++([x.2.2.2.1]:List Int))))
   (none))
  (rec (x.1,x.2.1,x.2.2.1,(IntKind.wrap .i64 (x.2.2.2.1+1)),x.2.2.2.2.1,x.2.2.2.2.2)))
 (some x.2.2.2.2.2)
def znW (a0:jS) (a1:jQ):Option (Int×jI) :=
 (zfC a0).bind fun r10 =>
 cond (!r10)
 (some (700,([]:jI)))
 ((zdc a1 a0).bind fun r11 =>
  cond r11
  (some (700,([]:jI)))
  (((lp zh4 zp) (a1,a1,((List.length a1:Nat):Int),0,a0,([]:jI))).bind fun r12 =>
   some (0,r12)))
def zgX (a0:jS) (a1:Bool) (a2:jI):Option Bool :=
 cond a1
 (some false)
 ((gx a2 0).bind fun e9 =>
  cond (e9 != 0)
  (some false)
  ((zck a2 (some 1) none).bind fun y10 =>
   (zbG a0 y10).bind fun r11 =>
   (inR 0 (List.length r11)).bind fun k12 =>
   (r11[k12]?).bind fun x13 =>
   (inR 1 (List.length r11)).bind fun k14 =>
   (r11[k14]?).bind fun x15 =>
   (qI x13 x15).bind fun r16 =>
   some r16))
def zeT (a0:Bool) (a1:jI) (a2:Bool) (a3:jI):Option Bool :=
 cond (!(a2==a0))
 ((qI a3 a1).bind fun r2 =>
  some r2)
 (some false)
def zbS (rec:(jQ×Int×Int×Bool×jI)→Option (Unit⊕Int)) (x:(jQ×Int×Int×Bool×jI)):Option (Unit⊕Int) :=
 cond (decide (x.2.2.1<x.2.1))
 ((gx x.1 x.2.2.1).bind fun e3 =>
  (zeT e3.1 e3.2 x.2.2.2.1 x.2.2.2.2).bind fun r4 =>
  cond r4
  (some (Sum.inr x.2.2.1))
  (rec (x.1,x.2.1,(IntKind.wrap .i64 (x.2.2.1+1)),x.2.2.2.1,x.2.2.2.2)))
 (some (Sum.inl ()))
def zei (a0:jQ) (a1:Bool) (a2:jI):Option Int :=
 ((lp zbS zp) (a0,((List.length a0:Nat):Int),0,a1,a2)).bind fun r8 =>
 qL r8
 (fun z9=>some (-1))
 (fun z10=>some z10)
def zc5 (a0:jQ) (a1:Bool) (a2:jI):Option Bool :=
 (zei a0 a1 a2).bind fun r2 =>
 some (decide (r2≥0))
def zcK (rec:(jS×jQ×Int×Int×jQ×jR×jQ)→Option (Unit⊕(Bool×Int))) (x:(jS×jQ×Int×Int×jQ×jR×jQ)):Option (Unit⊕(Bool×Int)) :=
 cond (decide (x.2.2.2.1<x.2.2.1))
 ((gx x.2.1 x.2.2.2.1).bind fun e5 =>
  (zgX x.1 e5.1 e5.2).bind fun r6 =>
  cond r6
  (some (Sum.inr (true,0)))
  ((zc5 x.2.2.2.2.1 e5.1 e5.2).bind fun r7 =>
   cond r7
   (some (Sum.inr (true,0)))
   (rec (x.1,x.2.1,x.2.2.1,(IntKind.wrap .i64 (x.2.2.2.1+1)),x.2.2.2.2.1,x.2.2.2.2.2.1,x.2.2.2.2.2.2))))
 (some (Sum.inl ()))
def zhM (a0:jS) (a1:jQ) (a2:jR) (a3:jQ):Option (Bool×Int) :=
 (zbz a0 a1 a2 a3).bind fun r11 =>
 cond (!r11)
 (some (false,800))
 (((lp zcK zp) (a0,a1,((List.length a1:Nat):Int),0,a1,a2,a3)).bind fun r12 =>
  qL r12
  (fun z13=>some (false,0))
  (fun z14=>some (z14.1,z14.2)))
def zep (a0:Int) (a1:Int) (a2:Int) (a3:Int) (a4:Int) (a5:Int) (a6:Int) (a7:jQ) (a8:jR) (a9:jQ) (a10:jQ) (a11:jR) (a12:jQ) (a13:Bool) (a14:Int) (a15:jS) (a16:Int) (a17:jT):Option (jS×Int×jT) :=
 cond (a14 != 0)
 (some (a15,(IntKind.wrap .i64 (a16+1)),a17))
 ((zhM a15 a10 a11 a12).bind fun r2 =>
  cond (!a13)
  (some (a15,a16,a17))
  (cond r2.1
   (some (a15,a16,a17))
   (cond (yY (List.length a17+List.length ([(a0,a1,a2,a3,a4,a5,a6,a10,a11,a12)]:List jU)) 128)
    (some (a15,a16,(a17++([(a0,a1,a2,a3,a4,a5,a6,a10,a11,a12)]:List jU))))
    (none))))
def zjr (a0:Int) (a1:Int) (a2:Int) (a3:Int) (a4:Int) (a5:Int) (a6:Int) (a7:jQ) (a8:jR) (a9:jQ) (a10:Int) (a11:Int) (a12:Int) (a13:Int) (a14:Int) (a15:Int) (a16:Int) (a17:jQ) (a18:jR) (a19:jQ):Option Bool :=
 cond (a0==a10)
 (cond (a1==a11)
  (cond (a2==a12)
   (cond (a3==a13)
    (cond (a4==a14)
     (cond (a5==a15)
      (cond (a6==a16)
       ((yU a7 a8 a9 a17 a18 a19).bind fun r2 =>
        some r2)
       (some false))
      (some false))
     (some false))
    (some false))
   (some false))
  (some false))
 (some false)
def zcR (rec:(jT×jT×Int)→Option (Unit⊕Bool)) (x:(jT×jT×Int)):Option (Unit⊕Bool) :=
 cond (decide (x.2.2<((List.length x.1:Nat):Int)))
 ((gx x.1 x.2.2).bind fun e4 =>
  (gx x.2.1 x.2.2).bind fun e5 =>
  (zjr e4.1 e4.2.1 e4.2.2.1 e4.2.2.2.1 e4.2.2.2.2.1 e4.2.2.2.2.2.1 e4.2.2.2.2.2.2.1 e4.2.2.2.2.2.2.2.1 e4.2.2.2.2.2.2.2.2.1 e4.2.2.2.2.2.2.2.2.2 e5.1 e5.2.1 e5.2.2.1 e5.2.2.2.1 e5.2.2.2.2.1 e5.2.2.2.2.2.1 e5.2.2.2.2.2.2.1 e5.2.2.2.2.2.2.2.1 e5.2.2.2.2.2.2.2.2.1 e5.2.2.2.2.2.2.2.2.2).bind fun r6 =>
  cond (!r6)
  (some (Sum.inr false))
  (rec (x.1,x.2.1,(IntKind.wrap .i64 (x.2.2+1)))))
 (some (Sum.inl ()))
def zhN (a0:jT) (a1:jT):Option Bool :=
 cond (((List.length a0:Nat):Int) != ((List.length a1:Nat):Int))
 (some false)
 (((lp zcR zp) (a0,a1,0)).bind fun r10 =>
  qL r10
  (fun z11=>some true)
  (fun z12=>some z12))
end Go.Abs.Q
namespace Go.Abs.Q
open Go Go.Abs
def zY (s1:jR) (s6:Int) (s8:Int):List jI→Nat→(List (jI×Int×jI×Int))→Option (List (jI×Int×jI×Int))
 | [],i,s4=>some s4
 | e::es,i,s4 =>
  (gx s1 (i:Int)).bind fun e8 =>
  cond (yY (List.length s4+List.length ([(e,s6,e8,s8)]:List (jI×Int×jI×Int))) 64)
  (zY s1 s6 s8 es (i+1) (s4++([(e,s6,e8,s8)]:List (jI×Int×jI×Int))))
  (none)
theorem zeb (s0:jR) (s1:jR) (s5:jI) (s6:Int) (s7:jI) (s8:Int) (hl:List.length s0≤maxLen):∀(es:List jI) (i:Nat) (k:Nat) (s4:(List (jI×Int×jI×Int))),s0.drop i=es→es.length<k→lp z6 k (s0,s1,((List.length s0:Nat):Int),(i:Int),s4,s5,s6,s7,s8)=zY s1 s6 s8 es i s4:=by
 intro es
 induction es with
 | nil =>
  intro i k s4 h hk
  obtain⟨k,rfl⟩:∃ k',k=k'+1:=⟨k - 1,by omega⟩
  rw[zk]
  generalize lp z6 k=rec
  unfold z6 zY
  simp only[zu (zm h),cond_false]
 | cons e es ih =>
  intro i k s4 h hk
  obtain⟨k,rfl⟩:∃ k',k=k'+1:=⟨k - 1,by omega⟩
  rw[zk]
  have hi:=zl h
  have hk2:es.length<k:=Nat.lt_of_succ_lt_succ hk
  have key:=fun s4=>ih (i+1) k s4 (zh h) hk2
  generalize lp z6 k=rec at key ⊢
  unfold z6 zY
  simp only[zE hi,cond_true,zJ,zj h,Option.bind_some,zF hi hl,key]
theorem zd6 (s0:jR) (s1:jR) (s5:jI) (s6:Int) (s7:jI) (s8:Int) (s4:(List (jI×Int×jI×Int))) (hl:List.length s0≤maxLen):lp z6 zp (s0,s1,((List.length s0:Nat):Int),0,s4,s5,s6,s7,s8)=zY s1 s6 s8 s0 0 s4 :=
 zeb s0 s1 s5 s6 s7 s8 hl s0 0 zp s4 rfl (Nat.lt_of_le_of_lt hl (by decide))
def zv (s0:Int) (s5:(List ((Option jI)×Int))) (s6:jI) (s7:Int):List Int→(List Bool)→(List (jI×Int))→Option (((List Bool)×(List (jI×Int)))⊕Bool)
 | [],s8,s9=>some (Sum.inl (s8,s9))
 | e::es,s8,s9 =>
  cond (decide (e≥0))
  (zv s0 s5 s6 s7 es s8 s9)
  ((yR s6 s7 e).bind fun r15 =>
   cond (r15==s0)
   (some (Sum.inr true))
   ((inR r15 48).bind fun k16 =>
    (s8[k16]?).bind fun x17 =>
    cond (!x17)
    ((inR r15 48).bind fun k18 =>
     (s5[k18]?).bind fun x19 =>
     cond (!(Option.isNone x19.1))
     ((inR r15 48).bind fun k20 =>
      (s8[k20]?).bind fun x21 =>
      (inR r15 48).bind fun k22 =>
      (s5[k22]?).bind fun x23 =>
      cond (yY (List.length s9+List.length ([((Option.getD x23.1 []),x23.2)]:List (jI×Int))) 32)
      (zv s0 s5 s6 s7 es (List.set s8 k20 true) (s9++([((Option.getD x23.1 []),x23.2)]:List (jI×Int))))
      (none))
     (zv s0 s5 s6 s7 es s8 s9))
    (zv s0 s5 s6 s7 es s8 s9)))
theorem zeu (s0:Int) (s1:jI) (s4:jS) (s5:(List ((Option jI)×Int))) (s6:jI) (s7:Int) (hl:List.length s1≤maxLen):∀(es:List Int) (i:Nat) (k:Nat) (s8:(List Bool)) (s9:(List (jI×Int))),s1.drop i=es→es.length<k→lp yl k (s0,s1,((List.length s1:Nat):Int),(i:Int),s4,s5,s6,s7,s8,s9)=zv s0 s5 s6 s7 es s8 s9:=by
 intro es
 induction es with
 | nil =>
  intro i k s8 s9 h hk
  obtain⟨k,rfl⟩:∃ k',k=k'+1:=⟨k - 1,by omega⟩
  rw[zk]
  generalize lp yl k=rec
  unfold yl zv
  simp only[zu (zm h),cond_false]
 | cons e es ih =>
  intro i k s8 s9 h hk
  obtain⟨k,rfl⟩:∃ k',k=k'+1:=⟨k - 1,by omega⟩
  rw[zk]
  have hi:=zl h
  have hk2:es.length<k:=Nat.lt_of_succ_lt_succ hk
  have key:=fun s8 s9=>ih (i+1) k s8 s9 (zh h) hk2
  generalize lp yl k=rec at key ⊢
  unfold yl zv
  simp only[zE hi,cond_true,zJ,zj h,Option.bind_some,zF hi hl,key]
theorem zec (s0:Int) (s1:jI) (s4:jS) (s5:(List ((Option jI)×Int))) (s6:jI) (s7:Int) (s8:(List Bool)) (s9:(List (jI×Int))) (hl:List.length s1≤maxLen):lp yl zp (s0,s1,((List.length s1:Nat):Int),0,s4,s5,s6,s7,s8,s9)=zv s0 s5 s6 s7 s1 s8 s9 :=
 zeu s0 s1 s4 s5 s6 s7 hl s1 0 zp s8 s9 rfl (Nat.lt_of_le_of_lt hl (by decide))
def yE:List jR→jR→Option jR
 | [],s3=>some s3
 | e::es,s3 =>
  cond (yY (List.length s3+List.length e) 24)
  (yE es (s3++e))
  (none)
theorem zgd (s0:(List jR)) (hl:List.length s0≤maxLen):∀(es:List jR) (i:Nat) (k:Nat) (s3:jR),s0.drop i=es→es.length<k→lp y9 k (s0,((List.length s0:Nat):Int),(i:Int),s3)=yE es s3:=by
 intro es
 induction es with
 | nil =>
  intro i k s3 h hk
  obtain⟨k,rfl⟩:∃ k',k=k'+1:=⟨k - 1,by omega⟩
  rw[zk]
  generalize lp y9 k=rec
  unfold y9 yE
  simp only[zu (zm h),cond_false]
 | cons e es ih =>
  intro i k s3 h hk
  obtain⟨k,rfl⟩:∃ k',k=k'+1:=⟨k - 1,by omega⟩
  rw[zk]
  have hi:=zl h
  have hk2:es.length<k:=Nat.lt_of_succ_lt_succ hk
  have key:=fun s3=>ih (i+1) k s3 (zh h) hk2
  generalize lp y9 k=rec at key ⊢
  unfold y9 yE
  simp only[zE hi,cond_true,zJ,zj h,Option.bind_some,zF hi hl,key]
theorem zfv (s0:(List jR)) (s3:jR) (hl:List.length s0≤maxLen):lp y9 zp (s0,((List.length s0:Nat):Int),0,s3)=yE s0 s3 :=
 zgd s0 hl s0 0 zp s3 rfl (Nat.lt_of_le_of_lt hl (by decide))
def yJ:List jR→Int→Option Int
 | [],s1=>some s1
 | e::es,s1 =>
  cond (decide ((IntKind.wrap .i64 (s1+((List.length e:Nat):Int)))<0))
  (none)
  (yJ es (IntKind.wrap .i64 (s1+((List.length e:Nat):Int))))
theorem zfZ (s0:(List jR)) (s2:(List jR)) (hl:List.length s2≤maxLen):∀(es:List jR) (i:Nat) (k:Nat) (s1:Int),s2.drop i=es→es.length<k→lp y5 k (s0,s1,s2,((List.length s2:Nat):Int),(i:Int))=yJ es s1:=by
 intro es
 induction es with
 | nil =>
  intro i k s1 h hk
  obtain⟨k,rfl⟩:∃ k',k=k'+1:=⟨k - 1,by omega⟩
  rw[zk]
  generalize lp y5 k=rec
  unfold y5 yJ
  simp only[zu (zm h),cond_false]
 | cons e es ih =>
  intro i k s1 h hk
  obtain⟨k,rfl⟩:∃ k',k=k'+1:=⟨k - 1,by omega⟩
  rw[zk]
  have hi:=zl h
  have hk2:es.length<k:=Nat.lt_of_succ_lt_succ hk
  have key:=fun s1=>ih (i+1) k s1 (zh h) hk2
  generalize lp y5 k=rec at key ⊢
  unfold y5 yJ
  simp only[zE hi,cond_true,zJ,zj h,Option.bind_some,zF hi hl,key]
theorem zfM (s0:(List jR)) (s2:(List jR)) (s1:Int) (hl:List.length s2≤maxLen):lp y5 zp (s0,s1,s2,((List.length s2:Nat):Int),0)=yJ s2 s1 :=
 zfZ s0 s2 hl s2 0 zp s1 rfl (Nat.lt_of_le_of_lt hl (by decide))
def yf:List jQ→jQ→Option jQ
 | [],s3=>some s3
 | e::es,s3 =>
  cond (yY (List.length s3+List.length e) 32)
  (yf es (s3++e))
  (none)
theorem ze3 (s0:(List jQ)) (hl:List.length s0≤maxLen):∀(es:List jQ) (i:Nat) (k:Nat) (s3:jQ),s0.drop i=es→es.length<k→lp yu k (s0,((List.length s0:Nat):Int),(i:Int),s3)=yf es s3:=by
 intro es
 induction es with
 | nil =>
  intro i k s3 h hk
  obtain⟨k,rfl⟩:∃ k',k=k'+1:=⟨k - 1,by omega⟩
  rw[zk]
  generalize lp yu k=rec
  unfold yu yf
  simp only[zu (zm h),cond_false]
 | cons e es ih =>
  intro i k s3 h hk
  obtain⟨k,rfl⟩:∃ k',k=k'+1:=⟨k - 1,by omega⟩
  rw[zk]
  have hi:=zl h
  have hk2:es.length<k:=Nat.lt_of_succ_lt_succ hk
  have key:=fun s3=>ih (i+1) k s3 (zh h) hk2
  generalize lp yu k=rec at key ⊢
  unfold yu yf
  simp only[zE hi,cond_true,zJ,zj h,Option.bind_some,zF hi hl,key]
theorem zez (s0:(List jQ)) (s3:jQ) (hl:List.length s0≤maxLen):lp yu zp (s0,((List.length s0:Nat):Int),0,s3)=yf s0 s3 :=
 ze3 s0 hl s0 0 zp s3 rfl (Nat.lt_of_le_of_lt hl (by decide))
def ye:List jQ→Int→Option Int
 | [],s1=>some s1
 | e::es,s1 =>
  cond (decide ((IntKind.wrap .i64 (s1+((List.length e:Nat):Int)))<0))
  (none)
  (ye es (IntKind.wrap .i64 (s1+((List.length e:Nat):Int))))
theorem ze0 (s0:(List jQ)) (s2:(List jQ)) (hl:List.length s2≤maxLen):∀(es:List jQ) (i:Nat) (k:Nat) (s1:Int),s2.drop i=es→es.length<k→lp yv k (s0,s1,s2,((List.length s2:Nat):Int),(i:Int))=ye es s1:=by
 intro es
 induction es with
 | nil =>
  intro i k s1 h hk
  obtain⟨k,rfl⟩:∃ k',k=k'+1:=⟨k - 1,by omega⟩
  rw[zk]
  generalize lp yv k=rec
  unfold yv ye
  simp only[zu (zm h),cond_false]
 | cons e es ih =>
  intro i k s1 h hk
  obtain⟨k,rfl⟩:∃ k',k=k'+1:=⟨k - 1,by omega⟩
  rw[zk]
  have hi:=zl h
  have hk2:es.length<k:=Nat.lt_of_succ_lt_succ hk
  have key:=fun s1=>ih (i+1) k s1 (zh h) hk2
  generalize lp yv k=rec at key ⊢
  unfold yv ye
  simp only[zE hi,cond_true,zJ,zj h,Option.bind_some,zF hi hl,key]
theorem zeA (s0:(List jQ)) (s2:(List jQ)) (s1:Int) (hl:List.length s2≤maxLen):lp yv zp (s0,s1,s2,((List.length s2:Nat):Int),0)=ye s2 s1 :=
 ze0 s0 s2 hl s2 0 zp s1 rfl (Nat.lt_of_le_of_lt hl (by decide))
def yt (s0:Int) (s4:jR) (s6:jQ):List zt→Nat→jQ→Option (jR×jQ×jQ)
 | [],i,s5=>some (s4,s5,s6)
 | e::es,i,s5 =>
  cond ((i:Int) != s0)
  (cond (yY (List.length s5+List.length ([(e.1,e.2)]:List zt)) 32)
   (yt s0 s4 s6 es (i+1) (s5++([(e.1,e.2)]:List zt)))
   (none))
  (yt s0 s4 s6 es (i+1) s5)
theorem zgH (s0:Int) (s1:jQ) (s4:jR) (s6:jQ) (hl:List.length s1≤maxLen):∀(es:List zt) (i:Nat) (k:Nat) (s5:jQ),s1.drop i=es→es.length<k→lp qC k (s0,s1,((List.length s1:Nat):Int),(i:Int),s4,s5,s6)=yt s0 s4 s6 es i s5:=by
 intro es
 induction es with
 | nil =>
  intro i k s5 h hk
  obtain⟨k,rfl⟩:∃ k',k=k'+1:=⟨k - 1,by omega⟩
  rw[zk]
  generalize lp qC k=rec
  unfold qC yt
  simp only[zu (zm h),cond_false]
 | cons e es ih =>
  intro i k s5 h hk
  obtain⟨k,rfl⟩:∃ k',k=k'+1:=⟨k - 1,by omega⟩
  rw[zk]
  have hi:=zl h
  have hk2:es.length<k:=Nat.lt_of_succ_lt_succ hk
  have key:=fun s5=>ih (i+1) k s5 (zh h) hk2
  generalize lp qC k=rec at key ⊢
  unfold qC yt
  simp only[zE hi,cond_true,zJ,zj h,Option.bind_some,zF hi hl,key]
theorem zfY (s0:Int) (s1:jQ) (s4:jR) (s6:jQ) (s5:jQ) (hl:List.length s1≤maxLen):lp qC zp (s0,s1,((List.length s1:Nat):Int),0,s4,s5,s6)=yt s0 s4 s6 s1 0 s5 :=
 zgH s0 s1 s4 s6 hl s1 0 zp s5 rfl (Nat.lt_of_le_of_lt hl (by decide))
def yw (s0:Int) (s8:jR) (s10:jQ):List zt→Nat→jQ→Option (jR×jQ×jQ)
 | [],i,s9=>some (s8,s9,s10)
 | e::es,i,s9 =>
  cond ((i:Int) != s0)
  (cond (yY (List.length s9+List.length ([(e.1,e.2)]:List zt)) 32)
   (yw s0 s8 s10 es (i+1) (s9++([(e.1,e.2)]:List zt)))
   (none))
  (yw s0 s8 s10 es (i+1) s9)
theorem zgm (s0:Int) (s1:Int) (s2:jQ) (s5:jQ) (s6:jR) (s7:jQ) (s8:jR) (s10:jQ) (hl:List.length s2≤maxLen):∀(es:List zt) (i:Nat) (k:Nat) (s9:jQ),s2.drop i=es→es.length<k→lp qF k (s0,s1,s2,((List.length s2:Nat):Int),(i:Int),s5,s6,s7,s8,s9,s10)=yw s0 s8 s10 es i s9:=by
 intro es
 induction es with
 | nil =>
  intro i k s9 h hk
  obtain⟨k,rfl⟩:∃ k',k=k'+1:=⟨k - 1,by omega⟩
  rw[zk]
  generalize lp qF k=rec
  unfold qF yw
  simp only[zu (zm h),cond_false]
 | cons e es ih =>
  intro i k s9 h hk
  obtain⟨k,rfl⟩:∃ k',k=k'+1:=⟨k - 1,by omega⟩
  rw[zk]
  have hi:=zl h
  have hk2:es.length<k:=Nat.lt_of_succ_lt_succ hk
  have key:=fun s9=>ih (i+1) k s9 (zh h) hk2
  generalize lp qF k=rec at key ⊢
  unfold qF yw
  simp only[zE hi,cond_true,zJ,zj h,Option.bind_some,zF hi hl,key]
theorem zgf (s0:Int) (s1:Int) (s2:jQ) (s5:jQ) (s6:jR) (s7:jQ) (s8:jR) (s10:jQ) (s9:jQ) (hl:List.length s2≤maxLen):lp qF zp (s0,s1,s2,((List.length s2:Nat):Int),0,s5,s6,s7,s8,s9,s10)=yw s0 s8 s10 s2 0 s9 :=
 zgm s0 s1 s2 s5 s6 s7 s8 s10 hl s2 0 zp s9 rfl (Nat.lt_of_le_of_lt hl (by decide))
def zaC (s0:Int):List (Int×jI)→Option (Unit⊕jI)
 | []=>some (Sum.inl ())
 | e::es =>
  cond (e.1==s0)
  (some (Sum.inr e.2))
  (zaC s0 es)
theorem zje (s0:Int) (s1:(List (Int×jI))) (hl:List.length s1≤maxLen):∀(es:List (Int×jI)) (i:Nat) (k:Nat),s1.drop i=es→es.length<k→lp zaS k (s0,s1,((List.length s1:Nat):Int),(i:Int))=zaC s0 es:=by
 intro es
 induction es with
 | nil =>
  intro i k h hk
  obtain⟨k,rfl⟩:∃ k',k=k'+1:=⟨k - 1,by omega⟩
  rw[zk]
  generalize lp zaS k=rec
  unfold zaS zaC
  simp only[zu (zm h),cond_false]
 | cons e es ih =>
  intro i k h hk
  obtain⟨k,rfl⟩:∃ k',k=k'+1:=⟨k - 1,by omega⟩
  rw[zk]
  have hi:=zl h
  have hk2:es.length<k:=Nat.lt_of_succ_lt_succ hk
  have key:=fun (_:Unit)=>ih (i+1) k (zh h) hk2
  generalize lp zaS k=rec at key ⊢
  unfold zaS zaC
  simp only[zE hi,cond_true,zJ,zj h,Option.bind_some,zF hi hl,key ()]
theorem zh5 (s0:Int) (s1:(List (Int×jI))) (hl:List.length s1≤maxLen):lp zaS zp (s0,s1,((List.length s1:Nat):Int),0)=zaC s0 s1 :=
 zje s0 s1 hl s1 0 zp rfl (Nat.lt_of_le_of_lt hl (by decide))
def qY (s0:(List (Int×jI))):List Int→jI→Option jI
 | [],s4=>some s4
 | e::es,s4 =>
  (yo e).bind fun r11 =>
  (zgp s0 r11).bind fun r12 =>
  cond (decide (e≥0))
  (cond (yY (List.length s4+List.length ([e]:List Int)) 8)
   (qY s0 es (s4++([e]:List Int)))
   (none))
  (cond (Option.isNone r12)
   (cond (yY (List.length s4+List.length ([e]:List Int)) 8)
    (qY s0 es (s4++([e]:List Int)))
    (none))
   (cond (yY (List.length s4+List.length (Option.getD r12 [])) 8)
    (qY s0 es (s4++(Option.getD r12 [])))
    (none)))
theorem zkL (s0:(List (Int×jI))) (s1:jI) (hl:List.length s1≤maxLen):∀(es:List Int) (i:Nat) (k:Nat) (s4:jI),s1.drop i=es→es.length<k→lp zbV k (s0,s1,((List.length s1:Nat):Int),(i:Int),s4)=qY s0 es s4:=by
 intro es
 induction es with
 | nil =>
  intro i k s4 h hk
  obtain⟨k,rfl⟩:∃ k',k=k'+1:=⟨k - 1,by omega⟩
  rw[zk]
  generalize lp zbV k=rec
  unfold zbV qY
  simp only[zu (zm h),cond_false]
 | cons e es ih =>
  intro i k s4 h hk
  obtain⟨k,rfl⟩:∃ k',k=k'+1:=⟨k - 1,by omega⟩
  rw[zk]
  have hi:=zl h
  have hk2:es.length<k:=Nat.lt_of_succ_lt_succ hk
  have key:=fun s4=>ih (i+1) k s4 (zh h) hk2
  generalize lp zbV k=rec at key ⊢
  unfold zbV qY
  simp only[zE hi,cond_true,zJ,zj h,Option.bind_some,zF hi hl,key]
theorem zkg (s0:(List (Int×jI))) (s1:jI) (s4:jI) (hl:List.length s1≤maxLen):lp zbV zp (s0,s1,((List.length s1:Nat):Int),0,s4)=qY s0 s1 s4 :=
 zkL s0 s1 hl s1 0 zp s4 rfl (Nat.lt_of_le_of_lt hl (by decide))
def qt (s3:(List (Int×jI))) (s4:jQ) (s5:jR):List zt→jQ→Option (jQ×jR×jQ)
 | [],s6=>some (s4,s5,s6)
 | e::es,s6 =>
  (zaq e.2 s3).bind fun r20 =>
  cond (yY (List.length s6+List.length ([(e.1,r20)]:List zt)) 32)
  (qt s3 s4 s5 es (s6++([(e.1,r20)]:List zt)))
  (none)
theorem zhE (s0:jQ) (s3:(List (Int×jI))) (s4:jQ) (s5:jR) (hl:List.length s0≤maxLen):∀(es:List zt) (i:Nat) (k:Nat) (s6:jQ),s0.drop i=es→es.length<k→lp qU k (s0,((List.length s0:Nat):Int),(i:Int),s3,s4,s5,s6)=qt s3 s4 s5 es s6:=by
 intro es
 induction es with
 | nil =>
  intro i k s6 h hk
  obtain⟨k,rfl⟩:∃ k',k=k'+1:=⟨k - 1,by omega⟩
  rw[zk]
  generalize lp qU k=rec
  unfold qU qt
  simp only[zu (zm h),cond_false]
 | cons e es ih =>
  intro i k s6 h hk
  obtain⟨k,rfl⟩:∃ k',k=k'+1:=⟨k - 1,by omega⟩
  rw[zk]
  have hi:=zl h
  have hk2:es.length<k:=Nat.lt_of_succ_lt_succ hk
  have key:=fun s6=>ih (i+1) k s6 (zh h) hk2
  generalize lp qU k=rec at key ⊢
  unfold qU qt
  simp only[zE hi,cond_true,zJ,zj h,Option.bind_some,zF hi hl,key]
theorem zg5 (s0:jQ) (s3:(List (Int×jI))) (s4:jQ) (s5:jR) (s6:jQ) (hl:List.length s0≤maxLen):lp qU zp (s0,((List.length s0:Nat):Int),0,s3,s4,s5,s6)=qt s3 s4 s5 s0 s6 :=
 zhE s0 s3 s4 s5 hl s0 0 zp s6 rfl (Nat.lt_of_le_of_lt hl (by decide))
def qv (s3:(List (Int×jI))) (s7:jQ):List jI→jR→Option (jQ×jR)
 | [],s8=>some (s7,s8)
 | e::es,s8 =>
  (zaq e s3).bind fun r13 =>
  cond (yY (List.length s8+List.length ([r13]:List jI)) 24)
  (qv s3 s7 es (s8++([r13]:List jI)))
  (none)
theorem zhG (s0:jR) (s3:(List (Int×jI))) (s4:jQ) (s5:jR) (s6:jQ) (s7:jQ) (hl:List.length s0≤maxLen):∀(es:List jI) (i:Nat) (k:Nat) (s8:jR),s0.drop i=es→es.length<k→lp qR k (s0,((List.length s0:Nat):Int),(i:Int),s3,s4,s5,s6,s7,s8)=qv s3 s7 es s8:=by
 intro es
 induction es with
 | nil =>
  intro i k s8 h hk
  obtain⟨k,rfl⟩:∃ k',k=k'+1:=⟨k - 1,by omega⟩
  rw[zk]
  generalize lp qR k=rec
  unfold qR qv
  simp only[zu (zm h),cond_false]
 | cons e es ih =>
  intro i k s8 h hk
  obtain⟨k,rfl⟩:∃ k',k=k'+1:=⟨k - 1,by omega⟩
  rw[zk]
  have hi:=zl h
  have hk2:es.length<k:=Nat.lt_of_succ_lt_succ hk
  have key:=fun s8=>ih (i+1) k s8 (zh h) hk2
  generalize lp qR k=rec at key ⊢
  unfold qR qv
  simp only[zE hi,cond_true,zJ,zj h,Option.bind_some,zF hi hl,key]
theorem zg8 (s0:jR) (s3:(List (Int×jI))) (s4:jQ) (s5:jR) (s6:jQ) (s7:jQ) (s8:jR) (hl:List.length s0≤maxLen):lp qR zp (s0,((List.length s0:Nat):Int),0,s3,s4,s5,s6,s7,s8)=qv s3 s7 s0 s8 :=
 zhG s0 s3 s4 s5 s6 s7 hl s0 0 zp s8 rfl (Nat.lt_of_le_of_lt hl (by decide))
def qm (s3:(List (Int×jI))):List zt→jQ→Option jQ
 | [],s7=>some s7
 | e::es,s7 =>
  (zaq e.2 s3).bind fun r6 =>
  cond (yY (List.length s7+List.length ([(e.1,r6)]:List zt)) 32)
  (qm s3 es (s7++([(e.1,r6)]:List zt)))
  (none)
theorem zhr (s0:jQ) (s3:(List (Int×jI))) (s4:jQ) (s5:jR) (s6:jQ) (hl:List.length s0≤maxLen):∀(es:List zt) (i:Nat) (k:Nat) (s7:jQ),s0.drop i=es→es.length<k→lp qZ k (s0,((List.length s0:Nat):Int),(i:Int),s3,s4,s5,s6,s7)=qm s3 es s7:=by
 intro es
 induction es with
 | nil =>
  intro i k s7 h hk
  obtain⟨k,rfl⟩:∃ k',k=k'+1:=⟨k - 1,by omega⟩
  rw[zk]
  generalize lp qZ k=rec
  unfold qZ qm
  simp only[zu (zm h),cond_false]
 | cons e es ih =>
  intro i k s7 h hk
  obtain⟨k,rfl⟩:∃ k',k=k'+1:=⟨k - 1,by omega⟩
  rw[zk]
  have hi:=zl h
  have hk2:es.length<k:=Nat.lt_of_succ_lt_succ hk
  have key:=fun s7=>ih (i+1) k s7 (zh h) hk2
  generalize lp qZ k=rec at key ⊢
  unfold qZ qm
  simp only[zE hi,cond_true,zJ,zj h,Option.bind_some,zF hi hl,key]
theorem zgk (s0:jQ) (s3:(List (Int×jI))) (s4:jQ) (s5:jR) (s6:jQ) (s7:jQ) (hl:List.length s0≤maxLen):lp qZ zp (s0,((List.length s0:Nat):Int),0,s3,s4,s5,s6,s7)=qm s3 s0 s7 :=
 zhr s0 s3 s4 s5 s6 hl s0 0 zp s7 rfl (Nat.lt_of_le_of_lt hl (by decide))
end Go.Abs.Q
namespace Go.Abs.Q
open Go Go.Abs
section
theorem zdm {xs:List Int} (h:xs.length≤1099511627776):zb2 xs=some xs:=by
 unfold zb2 zgz
 simp only[Option.isNone_some,cond_false,Option.getD_some,List.length_nil,Nat.zero_add,List.nil_append]
 rw[zP (show xs.length*8≤140737488351232 by omega)]
 rfl
theorem zsN (ys:List Int):(es:List Int)→(i:Nat)→es.length=(ys.drop i).length→qB ys es i=some (cond (decide (es=ys.drop i)) (.inl ()) (.inr false))
 | [],i,h=>by
  have:ys.drop i=[]:=List.eq_nil_of_length_eq_zero h.symm
  rw[this]; rfl
 | e::es,i,h=>by
  cases hd:ys.drop i with
  | nil=>rw[hd] at h; simp at h
  | cons y r =>
   have hn:=zh hd
   have:=zsN ys es (i+1) (by rw[hn]; rw[hd] at h; simpa using h)
   unfold qB
   simp only[zJ,zj hd,Option.bind_some,this,hn]
   by_cases he:e=y
   ·subst he
    simp
   ·have h1:(e != y)=true:=by simpa using he
    simp [h1,he]
theorem zg4 {xs ys:List Int} (h:xs.length≤maxLen):qI xs ys=some (decide (xs=ys)):=by
 unfold qI
 by_cases hl:xs.length=ys.length
 ·rw[show (((List.length xs:Nat):Int) != ((List.length ys:Nat):Int))=false from by simp [hl],cond_false,zgg _ _ h,zsN ys xs 0 hl,List.drop_zero]
  cases decide (xs=ys)<;>rfl
 ·rw[show (((List.length xs:Nat):Int) != ((List.length ys:Nat):Int))=true from by simp; omega,cond_true,decide_eq_false (by intro h; subst h; exact hl rfl)]
theorem zsn {a b:Bool} {xs ys:List Int} (h:xs.length≤maxLen):zkY a xs b ys=some (decide ((a,xs)=(b,ys))):=by
 unfold zkY
 cases hab:(a==b) with
 | false =>
  have:a≠b:=by simpa using hab
  simp [this]
 | true =>
  have:a=b:=by simpa using hab
  subst this
  rw[cond_true,zg4 h]
  simp
theorem zsU (l:zt) (hl:l.2.length≤maxLen):(es:List zt)→(i:Nat)→∃ r,yp l.1 l.2 es i=some r∧(l∈es→∃ j:Nat,r = .inr (j:Int))∧(l∉es→r = .inl ())
 | [],i=>⟨.inl (),rfl,(fun h=>by cases h),fun _=>rfl⟩
 | e::es,i=>by
  unfold yp zcW
  rw[zsn hl]
  simp only[Option.bind_some]
  by_cases he:(l.1,l.2)=(e.1,e.2)
  ·rw[decide_eq_true he,cond_true]
   have he':l=e:=he
   exact ⟨_,rfl,fun _=>⟨i,rfl⟩,fun h=>absurd (List.mem_cons.2 (.inl he')) h⟩
  ·rw[decide_eq_false he,cond_false]
   obtain⟨r,h1,h2,h3⟩:=zsU l hl es (i+1)
   have he':l≠e:=he
   refine ⟨r,h1,fun h=>h2 ?_,fun h=>h3 fun h'=>h (List.mem_cons_of_mem _ h')⟩
   rcases List.mem_cons.1 h with h | h
   ·exact absurd h he'
   ·exact h
theorem zf1 {l:zt} {es:List zt} (hl:l.2.length≤maxLen) (h:es.length≤maxLen):zaH es l.1 l.2=some (decide (l∈es)):=by
 unfold zaH zdq
 rw[zd8 _ _ _ h]
 obtain⟨r,h1,h2,h3⟩:=zsU l hl es 0
 rw[h1]
 by_cases hm:l∈es
 ·obtain⟨j,rfl⟩:=h2 hm
  simp [qL,hm]
 ·rw[h3 hm]
  simp [qL,hm]
def qp {α:Type} [DecidableEq α]:List α→List α→List α
 | [],out=>out
 | e::es,out=>cond (decide (e∈out)) (qp es out) (qp es (out++[e]))
theorem zbE {α:Type} [DecidableEq α]:(es out:List α)→(qp es out).length≤out.length+es.length
 | [],out=>by simp [qp]
 | e::es,out=>by
  unfold qp
  cases decide (e∈out) with
  | true=>have:=zbE es out; simp only[cond_true,List.length_cons]; omega
  | false=>have:=zbE es (out++[e]); simp only[cond_false,List.length_cons,List.length_append,List.length_nil] at this ⊢; omega
theorem zbH {α:Type} [DecidableEq α] {x:α}:(es out:List α)→(x∈qp es out↔x∈out∨x∈es)
 | [],out=>by simp [qp]
 | e::es,out=>by
  unfold qp
  by_cases h:e∈out
  ·rw[decide_eq_true h,cond_true,zbH es out,List.mem_cons]
   constructor
   ·rintro (h1 | h1)
    ·exact .inl h1
    ·exact .inr (.inr h1)
   ·rintro (h1 | rfl | h1)
    ·exact .inl h1
    ·exact .inl h
    ·exact .inr h1
  ·rw[decide_eq_false h,cond_false,zbH es (out++[e])]
   simp only[List.mem_append,List.mem_cons,List.not_mem_nil,or_false]
   constructor
   ·rintro ((h1 | h1) | h1)
    ·exact .inl h1
    ·exact .inr (.inl h1)
    ·exact .inr (.inr h1)
   ·rintro (h1 | h1 | h1)
    ·exact .inl (.inl h1)
    ·exact .inl (.inr h1)
    ·exact .inr h1
theorem zrh:(es out:List zt)→(∀ e∈es,e.2.length≤maxLen)→out.length+es.length≤1000000→qn es out=some (qp es out)
 | [],out,_,_=>rfl
 | e::es,out,h,hl=>by
  have h1:=h e (List.mem_cons_self ..)
  have hl':out.length+(es.length+1)≤1000000:=hl
  unfold qn qp
  rw[zf1 h1 (by unfold maxLen; omega),Option.bind_some]
  by_cases hm:e∈out
  ·simp only[hm,decide_true,Bool.not_true,cond_false,cond_true]
   exact zrh es out (fun x hx=>h x (List.mem_cons_of_mem _ hx)) (by omega)
  ·simp only[hm,decide_false,Bool.not_false,cond_false,cond_true]
   rw[zP (show (out.length+([(e.1,e.2)]:List zt).length)*32≤140737488351232 by simp; omega),cond_true]
   exact zrh es (out++[e]) (fun x hx=>h x (List.mem_cons_of_mem _ hx)) (by simp; omega)
theorem zhJ {es:List zt} (h:∀ e∈es,e.2.length≤maxLen) (hl:es.length≤1000000):zdW es=some (qp es []):=by
 unfold zdW
 rw[zgU _ _ (by unfold maxLen; omega),zrh es [] h (by simpa using hl)]
 rfl
theorem ztA (l:List Int) (hl:l.length≤maxLen):(es:List jI)→(i:Nat)→∃ r,yc l es i=some r∧(l∈es→∃ j:Nat,r = .inr (j:Int))∧(l∉es→r = .inl ())
 | [],i=>⟨.inl (),rfl,(fun h=>by cases h),fun _=>rfl⟩
 | e::es,i=>by
  unfold yc zcX
  rw[zg4 hl]
  simp only[Option.bind_some]
  by_cases he:l=e
  ·rw[decide_eq_true he,cond_true]
   exact ⟨_,rfl,fun _=>⟨i,rfl⟩,fun h=>absurd (List.mem_cons.2 (.inl he)) h⟩
  ·rw[decide_eq_false he,cond_false]
   obtain⟨r,h1,h2,h3⟩:=ztA l hl es (i+1)
   refine ⟨r,h1,fun h=>h2 ?_,fun h=>h3 fun h'=>h (List.mem_cons_of_mem _ h')⟩
   rcases List.mem_cons.1 h with h | h
   ·exact absurd h he
   ·exact h
theorem zeZ {l:List Int} {es:List jI} (hl:l.length≤maxLen) (h:es.length≤maxLen):zac es l=some (decide (l∈es)):=by
 unfold zac zcv
 rw[zdv _ _ h]
 obtain⟨r,h1,h2,h3⟩:=ztA l hl es 0
 rw[h1]
 by_cases hm:l∈es
 ·obtain⟨j,rfl⟩:=h2 hm
  simp [qL,hm]
 ·rw[h3 hm]
  simp [qL,hm]
theorem zrJ (s3 s4:List zt):(es out:List jI)→(∀ e∈es,e.length≤maxLen)→out.length+es.length≤1000000→ql s3 s4 es out=some (s3,s4,qp es out)
 | [],out,_,_=>rfl
 | e::es,out,h,hl=>by
  have h1:=h e (List.mem_cons_self ..)
  have hl':out.length+(es.length+1)≤1000000:=hl
  unfold ql qp
  rw[zeZ h1 (by unfold maxLen; omega),Option.bind_some]
  by_cases hm:e∈out
  ·simp only[hm,decide_true,Bool.not_true,cond_false,cond_true]
   exact zrJ s3 s4 es out (fun x hx=>h x (List.mem_cons_of_mem _ hx)) (by omega)
  ·simp only[hm,decide_false,Bool.not_false,cond_false,cond_true]
   rw[zP (show (out.length+([e]:List jI).length)*24≤140737488351232 by simp; omega),cond_true]
   exact zrJ s3 s4 es (out++[e]) (fun x hx=>h x (List.mem_cons_of_mem _ hx)) (by simp; omega)
def zk1 (s:List Int×Int) (c:Int):Int×(List Int×Int) :=
 cond (decide (c≥0)) (c,s) (cond (s.1.getD (-1 - c).toNat 0==0) (-(s.2+1),(s.1.set (-1 - c).toNat (s.2+1),s.2+1)) (-(s.1.getD (-1 - c).toNat 0),s))
def zdp:List Int×Int→List Int→List Int×(List Int×Int)
 | s,[]=>([],s)
 | s,c::cs=>((zk1 s c).1::(zdp (zk1 s c).2 cs).1,(zdp (zk1 s c).2 cs).2)
theorem zoX:(s:List Int×Int)→(cs:List Int)→(zdp s cs).1.length=cs.length
 | _,[]=>rfl
 | s,c::cs=>by simp [zdp,zoX (zk1 s c).2 cs]
structure RenOk (s:List Int×Int) (b:Int):Prop where
 len:s.1.length=24
 lo:0≤s.2
 hi:s.2≤b
 all:∀ x∈s.1,0≤x∧x≤s.2
theorem RenOk.more {s:List Int×Int} {b b':Int} (h:RenOk s b) (hb:b≤b'):RenOk s b':=⟨h.len,h.lo,Int.le_trans h.hi hb,h.all⟩
theorem RenOk.get {s:List Int×Int} {b:Int} (h:RenOk s b) (v:Nat):0≤s.1.getD v 0∧s.1.getD v 0≤s.2:=by
 have h0:=h.lo
 rw[List.getD_eq_getElem?_getD]
 cases hv:s.1[v]? with
 | none=>exact ⟨Int.le_refl _,h0⟩
 | some x=>exact h.all x (List.mem_of_getElem? hv)
theorem zyh {s:List Int×Int} {b:Int} (h:RenOk s b) (c:Int):RenOk (zk1 s c).2 (b+1):=by
 unfold zk1
 cases decide (c≥0) with
 | true=>exact h.more (by omega)
 | false =>
  rw[cond_false]
  cases (s.1.getD (-1 - c).toNat 0==0) with
  | false=>exact h.more (by omega)
  | true =>
   refine ⟨by simpa using h.len,by have:=h.lo; simp; omega,by have:=h.hi; simp; omega,fun x hx => ?_⟩
   simp only[cond_true] at hx ⊢
   rcases List.mem_or_eq_of_mem_set hx with hx | rfl
   ·have:=h.all x hx; omega
   ·have:=h.lo; omega
theorem ziu:{s:List Int×Int}→{b:Int}→(cs:List Int)→RenOk s b→RenOk (zdp s cs).2 (b+cs.length)
 | s,b,[],h=>by simpa[zdp] using h
 | s,b,c::cs,h=>by
  have:=ziu cs (zyh h c)
  simp only[zdp,List.length_cons]
  exact this.more (by omega)
theorem zv9 {α:Type} (done es:List α) (e x:α):(done++e::es).set done.length x=done++x::es:=by
 rw[List.set_append_right _ _ (Nat.le_refl _),Nat.sub_self]
 rfl
theorem zpr {α:Type} (done es:List α) (e:α):(done++e::es)[done.length]? = some e:=by
 rw[List.getElem?_append_right (Nat.le_refl _),Nat.sub_self]
 rfl
theorem zpI:(es done:List Int)→(s:List Int×Int)→(k:Nat)→es.length<k→done.length+es.length≤1000000→RenOk s 1000000→s.2+es.length≤1000000→(∀ c∈es,-24≤c) →
  lp yz k (((done.length+es.length:Nat):Int),(done.length:Int),s.1,s.2,done++es)=some ((zdp s es).2.1,(zdp s es).2.2,done++(zdp s es).1)
 | [],done,s,k,hk,hl,hs,hb,hc=>by
  obtain⟨k,rfl⟩:∃ k',k=k'+1:=⟨k - 1,by omega⟩
  rw[zk]
  generalize lp yz k=rec
  unfold yz
  simp [zdp]
 | e::es,done,s,k,hk,hl,hs,hb,hc=>by
  obtain⟨k,rfl⟩:∃ k',k=k'+1:=⟨k - 1,by omega⟩
  rw[zk]
  have he:=hc e (List.mem_cons_self ..)
  have hl':done.length+(es.length+1)≤1000000:=hl
  have hb':s.2+((es.length+1:Nat):Int)≤1000000:=hb
  have key:=fun (e':Int) (s':List Int×Int) (hs':RenOk s' 1000000) (hb2:s'.2+es.length≤1000000)=>zpI es (done++[e']) s' k (Nat.lt_of_succ_lt_succ hk) (by simp; omega) hs' hb2 (fun c hx=>hc c (List.mem_cons_of_mem _ hx))
  generalize lp yz k=rec at key ⊢
  unfold yz
  have e1:decide (((done.length:Nat):Int)<((done.length+(e::es).length:Nat):Int))=true:=by rw[decide_eq_true_eq,List.length_cons]; omega
  have e2:inR ((done.length:Nat):Int) (List.length (done++e::es))=some done.length:=zap (by simp)
  have e3:IntKind.wrap .i64 (((done.length:Nat):Int)+1)=((done.length+1:Nat):Int):=by rw[zT]<;>omega
  have key2:=fun (e':Int) (s':List Int×Int) (hs':RenOk s' 1000000) (hb2:s'.2+es.length≤1000000)=>by
   have:=key e' s' hs' hb2
   rw[List.append_assoc,List.length_append,List.length_singleton,Nat.add_assoc,Nat.add_comm 1 es.length] at this
   exact this
  simp only[e1,cond_true,e2,Option.bind_some,zpr,e3]
  by_cases h0:e≥0
  ·have hr:zk1 s e=(e,s):=by unfold zk1; rw[decide_eq_true h0]; rfl
   rw[decide_eq_true h0,cond_true]
   have:=key2 e s hs (by omega)
   simp only[zdp,hr]
   exact this.trans (by simp)
  ·rw[decide_eq_false h0,cond_false]
   have h24:(-1 - e).toNat<24:=by omega
   have e4:inR (-1 - e) 24=some (-1 - e).toNat:=by
    have:=zap h24
    rwa [Int.toNat_of_nonneg (by omega)] at this
   have hget:∀ xs:List Int,xs.length=24→xs[(-1 - e).toNat]? = some (xs.getD (-1 - e).toNat 0):=fun xs hx=>by
    rw[List.getD_eq_getElem?_getD,List.getElem?_eq_getElem (by omega)]; rfl
   have hg:=hs.get (-1 - e).toNat
   have hs1:=hs.hi
   have hs0:=hs.lo
   simp only[zbB (x:=e) (by omega) (by omega),Option.bind_some,e4,hget s.1 hs.len]
   by_cases hz:s.1.getD (-1 - e).toNat 0=0
   ·have hr:zk1 s e=(-(s.2+1),(s.1.set (-1 - e).toNat (s.2+1),s.2+1)):=by unfold zk1; rw[decide_eq_false h0,hz]; rfl
    have w1:IntKind.wrap .i64 (s.2+1)=s.2+1:=by rw[zT]<;>omega
    have hset:(List.set s.1 (-1 - e).toNat (s.2+1)).getD (-1 - e).toNat 0=s.2+1:=by
     rw[List.getD_eq_getElem?_getD,List.getElem?_set_self (by rw[hs.len]; exact h24)]; rfl
    have hn:zGa .i64 (s.2+1) = -(s.2+1):=by unfold zGa; rw[zT]<;>omega
    rw[hz]
    simp only[show (((0:Int)==0))=true from rfl,cond_true,w1,hget (List.set s.1 (-1 - e).toNat (s.2+1)) (by simpa using hs.len),Option.bind_some,hset,hn,zv9]
    have hok:=zyh (b:=s.2) ⟨hs.len,hs.lo,Int.le_refl _,hs.all⟩ e
    rw[hr] at hok
    have:=key2 (-(s.2+1)) (s.1.set (-1 - e).toNat (s.2+1),s.2+1) (hok.more (by omega)) (by simp only; omega)
    simp only[zdp,hr]
    exact this.trans (by simp)
   ·have hr:zk1 s e=(-(s.1.getD (-1 - e).toNat 0),s):=by
     unfold zk1
     rw[decide_eq_false h0,show (s.1.getD (-1 - e).toNat 0==0)=false from by simpa using hz]; rfl
    have hn:zGa .i64 (s.1.getD (-1 - e).toNat 0) = -(s.1.getD (-1 - e).toNat 0):=by unfold zGa; rw[zT]<;>omega
    rw[show (s.1.getD (-1 - e).toNat 0==0)=false from by simpa using hz,cond_false]
    simp only[hn,zv9]
    have:=key2 (-(s.1.getD (-1 - e).toNat 0)) s hs (by omega)
    simp only[zdp,hr]
    exact this.trans (by simp)
theorem zcd {r:List Int} {s:List Int×Int} (hl:r.length≤1000) (hs:RenOk s 900000) (hc:∀ c∈r,-24≤c):qb r s.1 s.2=some ((zdp s r).1,(zdp s r).2.1,(zdp s r).2.2):=by
 unfold qb
 rw[zdm (by omega),Option.bind_some]
 have h1:=hs.hi
 have:=zpI r [] s zp (by unfold zp; omega) (by simp; omega) (hs.more (by omega)) (by omega) hc
 simp only[List.length_nil,Nat.zero_add,List.nil_append] at this
 rw[show ((0:Nat):Int)=0 from rfl] at this
 rw[this,Option.bind_some]
 have hlen:=(ziu r hs).len
 simp only[hs.len,hlen]
 rfl
def zbq:List Int×Int→List zt→List zt×(List Int×Int)
 | s,[]=>([],s)
 | s,l::ls=>((l.1,(zdp s l.2).1)::(zbq (zdp s l.2).2 ls).1,(zbq (zdp s l.2).2 ls).2)
def zcD:List Int×Int→List jI→List jI×(List Int×Int)
 | s,[]=>([],s)
 | s,l::ls=>((zdp s l).1::(zcD (zdp s l).2 ls).1,(zcD (zdp s l).2 ls).2)
def zc7 (r:List Int):Prop:=r.length≤1000∧∀ c∈r,-24≤c
theorem zo2:{s:List Int×Int}→{b:Int}→(ls:List zt)→(∀ l∈ls,zc7 l.2)→RenOk s b→RenOk (zbq s ls).2 (b+1000*ls.length)
 | s,b,[],_,h=>by simpa[zbq] using h
 | s,b,l::ls,hl,h=>by
  have h1:=hl l (List.mem_cons_self ..)
  have:=zo2 ls (fun x hx=>hl x (List.mem_cons_of_mem _ hx)) (ziu l.2 h)
  have h2:=h1.1
  simp only[zbq,List.length_cons]
  exact this.more (by omega)
theorem zto:{s:List Int×Int}→{b:Int}→(ls:List jI)→(∀ l∈ls,zc7 l)→RenOk s b→RenOk (zcD s ls).2 (b+1000*ls.length)
 | s,b,[],_,h=>by simpa[zcD] using h
 | s,b,l::ls,hl,h=>by
  have h1:=hl l (List.mem_cons_self ..)
  have:=zto ls (fun x hx=>hl x (List.mem_cons_of_mem _ hx)) (ziu l h)
  have h2:=h1.1
  simp only[zcD,List.length_cons]
  exact this.more (by omega)
theorem znh:(es:List zt)→(s:List Int×Int)→(out:List zt)→(b:Int)→RenOk s b→b+1000*es.length≤900000→(∀ l∈es,zc7 l.2)→out.length+es.length≤1000000 →
  yy es s.1 s.2 out=some ((zbq s es).2.1,(zbq s es).2.2,out++(zbq s es).1)
 | [],s,out,b,_,_,_,_=>by simp [yy,zbq]
 | e::es,s,out,b,hs,hb,h,hl=>by
  have he:=h e (List.mem_cons_self ..)
  have h1:=he.1
  rw[List.length_cons] at hb hl
  unfold yy
  rw[zcd he.1 (hs.more (by omega)) he.2,Option.bind_some]
  rw[zP (show (out.length+([(e.1,(zdp s e.2).1)]:List zt).length)*32≤140737488351232 by simp; omega),cond_true]
  have:=znh es (zdp s e.2).2 (out++[(e.1,(zdp s e.2).1)]) _ (ziu e.2 hs) (by omega) (fun x hx=>h x (List.mem_cons_of_mem _ hx)) (by simp; omega)
  exact this.trans (by simp [zbq])
theorem znA (s8:List zt):(es:List jI)→(s:List Int×Int)→(out:List jI)→(b:Int)→RenOk s b→b+1000*es.length≤900000→(∀ l∈es,zc7 l)→out.length+es.length≤1000000 →
  yG s8 es s.1 s.2 out=some ((zcD s es).2.1,(zcD s es).2.2,s8,out++(zcD s es).1)
 | [],s,out,b,_,_,_,_=>by simp [yG,zcD]
 | e::es,s,out,b,hs,hb,h,hl=>by
  have he:=h e (List.mem_cons_self ..)
  have h1:=he.1
  rw[List.length_cons] at hb hl
  unfold yG
  rw[zcd he.1 (hs.more (by omega)) he.2,Option.bind_some]
  rw[zP (show (out.length+([(zdp s e).1]:List jI).length)*24≤140737488351232 by simp; omega),cond_true]
  have:=znA s8 es (zdp s e).2 (out++[(zdp s e).1]) _ (ziu e hs) (by omega) (fun x hx=>h x (List.mem_cons_of_mem _ hx)) (by simp; omega)
  exact this.trans (by simp [zcD])
theorem znk (s5:List zt) (s6:List jI):(es:List zt)→(s:List Int×Int)→(out:List zt)→(b:Int)→RenOk s b→b+1000*es.length≤900000→(∀ l∈es,zc7 l.2)→out.length+es.length≤1000000 →
  yD s5 s6 es s.1 s.2 out=some ((zbq s es).2.1,(zbq s es).2.2,s5,s6,out++(zbq s es).1)
 | [],s,out,b,_,_,_,_=>by simp [yD,zbq]
 | e::es,s,out,b,hs,hb,h,hl=>by
  have he:=h e (List.mem_cons_self ..)
  have h1:=he.1
  rw[List.length_cons] at hb hl
  unfold yD
  rw[zcd he.1 (hs.more (by omega)) he.2,Option.bind_some]
  rw[zP (show (out.length+([(e.1,(zdp s e.2).1)]:List zt).length)*32≤140737488351232 by simp; omega),cond_true]
  have:=znk s5 s6 es (zdp s e.2).2 (out++[(e.1,(zdp s e.2).1)]) _ (ziu e.2 hs) (by omega) (fun x hx=>h x (List.mem_cons_of_mem _ hx)) (by simp; omega)
  exact this.trans (by simp [zbq])
def zMO (L:List zt) (T:List jI) (C:List zt):List zt×List jI×List zt :=
 ((zbq (List.replicate 24 0,0) L).1,(zcD (zbq (List.replicate 24 0,0) L).2 T).1,(zbq (zcD (zbq (List.replicate 24 0,0) L).2 T).2 C).1)
theorem zvW:RenOk (List.replicate 24 (0:Int),0) 0:=⟨rfl,Int.le_refl _,Int.le_refl _,fun x hx=>by have:=List.eq_of_mem_replicate hx; omega⟩
def zgA (L:List zt) (T:List jI) (C:List zt):List zt×List jI×List zt:=zMO (qp L []) (qp T []) (qp C [])
theorem zmI {L:List zt} {T:List jI} {C:List zt} (hL:L.length≤100) (hT:T.length≤100) (hC:C.length≤100) (sL:∀ l∈L,zc7 l.2) (sT:∀ l∈T,zc7 l) (sC:∀ l∈C,zc7 l.2) :
  zfh L T C=some (zgA L T C):=by
 have big:∀ r:List Int,zc7 r→r.length≤maxLen:=fun r h=>by have:=h.1; unfold maxLen; omega
 have lL:=zbE L []
 have lT:=zbE T []
 have lC:=zbE C []
 simp only[List.length_nil,Nat.zero_add] at lL lT lC
 have sL':∀ l∈qp L [],zc7 l.2:=fun l h=>sL l (by simpa using (zbH L []).1 h)
 have sT':∀ l∈qp T [],zc7 l:=fun l h=>sT l (by simpa using (zbH T []).1 h)
 have sC':∀ l∈qp C [],zc7 l.2:=fun l h=>sC l (by simpa using (zbH C []).1 h)
 unfold zfh
 rw[zhJ (fun e he=>big _ (sL e he)) (by omega),Option.bind_some,zhJ (fun e he=>big _ (sC e he)) (by omega),Option.bind_some,
  zgZ _ _ _ _ (by unfold maxLen; omega),zrJ _ _ T [] (fun e he=>big _ (sT e he)) (by simp; omega),Option.bind_some]
 simp only
 generalize hL2:qp L []=L2 at lL sL'
 generalize hT2:qp T []=T2 at lT sT'
 generalize hC2:qp C []=C2 at lC sC'
 have k0:=zo2 L2 sL' zvW
 have k1:=zto T2 sT' k0
 have k2:=zo2 C2 sC' k1
 have e0:=znh L2 (List.replicate 24 0,0) [] 0 zvW (by omega) sL' (by simp; omega)
 have e1:=znA (zbq (List.replicate 24 0,0) L2).1 T2 _ [] _ k0 (by omega) sT' (by simp; omega)
 have e2:=znk (zbq (List.replicate 24 0,0) L2).1 (zcD (zbq (List.replicate 24 0,0) L2).2 T2).1 C2 _ [] _ k1 (by omega) sC' (by simp; omega)
 simp only[List.nil_append] at e0 e1 e2
 unfold zfH
 rw[zfd L2 L2 T2 C2 (List.replicate 24 0) 0 [] (by unfold maxLen; omega),e0,Option.bind_some]
 simp only
 rw[zfm _ _ _ _ _ _ _ _ (by unfold maxLen; omega),e1,Option.bind_some]
 simp only
 rw[zff _ _ _ _ _ _ (by unfold maxLen; omega),e2,Option.bind_some]
 have hlen:=k2.len
 simp only[List.length_replicate,hlen]
 unfold zgA zMO
 rw[hL2,hT2,hC2]
 rfl
end
end Go.Abs.Q
namespace Go.Abs.Q
open Go Go.Abs
section
theorem zsW {a0:List zQ}:{xs:List Int}→{n k:Nat}→sk a0 n xs=some k→∀ c∈xs.take k,-24≤c
 | [],n,k,h,c,hc=>by simp at hc
 | x::xs,0,k,h,c,hc=>by
  simp [sk] at h; subst h; simp at hc
 | x::xs,n+1,k,h,c,hc=>by
  unfold sk at h
  cases ha:zcp a0 x with
  | none=>rw[ha] at h; cases h
  | some m =>
   rw[ha] at h
   simp only[Option.map_eq_some_iff] at h
   obtain⟨j,hj,rfl⟩:=h
   rw[List.take_succ_cons] at hc
   rcases List.mem_cons.1 hc with rfl | hc
   ·by_cases h0:c<0
    ·exact (zq0 ha h0).1
    ·omega
   ·exact zsW hj c hc
theorem zjL {a0:List zQ} {xs:List Int} {ps:List jI} (h:zjK a0 xs=some ps):∀ c∈xs,-24≤c:=by
 obtain⟨h1,h2⟩:=zgS xs.length xs ps (Nat.le_refl _) h
 intro c hc
 rw[← h1] at hc
 obtain⟨p,hp,hcp⟩:=List.mem_flatten.1 hc
 have:=zsW (h2 p hp).2 c
 rw[List.take_length] at this
 exact this hcp
theorem zr6 {a0:List zQ} {xs:List Int} (h:zf9 a0 xs=true):zc7 xs:=by
 obtain⟨x,r,e,ps,rfl,h0,-,-,-,-,hl,hc,-⟩:=zhj h
 refine ⟨by simp; omega,fun c hcm => ?_⟩
 rcases List.mem_cons.1 hcm with rfl | hcm
 ·omega
 ·exact zjL hc c hcm
theorem zuk {a0:List zQ} {r:List Int} {n:Nat} (h:zhP a0 r=some n):zc7 r:=by
 obtain⟨ps,hc,-,hl,-⟩:=zpF h
 exact ⟨by omega,zjL hc⟩
theorem zcT {a0:List zQ} {ls:List zt} (h:zeD a0 ls=true):∀ l∈ls,zc7 l.2:=fun l hl =>
 zr6 (List.all_eq_true.1 h l hl)
theorem zhY {a0:List zQ} {rs:List jI} (h:zih a0 rs=true):∀ r∈rs,zc7 r:=fun r hr=>by
 obtain⟨n,hn⟩:=zqV h
 exact zuk (hn r hr)
theorem zkJ (a0:List zQ) (L:List zt) (T:List jI) (C:List zt):zdz a0 L T C=some (cond (zhL a0 L T C) ((zgA L T C).1,(zgA L T C).2.1,0,(zgA L T C).2.2) ([],[],800,[])):=by
 unfold zdz
 rw[zdu,Option.bind_some]
 cases h:zhL a0 L T C with
 | false=>rfl
 | true =>
  obtain⟨-,h1,h2,h3,h4,h5,h6,-⟩:=zaF h
  rw[Bool.not_true,cond_false,zmI (by omega) (by omega) (by omega) (zcT h4) (zhY h5) (zcT h6),Option.bind_some]
  rfl
theorem zmo:(s:List Int×Int)→(ls:List zt)→(zbq s ls).1.length=ls.length
 | _,[]=>rfl
 | s,l::ls=>by simp [zbq,zmo (zdp s l.2).2 ls]
theorem zqU:(s:List Int×Int)→(ls:List jI)→(zcD s ls).1.length=ls.length
 | _,[]=>rfl
 | s,l::ls=>by simp [zcD,zqU (zdp s l).2 ls]
theorem zkc:(s:List Int×Int)→(ls:List zt)→(b:Nat)→(∀ l∈ls,l.2.length≤b)→∀ l∈(zbq s ls).1,l.2.length≤b
 | _,[],_,_,l,hl=>by cases hl
 | s,e::es,b,h,l,hl=>by
  simp only[zbq] at hl
  rcases List.mem_cons.1 hl with rfl | hl
  ·rw[zoX]; exact h e (List.mem_cons_self ..)
  ·exact zkc _ es b (fun x hx=>h x (List.mem_cons_of_mem _ hx)) l hl
theorem znC:(s:List Int×Int)→(ls:List jI)→(b:Nat)→(∀ l∈ls,l.length≤b)→∀ l∈(zcD s ls).1,l.length≤b
 | _,[],_,_,l,hl=>by cases hl
 | s,e::es,b,h,l,hl=>by
  simp only[zcD] at hl
  rcases List.mem_cons.1 hl with rfl | hl
  ·rw[zoX]; exact h e (List.mem_cons_self ..)
  ·exact znC _ es b (fun x hx=>h x (List.mem_cons_of_mem _ hx)) l hl
theorem ztK {a0:List zQ} {L:List zt} {T:List jI} {C:List zt} (h:zhL a0 L T C=true) :
  yU (zgA L T C).1 (zgA L T C).2.1 (zgA L T C).2.2 (zgA L T C).1 (zgA L T C).2.1 (zgA L T C).2.2=some true:=by
 obtain⟨-,h1,h2,h3,h4,h5,h6,-⟩:=zaF h
 have lL:=zbE L []
 have lT:=zbE T []
 have lC:=zbE C []
 simp only[List.length_nil,Nat.zero_add] at lL lT lC
 have sL:∀ l∈qp L [],l.2.length≤1000:=fun l h=>(zcT h4 l (by simpa using (zbH L []).1 h)).1
 have sT:∀ l∈qp T [],l.length≤1000:=fun l h=>(zhY h5 l (by simpa using (zbH T []).1 h)).1
 have sC:∀ l∈qp C [],l.2.length≤1000:=fun l h=>(zcT h6 l (by simpa using (zbH C []).1 h)).1
 unfold zgA zMO
 apply zb4
 ·simp only[zmo]; unfold maxLen; omega
 ·intro e he
  have:=zkc _ _ 1000 sL e he
  unfold maxLen; omega
 ·simp only[zqU]; unfold maxLen; omega
 ·intro e he
  have:=znC _ _ 1000 sT e he
  unfold maxLen; omega
 ·simp only[zmo]; unfold maxLen; omega
 ·intro e he
  have:=zkc _ _ 1000 sC e he
  unfold maxLen; omega
def zal {α:Type} (s:Int):List α→Nat→List α
 | [],_=>[]
 | e::es,i=>cond ((i:Int) != s) (e::zal s es (i+1)) (zal s es (i+1))
theorem zcP {α:Type} (s:Int):(es:List α)→(i:Nat)→(zal s es i).length≤es.length
 | [],_=>Nat.le_refl _
 | e::es,i=>by
  unfold zal
  have:=zcP s es (i+1)
  cases ((i:Int) != s)<;>simp<;>omega
theorem zrg (s0:Int) (s8:List jI) (s10:List zt):(es:List zt)→(i:Nat)→(out:List zt)→out.length+es.length≤1000000→yw s0 s8 s10 es i out=some (s8,out++zal s0 es i,s10)
 | [],i,out,_=>by simp [yw,zal]
 | e::es,i,out,h=>by
  rw[List.length_cons] at h
  unfold yw zal
  cases ((i:Int) != s0) with
  | true =>
   rw[cond_true,cond_true,zP (show (out.length+([(e.1,e.2)]:List zt).length)*32≤140737488351232 by simp; omega),cond_true,zrg s0 s8 s10 es (i+1) _ (by simp; omega)]
   simp
  | false=>rw[cond_false,cond_false,zrg s0 s8 s10 es (i+1) out (by omega)]
theorem zrs (s0:Int) (s8:List jI) (s10:List zt):(es:List zt)→(i:Nat)→(out:List zt)→out.length+es.length≤1000000→yt s0 s8 s10 es i out=some (s8,out++zal s0 es i,s10)
 | [],i,out,_=>by simp [yt,zal]
 | e::es,i,out,h=>by
  rw[List.length_cons] at h
  unfold yt zal
  cases ((i:Int) != s0) with
  | true =>
   rw[cond_true,cond_true,zP (show (out.length+([(e.1,e.2)]:List zt).length)*32≤140737488351232 by simp; omega),cond_true,zrs s0 s8 s10 es (i+1) _ (by simp; omega)]
   simp
  | false=>rw[cond_false,cond_false,zrs s0 s8 s10 es (i+1) out (by omega)]
theorem zmQ {n:Nat} (h:n≤1000000):zfe (n:Int)=some []:=by
 unfold zfe
 have e:IntKind.wrap .i64 ((n:Int) - 0)=(n:Int):=by rw[zT]<;>omega
 rw[e,decide_eq_false (show ¬((n:Int)<0) by omega),cond_false]
 by_cases h0:n=0
 ·subst h0; rfl
 ·rw[decide_eq_true (show (n:Int)>0 by omega),cond_true,show (eqI 0 0&&eqI 0 0)=true from rfl,cond_true,show zuF (n:Int)=true from decide_eq_true (by omega),cond_true,Int.toNat_natCast,zP (by omega),cond_true]
  have:zck (List.replicate n ([]:List Int)) none (some 0)=some []:=by
   show slc (List.replicate n ([]:List Int)) 0 0=some []
   unfold slc
   rw[decide_eq_true (show (0:Int)≤0 by omega),decide_eq_true (show (0:Int)≤(((List.replicate n ([]:List Int)).length:Nat):Int) by omega)]
   rfl
  rw[this]; rfl
theorem zkI {n:Nat} (h:n≤1000000):zdx (n:Int)=some []:=by
 unfold zdx
 have e:IntKind.wrap .i64 ((n:Int) - 0)=(n:Int):=by rw[zT]<;>omega
 rw[e,decide_eq_false (show ¬((n:Int)<0) by omega),cond_false]
 by_cases h0:n=0
 ·subst h0; rfl
 ·rw[decide_eq_true (show (n:Int)>0 by omega),cond_true,show (eqI 0 0&&eqI 0 0)=true from rfl,cond_true,show zuF (n:Int)=true from decide_eq_true (by omega),cond_true,Int.toNat_natCast,zP (by omega),cond_true]
  have:∀ z:zt,zck (List.replicate n z) none (some 0)=some []:=fun z=>by
   show slc (List.replicate n z) 0 0=some []
   unfold slc
   rw[decide_eq_true (show (0:Int)≤0 by omega),decide_eq_true (show (0:Int)≤(((List.replicate n z).length:Nat):Int) by omega)]
   rfl
  rw[this]; rfl
theorem zjz {a b:List jI} (h:a.length+b.length≤1000000):zdy [a,b]=some (a++b):=by
 have w0:IntKind.wrap .i64 ((0:Int)+((a.length:Nat):Int))=((a.length:Nat):Int):=by rw[zT]<;>omega
 have w1:IntKind.wrap .i64 (((a.length:Nat):Int)+((b.length:Nat):Int))=((a.length+b.length:Nat):Int):=by rw[zT]<;>omega
 have e0:yJ [a,b] 0=some ((a.length+b.length:Nat):Int):=by
  unfold yJ
  rw[w0,decide_eq_false (show ¬(((a.length:Nat):Int)<0) by omega),cond_false]
  unfold yJ
  rw[w1,decide_eq_false (show ¬(((a.length+b.length:Nat):Int)<0) by omega),cond_false]
  rfl
 have e1:yE [a,b] []=some (a++b):=by
  unfold yE
  rw[zP (by simp; omega),cond_true,List.nil_append]
  unfold yE
  rw[zP (by omega),cond_true]
  rfl
 unfold zdy
 rw[zfM _ _ _ (by unfold maxLen; simp),e0,Option.bind_some,zmQ h,Option.bind_some,zfv _ _ (by unfold maxLen; simp),e1]
 rfl
theorem zel {a b:List zt} (h:a.length+b.length≤1000000):zbR [a,b]=some (a++b):=by
 have w0:IntKind.wrap .i64 ((0:Int)+((a.length:Nat):Int))=((a.length:Nat):Int):=by rw[zT]<;>omega
 have w1:IntKind.wrap .i64 (((a.length:Nat):Int)+((b.length:Nat):Int))=((a.length+b.length:Nat):Int):=by rw[zT]<;>omega
 have e0:ye [a,b] 0=some ((a.length+b.length:Nat):Int):=by
  unfold ye
  rw[w0,decide_eq_false (show ¬(((a.length:Nat):Int)<0) by omega),cond_false]
  unfold ye
  rw[w1,decide_eq_false (show ¬(((a.length+b.length:Nat):Int)<0) by omega),cond_false]
  rfl
 have e1:yf [a,b] []=some (a++b):=by
  unfold yf
  rw[zP (by simp; omega),cond_true,List.nil_append]
  unfold yf
  rw[zP (by omega),cond_true]
  rfl
 unfold zbR
 rw[zeA _ _ _ (by unfold maxLen; simp),e0,Option.bind_some,zkI h,Option.bind_some,zez _ _ (by unfold maxLen; simp),e1]
 rfl
theorem zl8 {L:List zt} {T:List jI} {C:List zt} {L':List zt} {T':List jI} {C':List zt} (i j:Int) (h1:L.length≤1000) (h2:T.length≤1000) (h3:C.length≤1000) (h4:L'.length≤1000) (h5:T'.length≤1000) (h6:C'.length≤1000) :
  zem L T C i L' T' C' j=some (T++T',zal i L 0++zal j L' 0,C++C'):=by
 have hw:=zcP i L 0
 unfold zem
 rw[zjz (by omega),Option.bind_some,zel (by omega),Option.bind_some,
  zgf _ _ _ _ _ _ _ _ _ (by unfold maxLen; omega),zrg _ _ _ _ _ _ (by simp; omega),Option.bind_some]
 simp only[List.nil_append]
 rw[zfY _ _ _ _ _ (by unfold maxLen; omega),zrs _ _ _ _ _ _ (by omega),Option.bind_some]
def zcG (L:List zt) (i:Int):Bool:=decide (0≤i)&&decide (i<L.length)
theorem zcI {α:Type} {s:Int} {x:α}:(es:List α)→(i:Nat)→x∈zal s es i→x∈es
 | [],_,h=>by cases h
 | e::es,i,h=>by
  unfold zal at h
  cases hb:((i:Int) != s) with
  | true =>
   rw[hb,cond_true] at h
   rcases List.mem_cons.1 h with rfl | h
   ·exact List.mem_cons_self ..
   ·exact List.mem_cons_of_mem _ (zcI es (i+1) h)
  | false=>rw[hb,cond_false] at h; exact List.mem_cons_of_mem _ (zcI es (i+1) h)
end
end Go.Abs.Q
namespace Go.Abs.Q
open Go Go.Abs
section
def to0:List (Option jI×Int):=List.replicate 48 ((none:Option jI),(0:Int))
theorem zHH {k:Nat} (h:k<48):to0[k]? = some (none,0):=by
 unfold to0
 rw[List.getElem?_replicate,if_pos h]
theorem zsM {α:Type} (xs:List α) (y:α):zck (xs++[y]) none (some (xs.length:Int))=some xs:=by
 show slc (xs++[y]) 0 (xs.length:Int)=some xs
 unfold slc
 rw[decide_eq_true (show (0:Int)≤0 by omega),decide_eq_true (show (0:Int)≤(xs.length:Int) by omega),decide_eq_true (show (xs.length:Int)≤(((xs++[y]).length:Nat):Int) by simp; omega)]
 simp
theorem zBZ (ps:List jI):zG ps=ps.flatten.length:=by
 induction ps with
 | nil=>rfl
 | cons p ps ih =>
  unfold zG at ih ⊢
  simp only[List.map_cons,List.sum_cons,List.flatten_cons,List.length_append,ih]
def zdk (s:List (Int×List Int)) (v:Int):Option jI:=(s.find? fun b=>b.1==v).map (·.2)
def onC (s:List (Int×List Int)) (c:Int):List Int:=cond (decide (c≥0)) [c] ((zdk s (-1 - c)).getD [c])
def onB (s:List (Int×List Int)) (r:List Int):List Int:=r.flatMap (onC s)
structure BindsOk (s:List (Int×List Int)):Prop where
 len:s.length≤1000
 all:∀ b∈s,b.2≠[]∧b.2.length≤1000
theorem zsO (v:Int):(es:List (Int×List Int))→zaC v es=some (match zdk es v with
  | none=>.inl ()
  | some t=>.inr t)
 | []=>rfl
 | e::es=>by
  unfold zaC zdk
  rw[List.find?_cons]
  cases he:(e.1==v) with
  | true=>rfl
  | false =>
   rw[cond_false,zsO v es]
   rfl
theorem zpZ {s:List (Int×List Int)} {v:Int} {t:List Int} (h:zdk s v=some t):∃ b∈s,b.1=v∧b.2=t:=by
 unfold zdk at h
 obtain⟨b,hb,rfl⟩:=Option.map_eq_some_iff.1 h
 exact ⟨b,List.mem_of_find?_eq_some hb,by simpa using List.find?_some hb,rfl⟩
theorem zj0 {α:Type} {xs:List α} (h:xs≠[]):nn xs=some xs:=by
 cases xs with
 | nil=>exact absurd rfl h
 | cons x xs=>rfl
theorem zq4 {s:List (Int×List Int)} (h:BindsOk s) (v:Int):zgp s v=some (zdk s v):=by
 unfold zgp
 rw[zh5 _ _ (by have:=h.len; unfold maxLen; omega),zsO]
 cases hl:zdk s v with
 | none=>rfl
 | some t =>
  obtain⟨b,hb,-,rfl⟩:=zpZ hl
  show (nn b.2).bind _=_
  rw[zj0 (h.all b hb).1]
  rfl
theorem zHX {s:List (Int×List Int)} (h:BindsOk s) (c:Int):(onC s c).length≤1000:=by
 unfold onC
 cases decide (c≥0) with
 | true=>simp
 | false =>
  cases hl:zdk s (-1 - c) with
  | none=>simp
  | some t =>
   obtain⟨b,hb,-,rfl⟩:=zpZ hl
   exact (h.all b hb).2
theorem zqO {s:List (Int×List Int)} (h:BindsOk s):(es:List Int)→(out:List Int)→(∀ c∈es,-1000000≤c∧c≤1000000)→out.length+1000*es.length≤10000000→qY s es out=some (out++onB s es)
 | [],out,_,_=>by simp [qY,onB]
 | e::es,out,hc,hl=>by
  rw[List.length_cons] at hl
  have he:=hc e (List.mem_cons_self ..)
  have ih:=fun out' hl'=>zqO h es out' (fun c hx=>hc c (List.mem_cons_of_mem _ hx)) hl'
  have hcl:=zHX h e
  have hB:onB s (e::es)=onC s e++onB s es:=by simp [onB]
  unfold qY
  rw[zbB (by omega) (by omega),Option.bind_some,zq4 h,Option.bind_some,hB]
  unfold onC at hcl ⊢
  by_cases h0:e≥0
  ·rw[decide_eq_true h0,cond_true,cond_true,zP (show (out.length+([e]:List Int).length)*8≤140737488351232 by simp; omega),cond_true,ih _ (by simp; omega)]
   simp
  ·rw[decide_eq_false h0] at hcl ⊢
   simp only[cond_false] at hcl ⊢
   cases hl2:zdk s (-1 - e) with
   | none =>
    simp only[Option.isNone_none,cond_true,Option.getD_none]
    rw[zP (show (out.length+([e]:List Int).length)*8≤140737488351232 by simp; omega),cond_true,ih _ (by simp; omega)]
    simp
   | some t =>
    rw[hl2] at hcl
    simp only[Option.getD_some] at hcl
    simp only[Option.isNone_some,cond_false,Option.getD_some]
    rw[zP (by omega),cond_true,ih _ (by simp; omega)]
    simp
theorem zj8 {s:List (Int×List Int)} (h:BindsOk s) {r:List Int} (hl:r.length≤1000) (hc:∀ c∈r,-1000000≤c∧c≤1000000):zo4 s r=some (onB s r):=by
 unfold zo4
 rw[zkg _ _ _ (by unfold maxLen; omega),zqO h r [] hc (by simp; omega)]
 rfl
def zcB (r:List Int):Prop:=r.length≤1000∧∀ c∈r,-1000000≤c∧c≤1000000
def zmZ (s:List (Int×List Int)) (ls:List zt):List zt:=ls.map fun l=>(l.1,onB s l.2)
def zuO (s:List (Int×List Int)) (rs:List jI):List jI:=rs.map (onB s)
theorem zqy {s:List (Int×List Int)} (h:BindsOk s):(es out:List zt)→(∀ l∈es,zcB l.2)→out.length+es.length≤1000000→qm s es out=some (out++zmZ s es)
 | [],out,_,_=>by simp [qm,zmZ]
 | e::es,out,hn,hl=>by
  rw[List.length_cons] at hl
  have he:=hn e (List.mem_cons_self ..)
  unfold qm zaq
  rw[zj8 h he.1 he.2,Option.bind_some,Option.bind_some,zP (show (out.length+([(e.1,onB s e.2)]:List zt).length)*32≤140737488351232 by simp; omega),cond_true,
   zqy h es _ (fun l hl=>hn l (List.mem_cons_of_mem _ hl)) (by simp; omega)]
  simp [zmZ]
theorem zp9 {s:List (Int×List Int)} (h:BindsOk s) (s7:List zt):(es out:List jI)→(∀ l∈es,zcB l)→out.length+es.length≤1000000→qv s s7 es out=some (s7,out++zuO s es)
 | [],out,_,_=>by simp [qv,zuO]
 | e::es,out,hn,hl=>by
  rw[List.length_cons] at hl
  have he:=hn e (List.mem_cons_self ..)
  unfold qv zaq
  rw[zj8 h he.1 he.2,Option.bind_some,Option.bind_some,zP (show (out.length+([onB s e]:List jI).length)*24≤140737488351232 by simp; omega),cond_true,
   zp9 h s7 es _ (fun l hl=>hn l (List.mem_cons_of_mem _ hl)) (by simp; omega)]
  simp [zuO]
theorem zqD {s:List (Int×List Int)} (h:BindsOk s) (s4:List zt) (s5:List jI):(es out:List zt)→(∀ l∈es,zcB l.2)→out.length+es.length≤1000000→qt s s4 s5 es out=some (s4,s5,out++zmZ s es)
 | [],out,_,_=>by simp [qt,zmZ]
 | e::es,out,hn,hl=>by
  rw[List.length_cons] at hl
  have he:=hn e (List.mem_cons_self ..)
  unfold qt zaq
  rw[zj8 h he.1 he.2,Option.bind_some,Option.bind_some,zP (show (out.length+([(e.1,onB s e.2)]:List zt).length)*32≤140737488351232 by simp; omega),cond_true,
   zqD h s4 s5 es _ (fun l hl=>hn l (List.mem_cons_of_mem _ hl)) (by simp; omega)]
  simp [zmZ]
theorem zpJ {s:List (Int×List Int)} (h:BindsOk s) {L:List zt} {T:List jI} {C:List zt} (hL:∀ l∈L,zcB l.2) (hT:∀ l∈T,zcB l) (hC:∀ l∈C,zcB l.2) (h1:L.length≤1000) (h2:T.length≤1000) (h3:C.length≤1000) :
  zgj s L T C=some (zmZ s L,zuO s T,zmZ s C):=by
 unfold zgj zh0
 rw[zgk _ _ _ _ _ _ (by unfold maxLen; omega),zqy h L [] hL (by simp; omega),Option.bind_some,
  zg8 _ _ _ _ _ _ _ (by unfold maxLen; omega),zp9 h _ T [] hT (by simp; omega),Option.bind_some,
  zg5 _ _ _ _ _ (by unfold maxLen; omega),zqD h _ _ C [] hC (by simp; omega),Option.bind_some]
 simp
end
end Go.Abs.Q
