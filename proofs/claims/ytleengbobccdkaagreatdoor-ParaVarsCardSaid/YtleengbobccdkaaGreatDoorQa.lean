import Derived.Test.YtleengbobccdkaaGreatDoorFc
/-
  What the functions make of plain values, and what the law says of that.
-/
namespace Go.Abs.Q
open Go Go.Abs
abbrev zi:=Str×Int×Int×Int
abbrev zwm:Tys:=.cons .str (.cons (.int .i64) (.cons (.int .i64) (.one (.int .i64))))
abbrev zc:=Bool×List Int
abbrev zmd:Tys:=.cons .bool (.one (.sl (.one (.int .i64))))
abbrev jR:=List (List Int)
abbrev jI:=List Int
abbrev jQ:=List zc
abbrev jS:=List zi
abbrev jT:=List (Int×Int×Int×Int×Int×Int×Int×jQ×jR×jQ)
abbrev jU:=Int×Int×Int×Int×Int×Int×Int×jQ×jR×jQ
def zeu (a0:Int):Option Bool :=
 cond (decide (a0≥97))
 (some (decide (a0≤122)))
 (some false)
def zbH (rec:(Str×Int×Int)→Option (Unit⊕Bool)) (x:(Str×Int×Int)):Option (Unit⊕Bool) :=
 cond (decide (x.2.2<x.2.1))
 ((gx x.1 x.2.2).bind fun c7 =>
  (zeu ((UInt8.toNat c7:Nat):Int)).bind fun r8 =>
  cond (!r8)
  ((gx x.1 x.2.2).bind fun c9 =>
   cond (decide (((UInt8.toNat c9:Nat):Int)<48))
   (some (Sum.inr false))
   ((gx x.1 x.2.2).bind fun c10 =>
    cond (decide (((UInt8.toNat c10:Nat):Int)>57))
    (some (Sum.inr false))
    (rec (x.1,x.2.1,(IntKind.wrap .i64 (x.2.2+1))))))
  (rec (x.1,x.2.1,(IntKind.wrap .i64 (x.2.2+1)))))
 (some (Sum.inl ()))
def zf0 (a0:Str):Option Bool :=
 cond (a0==([]:Str))
 (some false)
 (cond (decide (((List.length a0:Nat):Int)>8))
  (some false)
  ((gx a0 0).bind fun c14 =>
   (zeu ((UInt8.toNat c14:Nat):Int)).bind fun r15 =>
   cond (!r15)
   (some false)
   (((lp zbH zd) (a0,((List.length a0:Nat):Int),0)).bind fun r16 =>
    yd r16
    (fun z17=>some true)
    (fun z18=>some z18))))
def zeU (a0:Str) (a1:Int) (a2:Int) (a3:Int):Option Bool :=
 (zf0 a0).bind fun r2 =>
 cond r2
 (cond (decide (a1≥0))
  (cond (decide (a1≤2))
   (cond (decide (a2≥0))
    (cond (decide (a2≤3))
     (cond (decide (a3≥1))
      (some (decide (a3≤20)))
      (some false))
     (some false))
    (some false))
   (some false))
  (some false))
 (some false)
def zcv (rec:(jS×Str×Int×Int)→Option (Unit⊕Int)) (x:(jS×Str×Int×Int)):Option (Unit⊕Int) :=
 cond (decide (x.2.2.2<x.2.2.1))
 ((gx x.1 x.2.2.2).bind fun e2 =>
  cond (e2.1==x.2.1)
  (some (Sum.inr x.2.2.2))
  (rec (x.1,x.2.1,x.2.2.1,(IntKind.wrap .i64 (x.2.2.2+1)))))
 (some (Sum.inl ()))
def zg6 (a0:jS) (a1:Str):Option Int :=
 ((lp zcv zd) (a0,a1,((List.length a0:Nat):Int),0)).bind fun r6 =>
 yd r6
 (fun z7=>some (-1))
 (fun z8=>some z8)
def zci (rec:(jS×Int)→Option (Unit⊕Bool)) (x:(jS×Int)):Option (Unit⊕Bool) :=
 cond (decide (x.2<((List.length x.1:Nat):Int)))
 ((gx x.1 x.2).bind fun e6 =>
  (zeU e6.1 e6.2.1 e6.2.2.1 e6.2.2.2).bind fun r7 =>
  cond (!r7)
  (some (Sum.inr false))
  ((gx x.1 x.2).bind fun e8 =>
   (zg6 x.1 e8.1).bind fun r9 =>
   cond (r9 != x.2)
   (some (Sum.inr false))
   (rec (x.1,(IntKind.wrap .i64 (x.2+1))))))
 (some (Sum.inl ()))
def zhy (a0:jS):Option Bool :=
 cond (decide (((List.length a0:Nat):Int)<1))
 (some false)
 (cond (decide (((List.length a0:Nat):Int)>20))
  (some false)
  ((gx a0 0).bind fun e13 =>
   cond (!(cond (eqS e13.1 [61]) (cond (eqI e13.2.1 0) (cond (eqI e13.2.2.1 2) (cond (eqI e13.2.2.2 1) true false) false) false) false))
   (some false)
   (((lp zci zd) (a0,1)).bind fun r14 =>
    yd r14
    (fun z15=>some true)
    (fun z16=>some z16))))
def zhq (a0:(Option jI)):Option jI :=
 cond (Option.isNone a0)
 (some ([]:jI))
 (cond (yQ (List.length ([]:List Int)+List.length (Option.getD a0 [])) 8)
  (some (([]:List Int)++(Option.getD a0 [])))
  (none))
def zms:Option jI :=
 some ([]:jI)
def zbZ (a0:jI):Option jI:=zhq (some a0)
def z6 (a0:Int):Option Int :=
 some (IntKind.wrap .i64 ((-1) - a0))
def zhw (a0:jS) (a1:Int):Option (Int×Bool) :=
 cond (decide (a1<0))
 ((z6 23).bind fun r4 =>
  some (0,(decide (a1≥r4))))
 (cond (decide (a1≥((List.length a0:Nat):Int)))
  (some (0,false))
  ((gx a0 a1).bind fun e5 =>
   cond (e5.2.1==0)
   (some (0,false))
   ((gx a0 a1).bind fun e6 =>
    some (e6.2.2.1,true))))
def zbR (rec:(jS×jI×Int×Int)→Option (Int×Bool)) (x:(jS×jI×Int×Int)):Option (Int×Bool) :=
 cond (decide (x.2.2.1≥((List.length x.2.1:Nat):Int)))
 (some (0,false))
 ((gx x.2.1 x.2.2.1).bind fun e5 =>
  (zhw x.1 e5).bind fun r6 =>
  cond (!r6.2)
  (some (0,false))
  (cond (decide ((IntKind.wrap .i64 (x.2.2.2+(IntKind.wrap .i64 (r6.1 - 1))))>0))
   (rec (x.1,x.2.1,(IntKind.wrap .i64 (x.2.2.1+1)),(IntKind.wrap .i64 (x.2.2.2+(IntKind.wrap .i64 (r6.1 - 1))))))
   (some ((IntKind.wrap .i64 (x.2.2.1+1)),true))))
def zcF (a0:jS) (a1:jI) (a2:Int):Option (Int×Bool) :=
 cond (decide (a2≥((List.length a1:Nat):Int)))
 (some (0,false))
 ((gx a1 a2).bind fun e8 =>
  (zhw a0 e8).bind fun r9 =>
  cond (!r9.2)
  (some (0,false))
  (cond (decide ((IntKind.wrap .i64 (1+(IntKind.wrap .i64 (r9.1 - 1))))>0))
   ((((lp zbR zd) (a0,a1,(IntKind.wrap .i64 (a2+1)),(IntKind.wrap .i64 (1+(IntKind.wrap .i64 (r9.1 - 1))))))).bind fun r10 =>
    some (r10.1,r10.2))
   (some ((IntKind.wrap .i64 (a2+1)),true))))
def zb6 (rec:(jS×jI×Int×jI)→Option zc) (x:(jS×jI×Int×jI)):Option zc :=
 cond (x.2.2.1==((List.length x.2.1:Nat):Int))
 (some (true,x.2.2.2))
 ((zcF x.1 x.2.1 x.2.2.1).bind fun r4 =>
  cond (!r4.2)
  (some (false,([]:jI)))
  (cond (yQ (List.length x.2.2.2+List.length ([x.2.2.1]:List Int)) 8)
   (rec (x.1,x.2.1,r4.1,(x.2.2.2++([x.2.2.1]:List Int))))
   (none)))
def zdf (a0:jS) (a1:jI):Option zc :=
 (zhy a0).bind fun r6 =>
 cond (!r6)
 (some (false,([]:jI)))
 (cond (decide (((List.length a1:Nat):Int)>48))
  (some (false,([]:jI)))
  (cond (0==((List.length a1:Nat):Int))
   (some (true,([]:jI)))
   ((zcF a0 a1 0).bind fun r7 =>
    cond (!r7.2)
    (some (false,([]:jI)))
    (cond (yQ (List.length ([0]:List Int)) 8)
     ((((lp zb6 zd) (a0,a1,r7.1,([0]:List Int)))).bind fun r8 =>
      some (r8.1,r8.2))
     (none)))))
def zbi (a0:jS) (a1:jI):Option Bool :=
 cond (((List.length a1:Nat):Int)==0)
 (some false)
 ((gx a1 0).bind fun e9 =>
  cond (decide (e9<0))
  (some false)
  ((gx a1 0).bind fun e10 =>
   cond (decide (e10≥((List.length a0:Nat):Int)))
   (some false)
   ((gx a1 0).bind fun e11 =>
    (gx a0 e11).bind fun e12 =>
    cond (e12.2.1 != 0)
    (some false)
    ((zbV a1 (some 1) none).bind fun y13 =>
     (zdf a0 y13).bind fun r14 =>
     cond r14.1
     ((gx a1 0).bind fun e15 =>
      (gx a0 e15).bind fun e16 =>
      some (((List.length r14.2:Nat):Int)==e16.2.2.1))
     (some false)))))
def zgg (a0:jS) (a1:Bool) (a2:jI):Option Bool :=
 (zbi a0 a2).bind fun r2 =>
 some r2
def zaa (rec:(jS×Int×jQ×Int×Int)→Option (Int⊕(Int×Bool))) (x:(jS×Int×jQ×Int×Int)):Option (Int⊕(Int×Bool)) :=
 cond (decide (x.2.2.2.2<x.2.2.2.1))
 ((gx x.2.2.1 x.2.2.2.2).bind fun e3 =>
  (zgg x.1 e3.1 e3.2).bind fun r4 =>
  cond (!r4)
  (some (Sum.inr (0,false)))
  (rec (x.1,(IntKind.wrap .i64 (x.2.1+((List.length e3.2:Nat):Int))),x.2.2.1,x.2.2.2.1,(IntKind.wrap .i64 (x.2.2.2.2+1)))))
 (some (Sum.inl x.2.1))
def zb9 (a0:jS) (a1:jQ):Option (Int×Bool) :=
 ((lp zaa zd) (a0,0,a1,((List.length a1:Nat):Int),0)).bind fun r8 =>
 yd r8
 (fun z9=>some (z9,true))
 (fun z10=>some (z10.1,z10.2))
def zgu (a0:jS) (a1:jI):Option (Int×Int) :=
 (zdf a0 a1).bind fun r2 =>
 cond (!r2.1)
 (some (0,200))
 (some (((List.length r2.2:Nat):Int),0))
def q9 (rec:(jS×Int×Int×jR×Int×Int)→Option (Int⊕(Int×Bool))) (x:(jS×Int×Int×jR×Int×Int)):Option (Int⊕(Int×Bool)) :=
 cond (decide (x.2.2.2.2.2<x.2.2.2.2.1))
 ((gx x.2.2.2.1 x.2.2.2.2.2).bind fun e3 =>
  (zgu x.1 e3).bind fun r4 =>
  cond (x.2.2.2.2.2==0)
  (cond (r4.2 != 0)
   (some (Sum.inr (0,false)))
   (cond (r4.1 != r4.1)
    (some (Sum.inr (0,false)))
    (rec (x.1,(IntKind.wrap .i64 (x.2.1+((List.length e3:Nat):Int))),r4.1,x.2.2.2.1,x.2.2.2.2.1,(IntKind.wrap .i64 (x.2.2.2.2.2+1))))))
  (cond (r4.2 != 0)
   (some (Sum.inr (0,false)))
   (cond (r4.1 != x.2.2.1)
    (some (Sum.inr (0,false)))
    (rec (x.1,(IntKind.wrap .i64 (x.2.1+((List.length e3:Nat):Int))),x.2.2.1,x.2.2.2.1,x.2.2.2.2.1,(IntKind.wrap .i64 (x.2.2.2.2.2+1)))))))
 (some (Sum.inl x.2.1))
def zdz (a0:jS) (a1:jR):Option (Int×Bool) :=
 ((lp q9 zd) (a0,0,0,a1,((List.length a1:Nat):Int),0)).bind fun r8 =>
 yd r8
 (fun z9=>some (z9,true))
 (fun z10=>some (z10.1,z10.2))
def za0 (a0:jS) (a1:jQ) (a2:jR) (a3:jQ):Option Bool :=
 (zhy a0).bind fun r5 =>
 cond (!r5)
 (some false)
 (cond (decide (((List.length a1:Nat):Int)>5))
  (some false)
  (cond (decide (((List.length a2:Nat):Int)>3))
   (some false)
   (cond (decide (((List.length a3:Nat):Int)>3))
    (some false)
    ((zb9 a0 a1).bind fun r6 =>
     (zdz a0 a2).bind fun r7 =>
     (zb9 a0 a3).bind fun r8 =>
     cond r6.2
     (cond r7.2
      (cond r8.2
       (some (decide ((IntKind.wrap .i64 ((IntKind.wrap .i64 (r6.1+r7.1))+r8.1))≤240)))
       (some false))
      (some false))
     (some false)))))
def za2 (rec:(jI×jI×Int×Int)→Option (Unit⊕Bool)) (x:(jI×jI×Int×Int)):Option (Unit⊕Bool) :=
 cond (decide (x.2.2.2<x.2.2.1))
 ((gx x.1 x.2.2.2).bind fun e3 =>
  (gx x.2.1 x.2.2.2).bind fun e4 =>
  cond (e3 != e4)
  (some (Sum.inr false))
  (rec (x.1,x.2.1,x.2.2.1,(IntKind.wrap .i64 (x.2.2.2+1)))))
 (some (Sum.inl ()))
def ym (a0:jI) (a1:jI):Option Bool :=
 cond (((List.length a0:Nat):Int) != ((List.length a1:Nat):Int))
 (some false)
 (((lp za2 zd) (a0,a1,((List.length a0:Nat):Int),0)).bind fun r8 =>
  yd r8
  (fun z9=>some true)
  (fun z10=>some z10))
def zkB (a0:Bool) (a1:jI) (a2:Bool) (a3:jI):Option Bool :=
 cond (a0==a2)
 ((ym a1 a3).bind fun r2 =>
  some r2)
 (some false)
def zdx (a0:Bool) (a1:jI) (a2:Bool) (a3:jI):Option Bool :=
 (zkB a2 a3 a0 a1).bind fun r2 =>
 some r2
def qu (rec:(jQ×Int×Int×Bool×jI)→Option (Unit⊕Int)) (x:(jQ×Int×Int×Bool×jI)):Option (Unit⊕Int) :=
 cond (decide (x.2.2.1<x.2.1))
 ((gx x.1 x.2.2.1).bind fun e3 =>
  (zdx e3.1 e3.2 x.2.2.2.1 x.2.2.2.2).bind fun r4 =>
  cond r4
  (some (Sum.inr x.2.2.1))
  (rec (x.1,x.2.1,(IntKind.wrap .i64 (x.2.2.1+1)),x.2.2.2.1,x.2.2.2.2)))
 (some (Sum.inl ()))
def zd2 (a0:jQ) (a1:Bool) (a2:jI):Option Int :=
 ((lp qu zd) (a0,((List.length a0:Nat):Int),0,a1,a2)).bind fun r8 =>
 yd r8
 (fun z9=>some (-1))
 (fun z10=>some z10)
def zai (a0:jQ) (a1:Bool) (a2:jI):Option Bool :=
 (zd2 a0 a1 a2).bind fun r2 =>
 some (decide (r2≥0))
def zbw (rec:(jQ×Int×Int×jQ)→Option jQ) (x:(jQ×Int×Int×jQ)):Option jQ :=
 cond (decide (x.2.2.1<x.2.1))
 ((gx x.1 x.2.2.1).bind fun e5 =>
  (zai x.2.2.2 e5.1 e5.2).bind fun r6 =>
  cond (!r6)
  (cond (yQ (List.length x.2.2.2+List.length ([(e5.1,e5.2)]:List zc)) 32)
   (rec (x.1,x.2.1,(IntKind.wrap .i64 (x.2.2.1+1)),(x.2.2.2++([(e5.1,e5.2)]:List zc))))
   (none))
  (rec (x.1,x.2.1,(IntKind.wrap .i64 (x.2.2.1+1)),x.2.2.2)))
 (some x.2.2.2)
def zeL (a0:jQ):Option jQ :=
 ((lp zbw zd) (a0,((List.length a0:Nat):Int),0,([]:jQ))).bind fun r8 =>
 some r8
def zdw (a0:jI) (a1:jI):Option Bool :=
 (ym a1 a0).bind fun r2 =>
 some r2
def yM (rec:(jR×Int×Int×jI)→Option (Unit⊕Int)) (x:(jR×Int×Int×jI)):Option (Unit⊕Int) :=
 cond (decide (x.2.2.1<x.2.1))
 ((gx x.1 x.2.2.1).bind fun e3 =>
  (zdw e3 x.2.2.2).bind fun r4 =>
  cond r4
  (some (Sum.inr x.2.2.1))
  (rec (x.1,x.2.1,(IntKind.wrap .i64 (x.2.2.1+1)),x.2.2.2)))
 (some (Sum.inl ()))
def zcS (a0:jR) (a1:jI):Option Int :=
 ((lp yM zd) (a0,((List.length a0:Nat):Int),0,a1)).bind fun r8 =>
 yd r8
 (fun z9=>some (-1))
 (fun z10=>some z10)
def qL (a0:jR) (a1:jI):Option Bool :=
 (zcS a0 a1).bind fun r2 =>
 some (decide (r2≥0))
def yJ (rec:(Int×Int×jI×Int×jI)→Option (jI×Int×jI)) (x:(Int×Int×jI×Int×jI)):Option (jI×Int×jI) :=
 cond (decide (x.2.1<x.1))
 ((inR x.2.1 (List.length x.2.2.2.2)).bind fun k33 =>
  (x.2.2.2.2[k33]?).bind fun x34 =>
  cond (decide (x34≥0))
  (rec (x.1,(IntKind.wrap .i64 (x.2.1+1)),x.2.2.1,x.2.2.2.1,x.2.2.2.2))
  ((z6 x34).bind fun r35 =>
   (inR r35 24).bind fun k36 =>
   (x.2.2.1[k36]?).bind fun x37 =>
   cond (x37==0)
   ((z6 x34).bind fun r38 =>
    (inR r38 24).bind fun k39 =>
    (x.2.2.1[k39]?).bind fun x40 =>
    (z6 x34).bind fun r41 =>
    (inR r41 24).bind fun k42 =>
    ((List.set x.2.2.1 k39 (IntKind.wrap .i64 (x.2.2.2.1+1)))[k42]?).bind fun x43 =>
    (inR x.2.1 (List.length x.2.2.2.2)).bind fun k44 =>
    (x.2.2.2.2[k44]?).bind fun x45 =>
    rec (x.1,(IntKind.wrap .i64 (x.2.1+1)),(List.set x.2.2.1 k39 (IntKind.wrap .i64 (x.2.2.2.1+1))),(IntKind.wrap .i64 (x.2.2.2.1+1)),(List.set x.2.2.2.2 k44 (zAt .i64 x43))))
   ((z6 x34).bind fun r46 =>
    (inR r46 24).bind fun k47 =>
    (x.2.2.1[k47]?).bind fun x48 =>
    (inR x.2.1 (List.length x.2.2.2.2)).bind fun k49 =>
    (x.2.2.2.2[k49]?).bind fun x50 =>
    rec (x.1,(IntKind.wrap .i64 (x.2.1+1)),x.2.2.1,x.2.2.2.1,(List.set x.2.2.2.2 k49 (zAt .i64 x48))))))
 (some (x.2.2.1,x.2.2.2.1,x.2.2.2.2))
def yE (a0:jI) (a1:jI) (a2:Int):Option (jI×jI×Int) :=
 (zbZ a0).bind fun r52 =>
 ((lp yJ zd) (((List.length r52:Nat):Int),0,a1,a2,r52)).bind fun r53 =>
 cond (Nat.beq (List.length a1) (List.length r53.1)&&true)
 (some (r53.2.2,r53.1,r53.2.1))
 (none)
def zaw (rec:(jQ×Int×Int×jI×Int×jQ×jR×jQ)→Option (jI×Int×jQ×jR×jQ)) (x:(jQ×Int×Int×jI×Int×jQ×jR×jQ)):Option (jI×Int×jQ×jR×jQ) :=
 cond (decide (x.2.2.1<x.2.1))
 ((gx x.1 x.2.2.1).bind fun e19 =>
  (yE e19.2 x.2.2.2.1 x.2.2.2.2.1).bind fun r20 =>
  cond (yQ (List.length x.2.2.2.2.2.2.2+List.length ([(e19.1,r20.1)]:List zc)) 32)
  (rec (x.1,x.2.1,(IntKind.wrap .i64 (x.2.2.1+1)),r20.2.1,r20.2.2,x.2.2.2.2.2.1,x.2.2.2.2.2.2.1,(x.2.2.2.2.2.2.2++([(e19.1,r20.1)]:List zc))))
  (none))
 (some (x.2.2.2.1,x.2.2.2.2.1,x.2.2.2.2.2.1,x.2.2.2.2.2.2.1,x.2.2.2.2.2.2.2))
def zaq (rec:(jR×Int×Int×jI×Int×jQ×jR×jQ×jQ×jR)→Option (jI×Int×jQ×jR)) (x:(jR×Int×Int×jI×Int×jQ×jR×jQ×jQ×jR)):Option (jI×Int×jQ×jR) :=
 cond (decide (x.2.2.1<x.2.1))
 ((gx x.1 x.2.2.1).bind fun e12 =>
  (yE e12 x.2.2.2.1 x.2.2.2.2.1).bind fun r13 =>
  cond (yQ (List.length x.2.2.2.2.2.2.2.2.2+List.length ([r13.1]:List jI)) 24)
  (rec (x.1,x.2.1,(IntKind.wrap .i64 (x.2.2.1+1)),r13.2.1,r13.2.2,x.2.2.2.2.2.1,x.2.2.2.2.2.2.1,x.2.2.2.2.2.2.2.1,x.2.2.2.2.2.2.2.2.1,(x.2.2.2.2.2.2.2.2.2++([r13.1]:List jI))))
  (none))
 (some (x.2.2.2.1,x.2.2.2.2.1,x.2.2.2.2.2.2.2.2.1,x.2.2.2.2.2.2.2.2.2))
def zau (rec:(jQ×Int×Int×jI×Int×jQ×jR×jQ×jQ)→Option (jI×Int×jQ)) (x:(jQ×Int×Int×jI×Int×jQ×jR×jQ×jQ)):Option (jI×Int×jQ) :=
 cond (decide (x.2.2.1<x.2.1))
 ((gx x.1 x.2.2.1).bind fun e5 =>
  (yE e5.2 x.2.2.2.1 x.2.2.2.2.1).bind fun r6 =>
  cond (yQ (List.length x.2.2.2.2.2.2.2.2+List.length ([(e5.1,r6.1)]:List zc)) 32)
  (rec (x.1,x.2.1,(IntKind.wrap .i64 (x.2.2.1+1)),r6.2.1,r6.2.2,x.2.2.2.2.2.1,x.2.2.2.2.2.2.1,x.2.2.2.2.2.2.2.1,(x.2.2.2.2.2.2.2.2++([(e5.1,r6.1)]:List zc))))
  (none))
 (some (x.2.2.2.1,x.2.2.2.2.1,x.2.2.2.2.2.2.2.2))
def zgv (a0:jQ) (a1:jR) (a2:jQ) (a3:jI) (a4:Int):Option (jQ×jR×jQ×jI×Int) :=
 ((lp zau zd) (a0,((List.length a0:Nat):Int),0,a3,a4,a0,a1,a2,([]:jQ))).bind fun r22 =>
 ((lp zaq zd) (a1,((List.length a1:Nat):Int),0,r22.1,r22.2.1,a0,a1,a2,r22.2.2,([]:jR))).bind fun r23 =>
 ((lp zaw zd) (a2,((List.length a2:Nat):Int),0,r23.1,r23.2.1,r23.2.2.1,r23.2.2.2,([]:jQ))).bind fun r24 =>
 cond (Nat.beq (List.length a3) (List.length r24.1)&&true)
 (some (r24.2.2.1,r24.2.2.2.1,r24.2.2.2.2,r24.1,r24.2.1))
 (none)
def zbu (rec:(jR×Int×Int×jQ×jQ×jR)→Option (jQ×jQ×jR)) (x:(jR×Int×Int×jQ×jQ×jR)):Option (jQ×jQ×jR) :=
 cond (decide (x.2.2.1<x.2.1))
 ((gx x.1 x.2.2.1).bind fun e7 =>
  (qL x.2.2.2.2.2 e7).bind fun r8 =>
  cond (!r8)
  (cond (yQ (List.length x.2.2.2.2.2+List.length ([e7]:List jI)) 24)
   (rec (x.1,x.2.1,(IntKind.wrap .i64 (x.2.2.1+1)),x.2.2.2.1,x.2.2.2.2.1,(x.2.2.2.2.2++([e7]:List jI))))
   (none))
  (rec (x.1,x.2.1,(IntKind.wrap .i64 (x.2.2.1+1)),x.2.2.2.1,x.2.2.2.2.1,x.2.2.2.2.2)))
 (some (x.2.2.2.1,x.2.2.2.2.1,x.2.2.2.2.2))
def zfW (a0:jQ) (a1:jR) (a2:jQ):Option (jQ×jR×jQ) :=
 (zeL a0).bind fun r11 =>
 (zeL a2).bind fun r12 =>
 ((lp zbu zd) (a1,((List.length a1:Nat):Int),0,r11,r12,([]:jR))).bind fun r13 =>
 (zgv r13.1 r13.2.2 r13.2.1 (List.replicate 24 (0:Int)) 0).bind fun r14 =>
 some (r14.1,r14.2.1,r14.2.2.1)
def zcG (a0:jS) (a1:jQ) (a2:jR) (a3:jQ):Option (jQ×jR×Int×jQ) :=
 (za0 a0 a1 a2 a3).bind fun r3 =>
 cond (!r3)
 (some (([]:jQ),([]:jR),800,([]:jQ)))
 ((zfW a1 a2 a3).bind fun r4 =>
  some (r4.1,r4.2.1,0,r4.2.2))
def zb4 (rec:(jS×jI×Int×jR)→Option (jR⊕jR)) (x:(jS×jI×Int×jR)):Option (jR⊕jR) :=
 cond (decide (x.2.2.1<((List.length x.2.1:Nat):Int)))
 ((zcF x.1 x.2.1 x.2.2.1).bind fun r5 =>
  cond (!r5.2)
  (some (Sum.inr x.2.2.2))
  ((zbV x.2.1 (some x.2.2.1) (some r5.1)).bind fun y6 =>
   cond (yQ (List.length x.2.2.2+List.length ([y6]:List jI)) 24)
   (rec (x.1,x.2.1,r5.1,(x.2.2.2++([y6]:List jI))))
   (none)))
 (some (Sum.inl x.2.2.2))
def zbe (a0:jS) (a1:jI):Option jR :=
 ((lp zb4 zd) (a0,a1,0,([]:jR))).bind fun r10 =>
 yd r10
 (fun z11=>some z11)
 (fun z12=>some z12)
def zej (a0:Int):Option Int :=
 some a0
def zax (rec:(jI×jI×Int)→Option (Unit⊕Bool)) (x:(jI×jI×Int)):Option (Unit⊕Bool) :=
 cond (decide (x.2.2<((List.length x.1:Nat):Int)))
 ((gx x.1 x.2.2).bind fun e3 =>
  (gx x.2.1 x.2.2).bind fun e4 =>
  cond (e3 != e4)
  (some (Sum.inr false))
  (rec (x.1,x.2.1,(IntKind.wrap .i64 (x.2.2+1)))))
 (some (Sum.inl ()))
def zbj (a0:jI) (a1:jI):Option Bool :=
 cond (((List.length a0:Nat):Int) != ((List.length a1:Nat):Int))
 (some false)
 (((lp zax zd) (a0,a1,0)).bind fun r8 =>
  yd r8
  (fun z9=>some true)
  (fun z10=>some z10))
def zaB (rec:(jQ×jQ×Int)→Option (Unit⊕Bool)) (x:(jQ×jQ×Int)):Option (Unit⊕Bool) :=
 cond (decide (x.2.2<((List.length x.1:Nat):Int)))
 ((gx x.1 x.2.2).bind fun e6 =>
  (gx x.2.1 x.2.2).bind fun e7 =>
  cond (!(e6.1==e7.1))
  (some (Sum.inr false))
  ((gx x.1 x.2.2).bind fun e8 =>
   (gx x.2.1 x.2.2).bind fun e9 =>
   (zbj e8.2 e9.2).bind fun r10 =>
   cond (!r10)
   (some (Sum.inr false))
   (rec (x.1,x.2.1,(IntKind.wrap .i64 (x.2.2+1))))))
 (some (Sum.inl ()))
def zcI (a0:jQ) (a1:jQ):Option Bool :=
 cond (((List.length a0:Nat):Int) != ((List.length a1:Nat):Int))
 (some false)
 (((lp zaB zd) (a0,a1,0)).bind fun r14 =>
  yd r14
  (fun z15=>some true)
  (fun z16=>some z16))
def zav (rec:(jR×jR×Int)→Option (Unit⊕Bool)) (x:(jR×jR×Int)):Option (Unit⊕Bool) :=
 cond (decide (x.2.2<((List.length x.1:Nat):Int)))
 ((gx x.1 x.2.2).bind fun e4 =>
  (gx x.2.1 x.2.2).bind fun e5 =>
  (zbj e4 e5).bind fun r6 =>
  cond (!r6)
  (some (Sum.inr false))
  (rec (x.1,x.2.1,(IntKind.wrap .i64 (x.2.2+1)))))
 (some (Sum.inl ()))
def zeo (a0:jR) (a1:jR):Option Bool :=
 cond (((List.length a0:Nat):Int) != ((List.length a1:Nat):Int))
 (some false)
 (((lp zav zd) (a0,a1,0)).bind fun r10 =>
  yd r10
  (fun z11=>some true)
  (fun z12=>some z12))
def qE (a0:jQ) (a1:jR) (a2:jQ) (a3:jQ) (a4:jR) (a5:jQ):Option Bool :=
 (zcI a0 a3).bind fun r4 =>
 cond r4
 ((zeo a1 a4).bind fun r5 =>
  cond r5
  ((zcI a2 a5).bind fun r6 =>
   some r6)
  (some false))
 (some false)
end Go.Abs.Q
namespace Go.Abs.Q
open Go Go.Abs
section
theorem zm {X Y:Type} (s:(X→Option Y)→X→Option Y) (k:Nat):lp s (k+1)=s (lp s k):=rfl
theorem y5 {α:Type} (xs:List α) (i:Nat):gx xs (i:Int)=xs[i]? := by
 unfold gx
 rw[show decide ((0:Int)≤(i:Int))=true from by simp]
 rfl
theorem yZ {α:Type} (xs:List α):gx xs 0=xs[0]? := y5 xs 0
theorem zjA {α:Type} {xs:List α} {i:Int} (h0:0≤i) (h:i<xs.length):∃ x,gx xs i=some x∧x∈xs∧xs[i.toNat]? = some x:=by
 have hi:i.toNat<xs.length:=by omega
 refine ⟨xs[i.toNat],?_,List.getElem_mem hi,List.getElem?_eq_getElem hi⟩
 unfold gx
 rw[show decide ((0:Int)≤i)=true from by simp; omega,cond_true,List.getElem?_eq_getElem hi]
theorem yY {i l:Nat} (h:i<l):inR (i:Int) l=some i:=by
 unfold inR
 simp [h]
theorem zp {n:Int} (h1 : -9223372036854775808≤n) (h2:n≤9223372036854775807):IntKind.wrap .i64 n=n:=by
 simp [IntKind.wrap,IntKind.signed,IntKind.bits]
 omega
theorem zbO {i l:Nat} (h:i<l) (hl:l≤maxLen):IntKind.wrap .i64 ((i:Int)+1)=((i+1:Nat):Int):=by
 unfold maxLen at hl
 rw[zp]<;>omega
theorem zb3 {i l:Nat} (h:i<l):decide ((i:Int)<(l:Int))=true:=by simp [h]
theorem zbh {i l:Nat} (h:l≤i):decide ((i:Int)<(l:Int))=false:=by simp; omega
theorem qh {α:Type} {xs:List α} {i:Nat} (h:xs.drop i=[]):xs.length≤i:=by simpa using h
theorem zI {α:Type} {xs es:List α} {e:α} {i:Nat} (h:xs.drop i=e::es):i<xs.length:=by
 rw[← Nat.not_le]
 intro hn
 rw[List.drop_eq_nil_iff.2 hn] at h
 cases h
theorem zk {α:Type} {xs es:List α} {e:α} {i:Nat} (h:xs.drop i=e::es):xs[i]? = some e:=by
 have:=congrArg (·[0]?) h
 simpa using this
theorem ze {α:Type} {xs es:List α} {e:α} {i:Nat} (h:xs.drop i=e::es):xs.drop (i+1)=es:=by
 rw[← List.drop_drop,h]
 rfl
end
end Go.Abs.Q
namespace Go.Abs.Q
open Go Go.Abs
theorem zdC {A R T:Type} {xs:List A} (f:(T→Option R)→T→Option R) (mk:Int→T) (go:List A→Nat→Option R) (hl:List.length xs≤maxLen)
  (h0:∀(r:T→Option R) (i:Nat),decide ((i:Int)<((List.length xs:Nat):Int))=false→f r (mk (i:Int))=go [] i)
  (h1:∀(r:T→Option R) (i:Nat) e es,decide ((i:Int)<((List.length xs:Nat):Int))=true→gx xs (i:Int)=some e→IntKind.wrap .i64 ((i:Int)+1)=((i+1:Nat):Int)→(r (mk ((i+1:Nat):Int))=go es (i+1))→f r (mk (i:Int))=go (e::es) i)
   : lp f zd (mk 0)=go xs 0:=by
 have key:∀(es:List A) (i k:Nat),xs.drop i=es→es.length<k→lp f k (mk (i:Int))=go es i:=by
  intro es
  induction es with
  | nil =>
   intro i k h hk
   obtain⟨k,rfl⟩:∃ k',k=k'+1:=⟨k - 1,by omega⟩
   exact h0 _ i (zbh (qh h))
  | cons e es ih =>
   intro i k h hk
   obtain⟨k,rfl⟩:∃ k',k=k'+1:=⟨k - 1,by omega⟩
   have hi:=zI h
   exact h1 _ i e es (zb3 hi) ((y5 xs i).trans (zk h)) (zbO hi hl) (ih (i+1) k (ze h) (Nat.lt_of_succ_lt_succ hk))
 exact key xs 0 zd rfl (Nat.lt_of_le_of_lt hl (by decide))
theorem zaJ {A S0 R T:Type} {xs:List A} (f:(T→Option R)→T→Option R) (mk:Int→S0→T) (go:List A→Nat→S0→Option R) (hl:List.length xs≤maxLen)
  (h0:∀(r:T→Option R) (i:Nat) s0,decide ((i:Int)<((List.length xs:Nat):Int))=false→f r (mk (i:Int) s0)=go [] i s0)
  (h1:∀(r:T→Option R) (i:Nat) s0 e es,decide ((i:Int)<((List.length xs:Nat):Int))=true→gx xs (i:Int)=some e→IntKind.wrap .i64 ((i:Int)+1)=((i+1:Nat):Int)→(∀ s0,r (mk ((i+1:Nat):Int) s0)=go es (i+1) s0)→f r (mk (i:Int) s0)=go (e::es) i s0)
  (s0:S0):lp f zd (mk 0 s0)=go xs 0 s0:=by
 have key:∀(es:List A) (i k:Nat) s0,xs.drop i=es→es.length<k→lp f k (mk (i:Int) s0)=go es i s0:=by
  intro es
  induction es with
  | nil =>
   intro i k s0 h hk
   obtain⟨k,rfl⟩:∃ k',k=k'+1:=⟨k - 1,by omega⟩
   exact h0 _ i s0 (zbh (qh h))
  | cons e es ih =>
   intro i k s0 h hk
   obtain⟨k,rfl⟩:∃ k',k=k'+1:=⟨k - 1,by omega⟩
   have hi:=zI h
   exact h1 _ i s0 e es (zb3 hi) ((y5 xs i).trans (zk h)) (zbO hi hl) (fun s0=>ih (i+1) k s0 (ze h) (Nat.lt_of_succ_lt_succ hk))
 exact key xs 0 zd s0 rfl (Nat.lt_of_le_of_lt hl (by decide))
theorem zDB {A S0 S1 R T:Type} {xs:List A} (f:(T→Option R)→T→Option R) (mk:Int→S0→S1→T) (go:List A→Nat→S0→S1→Option R) (hl:List.length xs≤maxLen)
  (h0:∀(r:T→Option R) (i:Nat) s0 s1,decide ((i:Int)<((List.length xs:Nat):Int))=false→f r (mk (i:Int) s0 s1)=go [] i s0 s1)
  (h1:∀(r:T→Option R) (i:Nat) s0 s1 e es,decide ((i:Int)<((List.length xs:Nat):Int))=true→gx xs (i:Int)=some e→IntKind.wrap .i64 ((i:Int)+1)=((i+1:Nat):Int)→(∀ s0 s1,r (mk ((i+1:Nat):Int) s0 s1)=go es (i+1) s0 s1)→f r (mk (i:Int) s0 s1)=go (e::es) i s0 s1)
  (s0:S0) (s1:S1):lp f zd (mk 0 s0 s1)=go xs 0 s0 s1:=by
 have key:∀(es:List A) (i k:Nat) s0 s1,xs.drop i=es→es.length<k→lp f k (mk (i:Int) s0 s1)=go es i s0 s1:=by
  intro es
  induction es with
  | nil =>
   intro i k s0 s1 h hk
   obtain⟨k,rfl⟩:∃ k',k=k'+1:=⟨k - 1,by omega⟩
   exact h0 _ i s0 s1 (zbh (qh h))
  | cons e es ih =>
   intro i k s0 s1 h hk
   obtain⟨k,rfl⟩:∃ k',k=k'+1:=⟨k - 1,by omega⟩
   have hi:=zI h
   exact h1 _ i s0 s1 e es (zb3 hi) ((y5 xs i).trans (zk h)) (zbO hi hl) (fun s0 s1=>ih (i+1) k s0 s1 (ze h) (Nat.lt_of_succ_lt_succ hk))
 exact key xs 0 zd s0 s1 rfl (Nat.lt_of_le_of_lt hl (by decide))
theorem zw1 {A S0 S1 S2 R T:Type} {xs:List A} (f:(T→Option R)→T→Option R) (mk:Int→S0→S1→S2→T) (go:List A→Nat→S0→S1→S2→Option R) (hl:List.length xs≤maxLen)
  (h0:∀(r:T→Option R) (i:Nat) s0 s1 s2,decide ((i:Int)<((List.length xs:Nat):Int))=false→f r (mk (i:Int) s0 s1 s2)=go [] i s0 s1 s2)
  (h1:∀(r:T→Option R) (i:Nat) s0 s1 s2 e es,decide ((i:Int)<((List.length xs:Nat):Int))=true→gx xs (i:Int)=some e→IntKind.wrap .i64 ((i:Int)+1)=((i+1:Nat):Int)→(∀ s0 s1 s2,r (mk ((i+1:Nat):Int) s0 s1 s2)=go es (i+1) s0 s1 s2)→f r (mk (i:Int) s0 s1 s2)=go (e::es) i s0 s1 s2)
  (s0:S0) (s1:S1) (s2:S2):lp f zd (mk 0 s0 s1 s2)=go xs 0 s0 s1 s2:=by
 have key:∀(es:List A) (i k:Nat) s0 s1 s2,xs.drop i=es→es.length<k→lp f k (mk (i:Int) s0 s1 s2)=go es i s0 s1 s2:=by
  intro es
  induction es with
  | nil =>
   intro i k s0 s1 s2 h hk
   obtain⟨k,rfl⟩:∃ k',k=k'+1:=⟨k - 1,by omega⟩
   exact h0 _ i s0 s1 s2 (zbh (qh h))
  | cons e es ih =>
   intro i k s0 s1 s2 h hk
   obtain⟨k,rfl⟩:∃ k',k=k'+1:=⟨k - 1,by omega⟩
   have hi:=zI h
   exact h1 _ i s0 s1 s2 e es (zb3 hi) ((y5 xs i).trans (zk h)) (zbO hi hl) (fun s0 s1 s2=>ih (i+1) k s0 s1 s2 (ze h) (Nat.lt_of_succ_lt_succ hk))
 exact key xs 0 zd s0 s1 s2 rfl (Nat.lt_of_le_of_lt hl (by decide))
end Go.Abs.Q
namespace Go.Abs.Q
open Go Go.Abs
def zX:List UInt8→Option (Unit⊕Bool)
 | []=>some (Sum.inl ())
 | e::es =>
  (zeu ((UInt8.toNat e:Nat):Int)).bind fun r8 =>
  cond (!r8)
  (cond (decide (((UInt8.toNat e:Nat):Int)<48))
   (some (Sum.inr false))
   (cond (decide (((UInt8.toNat e:Nat):Int)>57))
    (some (Sum.inr false))
    (zX es)))
  (zX es)
theorem zhf (s0:Str) (hl:List.length s0≤maxLen):lp zbH zd (s0,((List.length s0:Nat):Int),0)=zX s0:=zdC zbH (fun i=>(s0,((List.length s0:Nat):Int),i)) (fun es i=>zX es) hl (fun r i h=>by unfold zbH zX; simp only[h,cond_false]) (fun r i e es h g w k=>by unfold zbH zX; simp only[h,cond_true,g,Option.bind_some,w,k])
def qf (s1:Str):List zi→Nat→Option (Unit⊕Int)
 | [],i=>some (Sum.inl ())
 | e::es,i =>
  cond (e.1==s1)
  (some (Sum.inr (i:Int)))
  (qf s1 es (i+1))
theorem zib (s0:jS) (s1:Str) (hl:List.length s0≤maxLen):lp zcv zd (s0,s1,((List.length s0:Nat):Int),0)=qf s1 s0 0:=zdC zcv (fun i=>(s0,s1,((List.length s0:Nat):Int),i)) (fun es i=>qf s1 es i) hl (fun r i h=>by unfold zcv qf; simp only[h,cond_false]) (fun r i e es h g w k=>by unfold zcv qf; simp only[h,cond_true,g,Option.bind_some,w,k])
def zbt (s0:jS):List zi→Nat→Option (Unit⊕Bool)
 | [],i=>some (Sum.inl ())
 | e::es,i =>
  (zeU e.1 e.2.1 e.2.2.1 e.2.2.2).bind fun r7 =>
  cond (!r7)
  (some (Sum.inr false))
  ((zg6 s0 e.1).bind fun r9 =>
   cond (r9 != (i:Int))
   (some (Sum.inr false))
   (zbt s0 es (i+1)))
theorem zjs (s0:jS) (hl:List.length s0≤maxLen):∀(es:List zi) (i:Nat) (k:Nat),s0.drop i=es→es.length<k→lp zci k (s0,(i:Int))=zbt s0 es i:=by
 intro es
 induction es with
 | nil =>
  intro i k h hk
  obtain⟨k,rfl⟩:∃ k',k=k'+1:=⟨k - 1,by omega⟩
  rw[zm]
  generalize lp zci k=rec
  unfold zci zbt
  simp only[zbh (qh h),cond_false]
 | cons e es ih =>
  intro i k h hk
  obtain⟨k,rfl⟩:∃ k',k=k'+1:=⟨k - 1,by omega⟩
  rw[zm]
  have hi:=zI h
  have hk2:es.length<k:=Nat.lt_of_succ_lt_succ hk
  have key:=fun (_:Unit)=>ih (i+1) k (ze h) hk2
  generalize lp zci k=rec at key ⊢
  unfold zci zbt
  simp only[zb3 hi,cond_true,y5,zk h,Option.bind_some,zbO hi hl,key ()]
def zY (s0:jS):List zc→Int→Option (Int⊕(Int×Bool))
 | [],s1=>some (Sum.inl s1)
 | e::es,s1 =>
  (zgg s0 e.1 e.2).bind fun r4 =>
  cond (!r4)
  (some (Sum.inr (0,false)))
  (zY s0 es (IntKind.wrap .i64 (s1+((List.length e.2:Nat):Int))))
theorem zfE (s0:jS) (s2:jQ) (s1:Int) (hl:List.length s2≤maxLen):lp zaa zd (s0,s1,s2,((List.length s2:Nat):Int),0)=zY s0 s2 s1:=zaJ zaa (fun i s1=>(s0,s1,s2,((List.length s2:Nat):Int),i)) (fun es i s1=>zY s0 es s1) hl (fun r i s1 h=>by unfold zaa zY; simp only[h,cond_false]) (fun r i s1 e es h g w k=>by unfold zaa zY; simp only[h,cond_true,g,Option.bind_some,w,k]) s1
def zD (s0:jS):List jI→Nat→Int→Int→Option (Int⊕(Int×Bool))
 | [],i,s1,s2=>some (Sum.inl s1)
 | e::es,i,s1,s2 =>
  (zgu s0 e).bind fun r4 =>
  cond ((i:Int)==0)
  (cond (r4.2 != 0)
   (some (Sum.inr (0,false)))
   (cond (r4.1 != r4.1)
    (some (Sum.inr (0,false)))
    (zD s0 es (i+1) (IntKind.wrap .i64 (s1+((List.length e:Nat):Int))) r4.1)))
  (cond (r4.2 != 0)
   (some (Sum.inr (0,false)))
   (cond (r4.1 != s2)
    (some (Sum.inr (0,false)))
    (zD s0 es (i+1) (IntKind.wrap .i64 (s1+((List.length e:Nat):Int))) s2)))
theorem zfD (s0:jS) (s3:jR) (s1:Int) (s2:Int) (hl:List.length s3≤maxLen):lp q9 zd (s0,s1,s2,s3,((List.length s3:Nat):Int),0)=zD s0 s3 0 s1 s2:=zDB q9 (fun i s1 s2=>(s0,s1,s2,s3,((List.length s3:Nat):Int),i)) (fun es i s1 s2=>zD s0 es i s1 s2) hl (fun r i s1 s2 h=>by unfold q9 zD; simp only[h,cond_false]) (fun r i s1 s2 e es h g w k=>by unfold q9 zD; simp only[h,cond_true,g,Option.bind_some,w,k]) s1 s2
def qd (s1:jI):List Int→Nat→Option (Unit⊕Bool)
 | [],i=>some (Sum.inl ())
 | e::es,i =>
  (gx s1 (i:Int)).bind fun e4 =>
  cond (e != e4)
  (some (Sum.inr false))
  (qd s1 es (i+1))
theorem zgK (s0:jI) (s1:jI) (hl:List.length s0≤maxLen):lp za2 zd (s0,s1,((List.length s0:Nat):Int),0)=qd s1 s0 0:=zdC za2 (fun i=>(s0,s1,((List.length s0:Nat):Int),i)) (fun es i=>qd s1 es i) hl (fun r i h=>by unfold za2 qd; simp only[h,cond_false]) (fun r i e es h g w k=>by unfold za2 qd; simp only[h,cond_true,g,Option.bind_some,w,k])
def zZ (s3:Bool) (s4:jI):List zc→Nat→Option (Unit⊕Int)
 | [],i=>some (Sum.inl ())
 | e::es,i =>
  (zdx e.1 e.2 s3 s4).bind fun r4 =>
  cond r4
  (some (Sum.inr (i:Int)))
  (zZ s3 s4 es (i+1))
theorem ze2 (s0:jQ) (s3:Bool) (s4:jI) (hl:List.length s0≤maxLen):lp qu zd (s0,((List.length s0:Nat):Int),0,s3,s4)=zZ s3 s4 s0 0:=zdC qu (fun i=>(s0,((List.length s0:Nat):Int),i,s3,s4)) (fun es i=>zZ s3 s4 es i) hl (fun r i h=>by unfold qu zZ; simp only[h,cond_false]) (fun r i e es h g w k=>by unfold qu zZ; simp only[h,cond_true,g,Option.bind_some,w,k])
def yN:List zc→jQ→Option jQ
 | [],s3=>some s3
 | e::es,s3 =>
  (zai s3 e.1 e.2).bind fun r6 =>
  cond (!r6)
  (cond (yQ (List.length s3+List.length ([(e.1,e.2)]:List zc)) 32)
   (yN es (s3++([(e.1,e.2)]:List zc)))
   (none))
  (yN es s3)
theorem zgX (s0:jQ) (s3:jQ) (hl:List.length s0≤maxLen):lp zbw zd (s0,((List.length s0:Nat):Int),0,s3)=yN s0 s3:=zaJ zbw (fun i s3=>(s0,((List.length s0:Nat):Int),i,s3)) (fun es i s3=>yN es s3) hl (fun r i s3 h=>by unfold zbw yN; simp only[h,cond_false]) (fun r i s3 e es h g w k=>by unfold zbw yN; simp only[h,cond_true,g,Option.bind_some,w,k]) s3
def zM (s3:jI):List jI→Nat→Option (Unit⊕Int)
 | [],i=>some (Sum.inl ())
 | e::es,i =>
  (zdw e s3).bind fun r4 =>
  cond r4
  (some (Sum.inr (i:Int)))
  (zM s3 es (i+1))
theorem zeg (s0:jR) (s3:jI) (hl:List.length s0≤maxLen):lp yM zd (s0,((List.length s0:Nat):Int),0,s3)=zM s3 s0 0:=zdC yM (fun i=>(s0,((List.length s0:Nat):Int),i,s3)) (fun es i=>zM s3 es i) hl (fun r i h=>by unfold yM zM; simp only[h,cond_false]) (fun r i e es h g w k=>by unfold yM zM; simp only[h,cond_true,g,Option.bind_some,w,k])
def yl (s5:jQ) (s6:jR):List zc→jI→Int→jQ→Option (jI×Int×jQ×jR×jQ)
 | [],s3,s4,s7=>some (s3,s4,s5,s6,s7)
 | e::es,s3,s4,s7 =>
  (yE e.2 s3 s4).bind fun r20 =>
  cond (yQ (List.length s7+List.length ([(e.1,r20.1)]:List zc)) 32)
  (yl s5 s6 es r20.2.1 r20.2.2 (s7++([(e.1,r20.1)]:List zc)))
  (none)
theorem zfU (s0:jQ) (s5:jQ) (s6:jR) (s3:jI) (s4:Int) (s7:jQ) (hl:List.length s0≤maxLen):lp zaw zd (s0,((List.length s0:Nat):Int),0,s3,s4,s5,s6,s7)=yl s5 s6 s0 s3 s4 s7:=zw1 zaw (fun i s3 s4 s7=>(s0,((List.length s0:Nat):Int),i,s3,s4,s5,s6,s7)) (fun es i s3 s4 s7=>yl s5 s6 es s3 s4 s7) hl (fun r i s3 s4 s7 h=>by unfold zaw yl; simp only[h,cond_false]) (fun r i s3 s4 s7 e es h g w k=>by unfold zaw yl; simp only[h,cond_true,g,Option.bind_some,w,k]) s3 s4 s7
def yg (s8:jQ):List jI→jI→Int→jR→Option (jI×Int×jQ×jR)
 | [],s3,s4,s9=>some (s3,s4,s8,s9)
 | e::es,s3,s4,s9 =>
  (yE e s3 s4).bind fun r13 =>
  cond (yQ (List.length s9+List.length ([r13.1]:List jI)) 24)
  (yg s8 es r13.2.1 r13.2.2 (s9++([r13.1]:List jI)))
  (none)
theorem zf3 (s0:jR) (s5:jQ) (s6:jR) (s7:jQ) (s8:jQ) (s3:jI) (s4:Int) (s9:jR) (hl:List.length s0≤maxLen):lp zaq zd (s0,((List.length s0:Nat):Int),0,s3,s4,s5,s6,s7,s8,s9)=yg s8 s0 s3 s4 s9:=zw1 zaq (fun i s3 s4 s9=>(s0,((List.length s0:Nat):Int),i,s3,s4,s5,s6,s7,s8,s9)) (fun es i s3 s4 s9=>yg s8 es s3 s4 s9) hl (fun r i s3 s4 s9 h=>by unfold zaq yg; simp only[h,cond_false]) (fun r i s3 s4 s9 e es h g w k=>by unfold zaq yg; simp only[h,cond_true,g,Option.bind_some,w,k]) s3 s4 s9
def ye:List zc→jI→Int→jQ→Option (jI×Int×jQ)
 | [],s3,s4,s8=>some (s3,s4,s8)
 | e::es,s3,s4,s8 =>
  (yE e.2 s3 s4).bind fun r6 =>
  cond (yQ (List.length s8+List.length ([(e.1,r6.1)]:List zc)) 32)
  (ye es r6.2.1 r6.2.2 (s8++([(e.1,r6.1)]:List zc)))
  (none)
theorem zf4 (s0:jQ) (s5:jQ) (s6:jR) (s7:jQ) (s3:jI) (s4:Int) (s8:jQ) (hl:List.length s0≤maxLen):lp zau zd (s0,((List.length s0:Nat):Int),0,s3,s4,s5,s6,s7,s8)=ye s0 s3 s4 s8:=zw1 zau (fun i s3 s4 s8=>(s0,((List.length s0:Nat):Int),i,s3,s4,s5,s6,s7,s8)) (fun es i s3 s4 s8=>ye es s3 s4 s8) hl (fun r i s3 s4 s8 h=>by unfold zau ye; simp only[h,cond_false]) (fun r i s3 s4 s8 e es h g w k=>by unfold zau ye; simp only[h,cond_true,g,Option.bind_some,w,k]) s3 s4 s8
def yS (s3:jQ) (s4:jQ):List jI→jR→Option (jQ×jQ×jR)
 | [],s5=>some (s3,s4,s5)
 | e::es,s5 =>
  (qL s5 e).bind fun r8 =>
  cond (!r8)
  (cond (yQ (List.length s5+List.length ([e]:List jI)) 24)
   (yS s3 s4 es (s5++([e]:List jI)))
   (none))
  (yS s3 s4 es s5)
theorem zg7 (s0:jR) (s3:jQ) (s4:jQ) (s5:jR) (hl:List.length s0≤maxLen):lp zbu zd (s0,((List.length s0:Nat):Int),0,s3,s4,s5)=yS s3 s4 s0 s5:=zaJ zbu (fun i s5=>(s0,((List.length s0:Nat):Int),i,s3,s4,s5)) (fun es i s5=>yS s3 s4 es s5) hl (fun r i s5 h=>by unfold zbu yS; simp only[h,cond_false]) (fun r i s5 e es h g w k=>by unfold zbu yS; simp only[h,cond_true,g,Option.bind_some,w,k]) s5
def yG (s1:jI):List Int→Nat→Option (Unit⊕Bool)
 | [],i=>some (Sum.inl ())
 | e::es,i =>
  (gx s1 (i:Int)).bind fun e4 =>
  cond (e != e4)
  (some (Sum.inr false))
  (yG s1 es (i+1))
theorem zgd (s0:jI) (s1:jI) (hl:List.length s0≤maxLen):lp zax zd (s0,s1,0)=yG s1 s0 0:=zdC zax (fun i=>(s0,s1,i)) (fun es i=>yG s1 es i) hl (fun r i h=>by unfold zax yG; simp only[h,cond_false]) (fun r i e es h g w k=>by unfold zax yG; simp only[h,cond_true,g,Option.bind_some,w,k])
def yH (s1:jQ):List zc→Nat→Option (Unit⊕Bool)
 | [],i=>some (Sum.inl ())
 | e::es,i =>
  (gx s1 (i:Int)).bind fun e7 =>
  cond (!(e.1==e7.1))
  (some (Sum.inr false))
  ((gx s1 (i:Int)).bind fun e9 =>
   (zbj e.2 e9.2).bind fun r10 =>
   cond (!r10)
   (some (Sum.inr false))
   (yH s1 es (i+1)))
theorem zfT (s0:jQ) (s1:jQ) (hl:List.length s0≤maxLen):lp zaB zd (s0,s1,0)=yH s1 s0 0:=zdC zaB (fun i=>(s0,s1,i)) (fun es i=>yH s1 es i) hl (fun r i h=>by unfold zaB yH; simp only[h,cond_false]) (fun r i e es h g w k=>by unfold zaB yH; simp only[h,cond_true,g,Option.bind_some,w,k])
def yI (s1:jR):List jI→Nat→Option (Unit⊕Bool)
 | [],i=>some (Sum.inl ())
 | e::es,i =>
  (gx s1 (i:Int)).bind fun e5 =>
  (zbj e e5).bind fun r6 =>
  cond (!r6)
  (some (Sum.inr false))
  (yI s1 es (i+1))
theorem zgb (s0:jR) (s1:jR) (hl:List.length s0≤maxLen):lp zav zd (s0,s1,0)=yI s1 s0 0:=zdC zav (fun i=>(s0,s1,i)) (fun es i=>yI s1 es i) hl (fun r i h=>by unfold zav yI; simp only[h,cond_false]) (fun r i e es h g w k=>by unfold zav yI; simp only[h,cond_true,g,Option.bind_some,w,k])
end Go.Abs.Q
namespace Go.Abs.Q
open Go Go.Abs
section
def zjj (n:Int):Bool:=decide (97≤n)&&decide (n≤122)
theorem zef (n:Int):zeu n=some (zjj n):=by
 unfold zeu zjj
 by_cases h:n≥97<;>simp [h]
def zsy (e:UInt8):Bool:=zjj ((UInt8.toNat e:Nat):Int)||(decide (48≤((UInt8.toNat e:Nat):Int))&&decide (((UInt8.toNat e:Nat):Int)≤57))
theorem zo1 (es:List UInt8):zX es=some (cond (es.all zsy) (.inl ()) (.inr false)):=by
 induction es with
 | nil=>rfl
 | cons e es ih =>
  unfold zX
  rw[zef,Option.bind_some,ih,List.all_cons]
  unfold zsy
  cases h:zjj ((UInt8.toNat e:Nat):Int) with
  | true=>simp
  | false =>
   by_cases h1:((UInt8.toNat e:Nat):Int)<48
   ·have:¬(48≤((UInt8.toNat e:Nat):Int)):=by omega
    simp only[Bool.not_false,cond_true,decide_eq_true h1,decide_eq_false this,Bool.false_and,Bool.or_false,cond_false]
   ·have h3:48≤((UInt8.toNat e:Nat):Int):=by omega
    by_cases h2:((UInt8.toNat e:Nat):Int)>57
    ·have:¬(((UInt8.toNat e:Nat):Int)≤57):=by omega
     simp only[Bool.not_false,cond_true,decide_eq_false h1,decide_eq_true h2,decide_eq_false this,Bool.and_false,Bool.false_and,Bool.or_false,cond_false]
    ·have h4:((UInt8.toNat e:Nat):Int)≤57:=by omega
     simp only[Bool.not_false,cond_true,decide_eq_false h1,decide_eq_false h2,decide_eq_true h3,decide_eq_true h4,Bool.and_true,Bool.true_and,Bool.or_true,cond_false]
def zg2 (s:Str):Bool:=match s with
 | []=>false
 | c::_=>decide (s.length≤8)&&zjj ((UInt8.toNat c:Nat):Int)&&s.all zsy
theorem zmg (s:Str):zf0 s=some (zg2 s):=by
 unfold zf0 zg2
 cases s with
 | nil=>rfl
 | cons c r =>
  rw[show ((c::r:Str)==([]:Str))=false from rfl,cond_false]
  by_cases h:(c::r).length≤8
  ·have h1:¬(((List.length (c::r):Nat):Int)>8):=by omega
   rw[decide_eq_false h1,cond_false,yZ,List.getElem?_cons_zero,Option.bind_some,zef,Option.bind_some,zhf _ (by unfold maxLen; omega),zo1,decide_eq_true h]
   dsimp only
   cases zjj ((UInt8.toNat c:Nat):Int) with
   | false=>rfl
   | true=>cases (c::r).all zsy<;>rfl
  ·have h1:((List.length (c::r):Nat):Int)>8:=by omega
   rw[decide_eq_true h1,decide_eq_false h]
   rfl
def zvb (e:zi):Bool:=zg2 e.1&&decide (0≤e.2.1)&&decide (e.2.1≤2)&&decide (0≤e.2.2.1)&&decide (e.2.2.1≤3)&&decide (1≤e.2.2.2)&&decide (e.2.2.2≤20)
theorem zmf (e:zi):zeU e.1 e.2.1 e.2.2.1 e.2.2.2=some (zvb e):=by
 unfold zeU zvb
 rw[zmg,Option.bind_some]
 cases zg2 e.1<;>simp only[cond_true,cond_false,Bool.true_and,Bool.false_and,ge_iff_le]
 cases decide (0≤e.2.1)<;>simp only[cond_true,cond_false,Bool.true_and,Bool.false_and]
 cases decide (e.2.1≤2)<;>simp only[cond_true,cond_false,Bool.true_and,Bool.false_and]
 cases decide (0≤e.2.2.1)<;>simp only[cond_true,cond_false,Bool.true_and,Bool.false_and]
 cases decide (e.2.2.1≤3)<;>simp only[cond_true,cond_false,Bool.true_and,Bool.false_and]
 cases decide (1≤e.2.2.2)<;>simp only[cond_true,cond_false,Bool.true_and,Bool.false_and]
def zxB (o:Option Nat):Int:=match o with
 | some i=>(i:Int)
 | none => -1
theorem zv4 (nm:Str) (es:List zi) (i:Nat):qf nm es i=some (match es.findIdx? (fun e=>e.1==nm) with
  | some j=>.inr ((i+j:Nat):Int)
  | none=>.inl ()):=by
 induction es generalizing i with
 | nil=>rfl
 | cons e es ih =>
  unfold qf
  rw[List.findIdx?_cons]
  cases h:(e.1==nm) with
  | true=>simp
  | false =>
   rw[cond_false,ih]
   cases es.findIdx? (fun e=>e.1==nm) with
   | none=>rfl
   | some j=>simp; omega
theorem zn4 (a0:List zi) (nm:Str) (h:a0.length≤maxLen):zg6 a0 nm=some (zxB (a0.findIdx? (fun e=>e.1==nm))):=by
 unfold zg6
 rw[zib _ _ h,zv4]
 cases a0.findIdx? (fun e=>e.1==nm) with
 | none=>rfl
 | some j=>simp [yd,zxB]
def zjY (a0:List zi):List zi→Nat→Bool
 | [],_=>true
 | e::es,i=>zvb e&&(zxB (a0.findIdx? (fun d=>d.1==e.1))==(i:Int))&&zjY a0 es (i+1)
theorem zCH (a0:List zi) (h:a0.length≤maxLen) (es:List zi) (i:Nat):zbt a0 es i=some (cond (zjY a0 es i) (.inl ()) (.inr false)):=by
 induction es generalizing i with
 | nil=>rfl
 | cons e es ih =>
  unfold zbt zjY
  rw[zmf,Option.bind_some,zn4 _ _ h,Option.bind_some,ih,bne]
  cases zvb e with
  | false=>rfl
  | true =>
   cases (zxB (a0.findIdx? (fun d=>d.1==e.1))==(i:Int)) with
   | false=>rfl
   | true=>simp
def zp5:zi:=([61],0,2,1)
def eqQ (e:zi):Bool:=cond (eqS e.1 [61]) (cond (eqI e.2.1 0) (cond (eqI e.2.2.1 2) (cond (eqI e.2.2.2 1) true false) false) false) false
theorem zzX (e:zi):eqQ e=true↔e=zp5:=by
 obtain⟨a,b,c,d⟩:=e
 unfold eqQ zp5 eqS eqI
 cases h1:(a==([61]:List UInt8))<;>cases h2:(b==0)<;>cases h3:(c==2)<;>cases h4:(d==1)<;>simp_all
def zcC (a0:List zi):Bool:=match a0 with
 | []=>false
 | e::es=>decide (a0.length≤20)&&eqQ e&&zjY a0 es 1
theorem zix (a0:List zi):zhy a0=some (zcC a0):=by
 unfold zhy zcC
 cases a0 with
 | nil=>rfl
 | cons e es =>
  rw[decide_eq_false (show ¬(((List.length (e::es):Nat):Int)<1) by rw[List.length_cons]; omega),cond_false]
  by_cases h:(e::es).length≤20
  ·have h1:¬(((List.length (e::es):Nat):Int)>20):=by omega
   have hm:(e::es).length≤maxLen:=by unfold maxLen; omega
   rw[decide_eq_false h1,cond_false,yZ,List.getElem?_cons_zero,Option.bind_some,decide_eq_true h]
   show cond (!(eqQ e)) _ _=some (true&&eqQ e&&zjY (e::es) es 1)
   cases eqQ e with
   | false=>rfl
   | true =>
    have:=zjs (e::es) hm es 1 zd rfl (by simp [zd]; simp at h; omega)
    simp only[Bool.not_true,cond_false]
    rw[show ((1:Int))=((1:Nat):Int) from rfl,this,zCH _ hm]
    cases zjY (e::es) es 1<;>rfl
  ·have h1:((List.length (e::es):Nat):Int)>20:=by omega
   rw[decide_eq_true h1,decide_eq_false h]
   rfl
theorem zqT {a0:List zi}:{es:List zi}→{i:Nat}→zjY a0 es i=true→∀(j:Nat) e,es[j]? = some e→zvb e=true∧zxB (a0.findIdx? (fun d=>d.1==e.1))=((i+j:Nat):Int)
 | [],_,_,j,e,he=>by simp at he
 | d::es,i,h,0,e,he=>by
  injection he with he; subst he
  simp only[zjY,Bool.and_eq_true] at h
  exact ⟨h.1.1,by simpa using h.1.2⟩
 | d::es,i,h,j+1,e,he=>by
  simp only[zjY,Bool.and_eq_true] at h
  have:=zqT h.2 j e (by simpa using he)
  exact ⟨this.1,by rw[this.2]; omega⟩
structure SignOk (a0:List zi):Prop where
 pos:1≤a0.length
 len:a0.length≤20
 eq:a0[0]? = some zp5
 sym:∀(i:Nat) e,a0[i+1]? = some e→zvb e=true∧zxB (a0.findIdx? (fun d=>d.1==e.1))=((i+1:Nat):Int)
theorem zc2 {a0:List zi} (h:zcC a0=true):SignOk a0:=by
 unfold zcC at h
 cases a0 with
 | nil=>cases h
 | cons e es =>
  simp only[Bool.and_eq_true,decide_eq_true_eq] at h
  exact ⟨by simp,h.1.1,by rw[List.getElem?_cons_zero,(zzX e).1 h.1.2],fun i d hd=>by
   have:=zqT h.2 i d (by simpa using hd)
   exact ⟨this.1,by rw[this.2]; omega⟩⟩
theorem SignOk.max {a0:List zi} (h:SignOk a0):a0.length≤maxLen:=Nat.le_trans h.len (by unfold maxLen; omega)
theorem zva {e:zi} (h:zvb e=true):zg2 e.1=true∧0≤e.2.1∧e.2.1≤2∧0≤e.2.2.1∧e.2.2.1≤3∧1≤e.2.2.2∧e.2.2.2≤20:=by
 unfold zvb at h
 simp only[Bool.and_eq_true,decide_eq_true_eq] at h
 exact ⟨h.1.1.1.1.1.1,h.1.1.1.1.1.2,h.1.1.1.1.2,h.1.1.1.2,h.1.1.2,h.1.2,h.2⟩
theorem zpH {s:Str} (h:zg2 s=true):1≤s.length∧s.length≤8:=by
 unfold zg2 at h
 cases s with
 | nil=>cases h
 | cons c r =>
  simp only[Bool.and_eq_true,decide_eq_true_eq] at h
  exact ⟨by simp,h.1.1⟩
theorem SignOk.at {a0:List zi} (h:SignOk a0) {i:Nat} {e:zi} (he:a0[i]? = some e):1≤e.1.length∧e.1.length≤8∧0≤e.2.1∧e.2.1≤2∧0≤e.2.2.1∧e.2.2.1≤3:=by
 cases i with
 | zero =>
  rw[h.eq] at he
  injection he with he; subst he
  decide
 | succ i =>
  obtain⟨h1,h2,h3,h4,h5,_⟩:=zva (h.sym i e he).1
  have:=zpH h1
  exact ⟨this.1,this.2,h2,h3,h4,h5⟩
def zcf (a0:List zi) (x:Int):Option Nat :=
 cond (decide (x<0)) (cond (decide (-24≤x)) (some 0) none) (match a0[x.toNat]? with
  | some e=>cond (e.2.1==0) none (some e.2.2.1.toNat)
  | none=>none)
def nOk (o:Option Nat):Int×Bool:=match o with
 | some k=>((k:Int),true)
 | none=>(0,false)
theorem zaQ {x:Int} (h1 : -9223372036854775808≤x) (h2:x≤9223372036854775807):z6 x=some (-1 - x):=by
 unfold z6
 rw[zp]<;>omega
theorem zj2 {a0:List zi} (h:SignOk a0) (x:Int):zhw a0 x=some (nOk (zcf a0 x)):=by
 unfold zhw zcf
 by_cases h0:x<0
 ·rw[decide_eq_true h0,cond_true,cond_true,zaQ (by omega) (by omega),Option.bind_some]
  by_cases h1 : -24≤x
  ·rw[decide_eq_true h1,decide_eq_true (show x ≥ -1 - 23 by omega)]; rfl
  ·rw[decide_eq_false h1,decide_eq_false (show ¬(x ≥ -1 - 23) by omega)]; rfl
 ·rw[decide_eq_false h0,cond_false,cond_false]
  by_cases h1:x≥((List.length a0:Nat):Int)
  ·rw[decide_eq_true h1,cond_true,List.getElem?_eq_none (by omega)]; rfl
  ·obtain⟨e,he1,he2,he3⟩:=zjA (xs:=a0) (i:=x) (by omega) (by omega)
   have:=h.at he3
   rw[decide_eq_false h1,cond_false,he1,Option.bind_some,he3]
   cases he:(e.2.1==0) with
   | true=>simp only[he,cond_true]; rfl
   | false =>
    simp only[he,cond_false,Option.bind_some]
    unfold nOk
    simp only[Option.some.injEq,Prod.mk.injEq,and_true]
    omega
theorem znn {a0:List zi} (h:SignOk a0) {x:Int} {k:Nat} (hk:zcf a0 x=some k):k≤3:=by
 unfold zcf at hk
 by_cases h0:x<0
 ·rw[decide_eq_true h0,cond_true] at hk
  by_cases h1 : -24≤x
  ·rw[decide_eq_true h1] at hk; injection hk with hk; omega
  ·rw[decide_eq_false h1] at hk; cases hk
 ·rw[decide_eq_false h0,cond_false] at hk
  cases he:a0[x.toNat]? with
  | none=>rw[he] at hk; cases hk
  | some e =>
   rw[he] at hk
   have:=h.at he
   simp only at hk
   cases hz:(e.2.1==0) with
   | true=>rw[hz] at hk; cases hk
   | false=>rw[hz] at hk; injection hk with hk; omega
def sk (a0:List zi):Nat→List Int→Option Nat
 | 0,_=>some 0
 | _+1,[]=>none
 | n+1,x::xs=>match zcf a0 x with
  | none=>none
  | some k=>(sk a0 (n+k) xs).map (· + 1)
theorem zkP {a0:List zi}:{xs:List Int}→{n k:Nat}→sk a0 n xs=some k→k≤xs.length∧(0<n→0<k)∧n≤k
 | [],0,k,h=>by simp [sk] at h; omega
 | [],n+1,k,h=>by simp [sk] at h
 | x::xs,0,k,h=>by simp [sk] at h; omega
 | x::xs,n+1,k,h=>by
  unfold sk at h
  cases ha:zcf a0 x with
  | none=>rw[ha] at h; cases h
  | some m =>
   rw[ha] at h
   simp only[Option.map_eq_some_iff] at h
   obtain⟨j,hj,rfl⟩:=h
   have:=zkP hj
   rw[List.length_cons]
   omega
theorem zrR {a0:List zi} (h:SignOk a0) (a1:List Int) (hl:a1.length≤1099511627776):∀(m i n:Nat) (k:Nat),a1.length - i=m→0<n→n≤1+3*i→m<k →
  lp zbR k (a0,a1,(i:Int),(n:Int))=some (match sk a0 n (a1.drop i) with
   | some j=>(((i+j:Nat):Int),true)
   | none=>(0,false)):=by
 intro m
 induction m with
 | zero =>
  intro i n k hm hn hni hk
  obtain⟨k,rfl⟩:∃ k',k=k'+1:=⟨k - 1,by omega⟩
  rw[zm]
  generalize lp zbR k=rec
  unfold zbR
  simp only[decide_eq_true (show ((i:Int)≥((List.length a1:Nat):Int)) by omega),cond_true,List.drop_eq_nil_iff.2 (show a1.length≤i by omega)]
  obtain⟨n,rfl⟩:∃ n',n=n'+1:=⟨n - 1,by omega⟩
  rfl
 | succ m ih =>
  intro i n k hm hn hni hk
  obtain⟨k,rfl⟩:∃ k',k=k'+1:=⟨k - 1,by omega⟩
  have hi:i<a1.length:=by omega
  rw[zm]
  have key:=fun n' h1 h2=>ih (i+1) n' k (by omega) h1 h2 (by omega)
  generalize lp zbR k=rec at key ⊢
  unfold zbR
  obtain⟨n,rfl⟩:∃ n',n=n'+1:=⟨n - 1,by omega⟩
  simp only[decide_eq_false (show ¬((i:Int)≥((List.length a1:Nat):Int)) by omega),cond_false,y5,List.getElem?_eq_getElem hi,Option.bind_some,zj2 h,List.drop_eq_getElem_cons hi,sk]
  cases ha:zcf a0 a1[i] with
  | none=>simp [nOk]
  | some q =>
   have hq:=znn h ha
   have e1:IntKind.wrap .i64 ((q:Int) - 1)=(q:Int) - 1:=zp (by omega) (by omega)
   have e2:IntKind.wrap .i64 (((n+1:Nat):Int)+((q:Int) - 1))=((n+q:Nat):Int):=by rw[zp]<;>omega
   have e3:IntKind.wrap .i64 ((i:Int)+1)=((i+1:Nat):Int):=by rw[zp]<;>omega
   simp only[nOk,Bool.not_true,cond_false,e1,e2,e3]
   by_cases hp:0<n+q
   ·rw[decide_eq_true (show ((n+q:Nat):Int)>0 by omega),cond_true,key _ hp (by omega)]
    cases sk a0 (n+q) (a1.drop (i+1)) with
    | none=>rfl
    | some j=>simp only[Option.map_some]; rw[show i+1+j=i+(j+1) from by omega]
   ·rw[decide_eq_false (show ¬(((n+q:Nat):Int)>0) by omega),cond_false]
    have:n+q=0:=by omega
    rw[this]
    simp [sk]
theorem zfb {a0:List zi} (h:SignOk a0) (a1:List Int) (hl:a1.length≤1099511627776) (i:Nat):zcF a0 a1 (i:Int)=some (match sk a0 1 (a1.drop i) with
   | some j=>(((i+j:Nat):Int),true)
   | none=>(0,false)):=by
 unfold zcF
 by_cases hi:i<a1.length
 ·simp only[decide_eq_false (show ¬((i:Int)≥((List.length a1:Nat):Int)) by omega),cond_false,y5,List.getElem?_eq_getElem hi,Option.bind_some,zj2 h,List.drop_eq_getElem_cons hi,sk]
  cases ha:zcf a0 a1[i] with
  | none=>simp [nOk]
  | some q =>
   have hq:=znn h ha
   have e1:IntKind.wrap .i64 ((q:Int) - 1)=(q:Int) - 1:=zp (by omega) (by omega)
   have e2:IntKind.wrap .i64 (1+((q:Int) - 1))=((q:Nat):Int):=by rw[zp]<;>omega
   have e3:IntKind.wrap .i64 ((i:Int)+1)=((i+1:Nat):Int):=by rw[zp]<;>omega
   simp only[nOk,Bool.not_true,cond_false,e1,e2,e3]
   by_cases hp:0<q
   ·rw[decide_eq_true (show (q:Int)>0 by omega),cond_true,zrR h a1 hl (a1.length - (i+1)) (i+1) q zd rfl hp (by omega) (by unfold zd; omega),Nat.zero_add]
    cases sk a0 q (a1.drop (i+1)) with
    | none=>rfl
    | some j=>simp only[Option.map_some,Option.bind_some]; rw[show i+1+j=i+(j+1) from by omega]
   ·rw[decide_eq_false (show ¬((q:Int)>0) by omega),cond_false]
    have:q=0:=by omega
    subst this
    simp [sk]
 ·simp only[decide_eq_true (show ((i:Int)≥((List.length a1:Nat):Int)) by omega),cond_true,List.drop_eq_nil_iff.2 (show a1.length≤i by omega)]
  rfl
end
end Go.Abs.Q
namespace Go.Abs.Q
open Go Go.Abs
section
def zpS (a0:List zi):Nat→List Int→Option jR
 | _,[]=>some []
 | 0,_::_=>none
 | n+1,x::xs=>match sk a0 1 (x::xs) with
  | none=>none
  | some k=>(zpS a0 n ((x::xs).drop k)).map ((x::xs).take k :: ·)
def zkm (a0:List zi) (xs:List Int):Option jR:=zpS a0 xs.length xs
theorem znf {a0:List zi}:{n m:Nat}→{xs:List Int}→xs.length≤n→n≤m→zpS a0 m xs=zpS a0 n xs
 | n,m,[],_,_=>by cases n<;>cases m<;>rfl
 | 0,_,_::_,h,_=>by simp at h
 | n+1,0,_::_,_,h=>by omega
 | n+1,m+1,x::xs,h,hm=>by
  unfold zpS
  cases hk:sk a0 1 (x::xs) with
  | none=>rfl
  | some k =>
   have:=zkP hk
   simp only
   rw[znf (n:=n) (m:=m) (by simp at h ⊢; omega) (by omega)]
theorem zkA (a0:List zi):zkm a0 []=some []:=rfl
theorem zdV {a0:List zi} {xs:List Int} (h:xs≠[]):zkm a0 xs=match sk a0 1 xs with
  | none=>none
  | some k=>(zkm a0 (xs.drop k)).map (xs.take k :: ·):=by
 cases xs with
 | nil=>exact absurd rfl h
 | cons x xs =>
  show zpS a0 (xs.length+1) (x::xs)=_
  unfold zpS
  cases hk:sk a0 1 (x::xs) with
  | none=>rfl
  | some k =>
   have:=zkP hk
   simp only
   unfold zkm
   rw[znf (n:=((x::xs).drop k).length) (m:=xs.length) (Nat.le_refl _) (by simp; omega)]
theorem zu4 {a0:List zi}:{xs:List Int}→{n k:Nat}→sk a0 n xs=some k→sk a0 n (xs.take k)=some k
 | [],0,k,h=>by simp [sk] at h; subst h; rfl
 | [],n+1,k,h=>by simp [sk] at h
 | x::xs,0,k,h=>by simp [sk] at h; subst h; rfl
 | x::xs,n+1,k,h=>by
  unfold sk at h
  cases ha:zcf a0 x with
  | none=>rw[ha] at h; cases h
  | some m =>
   rw[ha] at h
   simp only[Option.map_eq_some_iff] at h
   obtain⟨j,hj,rfl⟩:=h
   rw[List.take_succ_cons]
   unfold sk
   rw[ha]
   simp only[zu4 hj,Option.map_some]
theorem zg0 {a0:List zi}:∀(n:Nat) (xs:List Int) (ps:List jI),xs.length≤n→zkm a0 xs=some ps→ps.flatten=xs∧∀ p∈ps,p≠[]∧sk a0 1 p=some p.length:=by
 intro n
 induction n with
 | zero =>
  intro xs ps h hc
  obtain rfl:xs=[]:=List.length_eq_zero_iff.1 (by omega)
  injection hc with hc; subst hc
  exact ⟨rfl,fun p hp=>by cases hp⟩
 | succ n ih =>
  intro xs ps h hc
  by_cases hx:xs=[]
  ·subst hx
   injection hc with hc; subst hc
   exact ⟨rfl,fun p hp=>by cases hp⟩
  ·rw[zdV hx] at hc
   cases hk:sk a0 1 xs with
   | none=>rw[hk] at hc; cases hc
   | some k =>
    rw[hk] at hc
    simp only[Option.map_eq_some_iff] at hc
    obtain⟨qs,hq,rfl⟩:=hc
    have hle:=zkP hk
    obtain⟨h1,h2⟩:=ih _ qs (by simp; omega) hq
    refine ⟨by rw[List.flatten_cons,h1,List.take_append_drop],fun p hp => ?_⟩
    rcases List.mem_cons.1 hp with rfl | hp
    ·have hl:(xs.take k).length=k:=by simp; omega
     exact ⟨fun e=>by rw[e] at hl; simp at hl; omega,by rw[hl]; exact zu4 hk⟩
    ·exact h2 p hp
def ze9:Nat→List jI→List Int
 | _,[]=>[]
 | i,p::ps=>(i:Int)::ze9 (i+p.length) ps
theorem zhc:(i:Nat)→(ps:List jI)→(ze9 i ps).length=ps.length
 | _,[]=>rfl
 | i,p::ps=>by simp [ze9,zhc (i+p.length) ps]
theorem zn {n b:Nat} (h:n*b≤140737488351232):yQ n b=true:=by simpa[yQ] using h
theorem zoW {a0:List zi} (h:SignOk a0) (a1:List Int) (hl:a1.length≤1099511627776):∀(m i:Nat) (acc:List Int) (k:Nat),a1.length - i=m→i≤a1.length→acc.length≤i→m<k →
  lp zb6 k (a0,a1,(i:Int),acc)=some (match zkm a0 (a1.drop i) with
   | some ps=>(true,acc++ze9 i ps)
   | none=>(false,[])):=by
 intro m
 induction m using Nat.strongRecOn with
 | _ m ih =>
  intro i acc k hm hi hacc hk
  obtain⟨k,rfl⟩:∃ k',k=k'+1:=⟨k - 1,by omega⟩
  rw[zm]
  have key:=fun j acc' (h1:i<j) h2 h3=>ih (a1.length - j) (by omega) j acc' k rfl h2 h3 (by omega)
  generalize lp zb6 k=rec at key ⊢
  unfold zb6
  by_cases he:i=a1.length
  ·subst he
   simp [zkA,ze9]
  ·have hlt:i<a1.length:=by omega
   have hne:a1.drop i≠[]:=by simp; omega
   simp only[show (((i:Int))==((List.length a1:Nat):Int))=false from by simp; omega,cond_false,zfb h a1 hl,Option.bind_some,zdV hne]
   cases hs:sk a0 1 (a1.drop i) with
   | none=>rfl
   | some j =>
    have hj:=zkP hs
    rw[List.length_drop] at hj
    simp only[Bool.not_true,cond_false,List.length_singleton,zn (show (acc.length+1)*8≤140737488351232 by omega),cond_true]
    rw[key (i+j) _ (by omega) (by omega) (by simp; omega),List.drop_drop]
    cases zkm a0 (a1.drop (i+j)) with
    | none=>rfl
    | some ps =>
     simp only[Option.map_some,ze9]
     rw[List.length_take,List.length_drop,Nat.min_eq_left (by omega)]
     simp
def zbd (a0:List zi) (a1:List Int):Option jR:=cond (zcC a0&&decide (a1.length≤48)) (zkm a0 a1) none
theorem zds (a0:List zi) (a1:List Int):zdf a0 a1=some (match zbd a0 a1 with
  | some ps=>(true,ze9 0 ps)
  | none=>(false,[])):=by
 unfold zdf zbd
 rw[zix,Option.bind_some]
 cases hs:zcC a0 with
 | false=>rfl
 | true =>
  have h:=zc2 hs
  by_cases hl:a1.length≤48
  ·simp only[Bool.not_true,cond_false,decide_eq_false (show ¬(((List.length a1:Nat):Int)>48) by omega),decide_eq_true hl,Bool.and_true,cond_true]
   by_cases h0:a1=[]
   ·subst h0; rfl
   ·have hpos:0<a1.length:=List.length_pos_iff.2 h0
    simp only[show ((0:Int)==((List.length a1:Nat):Int))=false from by simp; omega,cond_false]
    have e:=zfb h a1 (by omega) 0
    rw[show ((0:Nat):Int)=0 from rfl] at e
    rw[e,Option.bind_some,List.drop_zero,zdV h0]
    cases hk:sk a0 1 a1 with
    | none=>rfl
    | some j =>
     have hj:=zkP hk
     simp only[Bool.not_true,cond_false,Nat.zero_add,List.length_singleton,zn (show 1*8≤140737488351232 by omega),cond_true]
     rw[zoW h a1 (by omega) (a1.length - j) j [0] zd rfl (by omega) (by simp; omega) (by unfold zd; omega)]
     cases zkm a0 (a1.drop j) with
     | none=>rfl
     | some ps=>simp [ze9,Nat.min_eq_left hj.1]
  ·simp only[Bool.not_true,cond_false,decide_eq_true (show (((List.length a1:Nat):Int)>48) by omega),decide_eq_false hl,Bool.and_false,cond_true]
def qz (a0:List zi) (xs:List Int):Bool:=match xs with
 | []=>false
 | x::r=>decide (0≤x)&&(match a0[x.toNat]? with
  | none=>false
  | some e=>(e.2.1==0)&&(match zbd a0 r with
   | none=>false
   | some ps=>((ps.length:Nat):Int)==e.2.2.1))
theorem zcL {α:Type} (x:α) (r:List α):zbV (x::r) (some 1) none=some r:=by
 show slc (x::r) 1 ((x::r).length:Int)=some r
 unfold slc
 simp only[List.length_cons]
 rw[decide_eq_true (show (0:Int)≤1 by omega),decide_eq_true (show (1:Int)≤((r.length+1:Nat):Int) by omega),decide_eq_true (show ((r.length+1:Nat):Int)≤((r.length+1:Nat):Int) by omega)]
 simp
theorem zca (a0:List zi) (xs:List Int):zbi a0 xs=some (qz a0 xs):=by
 unfold zbi qz
 cases xs with
 | nil=>rfl
 | cons x r =>
  simp only[show ((((x::r).length:Nat):Int)==0)=false from by simp; omega,cond_false,yZ,List.getElem?_cons_zero,Option.bind_some]
  by_cases h0:x<0
  ·rw[decide_eq_true h0,decide_eq_false (show ¬(0≤x) by omega)]; rfl
  ·rw[decide_eq_false h0,decide_eq_true (show 0≤x by omega),cond_false,Bool.true_and]
   by_cases h1:x≥((List.length a0:Nat):Int)
   ·rw[decide_eq_true h1,List.getElem?_eq_none (by omega)]; rfl
   ·obtain⟨e,he1,he2,he3⟩:=zjA (xs:=a0) (i:=x) (by omega) (by omega)
    simp only[decide_eq_false h1,cond_false,he1,he3,Option.bind_some,bne]
    cases hk:(e.2.1==0) with
    | false=>rfl
    | true =>
     simp only[Bool.not_true,cond_false,zcL,Option.bind_some,zds,Bool.true_and]
     cases zbd a0 r with
     | none=>rfl
     | some ps=>simp [zhc]
def zl (xs:List jI):Nat:=(xs.map List.length).sum
def zd1 (a0:List zi) (ls:List zc):Bool:=ls.all fun l=>qz a0 l.2
theorem zb5 {a0:List zi} {xs:List Int} (h:qz a0 xs=true):xs.length≤49:=by
 unfold qz at h
 cases xs with
 | nil=>cases h
 | cons x r =>
  simp only[Bool.and_eq_true] at h
  cases he:a0[x.toNat]? with
  | none=>rw[he] at h; simp at h
  | some e =>
   rw[he] at h
   simp only[Bool.and_eq_true] at h
   cases hb:zbd a0 r with
   | none=>rw[hb] at h; simp at h
   | some ps =>
    unfold zbd at hb
    cases hl:decide (r.length≤48) with
    | false=>rw[hl,Bool.and_false] at hb; cases hb
    | true=>rw[decide_eq_true_eq] at hl; simp; omega
theorem zuA (a0:List zi):(es:List zc)→(t:Nat)→t+49*es.length≤1099511627776→zY a0 es (t:Int)=some (cond (zd1 a0 es) (.inl ((t+zl (es.map (·.2)):Nat):Int)) (.inr (0,false)))
 | [],t,_=>by simp [zY,zd1,zl]
 | e::es,t,h=>by
  unfold zY zgg zd1
  rw[zca,Option.bind_some,Option.bind_some,List.all_cons]
  cases ha:qz a0 e.2 with
  | false=>rfl
  | true =>
   have hl:=zb5 ha
   rw[List.length_cons] at h
   have e1:IntKind.wrap .i64 ((t:Int)+((List.length e.2:Nat):Int))=((t+e.2.length:Nat):Int):=by rw[zp]<;>omega
   rw[e1]
   have:=zuA a0 es (t+e.2.length) (by omega)
   unfold zd1 at this
   simp only[Bool.not_true,cond_false,Bool.true_and,this]
   rw[show t+e.2.length+zl (es.map (·.2))=t+zl ((e::es).map (·.2)) from by simp [zl]; omega]
theorem zfv (a0:List zi) (ls:List zc) (h:ls.length≤1000000000):zb9 a0 ls=some (cond (zd1 a0 ls) (((zl (ls.map (·.2)):Nat):Int),true) (0,false)):=by
 unfold zb9
 rw[zfE _ _ _ (by unfold maxLen; omega),show ((0:Int))=((0:Nat):Int) from rfl,zuA a0 ls 0 (by omega)]
 cases zd1 a0 ls with
 | false=>rfl
 | true=>simp [yd]
def zgG (a0:List zi) (xs:List Int):Option Nat:=(zbd a0 xs).map List.length
theorem zfS (a0:List zi) (xs:List Int):zgu a0 xs=some (match zgG a0 xs with
  | some n=>((n:Int),0)
  | none=>(0,200)):=by
 unfold zgu zgG
 rw[zds,Option.bind_some]
 cases zbd a0 xs with
 | none=>rfl
 | some ps=>simp [zhc]
theorem ziH {a0:List zi} {xs:List Int} {n:Nat} (h:zgG a0 xs=some n):xs.length≤48:=by
 unfold zgG zbd at h
 cases hl:decide (xs.length≤48) with
 | false=>rw[hl,Bool.and_false] at h; cases h
 | true=>rw[decide_eq_true_eq] at hl; exact hl
def zgy (a0:List zi) (rs:List jI):Bool:=match rs with
 | []=>true
 | r::rs=>match zgG a0 r with
  | none=>false
  | some n=>rs.all fun q=>zgG a0 q==some n
theorem zvN (a0:List zi) (w:Nat):(es:List jI)→(i t:Nat)→t+49*es.length≤1099511627776→zD a0 es (i+1) (t:Int) (w:Int)=some (cond (es.all fun q=>zgG a0 q==some w) (.inl ((t+zl es:Nat):Int)) (.inr (0,false)))
 | [],i,t,_=>by simp [zD,zl]
 | e::es,i,t,h=>by
  unfold zD
  rw[zfS,Option.bind_some,List.all_cons]
  rw[show ((((i+1:Nat):Int))==0)=false from by simp; omega,cond_false]
  cases hr:zgG a0 e with
  | none=>rfl
  | some n =>
   have hl:=ziH hr
   rw[List.length_cons] at h
   have e1:IntKind.wrap .i64 ((t:Int)+((List.length e:Nat):Int))=((t+e.length:Nat):Int):=by rw[zp]<;>omega
   have:=zvN a0 w es (i+1) (t+e.length) (by omega)
   simp only[e1,this]
   by_cases hn:n=w
   ·subst hn
    simp [zl,Nat.add_assoc]
   ·have h1:((n:Int) != (w:Int))=true:=by simp; omega
    have h2:(some n==some w)=false:=by simpa using hn
    simp [h1,h2]
theorem zjR (a0:List zi) (rs:List jI) (h:rs.length≤1000000000):zdz a0 rs=some (cond (zgy a0 rs) (((zl rs:Nat):Int),true) (0,false)):=by
 unfold zdz
 rw[zfD _ _ _ _ (by unfold maxLen; omega)]
 cases rs with
 | nil=>rfl
 | cons r rs =>
  unfold zD zgy
  rw[zfS,Option.bind_some]
  rw[show ((((0:Nat):Int))==0)=true from rfl,cond_true]
  dsimp only
  cases hr:zgG a0 r with
  | none=>rfl
  | some n =>
   have hl:=ziH hr
   rw[List.length_cons] at h
   have e1:IntKind.wrap .i64 (0+((List.length r:Nat):Int))=((r.length:Nat):Int):=by rw[zp]<;>omega
   have:=zvN a0 n rs 0 r.length (by omega)
   simp only[e1,this]
   cases hb:rs.all fun q=>zgG a0 q==some n with
   | false=>simp [yd]
   | true=>simp [yd,zl]
def zc4 (a0:List zi) (a1:List zc) (a2:List jI) (a3:List zc):Bool :=
 zcC a0&&decide (a1.length≤5)&&decide (a2.length≤3)&&decide (a3.length≤3)&&zd1 a0 a1&&zgy a0 a2&&zd1 a0 a3&&decide (zl (a1.map (·.2))+zl a2+zl (a3.map (·.2))≤240)
theorem zi9 {a0:List zi}:(ls:List zc)→zd1 a0 ls=true→zl (ls.map (·.2))≤49*ls.length
 | [],_=>by simp [zl]
 | l::ls,h=>by
  unfold zd1 at h
  rw[List.all_cons,Bool.and_eq_true] at h
  have h1:=zb5 h.1
  have h2:=zi9 ls h.2
  unfold zl at h2 ⊢
  simp only[List.map_cons,List.sum_cons,List.length_cons]
  omega
theorem zrd {a0:List zi} (rs:List jI) (h:zgy a0 rs=true):zl rs≤49*rs.length:=by
 cases rs with
 | nil=>simp [zl]
 | cons r rs =>
  unfold zgy at h
  dsimp only at h
  cases hr:zgG a0 r with
  | none=>rw[hr] at h; cases h
  | some n =>
   rw[hr] at h
   have h1:=ziH hr
   have h2:∀ qs:List jI,(qs.all fun q=>zgG a0 q==some n)=true→zl qs≤49*qs.length:=by
    intro qs
    induction qs with
    | nil=>intro _; simp [zl]
    | cons q qs ih =>
     intro hq
     rw[List.all_cons,Bool.and_eq_true] at hq
     have h3:=ih hq.2
     have h4:=ziH (by simpa using hq.1)
     unfold zl at h3 ⊢
     simp only[List.map_cons,List.sum_cons,List.length_cons]
     omega
   have h5:=h2 rs h
   unfold zl at h5 ⊢
   simp only[List.map_cons,List.sum_cons,List.length_cons]
   omega
theorem yC (a0:List zi) (a1:List zc) (a2:List jI) (a3:List zc):za0 a0 a1 a2 a3=some (zc4 a0 a1 a2 a3):=by
 unfold za0 zc4
 rw[zix,Option.bind_some]
 cases zcC a0 with
 | false=>rfl
 | true =>
  by_cases h1:a1.length≤5
  ·by_cases h2:a2.length≤3
   ·by_cases h3:a3.length≤3
    ·simp only[Bool.not_true,cond_false,decide_eq_false (show ¬(((List.length a1:Nat):Int)>5) by omega),decide_eq_false (show ¬(((List.length a2:Nat):Int)>3) by omega),decide_eq_false (show ¬(((List.length a3:Nat):Int)>3) by omega),
      decide_eq_true h1,decide_eq_true h2,decide_eq_true h3,zfv a0 a1 (by omega),zjR a0 a2 (by omega),zfv a0 a3 (by omega),Option.bind_some,Bool.true_and]
     cases hb1:zd1 a0 a1 with
     | false=>rfl
     | true =>
      cases hb2:zgy a0 a2 with
      | false=>rfl
      | true =>
       cases hb3:zd1 a0 a3 with
       | false=>rfl
       | true =>
        have s1:=zi9 a1 hb1
        have s2:=zrd a2 hb2
        have s3:=zi9 a3 hb3
        simp only[cond_true,Bool.true_and]
        have e1:IntKind.wrap .i64 (((zl (a1.map (·.2)):Nat):Int)+((zl a2:Nat):Int))=((zl (a1.map (·.2))+zl a2:Nat):Int):=by rw[zp]<;>omega
        have e2:IntKind.wrap .i64 (((zl (a1.map (·.2))+zl a2:Nat):Int)+((zl (a3.map (·.2)):Nat):Int))=((zl (a1.map (·.2))+zl a2+zl (a3.map (·.2)):Nat):Int):=by rw[zp]<;>omega
        simp only[e1,e2,Option.some.injEq,decide_eq_decide]
        omega
    ·simp only[Bool.not_true,cond_false,decide_eq_false (show ¬(((List.length a1:Nat):Int)>5) by omega),decide_eq_false (show ¬(((List.length a2:Nat):Int)>3) by omega),decide_eq_true (show (((List.length a3:Nat):Int)>3) by omega),decide_eq_false h3,cond_true,Bool.and_false,Bool.false_and]
   ·simp only[Bool.not_true,cond_false,decide_eq_false (show ¬(((List.length a1:Nat):Int)>5) by omega),decide_eq_true (show (((List.length a2:Nat):Int)>3) by omega),decide_eq_false h2,cond_true,Bool.and_false,Bool.false_and]
  ·simp only[Bool.not_true,cond_false,decide_eq_true (show (((List.length a1:Nat):Int)>5) by omega),decide_eq_false h1,cond_true,Bool.and_false,Bool.false_and]
end
end Go.Abs.Q
namespace Go.Abs.Q
open Go Go.Abs
section
theorem zys {a0:List zi}:{xs:List Int}→{n m k:Nat}→sk a0 (n+m) xs=some k→∃ j,sk a0 n xs=some j∧j≤k∧sk a0 m (xs.drop j)=some (k - j)
 | xs,0,m,k,h=>⟨0,by cases xs<;>rfl,Nat.zero_le _,by simpa using h⟩
 | [],n+1,m,k,h=>by rw[show n+1+m=n+m+1 from by omega] at h; simp [sk] at h
 | x::xs,n+1,m,k,h=>by
  rw[show n+1+m=n+m+1 from by omega] at h
  unfold sk at h
  cases ha:zcf a0 x with
  | none=>rw[ha] at h; cases h
  | some q =>
   rw[ha] at h
   simp only[Option.map_eq_some_iff] at h
   obtain⟨j,hj,rfl⟩:=h
   rw[show n+m+q=(n+q)+m from by omega] at hj
   obtain⟨i,h1,h2,h3⟩:=zys hj
   refine ⟨i+1,?_,by omega,?_⟩
   ·unfold sk; rw[ha]; simp only[h1,Option.map_some]
   ·rw[List.drop_succ_cons,h3]; congr 1; omega
theorem zA0 {a0:List zi}:∀(n:Nat) (xs:List Int),sk a0 n xs=some xs.length→∃ ps,zkm a0 xs=some ps∧ps.length=n:=by
 intro n
 induction n with
 | zero =>
  intro xs h
  have:xs.length=0:=by cases xs<;>simp [sk] at h ⊢
  obtain rfl:=List.length_eq_zero_iff.1 this
  exact ⟨[],rfl,rfl⟩
 | succ n ih =>
  intro xs h
  rw[Nat.add_comm] at h
  obtain⟨j,h1,h2,h3⟩:=zys h
  have hj:=zkP h1
  have hne:xs≠[]:=fun e=>by subst e; simp at hj; omega
  obtain⟨ps,h4,h5⟩:=ih (xs.drop j) (by rw[h3,List.length_drop])
  refine ⟨xs.take j::ps,?_,by simp [h5]⟩
  rw[zdV hne,h1]
  dsimp only
  rw[h4]; rfl
theorem zqq {a0:List zi} {p:List Int} (h:sk a0 1 p=some p.length):∃ x r q,p=x::r∧zcf a0 x=some q∧sk a0 q r=some r.length:=by
 cases p with
 | nil=>simp [sk] at h
 | cons x r =>
  unfold sk at h
  cases ha:zcf a0 x with
  | none=>rw[ha] at h; cases h
  | some q =>
   rw[ha] at h
   simp only[Option.map_eq_some_iff,Nat.zero_add] at h
   obtain⟨j,hj,he⟩:=h
   rw[List.length_cons] at he
   exact ⟨x,r,q,rfl,ha,by rw[hj]; congr 1; omega⟩
theorem zoI {a0:List zi} (h:SignOk a0) (a1:List Int) (hl:a1.length≤1099511627776):∀(m i:Nat) (acc ps:List jI) (k:Nat),a1.length - i=m→i≤a1.length→acc.length≤i→zkm a0 (a1.drop i)=some ps→m<k →
  lp zb4 k (a0,a1,(i:Int),acc)=some (.inl (acc++ps)):=by
 intro m
 induction m using Nat.strongRecOn with
 | _ m ih =>
  intro i acc ps k hm hi hacc hc hk
  obtain⟨k,rfl⟩:∃ k',k=k'+1:=⟨k - 1,by omega⟩
  rw[zm]
  have key:=fun j acc' ps' (h1:i<j) h2 h3 h4=>ih (a1.length - j) (by omega) j acc' ps' k rfl h2 h3 h4 (by omega)
  generalize lp zb4 k=rec at key ⊢
  unfold zb4
  by_cases he:i=a1.length
  ·subst he
   rw[List.drop_length,zkA] at hc
   injection hc with hc; subst hc
   simp
  ·have hlt:i<a1.length:=by omega
   have hne:a1.drop i≠[]:=by simp; omega
   rw[zdV hne] at hc
   simp only[decide_eq_true (show (i:Int)<((List.length a1:Nat):Int) by omega),cond_true,zfb h a1 hl,Option.bind_some]
   cases hs:sk a0 1 (a1.drop i) with
   | none=>rw[hs] at hc; cases hc
   | some j =>
    rw[hs] at hc
    simp only[Option.map_eq_some_iff] at hc
    obtain⟨qs,hq,rfl⟩:=hc
    have hj:=zkP hs
    rw[List.length_drop] at hj
    have e1:zbV a1 (some (i:Int)) (some ((i+j:Nat):Int))=some ((a1.drop i).take j):=by
     show slc a1 _ _=_
     unfold slc
     rw[decide_eq_true (show (0:Int)≤(i:Int) by omega),decide_eq_true (show (i:Int)≤((i+j:Nat):Int) by omega),decide_eq_true (show ((i+j:Nat):Int)≤((a1.length:Nat):Int) by omega)]
     simp only[cond_true,Int.toNat_natCast,Option.some.injEq]
     rw[List.drop_take]; congr 1; omega
    simp only[Bool.not_true,cond_false,e1,Option.bind_some,List.length_singleton,zn (show (acc.length+1)*24≤140737488351232 by omega),cond_true]
    rw[List.drop_drop] at hq
    rw[key (i+j) _ qs (by omega) (by omega) (by simp; omega) hq]
    simp
theorem zbB {a0:List zi} (h:SignOk a0) {a1:List Int} (hl:a1.length≤1099511627776) {ps:List jI} (hc:zkm a0 a1=some ps):zbe a0 a1=some ps:=by
 unfold zbe
 have:=zoI h a1 hl a1.length 0 [] ps zd rfl (Nat.zero_le _) (Nat.zero_le _) hc (by unfold zd; omega)
 rw[show ((0:Nat):Int)=0 from rfl] at this
 rw[this]
 rfl
theorem zhH {a0:List zi} {xs:List Int} {ps:List jI} (h:zkm a0 xs=some ps):ps.length≤xs.length:=by
 obtain⟨h1,h2⟩:=zg0 xs.length xs ps (Nat.le_refl _) h
 have h3:∀ qs:List jI,(∀ p∈qs,p≠[])→qs.length≤qs.flatten.length:=by
  intro qs
  induction qs with
  | nil=>intro _; simp
  | cons q qs ih =>
   intro hq
   have:=ih fun p hp=>hq p (by simp [hp])
   have h4:=List.length_pos_iff.2 (hq q (by simp))
   simp only[List.flatten_cons,List.length_append,List.length_cons]
   omega
 have:=h3 ps fun p hp=>(h2 p hp).1
 rw[h1] at this
 exact this
theorem zo9 {a0:List zi} {x:Int} {q:Nat} (h:zcf a0 x=some q) (hx:x<0) : -24≤x∧q=0:=by
 unfold zcf at h
 rw[decide_eq_true hx,cond_true] at h
 cases hd:decide (-24≤x) with
 | false=>rw[hd] at h; cases h
 | true=>rw[hd] at h; injection h with h; exact ⟨of_decide_eq_true hd,h.symm⟩
theorem zoo {a0:List zi} {x:Int} {q:Nat} (h:zcf a0 x=some q) (hx:¬ x<0):∃ e,gx a0 x=some e∧a0[x.toNat]? = some e∧e.2.1≠0∧q=e.2.2.1.toNat:=by
 unfold zcf at h
 rw[decide_eq_false hx,cond_false] at h
 cases he:a0[x.toNat]? with
 | none=>rw[he] at h; cases h
 | some e =>
  rw[he] at h
  have hg:gx a0 x=some e:=by
   unfold gx
   rw[decide_eq_true (show 0≤x by omega),cond_true,he]
  dsimp only at h
  cases hz:(e.2.1==0) with
  | true=>rw[hz] at h; cases h
  | false=>rw[hz] at h; injection h with h; exact ⟨e,hg,rfl,by simpa using hz,h.symm⟩
end
end Go.Abs.Q
namespace Go.Abs.Q
open Go Go.Abs
section
theorem zhE {a0:List zi} {xs:List Int} (h:qz a0 xs=true):∃ x r e ps,xs=x::r∧0≤x∧a0[x.toNat]? = some e∧gx a0 x=some e∧e.2.1=0∧zcC a0=true∧r.length≤48∧zkm a0 r=some ps∧((ps.length:Nat):Int)=e.2.2.1:=by
 unfold qz at h
 cases xs with
 | nil=>cases h
 | cons x r =>
  simp only[Bool.and_eq_true,decide_eq_true_eq] at h
  obtain⟨h0,h⟩:=h
  cases he:a0[x.toNat]? with
  | none=>rw[he] at h; cases h
  | some e =>
   rw[he] at h
   simp only[Bool.and_eq_true] at h
   obtain⟨h1,h⟩:=h
   cases hb:zbd a0 r with
   | none=>rw[hb] at h; cases h
   | some ps =>
    rw[hb] at h
    unfold zbd at hb
    cases hs:zcC a0 with
    | false=>rw[hs] at hb; cases hb
    | true =>
     cases hl:decide (r.length≤48) with
     | false=>rw[hs,hl] at hb; cases hb
     | true =>
      rw[hs,hl] at hb
      refine ⟨x,r,e,ps,rfl,h0,he,?_,by simpa using h1,rfl,of_decide_eq_true hl,hb,by simpa using h⟩
      unfold gx
      rw[decide_eq_true h0,cond_true,he]
theorem zl9 {a0:List zi} {r:List Int} {n:Nat} (h:zgG a0 r=some n):∃ ps,zkm a0 r=some ps∧ps.length=n∧r.length≤48∧zcC a0=true:=by
 have hl:=ziH h
 unfold zgG zbd at h
 cases hs:zcC a0 with
 | false=>rw[hs] at h; cases h
 | true =>
  rw[hs,decide_eq_true hl] at h
  simp only[Bool.and_true,cond_true,Option.map_eq_some_iff] at h
  obtain⟨ps,h1,h2⟩:=h
  exact ⟨ps,h1,h2,hl,rfl⟩
theorem zi2 {a0:List zi} {rs:List jI} (h:zgy a0 rs=true):∃ n,∀ r∈rs,zgG a0 r=some n:=by
 cases rs with
 | nil=>exact ⟨0,fun r hr=>by cases hr⟩
 | cons r rs =>
  unfold zgy at h
  dsimp only at h
  cases hr:zgG a0 r with
  | none=>rw[hr] at h; cases h
  | some n =>
   rw[hr] at h
   refine ⟨n,fun q hq => ?_⟩
   rcases List.mem_cons.1 hq with rfl | hq
   ·exact hr
   ·simpa using List.all_eq_true.1 h q hq
theorem zE {a0:List zi} {a1:List zc} {a2:List jI} {a3:List zc} (h:zc4 a0 a1 a2 a3=true):zcC a0=true∧a1.length≤5∧a2.length≤3∧a3.length≤3∧zd1 a0 a1=true∧zgy a0 a2=true∧zd1 a0 a3=true∧zl (a1.map (·.2))+zl a2+zl (a3.map (·.2))≤240:=by
 unfold zc4 at h
 simp only[Bool.and_eq_true,decide_eq_true_eq] at h
 exact ⟨h.1.1.1.1.1.1.1,h.1.1.1.1.1.1.2,h.1.1.1.1.1.2,h.1.1.1.1.2,h.1.1.1.2,h.1.1.2,h.1.2,h.2⟩
theorem zAn {a0:List zi} {a1:List zc} {a2:List jI} {a3:List zc} (h1:zcC a0=true) (h2:a1.length≤5) (h3:a2.length≤3) (h4:a3.length≤3) (h5:zd1 a0 a1=true) (h6:zgy a0 a2=true) (h7:zd1 a0 a3=true)
  (h8:zl (a1.map (·.2))+zl a2+zl (a3.map (·.2))≤240):zc4 a0 a1 a2 a3=true:=by
 unfold zc4
 simp only[h1,decide_eq_true h2,decide_eq_true h3,decide_eq_true h4,h5,h6,h7,decide_eq_true h8,Bool.and_self]
end
end Go.Abs.Q
namespace Go.Abs.Q
open Go Go.Abs
section
def bad (t:UInt8):Bool:=t==111||t==114||t==105||t==102||t==38
end
end Go.Abs.Q
namespace Go.Abs.Q
open Go Go.Abs
section
theorem zBL {α:Type} (s:List α) {i j:Nat} (hij:i≤j) (h:j≤s.length):zbV s (some (i:Int)) (some (j:Int))=some ((s.drop i).take (j - i)):=by
 show slc s _ _=_
 unfold slc
 rw[decide_eq_true (show (0:Int)≤(i:Int) by omega),decide_eq_true (show (i:Int)≤(j:Int) by omega),decide_eq_true (show (j:Int)≤((s.length:Nat):Int) by omega)]
 simp only[cond_true,Int.toNat_natCast,Option.some.injEq]
 rw[List.drop_take]
end
end Go.Abs.Q
namespace Go.Abs.Q
open Go Go.Abs
def zhF (a0:Int):Option Bool :=
 cond (decide (a0≥97))
 (some (decide (a0≤122)))
 (some false)
def zb7 (rec:(Int×Str×Int×Int×Int)→Option (Unit⊕Bool)) (x:(Int×Str×Int×Int×Int)):Option (Unit⊕Bool) :=
 cond (decide (x.1<((List.length x.2.1:Nat):Int)))
 ((gx x.2.1 x.1).bind fun c7 =>
  (zhF ((UInt8.toNat c7:Nat):Int)).bind fun r8 =>
  cond (!r8)
  ((gx x.2.1 x.1).bind fun c9 =>
   cond (decide (((UInt8.toNat c9:Nat):Int)<48))
   (some (Sum.inr false))
   ((gx x.2.1 x.1).bind fun c10 =>
    cond (decide (((UInt8.toNat c10:Nat):Int)>57))
    (some (Sum.inr false))
    (rec ((IntKind.wrap .i64 (x.1+1)),x.2.1,x.2.2.1,x.2.2.2.1,x.2.2.2.2))))
  (rec ((IntKind.wrap .i64 (x.1+1)),x.2.1,x.2.2.1,x.2.2.2.1,x.2.2.2.2)))
 (some (Sum.inl ()))
def zgr (a0:Str) (a1:Int) (a2:Int) (a3:Int):Option Bool :=
 cond (decide (((List.length a0:Nat):Int)<1))
 (some false)
 (cond (decide (((List.length a0:Nat):Int)>8))
  (some false)
  ((gx a0 0).bind fun c14 =>
   (zhF ((UInt8.toNat c14:Nat):Int)).bind fun r15 =>
   cond (!r15)
   (some false)
   (((lp zb7 zd) (0,a0,a1,a2,a3)).bind fun r16 =>
    yd r16
    (fun z17=>cond (decide (a1≥0))
     (cond (decide (a1≤2))
      (cond (decide (a2≥0))
       (cond (decide (a2≤3))
        (cond (decide (a3≥1))
         (some (decide (a3≤20)))
         (some false))
        (some false))
       (some false))
      (some false))
     (some false))
    (fun z18=>some z18))))
def zdE (rec:(jS×Str×Int)→Option (Unit⊕Int)) (x:(jS×Str×Int)):Option (Unit⊕Int) :=
 cond (decide (x.2.2<((List.length x.1:Nat):Int)))
 ((gx x.1 x.2.2).bind fun e2 =>
  cond (e2.1==x.2.1)
  (some (Sum.inr x.2.2))
  (rec (x.1,x.2.1,(IntKind.wrap .i64 (x.2.2+1)))))
 (some (Sum.inl ()))
def zjf (a0:jS) (a1:Str):Option Int :=
 ((lp zdE zd) (a0,a1,0)).bind fun r6 =>
 yd r6
 (fun z7=>some (-1))
 (fun z8=>some z8)
def za7 (rec:(jS×Int)→Option (Unit⊕Bool)) (x:(jS×Int)):Option (Unit⊕Bool) :=
 cond (decide (x.2<((List.length x.1:Nat):Int)))
 ((gx x.1 x.2).bind fun e6 =>
  (zgr e6.1 e6.2.1 e6.2.2.1 e6.2.2.2).bind fun r7 =>
  cond (!r7)
  (some (Sum.inr false))
  ((gx x.1 x.2).bind fun e8 =>
   (zjf x.1 e8.1).bind fun r9 =>
   cond (r9 != x.2)
   (some (Sum.inr false))
   (rec (x.1,(IntKind.wrap .i64 (x.2+1))))))
 (some (Sum.inl ()))
def zff (a0:jS):Option Bool :=
 cond (decide (((List.length a0:Nat):Int)<1))
 (some false)
 (cond (decide (((List.length a0:Nat):Int)>20))
  (some false)
  ((gx a0 0).bind fun e13 =>
   cond (!(cond (eqS e13.1 ([61]:Str)) (cond (eqI e13.2.1 0) (cond (eqI e13.2.2.1 2) (cond (eqI e13.2.2.2 1) true false) false) false) false))
   (some false)
   (((lp za7 zd) (a0,1)).bind fun r14 =>
    yd r14
    (fun z15=>some true)
    (fun z16=>some z16))))
def zdj (rec:(jS×jI×Int×Int)→Option (Int⊕Int)) (x:(jS×jI×Int×Int)):Option (Int⊕Int) :=
 cond (decide (x.2.2.1>0))
 (cond (decide (x.2.2.2≥((List.length x.2.1:Nat):Int)))
  (some (Sum.inr (-1)))
  ((gx x.2.1 x.2.2.2).bind fun e8 =>
   cond (decide (e8<(-24)))
   (some (Sum.inr (-1)))
   ((gx x.2.1 x.2.2.2).bind fun e9 =>
    cond (decide (e9≥((List.length x.1:Nat):Int)))
    (some (Sum.inr (-1)))
    ((gx x.2.1 x.2.2.2).bind fun e10 =>
     cond (decide (e10≥0))
     ((gx x.2.1 x.2.2.2).bind fun e11 =>
      (gx x.1 e11).bind fun e12 =>
      cond (e12.2.1==0)
      (some (Sum.inr (-1)))
      ((gx x.2.1 x.2.2.2).bind fun e13 =>
       (gx x.1 e13).bind fun e14 =>
       rec (x.1,x.2.1,(IntKind.wrap .i64 ((IntKind.wrap .i64 (x.2.2.1 - 1))+e14.2.2.1)),(IntKind.wrap .i64 (x.2.2.2+1)))))
     (rec (x.1,x.2.1,(IntKind.wrap .i64 (x.2.2.1 - 1)),(IntKind.wrap .i64 (x.2.2.2+1))))))))
 (some (Sum.inl x.2.2.2))
def zhM (a0:jS) (a1:jI) (a2:Int):Option Int :=
 ((lp zdj zd) (a0,a1,1,a2)).bind fun r18 =>
 yd r18
 (fun z19=>some z19)
 (fun z20=>some z20)
def zeh (rec:(jS×jI×Int×Int)→Option (Int⊕Int)) (x:(jS×jI×Int×Int)):Option (Int⊕Int) :=
 cond (decide (x.2.2.2<((List.length x.2.1:Nat):Int)))
 ((zhM x.1 x.2.1 x.2.2.2).bind fun r2 =>
  cond (decide (r2<0))
  (some (Sum.inr (-1)))
  (rec (x.1,x.2.1,(IntKind.wrap .i64 (x.2.2.1+1)),r2)))
 (some (Sum.inl x.2.2.1))
def zdh (a0:jS) (a1:jI):Option Int :=
 cond (decide (((List.length a1:Nat):Int)>48))
 (some (-1))
 (((lp zeh zd) (a0,a1,0,0)).bind fun r6 =>
  yd r6
  (fun z7=>some z7)
  (fun z8=>some z8))
def zij (a0:jS) (a1:jI):Option Bool :=
 cond (decide (((List.length a1:Nat):Int)>0))
 ((gx a1 0).bind fun e9 =>
  cond (decide (e9≥0))
  ((gx a1 0).bind fun e10 =>
   cond (decide (e10<((List.length a0:Nat):Int)))
   ((gx a1 0).bind fun e11 =>
    (gx a0 e11).bind fun e12 =>
    cond (e12.2.1==0)
    ((zbV a1 (some 1) none).bind fun y13 =>
     (zdh a0 y13).bind fun r14 =>
     (gx a1 0).bind fun e15 =>
     (gx a0 e15).bind fun e16 =>
     some (r14==e16.2.2.1))
    (some false))
   (some false))
  (some false))
 (some false)
def zdb (a0:jS) (a1:Bool) (a2:jI):Option Bool :=
 (zff a0).bind fun r3 =>
 cond r3
 ((zij a0 a2).bind fun r4 =>
  some r4)
 (some false)
def zdP (rec:(Int×jQ×jR×jQ×jR)→Option jR) (x:(Int×jQ×jR×jQ×jR)):Option jR :=
 cond (decide (x.1<((List.length x.2.2.2.1:Nat):Int)))
 ((gx x.2.2.2.1 x.1).bind fun e9 =>
  cond (yQ (List.length x.2.2.2.2+List.length ([e9.2]:List jI)) 24)
  (rec ((IntKind.wrap .i64 (x.1+1)),x.2.1,x.2.2.1,x.2.2.2.1,(x.2.2.2.2++([e9.2]:List jI))))
  (none))
 (some x.2.2.2.2)
def zdL (rec:(Int×jQ×jR×jQ×jR)→Option jR) (x:(Int×jQ×jR×jQ×jR)):Option jR :=
 cond (decide (x.1<((List.length x.2.2.1:Nat):Int)))
 ((gx x.2.2.1 x.1).bind fun e6 =>
  cond (yQ (List.length x.2.2.2.2+List.length ([e6]:List jI)) 24)
  (rec ((IntKind.wrap .i64 (x.1+1)),x.2.1,x.2.2.1,x.2.2.2.1,(x.2.2.2.2++([e6]:List jI))))
  (none))
 (some x.2.2.2.2)
def zdO (rec:(Int×jQ×jR×jQ×jR)→Option jR) (x:(Int×jQ×jR×jQ×jR)):Option jR :=
 cond (decide (x.1<((List.length x.2.1:Nat):Int)))
 ((gx x.2.1 x.1).bind fun e3 =>
  cond (yQ (List.length x.2.2.2.2+List.length ([e3.2]:List jI)) 24)
  (rec ((IntKind.wrap .i64 (x.1+1)),x.2.1,x.2.2.1,x.2.2.2.1,(x.2.2.2.2++([e3.2]:List jI))))
  (none))
 (some x.2.2.2.2)
def zho (a0:jQ) (a1:jR) (a2:jQ):Option jR :=
 ((lp zdO zd) (0,a0,a1,a2,([]:jR))).bind fun r11 =>
 ((lp zdL zd) (0,a0,a1,a2,r11)).bind fun r12 =>
 ((lp zdP zd) (0,a0,a1,a2,r12)).bind fun r13 =>
 some r13
def zeV (rec:(jR×Int×Int)→Option Int) (x:(jR×Int×Int)):Option Int :=
 cond (decide (x.2.2<((List.length x.1:Nat):Int)))
 ((gx x.1 x.2.2).bind fun e26 =>
  rec (x.1,(IntKind.wrap .i64 (x.2.1+((List.length e26:Nat):Int))),(IntKind.wrap .i64 (x.2.2+1))))
 (some x.2.1)
def zeI (rec:(jS×Int×jQ×jR×jQ)→Option (Unit⊕Bool)) (x:(jS×Int×jQ×jR×jQ)):Option (Unit⊕Bool) :=
 cond (decide (x.2.1<((List.length x.2.2.2.1:Nat):Int)))
 ((gx x.2.2.2.1 x.2.1).bind fun e18 =>
  (zdh x.1 e18).bind fun r19 =>
  cond (decide (r19<0))
  (some (Sum.inr false))
  ((gx x.2.2.2.1 0).bind fun e20 =>
   (zdh x.1 e20).bind fun r21 =>
   cond (r19 != r21)
   (some (Sum.inr false))
   (rec (x.1,(IntKind.wrap .i64 (x.2.1+1)),x.2.2.1,x.2.2.2.1,x.2.2.2.2))))
 (some (Sum.inl ()))
def zeB (rec:(jS×Int×jQ×jR×jQ)→Option (Unit⊕Bool)) (x:(jS×Int×jQ×jR×jQ)):Option (Unit⊕Bool) :=
 cond (decide (x.2.1<((List.length x.2.2.2.2:Nat):Int)))
 ((gx x.2.2.2.2 x.2.1).bind fun e10 =>
  (zdb x.1 e10.1 e10.2).bind fun r11 =>
  cond (!r11)
  (some (Sum.inr false))
  (rec (x.1,(IntKind.wrap .i64 (x.2.1+1)),x.2.2.1,x.2.2.2.1,x.2.2.2.2)))
 (some (Sum.inl ()))
def zez (rec:(jS×Int×jQ×jR×jQ)→Option (Unit⊕Bool)) (x:(jS×Int×jQ×jR×jQ)):Option (Unit⊕Bool) :=
 cond (decide (x.2.1<((List.length x.2.2.1:Nat):Int)))
 ((gx x.2.2.1 x.2.1).bind fun e4 =>
  (zdb x.1 e4.1 e4.2).bind fun r5 =>
  cond (!r5)
  (some (Sum.inr false))
  (rec (x.1,(IntKind.wrap .i64 (x.2.1+1)),x.2.2.1,x.2.2.2.1,x.2.2.2.2)))
 (some (Sum.inl ()))
def zf1 (a0:jS) (a1:jQ) (a2:jR) (a3:jQ):Option Bool :=
 (zff a0).bind fun r31 =>
 cond (!r31)
 (some false)
 (cond (decide (((List.length a1:Nat):Int)>5))
  (some false)
  (cond (decide (((List.length a3:Nat):Int)>3))
   (some false)
   (cond (decide (((List.length a2:Nat):Int)>3))
    (some false)
    (((lp zez zd) (a0,0,a1,a2,a3)).bind fun r32 =>
     yd r32
     (fun z33=>((lp zeB zd) (a0,0,a1,a2,a3)).bind fun r34 =>
      yd r34
      (fun z35=>((lp zeI zd) (a0,0,a1,a2,a3)).bind fun r36 =>
       yd r36
       (fun z37=>(zho a1 a2 a3).bind fun r38 =>
        ((lp zeV zd) (r38,0,0)).bind fun r39 =>
        some (decide (r39≤240)))
       (fun z40=>some z40))
      (fun z41=>some z41))
     (fun z42=>some z42)))))
def zbJ (rec:(jS×jI×Int×Int)→Option Int) (x:(jS×jI×Int×Int)):Option Int :=
 cond (decide (x.2.2.1>0))
 ((gx x.2.1 x.2.2.2).bind fun e4 =>
  cond (decide (e4≥0))
  ((gx x.2.1 x.2.2.2).bind fun e5 =>
   (gx x.1 e5).bind fun e6 =>
   rec (x.1,x.2.1,(IntKind.wrap .i64 ((IntKind.wrap .i64 (x.2.2.1 - 1))+e6.2.2.1)),(IntKind.wrap .i64 (x.2.2.2+1))))
  (rec (x.1,x.2.1,(IntKind.wrap .i64 (x.2.2.1 - 1)),(IntKind.wrap .i64 (x.2.2.2+1)))))
 (some x.2.2.2)
def ziA (a0:jS) (a1:jI) (a2:Int):Option Int :=
 ((lp zbJ zd) (a0,a1,1,a2)).bind fun r8 =>
 some r8
def zei (rec:(jS×jI×Int×jR)→Option jR) (x:(jS×jI×Int×jR)):Option jR :=
 cond (decide (x.2.2.1<((List.length x.2.1:Nat):Int)))
 ((ziA x.1 x.2.1 x.2.2.1).bind fun r5 =>
  (zbV x.2.1 (some x.2.2.1) (some r5)).bind fun y6 =>
  cond (yQ (List.length x.2.2.2+List.length ([y6]:List jI)) 24)
  (rec (x.1,x.2.1,r5,(x.2.2.2++([y6]:List jI))))
  (none))
 (some x.2.2.2)
def zN (a0:jS) (a1:jI):Option jR :=
 ((lp zei zd) (a0,a1,0,([]:jR))).bind fun r8 =>
 some r8
end Go.Abs.Q
namespace Go.Abs.Q
open Go Go.Abs
def yq:List UInt8→Option (Unit⊕Bool)
 | []=>some (Sum.inl ())
 | e::es =>
  (zhF ((UInt8.toNat e:Nat):Int)).bind fun r8 =>
  cond (!r8)
  (cond (decide (((UInt8.toNat e:Nat):Int)<48))
   (some (Sum.inr false))
   (cond (decide (((UInt8.toNat e:Nat):Int)>57))
    (some (Sum.inr false))
    (yq es)))
  (yq es)
theorem zgS (s1:Str) (s2:Int) (s3:Int) (s4:Int) (hl:List.length s1≤maxLen):lp zb7 zd (0,s1,s2,s3,s4)=yq s1:=zdC zb7 (fun i=>(i,s1,s2,s3,s4)) (fun es i=>yq es) hl (fun r i h=>by unfold zb7 yq; simp only[h,cond_false]) (fun r i e es h g w k=>by unfold zb7 yq; simp only[h,cond_true,g,Option.bind_some,w,k])
def zag (s1:Str):List zi→Nat→Option (Unit⊕Int)
 | [],i=>some (Sum.inl ())
 | e::es,i =>
  cond (e.1==s1)
  (some (Sum.inr (i:Int)))
  (zag s1 es (i+1))
theorem zh6 (s0:jS) (s1:Str) (hl:List.length s0≤maxLen):lp zdE zd (s0,s1,0)=zag s1 s0 0:=zdC zdE (fun i=>(s0,s1,i)) (fun es i=>zag s1 es i) hl (fun r i h=>by unfold zdE zag; simp only[h,cond_false]) (fun r i e es h g w k=>by unfold zdE zag; simp only[h,cond_true,g,Option.bind_some,w,k])
def qP (s0:jS):List zi→Nat→Option (Unit⊕Bool)
 | [],i=>some (Sum.inl ())
 | e::es,i =>
  (zgr e.1 e.2.1 e.2.2.1 e.2.2.2).bind fun r7 =>
  cond (!r7)
  (some (Sum.inr false))
  ((zjf s0 e.1).bind fun r9 =>
   cond (r9 != (i:Int))
   (some (Sum.inr false))
   (qP s0 es (i+1)))
theorem zhd (s0:jS) (hl:List.length s0≤maxLen):∀(es:List zi) (i:Nat) (k:Nat),s0.drop i=es→es.length<k→lp za7 k (s0,(i:Int))=qP s0 es i:=by
 intro es
 induction es with
 | nil =>
  intro i k h hk
  obtain⟨k,rfl⟩:∃ k',k=k'+1:=⟨k - 1,by omega⟩
  rw[zm]
  generalize lp za7 k=rec
  unfold za7 qP
  simp only[zbh (qh h),cond_false]
 | cons e es ih =>
  intro i k h hk
  obtain⟨k,rfl⟩:∃ k',k=k'+1:=⟨k - 1,by omega⟩
  rw[zm]
  have hi:=zI h
  have hk2:es.length<k:=Nat.lt_of_succ_lt_succ hk
  have key:=fun (_:Unit)=>ih (i+1) k (ze h) hk2
  generalize lp za7 k=rec at key ⊢
  unfold za7 qP
  simp only[zb3 hi,cond_true,y5,zk h,Option.bind_some,zbO hi hl,key ()]
def qK:List zc→jR→Option jR
 | [],s4=>some s4
 | e::es,s4 =>
  cond (yQ (List.length s4+List.length ([e.2]:List jI)) 24)
  (qK es (s4++([e.2]:List jI)))
  (none)
theorem zh3 (s1:jQ) (s2:jR) (s3:jQ) (s4:jR) (hl:List.length s3≤maxLen):lp zdP zd (0,s1,s2,s3,s4)=qK s3 s4:=zaJ zdP (fun i s4=>(i,s1,s2,s3,s4)) (fun es i s4=>qK es s4) hl (fun r i s4 h=>by unfold zdP qK; simp only[h,cond_false]) (fun r i s4 e es h g w k=>by unfold zdP qK; simp only[h,cond_true,g,Option.bind_some,w,k]) s4
def qC:List jI→jR→Option jR
 | [],s4=>some s4
 | e::es,s4 =>
  cond (yQ (List.length s4+List.length ([e]:List jI)) 24)
  (qC es (s4++([e]:List jI)))
  (none)
theorem ziy (s1:jQ) (s2:jR) (s3:jQ) (s4:jR) (hl:List.length s2≤maxLen):lp zdL zd (0,s1,s2,s3,s4)=qC s2 s4:=zaJ zdL (fun i s4=>(i,s1,s2,s3,s4)) (fun es i s4=>qC es s4) hl (fun r i s4 h=>by unfold zdL qC; simp only[h,cond_false]) (fun r i s4 e es h g w k=>by unfold zdL qC; simp only[h,cond_true,g,Option.bind_some,w,k]) s4
def qy:List zc→jR→Option jR
 | [],s4=>some s4
 | e::es,s4 =>
  cond (yQ (List.length s4+List.length ([e.2]:List jI)) 24)
  (qy es (s4++([e.2]:List jI)))
  (none)
theorem zil (s1:jQ) (s2:jR) (s3:jQ) (s4:jR) (hl:List.length s1≤maxLen):lp zdO zd (0,s1,s2,s3,s4)=qy s1 s4:=zaJ zdO (fun i s4=>(i,s1,s2,s3,s4)) (fun es i s4=>qy es s4) hl (fun r i s4 h=>by unfold zdO qy; simp only[h,cond_false]) (fun r i s4 e es h g w k=>by unfold zdO qy; simp only[h,cond_true,g,Option.bind_some,w,k]) s4
def q5:List jI→Int→Option Int
 | [],s1=>some s1
 | e::es,s1 =>
  q5 es (IntKind.wrap .i64 (s1+((List.length e:Nat):Int)))
theorem zje (s0:jR) (s1:Int) (hl:List.length s0≤maxLen):lp zeV zd (s0,s1,0)=q5 s0 s1:=zaJ zeV (fun i s1=>(s0,s1,i)) (fun es i s1=>q5 es s1) hl (fun r i s1 h=>by unfold zeV q5; simp only[h,cond_false]) (fun r i s1 e es h g w k=>by unfold zeV q5; simp only[h,cond_true,g,Option.bind_some,w,k]) s1
def qZ (s0:jS) (s3:jR):List jI→Option (Unit⊕Bool)
 | []=>some (Sum.inl ())
 | e::es =>
  (zdh s0 e).bind fun r19 =>
  cond (decide (r19<0))
  (some (Sum.inr false))
  ((gx s3 0).bind fun e20 =>
   (zdh s0 e20).bind fun r21 =>
   cond (r19 != r21)
   (some (Sum.inr false))
   (qZ s0 s3 es))
theorem ziM (s0:jS) (s2:jQ) (s3:jR) (s4:jQ) (hl:List.length s3≤maxLen):lp zeI zd (s0,0,s2,s3,s4)=qZ s0 s3 s3:=zdC zeI (fun i=>(s0,i,s2,s3,s4)) (fun es i=>qZ s0 s3 es) hl (fun r i h=>by unfold zeI qZ; simp only[h,cond_false]) (fun r i e es h g w k=>by unfold zeI qZ; simp only[h,cond_true,g,Option.bind_some,w,k])
def zaL (s0:jS):List zc→Option (Unit⊕Bool)
 | []=>some (Sum.inl ())
 | e::es =>
  (zdb s0 e.1 e.2).bind fun r11 =>
  cond (!r11)
  (some (Sum.inr false))
  (zaL s0 es)
theorem ziK (s0:jS) (s2:jQ) (s3:jR) (s4:jQ) (hl:List.length s4≤maxLen):lp zeB zd (s0,0,s2,s3,s4)=zaL s0 s4:=zdC zeB (fun i=>(s0,i,s2,s3,s4)) (fun es i=>zaL s0 es) hl (fun r i h=>by unfold zeB zaL; simp only[h,cond_false]) (fun r i e es h g w k=>by unfold zeB zaL; simp only[h,cond_true,g,Option.bind_some,w,k])
def zaS (s0:jS):List zc→Option (Unit⊕Bool)
 | []=>some (Sum.inl ())
 | e::es =>
  (zdb s0 e.1 e.2).bind fun r5 =>
  cond (!r5)
  (some (Sum.inr false))
  (zaS s0 es)
theorem zjm (s0:jS) (s2:jQ) (s3:jR) (s4:jQ) (hl:List.length s2≤maxLen):lp zez zd (s0,0,s2,s3,s4)=zaS s0 s2:=zdC zez (fun i=>(s0,i,s2,s3,s4)) (fun es i=>zaS s0 es) hl (fun r i h=>by unfold zez zaS; simp only[h,cond_false]) (fun r i e es h g w k=>by unfold zez zaS; simp only[h,cond_true,g,Option.bind_some,w,k])
end Go.Abs.Q
namespace Go.Abs.Q
open Go Go.Abs
section
theorem zjd (n:Int):zhF n=some (zjj n):=zef n
theorem zrP (es:List UInt8):yq es=some (cond (es.all zsy) (.inl ()) (.inr false)):=by
 have:∀ es,yq es=zX es:=by
  intro es
  induction es with
  | nil=>rfl
  | cons e es ih =>
   unfold yq zX
   rw[zjd,zef,ih]
 rw[this,zo1]
theorem zmA (e:zi):zgr e.1 e.2.1 e.2.2.1 e.2.2.2=some (zvb e):=by
 obtain⟨s,a,b,c⟩:=e
 unfold zgr zvb zg2
 dsimp only
 cases s with
 | nil=>rfl
 | cons x r =>
  rw[decide_eq_false (show ¬(((List.length (x::r):Nat):Int)<1) by rw[List.length_cons]; omega),cond_false]
  by_cases h:(x::r).length≤8
  ·rw[decide_eq_false (show ¬(((List.length (x::r):Nat):Int)>8) by omega),cond_false,yZ,List.getElem?_cons_zero,Option.bind_some,zjd,Option.bind_some,zgS _ _ _ _ (by unfold maxLen; omega),zrP,decide_eq_true h]
   dsimp only
   cases zjj ((UInt8.toNat x:Nat):Int) with
   | false=>rfl
   | true =>
    cases (x::r).all zsy with
    | false=>rfl
    | true =>
     simp only[Bool.not_true,cond_false,cond_true,Option.bind_some,zcH,Bool.true_and,Bool.and_true,ge_iff_le]
     cases decide (0≤a)<;>simp only[cond_true,cond_false,Bool.true_and,Bool.false_and]
     cases decide (a≤2)<;>simp only[cond_true,cond_false,Bool.true_and,Bool.false_and]
     cases decide (0≤b)<;>simp only[cond_true,cond_false,Bool.true_and,Bool.false_and]
     cases decide (b≤3)<;>simp only[cond_true,cond_false,Bool.true_and,Bool.false_and]
     cases decide (1≤c)<;>simp only[cond_true,cond_false,Bool.true_and,Bool.false_and]
  ·rw[decide_eq_true (show (((List.length (x::r):Nat):Int)>8) by omega),decide_eq_false h]
   rfl
theorem zop (a0:List zi) (nm:Str) (h:a0.length≤maxLen):zjf a0 nm=some (zxB (a0.findIdx? (fun e=>e.1==nm))):=by
 have:∀ es i,zag nm es i=qf nm es i:=by
  intro es
  induction es with
  | nil=>intro i; rfl
  | cons e es ih=>intro i; unfold zag qf; rw[ih]
 unfold zjf
 rw[zh6 _ _ h,this,zv4]
 cases a0.findIdx? (fun e=>e.1==nm) with
 | none=>rfl
 | some j=>simp [yd,zxB]
theorem zAZ (a0:List zi) (h:a0.length≤maxLen) (es:List zi) (i:Nat):qP a0 es i=some (cond (zjY a0 es i) (.inl ()) (.inr false)):=by
 induction es generalizing i with
 | nil=>rfl
 | cons e es ih =>
  unfold qP zjY
  rw[zmA,Option.bind_some,zop _ _ h,Option.bind_some,ih,bne]
  cases zvb e with
  | false=>rfl
  | true =>
   cases (zxB (a0.findIdx? (fun d=>d.1==e.1))==(i:Int)) with
   | false=>rfl
   | true=>simp
theorem zhi (a0:List zi):zff a0=some (zcC a0):=by
 unfold zff zcC
 cases a0 with
 | nil=>rfl
 | cons e es =>
  rw[decide_eq_false (show ¬(((List.length (e::es):Nat):Int)<1) by rw[List.length_cons]; omega),cond_false]
  by_cases h:(e::es).length≤20
  ·have h1:¬(((List.length (e::es):Nat):Int)>20):=by omega
   have hm:(e::es).length≤maxLen:=by unfold maxLen; omega
   rw[decide_eq_false h1,cond_false,yZ,List.getElem?_cons_zero,Option.bind_some,decide_eq_true h]
   show cond (!(eqQ e)) _ _=some (true&&eqQ e&&zjY (e::es) es 1)
   cases eqQ e with
   | false=>rfl
   | true =>
    have:=zhd (e::es) hm es 1 zd rfl (by simp [zd]; simp at h; omega)
    simp only[Bool.not_true,cond_false]
    rw[show ((1:Int))=((1:Nat):Int) from rfl,this,zAZ _ hm]
    cases zjY (e::es) es 1<;>rfl
  ·have h1:((List.length (e::es):Nat):Int)>20:=by omega
   rw[decide_eq_true h1,decide_eq_false h]
   rfl
theorem zvY {a0:List zi} (h:SignOk a0) (a1:List Int) (hl:a1.length≤1099511627776):∀(m i n:Nat) (k:Nat),a1.length - i=m→i≤a1.length→n≤1+3*i→m+1<k →
  lp zdj k (a0,a1,(n:Int),(i:Int))=some (match sk a0 n (a1.drop i) with
   | some j=>.inl ((i+j:Nat):Int)
   | none=>.inr (-1)):=by
 intro m
 induction m with
 | zero =>
  intro i n k hm hi hni hk
  obtain⟨k,rfl⟩:∃ k',k=k'+1:=⟨k - 1,by omega⟩
  rw[zm]
  generalize lp zdj k=rec
  unfold zdj
  rw[List.drop_eq_nil_iff.2 (show a1.length≤i by omega)]
  cases n with
  | zero=>simp [sk]
  | succ n =>
   simp only[decide_eq_true (show ((n+1:Nat):Int)>0 by omega),cond_true,decide_eq_true (show ((i:Int)≥((List.length a1:Nat):Int)) by omega)]
   rfl
 | succ m ih =>
  intro i n k hm hi hni hk
  obtain⟨k,rfl⟩:∃ k',k=k'+1:=⟨k - 1,by omega⟩
  have hi:i<a1.length:=by omega
  rw[zm]
  have key:=fun n' h1=>ih (i+1) n' k (by omega) (by omega) h1 (by omega)
  generalize lp zdj k=rec at key ⊢
  unfold zdj
  cases n with
  | zero=>simp [sk]
  | succ n =>
   have e1:IntKind.wrap .i64 (((n+1:Nat):Int) - 1)=(n:Int):=by rw[zp]<;>omega
   have e3:IntKind.wrap .i64 ((i:Int)+1)=((i+1:Nat):Int):=by rw[zp]<;>omega
   simp only[decide_eq_true (show ((n+1:Nat):Int)>0 by omega),cond_true,decide_eq_false (show ¬((i:Int)≥((List.length a1:Nat):Int)) by omega),cond_false,y5,List.getElem?_eq_getElem hi,Option.bind_some,List.drop_eq_getElem_cons hi,sk,e1,e3]
   generalize a1[i]=x
   unfold zcf
   by_cases h0:x<0
   ·rw[decide_eq_true h0,cond_true]
    by_cases h1 : -24≤x
    ·rw[decide_eq_false (show ¬(x < -24) by omega),cond_false,decide_eq_false (show ¬(x≥((List.length a0:Nat):Int)) by omega),cond_false,decide_eq_false (show ¬(x≥0) by omega),cond_false,decide_eq_true h1,cond_true,key n (by omega)]
     dsimp only
     rw[Nat.add_zero]
     cases sk a0 n (a1.drop (i+1)) with
     | none=>rfl
     | some j=>simp only[Option.map_some]; rw[show i+1+j=i+(j+1) from by omega]
    ·rw[decide_eq_true (show x < -24 by omega),decide_eq_false h1]; rfl
   ·rw[decide_eq_false h0,decide_eq_false (show ¬(x < -24) by omega),cond_false,cond_false]
    by_cases h1:x≥((List.length a0:Nat):Int)
    ·rw[decide_eq_true h1,cond_true,List.getElem?_eq_none (by omega)]
    ·obtain⟨e,he1,he2,he3⟩:=zjA (xs:=a0) (i:=x) (by omega) (by omega)
     have hat:=h.at he3
     rw[decide_eq_false h1,cond_false,decide_eq_true (show x≥0 by omega),cond_true,he1,Option.bind_some,he3]
     dsimp only
     cases hk0:(e.2.1==0) with
     | true=>rfl
     | false =>
      have e2:IntKind.wrap .i64 ((n:Int)+e.2.2.1)=((n+e.2.2.1.toNat:Nat):Int):=by rw[zp]<;>omega
      simp only[cond_false,Option.bind_some,e2]
      rw[key _ (by omega)]
      cases sk a0 (n+e.2.2.1.toNat) (a1.drop (i+1)) with
      | none=>rfl
      | some j=>simp only[Option.map_some]; rw[show i+1+j=i+(j+1) from by omega]
def zsH (o:Option Nat):Int:=match o with
 | some k=>(k:Int)
 | none => -1
theorem zli {a0:List zi} (h:SignOk a0) (a1:List Int) (hl:a1.length≤1099511627776) (i:Nat) (hi:i≤a1.length):zhM a0 a1 (i:Int)=some (zsH ((sk a0 1 (a1.drop i)).map (i + ·))):=by
 unfold zhM
 rw[show (1:Int)=((1:Nat):Int) from rfl,zvY h a1 hl (a1.length - i) i 1 zd rfl hi (by omega) (by unfold zd; omega)]
 cases sk a0 1 (a1.drop i) with
 | none=>rfl
 | some j=>rfl
theorem zql {a0:List zi} (h:SignOk a0) (a1:List Int) (hl:a1.length≤1099511627776):∀(m i n k:Nat),a1.length - i=m→i≤a1.length→n≤i→m<k →
  lp zeh k (a0,a1,(n:Int),(i:Int))=some (match zkm a0 (a1.drop i) with
   | some ps=>.inl ((n+ps.length:Nat):Int)
   | none=>.inr (-1)):=by
 intro m
 induction m using Nat.strongRecOn with
 | _ m ih =>
  intro i n k hm hi hn hk
  obtain⟨k,rfl⟩:∃ k',k=k'+1:=⟨k - 1,by omega⟩
  rw[zm]
  have key:=fun j n' (h1:i<j) h2 h3=>ih (a1.length - j) (by omega) j n' k rfl h2 h3 (by omega)
  generalize lp zeh k=rec at key ⊢
  unfold zeh
  by_cases he:i=a1.length
  ·subst he
   simp [zkA]
  ·have hlt:i<a1.length:=by omega
   have hne:a1.drop i≠[]:=by simp; omega
   simp only[zb3 hlt,cond_true,zli h a1 hl i hi,Option.bind_some,zdV hne]
   cases hs:sk a0 1 (a1.drop i) with
   | none=>rfl
   | some j =>
    have hj:=zkP hs
    rw[List.length_drop] at hj
    have e1:IntKind.wrap .i64 ((n:Int)+1)=((n+1:Nat):Int):=by rw[zp]<;>omega
    rw[show zsH (Option.map (fun x=>i+x) (some j))=((i+j:Nat):Int) from rfl,decide_eq_false (show ¬(((i+j:Nat):Int)<0) by omega),cond_false,e1]
    rw[key (i+j) (n+1) (by omega) (by omega) (by omega)]
    dsimp only
    rw[List.drop_drop]
    cases zkm a0 (a1.drop (i+j)) with
    | none=>rfl
    | some ps=>simp only[Option.map_some,List.length_cons]; rw[show n+1+ps.length=n+(ps.length+1) from by omega]
theorem zfX {a0:List zi} (hs:zcC a0=true) (a1:List Int):zdh a0 a1=some (zsH (zgG a0 a1)):=by
 have h:=zc2 hs
 unfold zdh zgG zbd
 rw[hs,Bool.true_and]
 by_cases hl:a1.length≤48
 ·have:=zql h a1 (by omega) a1.length 0 0 zd rfl (Nat.zero_le _) (Nat.le_refl _) (by unfold zd; omega)
  rw[show ((0:Nat):Int)=0 from rfl,List.drop_zero] at this
  rw[decide_eq_false (show ¬(((List.length a1:Nat):Int)>48) by omega),decide_eq_true hl,cond_false,cond_true,this]
  cases zkm a0 a1 with
  | none=>rfl
  | some ps=>simp [yd,zsH]
 ·rw[decide_eq_true (show (((List.length a1:Nat):Int)>48) by omega),decide_eq_false hl]; rfl
theorem zmq {a0:List zi} (hs:zcC a0=true) (xs:List Int):zij a0 xs=some (qz a0 xs):=by
 have h:=zc2 hs
 unfold zij qz
 cases xs with
 | nil=>rfl
 | cons x r =>
  simp only[decide_eq_true (show (((x::r).length:Nat):Int)>0 by simp<;>omega),cond_true,yZ,List.getElem?_cons_zero,Option.bind_some]
  by_cases h0:x<0
  ·rw[decide_eq_false (show ¬(x≥0) by omega)]; rfl
  ·rw[decide_eq_true (show x≥0 by omega),cond_true,Bool.true_and]
   by_cases h1:x≥((List.length a0:Nat):Int)
   ·rw[decide_eq_false (show ¬(x<((List.length a0:Nat):Int)) by omega),List.getElem?_eq_none (by omega)]; rfl
   ·obtain⟨e,he1,he2,he3⟩:=zjA (xs:=a0) (i:=x) (by omega) (by omega)
    have hat:=h.at he3
    simp only[decide_eq_true (show x<((List.length a0:Nat):Int) by omega),cond_true,he1,he3,Option.bind_some]
    cases hk:(e.2.1==0) with
    | false=>rfl
    | true =>
     simp only[cond_true,zcL,Option.bind_some,zfX hs,Bool.true_and]
     unfold zgG
     cases zbd a0 r with
     | none =>
      have:((-1:Int)==e.2.2.1)=false:=by simp; omega
      simp [zsH,this]
     | some ps=>rfl
theorem zsj {a0:List zi} {xs:List Int} (h:qz a0 xs=true):zcC a0=true:=by
 obtain⟨_,_,_,_,_,_,_,_,_,hs,_⟩:=zhE h
 exact hs
theorem zmv (a0:List zi) (b:Bool) (xs:List Int):zdb a0 b xs=some (qz a0 xs):=by
 unfold zdb
 rw[zhi,Option.bind_some]
 cases hs:zcC a0 with
 | true=>rw[cond_true,zmq hs]; rfl
 | false =>
  cases ha:qz a0 xs with
  | false=>rfl
  | true=>rw[zsj ha] at hs; cases hs
theorem zuN (s:List zc):(es:List zc)→(acc:List jI)→acc.length+es.length≤1000000→qK es acc=some (acc++es.map (·.2))∧qy es acc=some (acc++es.map (·.2))
 | [],acc,_=>⟨by simp [qK],by simp [qy]⟩
 | e::es,acc,h=>by
  rw[List.length_cons] at h
  obtain⟨k1,k2⟩:=zuN s es (acc++[e.2]) (by simp; omega)
  unfold qK qy
  rw[zn (show (acc.length+[e.2].length)*24≤140737488351232 by simp; omega),cond_true,cond_true,k1,k2]
  simp
theorem zzM:(es:List jI)→(acc:List jI)→acc.length+es.length≤1000000→qC es acc=some (acc++es)
 | [],acc,_=>by simp [qC]
 | e::es,acc,h=>by
  rw[List.length_cons] at h
  have k1:=zzM es (acc++[e]) (by simp; omega)
  unfold qC
  rw[zn (show (acc.length+[e].length)*24≤140737488351232 by simp; omega),cond_true,k1]
  simp
theorem zhm (a1:List zc) (a2:List jI) (a3:List zc) (h1:a1.length≤1000) (h2:a2.length≤1000) (h3:a3.length≤1000):zho a1 a2 a3=some (a1.map (·.2)++a2++a3.map (·.2)):=by
 unfold zho
 rw[zil _ _ _ _ (by unfold maxLen; omega),(zuN [] a1 [] (by simp; omega)).2,Option.bind_some,ziy _ _ _ _ (by unfold maxLen; omega),zzM a2 _ (by simp; omega),Option.bind_some,
  zh3 _ _ _ _ (by unfold maxLen; omega),(zuN [] a3 _ (by simp; omega)).1]
 simp
theorem zt0:(es:List jI)→(t:Nat)→t+zl es≤1000000000000→q5 es (t:Int)=some ((t+zl es:Nat):Int)
 | [],t,_=>by simp [q5,zl]
 | e::es,t,h=>by
  have hs:zl (e::es)=e.length+zl es:=by simp [zl]
  rw[hs] at h
  unfold q5
  have e1:IntKind.wrap .i64 ((t:Int)+((List.length e:Nat):Int))=((t+e.length:Nat):Int):=by rw[zp]<;>omega
  rw[e1,zt0 es (t+e.length) (by omega),hs]
  congr 2
  omega
theorem znB (a0:List zi):(es:List zc)→zaS a0 es=some (cond (zd1 a0 es) (.inl ()) (.inr false))∧zaL a0 es=some (cond (zd1 a0 es) (.inl ()) (.inr false))
 | []=>⟨rfl,rfl⟩
 | e::es=>by
  obtain⟨k1,k2⟩:=znB a0 es
  unfold zaS zaL
  rw[zmv,k1,k2]
  unfold zd1
  rw[List.all_cons]
  cases qz a0 e.2<;>exact ⟨rfl,rfl⟩
theorem zro {a0:List zi} (hs:zcC a0=true) (s3:List jI) (r:List Int) (h0:s3[0]? = some r):(es:List jI)→qZ a0 s3 es=some (cond (es.all fun q=>(zgG a0 q).isSome&&(zgG a0 q==zgG a0 r)) (.inl ()) (.inr false))
 | []=>rfl
 | e::es=>by
  unfold qZ
  rw[zfX hs,Option.bind_some,yZ,h0,Option.bind_some,zfX hs,Option.bind_some,zro hs s3 r h0 es,List.all_cons]
  cases h1:zgG a0 e with
  | none=>rfl
  | some n =>
   rw[show zsH (some n)=(n:Int) from rfl,decide_eq_false (show ¬((n:Int)<0) by omega),cond_false]
   cases h2:zgG a0 r with
   | none =>
    rw[show (((n:Int)) != zsH none)=true from by simp [zsH]<;>omega]
    rfl
   | some k =>
    by_cases hn:n=k
    ·subst hn; simp [zsH]
    ·have e1:(((n:Int)) != zsH (some k))=true:=by simp [zsH]; omega
     have e2:(some n==some k)=false:=by simpa using hn
     rw[e1,e2]; simp
theorem zsp {a0:List zi} (r:List Int) (rs:List jI):((r::rs).all fun q=>(zgG a0 q).isSome&&(zgG a0 q==zgG a0 r))=zgy a0 (r::rs):=by
 unfold zgy
 dsimp only
 cases hr:zgG a0 r with
 | none=>simp [hr]
 | some n =>
  rw[List.all_cons,hr]
  simp only[Option.isSome_some,beq_self_eq_true,Bool.true_and]
  congr 1
  funext q
  cases zgG a0 q<;>simp
theorem z1 (a0:List zi) (a1:List zc) (a2:List jI) (a3:List zc):zf1 a0 a1 a2 a3=some (zc4 a0 a1 a2 a3):=by
 unfold zf1 zc4
 rw[zhi,Option.bind_some]
 cases hs:zcC a0 with
 | false=>rfl
 | true =>
  by_cases h1:a1.length≤5
  ·by_cases h3:a3.length≤3
   ·by_cases h2:a2.length≤3
    ·simp only[Bool.not_true,cond_false,decide_eq_false (show ¬(((List.length a1:Nat):Int)>5) by omega),decide_eq_false (show ¬(((List.length a2:Nat):Int)>3) by omega),decide_eq_false (show ¬(((List.length a3:Nat):Int)>3) by omega),
      decide_eq_true h1,decide_eq_true h2,decide_eq_true h3,Bool.true_and]
     rw[zjm _ _ _ _ (by unfold maxLen; omega),(znB a0 a1).1]
     cases hb1:zd1 a0 a1 with
     | false=>rfl
     | true =>
      simp only[cond_true,Option.bind_some,zcH,Bool.true_and]
      rw[ziK _ _ _ _ (by unfold maxLen; omega),(znB a0 a3).2]
      cases hb3:zd1 a0 a3 with
      | false=>simp [yd]
      | true =>
       simp only[cond_true,Option.bind_some,zcH,Bool.and_true]
       rw[ziM _ _ _ _ (by unfold maxLen; omega)]
       have hrows:qZ a0 a2 a2=some (cond (zgy a0 a2) (.inl ()) (.inr false)):=by
        cases a2 with
        | nil=>rfl
        | cons r rs=>rw[zro hs (r::rs) r rfl (r::rs),zsp]
       rw[hrows]
       cases hb2:zgy a0 a2 with
       | false=>rfl
       | true =>
        have s1:=zi9 a1 hb1
        have s2:=zrd a2 hb2
        have s3:=zi9 a3 hb3
        have hsum:zl (a1.map (·.2)++a2++a3.map (·.2))=zl (a1.map (·.2))+zl a2+zl (a3.map (·.2)):=by simp [zl]; omega
        simp only[cond_true,Option.bind_some,zcH,zhm a1 a2 a3 (by omega) (by omega) (by omega),Bool.true_and]
        rw[zje _ _ (by simp only[List.length_append,List.length_map]; unfold maxLen; omega),show (0:Int)=((0:Nat):Int) from rfl,zt0 _ 0 (by rw[hsum]; omega),Option.bind_some,Nat.zero_add,hsum]
        simp only[Option.some.injEq,decide_eq_decide]
        omega
    ·simp only[Bool.not_true,cond_false,decide_eq_false (show ¬(((List.length a1:Nat):Int)>5) by omega),decide_eq_false (show ¬(((List.length a3:Nat):Int)>3) by omega),decide_eq_true (show (((List.length a2:Nat):Int)>3) by omega),decide_eq_false h2,cond_true,Bool.and_false,Bool.false_and]
   ·simp only[Bool.not_true,cond_false,decide_eq_false (show ¬(((List.length a1:Nat):Int)>5) by omega),decide_eq_true (show (((List.length a3:Nat):Int)>3) by omega),decide_eq_false h3,cond_true,Bool.and_false,Bool.false_and]
  ·simp only[Bool.not_true,cond_false,decide_eq_true (show (((List.length a1:Nat):Int)>5) by omega),decide_eq_false h1,cond_true,Bool.and_false,Bool.false_and]
end
end Go.Abs.Q
namespace Go.Abs.Q
open Go Go.Abs
section
theorem zoT {a0:List zi} (h:SignOk a0) (a1:List Int) (hl:a1.length≤1099511627776):∀(m i n j k:Nat),a1.length - i=m→i≤a1.length→n≤1+3*i→sk a0 n (a1.drop i)=some j→m+1<k →
  lp zbJ k (a0,a1,(n:Int),(i:Int))=some ((i+j:Nat):Int):=by
 intro m
 induction m with
 | zero =>
  intro i n j k hm hi hni hs hk
  obtain⟨k,rfl⟩:∃ k',k=k'+1:=⟨k - 1,by omega⟩
  rw[zm]
  generalize lp zbJ k=rec
  unfold zbJ
  rw[List.drop_eq_nil_iff.2 (show a1.length≤i by omega)] at hs
  cases n with
  | zero =>
   simp [sk] at hs
   subst hs
   simp
  | succ n=>simp [sk] at hs
 | succ m ih =>
  intro i n j k hm hi hni hs hk
  obtain⟨k,rfl⟩:∃ k',k=k'+1:=⟨k - 1,by omega⟩
  have hi:i<a1.length:=by omega
  rw[zm]
  have key:=fun n' j' h1 h2=>ih (i+1) n' j' k (by omega) (by omega) h1 h2 (by omega)
  generalize lp zbJ k=rec at key ⊢
  unfold zbJ
  cases n with
  | zero =>
   simp [sk] at hs
   subst hs
   simp
  | succ n =>
   have e1:IntKind.wrap .i64 (((n+1:Nat):Int) - 1)=(n:Int):=by rw[zp]<;>omega
   have e3:IntKind.wrap .i64 ((i:Int)+1)=((i+1:Nat):Int):=by rw[zp]<;>omega
   rw[List.drop_eq_getElem_cons hi] at hs
   simp only[sk] at hs
   simp only[decide_eq_true (show ((n+1:Nat):Int)>0 by omega),cond_true,y5,List.getElem?_eq_getElem hi,Option.bind_some,e1,e3]
   generalize a1[i]=x at hs
   cases ha:zcf a0 x with
   | none=>rw[ha] at hs; cases hs
   | some q =>
    rw[ha] at hs
    simp only[Option.map_eq_some_iff] at hs
    obtain⟨j',hj',rfl⟩:=hs
    by_cases h0:x<0
    ·obtain⟨_,rfl⟩:=zo9 ha h0
     rw[decide_eq_false (show ¬(x≥0) by omega),cond_false,key n j' (by omega) hj']
     rw[show i+1+j'=i+(j'+1) from by omega]
    ·obtain⟨e,he1,he2,he3,rfl⟩:=zoo ha h0
     have hat:=h.at he2
     have e2:IntKind.wrap .i64 ((n:Int)+e.2.2.1)=((n+e.2.2.1.toNat:Nat):Int):=by rw[zp]<;>omega
     rw[decide_eq_true (show x≥0 by omega),cond_true,he1,Option.bind_some,e2,key _ j' (by omega) hj']
     rw[show i+1+j'=i+(j'+1) from by omega]
theorem zmz {a0:List zi} (h:SignOk a0) (a1:List Int) (hl:a1.length≤1099511627776) (i j:Nat) (hi:i≤a1.length) (hs:sk a0 1 (a1.drop i)=some j):ziA a0 a1 (i:Int)=some ((i+j:Nat):Int):=by
 unfold ziA
 rw[show (1:Int)=((1:Nat):Int) from rfl,zoT h a1 hl (a1.length - i) i 1 j zd rfl hi (by omega) hs (by unfold zd; omega)]
 rfl
theorem zpF {a0:List zi} (h:SignOk a0) (a1:List Int) (hl:a1.length≤1099511627776):∀(m i:Nat) (acc ps:List jI) (k:Nat),a1.length - i=m→i≤a1.length→acc.length≤i→zkm a0 (a1.drop i)=some ps→m<k →
  lp zei k (a0,a1,(i:Int),acc)=some (acc++ps):=by
 intro m
 induction m using Nat.strongRecOn with
 | _ m ih =>
  intro i acc ps k hm hi hacc hc hk
  obtain⟨k,rfl⟩:∃ k',k=k'+1:=⟨k - 1,by omega⟩
  rw[zm]
  have key:=fun j acc' ps' (h1:i<j) h2 h3 h4=>ih (a1.length - j) (by omega) j acc' ps' k rfl h2 h3 h4 (by omega)
  generalize lp zei k=rec at key ⊢
  unfold zei
  by_cases he:i=a1.length
  ·subst he
   rw[List.drop_length,zkA] at hc
   injection hc with hc; subst hc
   simp
  ·have hlt:i<a1.length:=by omega
   have hne:a1.drop i≠[]:=by simp; omega
   rw[zdV hne] at hc
   cases hs:sk a0 1 (a1.drop i) with
   | none=>rw[hs] at hc; cases hc
   | some j =>
    rw[hs] at hc
    simp only[Option.map_eq_some_iff] at hc
    obtain⟨qs,hq,rfl⟩:=hc
    have hj:=zkP hs
    rw[List.length_drop] at hj
    have e1:zbV a1 (some (i:Int)) (some ((i+j:Nat):Int))=some ((a1.drop i).take j):=by
     rw[zBL a1 (by omega) (by omega),show i+j - i=j from by omega]
    simp only[decide_eq_true (show (i:Int)<((List.length a1:Nat):Int) by omega),cond_true,zmz h a1 hl i j hi hs,Option.bind_some,e1,List.length_singleton,zn (show (acc.length+1)*24≤140737488351232 by omega)]
    rw[List.drop_drop] at hq
    rw[key (i+j) _ qs (by omega) (by omega) (by simp; omega) hq]
    simp
theorem zaK {a0:List zi} (h:SignOk a0) {a1:List Int} (hl:a1.length≤1099511627776) {ps:List jI} (hc:zkm a0 a1=some ps):zN a0 a1=some ps:=by
 unfold zN
 have:=zpF h a1 hl a1.length 0 [] ps zd rfl (Nat.zero_le _) (Nat.zero_le _) hc (by unfold zd; omega)
 rw[show ((0:Nat):Int)=0 from rfl] at this
 rw[this]
 rfl
end
end Go.Abs.Q
namespace Go.Abs.Q
open Go Go.Abs
section
end
end Go.Abs.Q
namespace Go.Abs.Q
open Go Go.Abs
section
theorem zlC (ys:List Int):(es:List Int)→(i:Nat)→es.length=(ys.drop i).length→yG ys es i=some (cond (decide (es=ys.drop i)) (.inl ()) (.inr false))
 | [],i,h=>by
  have:ys.drop i=[]:=List.length_eq_zero_iff.1 h.symm
  rw[this]; rfl
 | e::es,i,h=>by
  unfold yG
  rw[List.length_cons,List.length_drop] at h
  have hi:i<ys.length:=by omega
  rw[y5,List.getElem?_eq_getElem hi,Option.bind_some,List.drop_eq_getElem_cons hi,zlC ys es (i+1) (by rw[List.length_drop]; omega)]
  generalize ys[i]=y
  by_cases he:e=y
  ·subst he
   rw[show (e != e)=false from by simp,cond_false]
   simp
  ·rw[show (e != y)=true from by simpa using he,cond_true]
   rw[decide_eq_false (by intro h; injection h with h1 h2; exact he h1)]
   rfl
theorem zgF {xs ys:List Int} (h:xs.length≤maxLen):zbj xs ys=some (decide (xs=ys)):=by
 unfold zbj
 by_cases hl:xs.length=ys.length
 ·rw[show (((List.length xs:Nat):Int) != ((List.length ys:Nat):Int))=false from by simp [hl],cond_false,zgd _ _ h,zlC ys xs 0 hl,List.drop_zero]
  cases decide (xs=ys)<;>rfl
 ·rw[show (((List.length xs:Nat):Int) != ((List.length ys:Nat):Int))=true from by simp; omega,cond_true,decide_eq_false (by intro h; subst h; exact hl rfl)]
theorem zlO (ys:List zc):(es:List zc)→(i:Nat)→es.length=(ys.drop i).length→(∀ e∈es,e.2.length≤maxLen)→yH ys es i=some (cond (decide (es=ys.drop i)) (.inl ()) (.inr false))
 | [],i,h,_=>by
  have:ys.drop i=[]:=List.length_eq_zero_iff.1 h.symm
  rw[this]; rfl
 | e::es,i,h,hm=>by
  unfold yH
  rw[List.length_cons,List.length_drop] at h
  have hi:i<ys.length:=by omega
  rw[y5,List.getElem?_eq_getElem hi,Option.bind_some,List.drop_eq_getElem_cons hi,zlO ys es (i+1) (by rw[List.length_drop]; omega) (fun x hx=>hm x (by simp [hx]))]
  generalize ys[i]=y
  obtain⟨a,b⟩:=e
  obtain⟨c,d⟩:=y
  have hb:b.length≤maxLen:=hm (a,b) (by simp)
  simp only[Option.bind_some,zgF hb]
  by_cases h1:a=c
  ·subst h1
   by_cases h2:b=d
   ·subst h2
    simp
   ·have:¬((a,b)::es=(a,d)::ys.drop (i+1)):=fun h=>by injection h with h _; injection h with _ h; exact h2 h
    simp [h2,this]
  ·have:¬((a,b)::es=(c,d)::ys.drop (i+1)):=fun h=>by injection h with h _; injection h with h _; exact h1 h
   have h3:(a==c)=false:=by simpa using h1
   rw[h3,decide_eq_false this]; rfl
theorem zgB {xs ys:List zc} (h:xs.length≤maxLen) (hm:∀ e∈xs,e.2.length≤maxLen):zcI xs ys=some (decide (xs=ys)):=by
 unfold zcI
 by_cases hl:xs.length=ys.length
 ·rw[show (((List.length xs:Nat):Int) != ((List.length ys:Nat):Int))=false from by simp [hl],cond_false,zfT _ _ h,zlO ys xs 0 hl hm,List.drop_zero]
  cases decide (xs=ys)<;>rfl
 ·rw[show (((List.length xs:Nat):Int) != ((List.length ys:Nat):Int))=true from by simp; omega,cond_true,decide_eq_false (by intro h; subst h; exact hl rfl)]
theorem zl7 (ys:List jI):(es:List jI)→(i:Nat)→es.length=(ys.drop i).length→(∀ e∈es,e.length≤maxLen)→yI ys es i=some (cond (decide (es=ys.drop i)) (.inl ()) (.inr false))
 | [],i,h,_=>by
  have:ys.drop i=[]:=List.length_eq_zero_iff.1 h.symm
  rw[this]; rfl
 | e::es,i,h,hm=>by
  unfold yI
  rw[List.length_cons,List.length_drop] at h
  have hi:i<ys.length:=by omega
  rw[y5,List.getElem?_eq_getElem hi,Option.bind_some,List.drop_eq_getElem_cons hi,zgF (hm e (by simp)),Option.bind_some,zl7 ys es (i+1) (by rw[List.length_drop]; omega) (fun x hx=>hm x (by simp [hx]))]
  generalize ys[i]=y
  by_cases h1:e=y
  ·subst h1
   simp
  ·have:¬(e::es=y::ys.drop (i+1)):=fun h=>by injection h with h _; exact h1 h
   rw[decide_eq_false h1,decide_eq_false this]; rfl
theorem zkn {xs ys:List jI} (h:xs.length≤maxLen) (hm:∀ e∈xs,e.length≤maxLen):zeo xs ys=some (decide (xs=ys)):=by
 unfold zeo
 by_cases hl:xs.length=ys.length
 ·rw[show (((List.length xs:Nat):Int) != ((List.length ys:Nat):Int))=false from by simp [hl],cond_false,zgb _ _ h,zl7 ys xs 0 hl hm,List.drop_zero]
  cases decide (xs=ys)<;>rfl
 ·rw[show (((List.length xs:Nat):Int) != ((List.length ys:Nat):Int))=true from by simp; omega,cond_true,decide_eq_false (by intro h; subst h; exact hl rfl)]
theorem zd7 {a0:List zc} {a1:List jI} {a2:List zc} (h0:a0.length≤maxLen) (h0m:∀ e∈a0,e.2.length≤maxLen) (h1:a1.length≤maxLen) (h1m:∀ e∈a1,e.length≤maxLen) (h2:a2.length≤maxLen) (h2m:∀ e∈a2,e.2.length≤maxLen) :
  qE a0 a1 a2 a0 a1 a2=some true:=by
 unfold qE
 rw[zgB h0 h0m,zkn h1 h1m,zgB h2 h2m]
 simp
end
end Go.Abs.Q
namespace Go.Abs.Q
open Go Go.Abs
end Go.Abs.Q
namespace Go.Abs.Q
open Go Go.Abs
end Go.Abs.Q
namespace Go.Abs.Q
open Go Go.Abs
section
end
end Go.Abs.Q
namespace Go.Abs.Q
open Go Go.Abs
def qj (rec:(jR×jR×Int×Int×(List (jI×Int×jI×Int))×jI×Int×jI×Int)→Option (List (jI×Int×jI×Int))) (x:(jR×jR×Int×Int×(List (jI×Int×jI×Int))×jI×Int×jI×Int)):Option (List (jI×Int×jI×Int)) :=
 cond (decide (x.2.2.2.1<x.2.2.1))
 ((gx x.1 x.2.2.2.1).bind fun e7 =>
  (gx x.2.1 x.2.2.2.1).bind fun e8 =>
  cond (yQ (List.length x.2.2.2.2.1+List.length ([(e7,x.2.2.2.2.2.2.1,e8,x.2.2.2.2.2.2.2.2)]:List (jI×Int×jI×Int))) 64)
  (rec (x.1,x.2.1,x.2.2.1,(IntKind.wrap .i64 (x.2.2.2.1+1)),(x.2.2.2.2.1++([(e7,x.2.2.2.2.2.2.1,e8,x.2.2.2.2.2.2.2.2)]:List (jI×Int×jI×Int))),x.2.2.2.2.2.1,x.2.2.2.2.2.2.1,x.2.2.2.2.2.2.2.1,x.2.2.2.2.2.2.2.2))
  (none))
 (some x.2.2.2.2.1)
def qn (a0:jI) (a1:Int) (a2:jI) (a3:Int) (a4:jS) (a5:(List ((Option jI)×Int))) (a6:(List (jI×Int×jI×Int))):Option (List (jI×Int×jI×Int)) :=
 (zbe a4 a0).bind fun r10 =>
 (zbe a4 a2).bind fun r11 =>
 ((lp qj zd) (r10,r11,((List.length r10:Nat):Int),0,a6,a0,a1,a2,a3)).bind fun r12 =>
 some r12
def yy (a0:jI) (a1:Int) (a2:Int):Option Int :=
 (z6 a2).bind fun r2 =>
 some (IntKind.wrap .i64 (r2+a1))
def za3 (rec:(jS×(List ((Option jI)×Int))×jI×Int×Int)→Option (jI×Int)) (x:(jS×(List ((Option jI)×Int))×jI×Int×Int)):Option (jI×Int) :=
 (gx x.2.2.1 0).bind fun e6 =>
 cond (decide (e6<0))
 ((gx x.2.2.1 0).bind fun e7 =>
  (yy x.2.2.1 x.2.2.2.1 e7).bind fun r8 =>
  (inR r8 48).bind fun k9 =>
  (x.2.1[k9]?).bind fun x10 =>
  cond (Option.isNone x10.1)
  (some (x.2.2.1,x.2.2.2.1))
  (rec (x.1,x.2.1,(Option.getD x10.1 []),x10.2,x.2.2.2.2)))
 (some (x.2.2.1,x.2.2.2.1))
def zaR (a0:jI) (a1:Int) (a2:jS) (a3:(List ((Option jI)×Int))):Option (jI×Int) :=
 ((lp za3 zd) (a2,a3,a0,a1,0)).bind fun r12 =>
 some (r12.1,r12.2)
def qv (rec:(Int×jI×Int×Int×jS×(List ((Option jI)×Int))×jI×Int×(List Bool)×(List (jI×Int)))→Option (((List Bool)×(List (jI×Int)))⊕Bool)) (x:(Int×jI×Int×Int×jS×(List ((Option jI)×Int))×jI×Int×(List Bool)×(List (jI×Int)))):Option (((List Bool)×(List (jI×Int)))⊕Bool) :=
 cond (decide (x.2.2.2.1<x.2.2.1))
 ((gx x.2.1 x.2.2.2.1).bind fun e14 =>
  cond (decide (e14≥0))
  (rec (x.1,x.2.1,x.2.2.1,(IntKind.wrap .i64 (x.2.2.2.1+1)),x.2.2.2.2.1,x.2.2.2.2.2.1,x.2.2.2.2.2.2.1,x.2.2.2.2.2.2.2.1,x.2.2.2.2.2.2.2.2.1,x.2.2.2.2.2.2.2.2.2))
  ((yy x.2.2.2.2.2.2.1 x.2.2.2.2.2.2.2.1 e14).bind fun r15 =>
   cond (r15==x.1)
   (some (Sum.inr true))
   ((inR r15 48).bind fun k16 =>
    (x.2.2.2.2.2.2.2.2.1[k16]?).bind fun x17 =>
    cond (!x17)
    ((inR r15 48).bind fun k18 =>
     (x.2.2.2.2.2.1[k18]?).bind fun x19 =>
     cond (!(Option.isNone x19.1))
     ((inR r15 48).bind fun k20 =>
      (x.2.2.2.2.2.2.2.2.1[k20]?).bind fun x21 =>
      (inR r15 48).bind fun k22 =>
      (x.2.2.2.2.2.1[k22]?).bind fun x23 =>
      cond (yQ (List.length x.2.2.2.2.2.2.2.2.2+List.length ([((Option.getD x23.1 []),x23.2)]:List (jI×Int))) 32)
      (rec (x.1,x.2.1,x.2.2.1,(IntKind.wrap .i64 (x.2.2.2.1+1)),x.2.2.2.2.1,x.2.2.2.2.2.1,x.2.2.2.2.2.2.1,x.2.2.2.2.2.2.2.1,(List.set x.2.2.2.2.2.2.2.2.1 k20 true),(x.2.2.2.2.2.2.2.2.2++([((Option.getD x23.1 []),x23.2)]:List (jI×Int)))))
      (none))
     (rec (x.1,x.2.1,x.2.2.1,(IntKind.wrap .i64 (x.2.2.2.1+1)),x.2.2.2.2.1,x.2.2.2.2.2.1,x.2.2.2.2.2.2.1,x.2.2.2.2.2.2.2.1,x.2.2.2.2.2.2.2.2.1,x.2.2.2.2.2.2.2.2.2)))
    (rec (x.1,x.2.1,x.2.2.1,(IntKind.wrap .i64 (x.2.2.2.1+1)),x.2.2.2.2.1,x.2.2.2.2.2.1,x.2.2.2.2.2.2.1,x.2.2.2.2.2.2.2.1,x.2.2.2.2.2.2.2.2.1,x.2.2.2.2.2.2.2.2.2)))))
 (some (Sum.inl (x.2.2.2.2.2.2.2.2.1,x.2.2.2.2.2.2.2.2.2)))
def zac (rec:(Int×jS×(List ((Option jI)×Int))×jI×Int×(List Bool)×(List (jI×Int)))→Option (Unit⊕Bool)) (x:(Int×jS×(List ((Option jI)×Int))×jI×Int×(List Bool)×(List (jI×Int)))):Option (Unit⊕Bool) :=
 cond (decide (((List.length x.2.2.2.2.2.2:Nat):Int)>0))
 ((inR (IntKind.wrap .i64 (((List.length x.2.2.2.2.2.2:Nat):Int) - 1)) (List.length x.2.2.2.2.2.2)).bind fun k32 =>
  (x.2.2.2.2.2.2[k32]?).bind fun x33 =>
  (zbV x.2.2.2.2.2.2 none (some (IntKind.wrap .i64 (((List.length x.2.2.2.2.2.2:Nat):Int) - 1)))).bind fun y34 =>
  ((lp qv zd) (x.1,x33.1,((List.length x33.1:Nat):Int),0,x.2.1,x.2.2.1,x33.1,x33.2,x.2.2.2.2.2.1,y34)).bind fun r35 =>
  yd r35
  (fun z36=>rec (x.1,x.2.1,x.2.2.1,x33.1,x33.2,z36.1,z36.2))
  (fun z37=>some (Sum.inr z37)))
 (some (Sum.inl ()))
def zce (a0:Int) (a1:jI) (a2:Int) (a3:jS) (a4:(List ((Option jI)×Int))):Option Bool :=
 ((lp zac zd) (a0,a3,a4,a1,a2,(List.replicate 48 false),([(a1,a2)]:List (jI×Int)))).bind fun r41 =>
 yd r41
 (fun z42=>some false)
 (fun z43=>some z43)
def qc (a0:jI) (a1:Int) (a2:jI) (a3:Int) (a4:jS) (a5:(List ((Option jI)×Int))):Option (Bool×jS×(List ((Option jI)×Int))) :=
 (gx a0 0).bind fun e16 =>
 (yy a0 a1 e16).bind fun r17 =>
 (gx a2 0).bind fun e18 =>
 cond (decide (e18≥0))
 ((zce r17 a2 a3 a4 a5).bind fun r19 =>
  cond r19
  (some (false,a4,a5))
  ((inR r17 48).bind fun k20 =>
   (a5[k20]?).bind fun x21 =>
   (nn a2).bind fun p22 =>
   some (true,a4,(List.set a5 k20 ((some p22),a3)))))
 ((gx a2 0).bind fun e23 =>
  (yy a2 a3 e23).bind fun r24 =>
  cond (decide (r24>r17))
  ((inR r24 48).bind fun k25 =>
   (a5[k25]?).bind fun x26 =>
   (nn a0).bind fun p27 =>
   some (true,a4,(List.set a5 k25 ((some p27),a1))))
  (cond (decide (r24<r17))
   ((inR r17 48).bind fun k28 =>
    (a5[k28]?).bind fun x29 =>
    (nn a2).bind fun p30 =>
    some (true,a4,(List.set a5 k28 ((some p30),a3))))
   (some (true,a4,a5))))
def zq (rec:(jS×(List ((Option jI)×Int))×(List (jI×Int×jI×Int)))→Option (Bool×jS×(List ((Option jI)×Int)))) (x:(jS×(List ((Option jI)×Int))×(List (jI×Int×jI×Int)))):Option (Bool×jS×(List ((Option jI)×Int))) :=
 cond (((List.length x.2.2:Nat):Int)==0)
 (some (true,x.1,x.2.1))
 ((inR (IntKind.wrap .i64 (((List.length x.2.2:Nat):Int) - 1)) (List.length x.2.2)).bind fun k27 =>
  (x.2.2[k27]?).bind fun x28 =>
  (zaR x28.1 x28.2.1 x.1 x.2.1).bind fun r29 =>
  (inR (IntKind.wrap .i64 (((List.length x.2.2:Nat):Int) - 1)) (List.length x.2.2)).bind fun k30 =>
  (x.2.2[k30]?).bind fun x31 =>
  (zaR x31.2.2.1 x31.2.2.2 x.1 x.2.1).bind fun r32 =>
  (zbV x.2.2 none (some (IntKind.wrap .i64 (((List.length x.2.2:Nat):Int) - 1)))).bind fun y33 =>
  (gx r29.1 0).bind fun e34 =>
  cond (decide (e34<0))
  ((qc r29.1 r29.2 r32.1 r32.2 x.1 x.2.1).bind fun r35 =>
   cond r35.1
   (rec (r35.2.1,r35.2.2,y33))
   (some (false,r35.2.1,r35.2.2)))
  ((gx r32.1 0).bind fun e36 =>
   cond (decide (e36<0))
   ((qc r32.1 r32.2 r29.1 r29.2 x.1 x.2.1).bind fun r37 =>
    cond r37.1
    (rec (r37.2.1,r37.2.2,y33))
    (some (false,r37.2.1,r37.2.2)))
   ((gx r29.1 0).bind fun e38 =>
    (gx r32.1 0).bind fun e39 =>
    cond (e38 != e39)
    (some (false,x.1,x.2.1))
    ((zbV r29.1 (some 1) none).bind fun y40 =>
     (zbV r32.1 (some 1) none).bind fun y41 =>
     (qn y40 r29.2 y41 r32.2 x.1 x.2.1 y33).bind fun r42 =>
     rec (x.1,x.2.1,r42)))))
def zay (a0:jI) (a1:Int) (a2:jI) (a3:Int) (a4:jS) (a5:(List ((Option jI)×Int))):Option (Bool×jS×(List ((Option jI)×Int))) :=
 (qn a0 a1 a2 a3 a4 a5 ([]:(List (jI×Int×jI×Int)))).bind fun r53 =>
 cond (((List.length r53:Nat):Int)==0)
 (some (true,a4,a5))
 ((inR (IntKind.wrap .i64 (((List.length r53:Nat):Int) - 1)) (List.length r53)).bind fun k54 =>
  (r53[k54]?).bind fun x55 =>
  (zaR x55.1 x55.2.1 a4 a5).bind fun r56 =>
  (inR (IntKind.wrap .i64 (((List.length r53:Nat):Int) - 1)) (List.length r53)).bind fun k57 =>
  (r53[k57]?).bind fun x58 =>
  (zaR x58.2.2.1 x58.2.2.2 a4 a5).bind fun r59 =>
  (zbV r53 none (some (IntKind.wrap .i64 (((List.length r53:Nat):Int) - 1)))).bind fun y60 =>
  (gx r56.1 0).bind fun e61 =>
  cond (decide (e61<0))
  ((qc r56.1 r56.2 r59.1 r59.2 a4 a5).bind fun r62 =>
   cond r62.1
   ((((lp zq zd) (r62.2.1,r62.2.2,y60))).bind fun r63 =>
    some (r63.1,r63.2.1,r63.2.2))
   (some (false,r62.2.1,r62.2.2)))
  ((gx r59.1 0).bind fun e64 =>
   cond (decide (e64<0))
   ((qc r59.1 r59.2 r56.1 r56.2 a4 a5).bind fun r65 =>
    cond r65.1
    ((((lp zq zd) (r65.2.1,r65.2.2,y60))).bind fun r66 =>
     some (r66.1,r66.2.1,r66.2.2))
    (some (false,r65.2.1,r65.2.2)))
   ((gx r56.1 0).bind fun e67 =>
    (gx r59.1 0).bind fun e68 =>
    cond (e67 != e68)
    (some (false,a4,a5))
    ((zbV r56.1 (some 1) none).bind fun y69 =>
     (zbV r59.1 (some 1) none).bind fun y70 =>
     (qn y69 r56.2 y70 r59.2 a4 a5 y60).bind fun r71 =>
     (((lp zq zd) (a4,a5,r71))).bind fun r72 =>
     some (r72.1,r72.2.1,r72.2.2)))))
def qW (a0:(Option jI)) (a1:Int) (a2:Int):Option Int :=
 (z6 a2).bind fun r2 =>
 some (IntKind.wrap .i64 (r2+a1))
def yw (rf:(((Option jI)×Int×jS×(List ((Option jI)×Int)))→Option (Option jI))) (rec:((Option jI)×Int×Int×jS×(List ((Option jI)×Int))×(Option jI)×Int×jI)→Option (jI⊕Unit)) (x:((Option jI)×Int×Int×jS×(List ((Option jI)×Int))×(Option jI)×Int×jI)):Option (jI⊕Unit) :=
 cond (decide (x.2.2.1<x.2.1))
 ((gx (Option.getD x.1 []) x.2.2.1).bind fun e27 =>
  cond (decide (e27<0))
  ((qW x.2.2.2.2.2.1 x.2.2.2.2.2.2.1 e27).bind fun r28 =>
   (inR r28 48).bind fun k29 =>
   (x.2.2.2.2.1[k29]?).bind fun x30 =>
   cond (!(Option.isNone x30.1))
   ((qW x.2.2.2.2.2.1 x.2.2.2.2.2.2.1 e27).bind fun r31 =>
    (inR r31 48).bind fun k32 =>
    (x.2.2.2.2.1[k32]?).bind fun x33 =>
    (rf (x33.1,x33.2,x.2.2.2.1,x.2.2.2.2.1)).bind fun r34 =>
    cond (Option.isNone r34)
    (some (Sum.inr ()))
    (cond (decide ((IntKind.wrap .i64 (((List.length x.2.2.2.2.2.2.2:Nat):Int)+((List.length (Option.getD r34 []):Nat):Int)))>48))
     (some (Sum.inr ()))
     (cond (yQ (List.length x.2.2.2.2.2.2.2+List.length (Option.getD r34 [])) 8)
      (rec (x.1,x.2.1,(IntKind.wrap .i64 (x.2.2.1+1)),x.2.2.2.1,x.2.2.2.2.1,x.2.2.2.2.2.1,x.2.2.2.2.2.2.1,(x.2.2.2.2.2.2.2++(Option.getD r34 []))))
      (none))))
   ((((nn ([e27]:List Int)).bind fun _ =>
     some false)).bind fun z35 =>
    cond z35
    (some (Sum.inr ()))
    (cond (decide ((IntKind.wrap .i64 (((List.length x.2.2.2.2.2.2.2:Nat):Int)+((List.length ([e27]:List Int):Nat):Int)))>48))
     (some (Sum.inr ()))
     (cond (yQ (List.length x.2.2.2.2.2.2.2+List.length ([e27]:List Int)) 8)
      (rec (x.1,x.2.1,(IntKind.wrap .i64 (x.2.2.1+1)),x.2.2.2.1,x.2.2.2.2.1,x.2.2.2.2.2.1,x.2.2.2.2.2.2.1,(x.2.2.2.2.2.2.2++([e27]:List Int))))
      (none)))))
  ((((nn ([e27]:List Int)).bind fun _ =>
    some false)).bind fun z36 =>
   cond z36
   (some (Sum.inr ()))
   (cond (decide ((IntKind.wrap .i64 (((List.length x.2.2.2.2.2.2.2:Nat):Int)+((List.length ([e27]:List Int):Nat):Int)))>48))
    (some (Sum.inr ()))
    (cond (yQ (List.length x.2.2.2.2.2.2.2+List.length ([e27]:List Int)) 8)
     (rec (x.1,x.2.1,(IntKind.wrap .i64 (x.2.2.1+1)),x.2.2.2.1,x.2.2.2.2.1,x.2.2.2.2.2.1,x.2.2.2.2.2.2.1,(x.2.2.2.2.2.2.2++([e27]:List Int))))
     (none)))))
 (some (Sum.inl x.2.2.2.2.2.2.2))
def zdd (rf:(((Option jI)×Int×jS×(List ((Option jI)×Int)))→Option (Option jI))) (a0:(Option jI)) (a1:Int) (a2:jS) (a3:(List ((Option jI)×Int))):Option (Option jI) :=
 ((lp (yw rf) zd) (a0,((List.length (Option.getD a0 []):Nat):Int),0,a2,a3,a0,a1,([]:jI))).bind fun r40 =>
 yd r40
 (fun z41=>((nn z41).bind fun z=>some ((2:Nat),some z)).bind fun p42 =>
  some p42.2)
 (fun z43=>some (none:(Option jI)))
def zgO (rf:(((Option jI)×Int×jS×(List ((Option jI)×Int)))→Option (Option jI))):(((Option jI)×Int×jS×(List ((Option jI)×Int)))→Option (Option jI)) :=
 fun (x:((Option jI)×Int×jS×(List ((Option jI)×Int))))=>zdd rf x.1 x.2.1 x.2.2.1 x.2.2.2
def zgM:(((Option jI)×Int×jS×(List ((Option jI)×Int)))→Option (Option jI)):=fun _=>none
def qr (k:Nat):(((Option jI)×Int×jS×(List ((Option jI)×Int)))→Option (Option jI)):=lpR zgM zgO k
def zeA (a0:(Option jI)) (a1:Int) (a2:jS) (a3:(List ((Option jI)×Int))):Option (Option jI):=(qr zd) (a0,a1,a2,a3)
def zaP (rec:(Int×jS×(List ((Option jI)×Int))×(List (Int×jI)))→Option ((List (Int×jI))⊕(Bool×Int))) (x:(Int×jS×(List ((Option jI)×Int))×(List (Int×jI)))):Option ((List (Int×jI))⊕(Bool×Int)) :=
 cond (decide (x.1<24))
 ((inR x.1 48).bind fun k16 =>
  (x.2.2.1[k16]?).bind fun x17 =>
  cond (Option.isNone x17.1)
  (rec ((IntKind.wrap .i64 (x.1+1)),x.2.1,x.2.2.1,x.2.2.2))
  ((inR x.1 48).bind fun k18 =>
   (x.2.2.1[k18]?).bind fun x19 =>
   (zeA x19.1 x19.2 x.2.1 x.2.2.1).bind fun r20 =>
   cond (Option.isNone r20)
   (some (Sum.inr (false,401)))
   ((zbZ (Option.getD r20 [])).bind fun r21 =>
    cond (yQ (List.length x.2.2.2+List.length ([(x.1,r21)]:List (Int×jI))) 32)
    (rec ((IntKind.wrap .i64 (x.1+1)),x.2.1,x.2.2.1,(x.2.2.2++([(x.1,r21)]:List (Int×jI)))))
    (none))))
 (some (Sum.inl x.2.2.2))
def zdr (a0:jS) (a1:jI) (a2:jI):Option (Bool×Int×(List (Int×jI))) :=
 (zgu a0 a1).bind fun r25 =>
 (zgu a0 a2).bind fun r26 =>
 cond (r25.2 != 0)
 (some (false,400,([]:(List (Int×jI)))))
 (cond (r26.2 != 0)
  (some (false,400,([]:(List (Int×jI)))))
  (cond (r25.1 != r26.1)
   (some (false,0,([]:(List (Int×jI)))))
   ((zay a1 0 a2 0 a0 (List.replicate 48 ((none:(Option jI)),(0:Int)))).bind fun r27 =>
    cond (!r27.1)
    (some (false,0,([]:(List (Int×jI)))))
    (((lp zaP zd) (0,r27.2.1,r27.2.2,([]:(List (Int×jI))))).bind fun r28 =>
     yd r28
     (fun z29=>some (true,0,z29))
     (fun z30=>some (z30.1,z30.2,([]:(List (Int×jI)))))))))
def zgn (a0:Int):Option jR :=
 cond (decide (a0<0))
 (none)
 (cond (decide ((IntKind.wrap .i64 (a0 - 0))>0))
  (cond (eqI 0 0&&eqI 0 0)
   (cond (zrq (IntKind.wrap .i64 (a0 - 0)))
    (cond (yQ (Int.toNat (IntKind.wrap .i64 (a0 - 0))) 24)
     ((zbV (List.replicate (Int.toNat (IntKind.wrap .i64 (a0 - 0))) ([]:jI)) none (some 0)).bind fun y2 =>
      some y2)
     (none))
    (none))
   (none))
  (some ([]:jR)))
def zat (rec:((List jR)×Int×Int×jR)→Option jR) (x:((List jR)×Int×Int×jR)):Option jR :=
 cond (decide (x.2.2.1<x.2.1))
 ((gx x.1 x.2.2.1).bind fun e7 =>
  cond (yQ (List.length x.2.2.2+List.length e7) 24)
  (rec (x.1,x.2.1,(IntKind.wrap .i64 (x.2.2.1+1)),(x.2.2.2++e7)))
  (none))
 (some x.2.2.2)
def zas (rec:((List jR)×Int×(List jR)×Int×Int)→Option Int) (x:((List jR)×Int×(List jR)×Int×Int)):Option Int :=
 cond (decide (x.2.2.2.2<x.2.2.2.1))
 ((gx x.2.2.1 x.2.2.2.2).bind fun e2 =>
  cond (decide ((IntKind.wrap .i64 (x.2.1+((List.length e2:Nat):Int)))<0))
  (none)
  (rec (x.1,(IntKind.wrap .i64 (x.2.1+((List.length e2:Nat):Int))),x.2.2.1,x.2.2.2.1,(IntKind.wrap .i64 (x.2.2.2.2+1)))))
 (some x.2.1)
def zee (a0:(List jR)):Option jR :=
 ((lp zas zd) (a0,0,a0,((List.length a0:Nat):Int),0)).bind fun r9 =>
 (zgn r9).bind fun r10 =>
 ((lp zat zd) (a0,((List.length a0:Nat):Int),0,r10)).bind fun r11 =>
 some r11
def zek (a0:Int):Option jQ :=
 cond (decide (a0<0))
 (none)
 (cond (decide ((IntKind.wrap .i64 (a0 - 0))>0))
  (cond (eqI 0 0&&eqI 0 0)
   (cond (zrq (IntKind.wrap .i64 (a0 - 0)))
    (cond (yQ (Int.toNat (IntKind.wrap .i64 (a0 - 0))) 32)
     ((zbV (List.replicate (Int.toNat (IntKind.wrap .i64 (a0 - 0))) (false,([]:jI))) none (some 0)).bind fun y2 =>
      some y2)
     (none))
    (none))
   (none))
  (some ([]:jQ)))
def qQ (rec:((List jQ)×Int×Int×jQ)→Option jQ) (x:((List jQ)×Int×Int×jQ)):Option jQ :=
 cond (decide (x.2.2.1<x.2.1))
 ((gx x.1 x.2.2.1).bind fun e7 =>
  cond (yQ (List.length x.2.2.2+List.length e7) 32)
  (rec (x.1,x.2.1,(IntKind.wrap .i64 (x.2.2.1+1)),(x.2.2.2++e7)))
  (none))
 (some x.2.2.2)
def qT (rec:((List jQ)×Int×(List jQ)×Int×Int)→Option Int) (x:((List jQ)×Int×(List jQ)×Int×Int)):Option Int :=
 cond (decide (x.2.2.2.2<x.2.2.2.1))
 ((gx x.2.2.1 x.2.2.2.2).bind fun e2 =>
  cond (decide ((IntKind.wrap .i64 (x.2.1+((List.length e2:Nat):Int)))<0))
  (none)
  (rec (x.1,(IntKind.wrap .i64 (x.2.1+((List.length e2:Nat):Int))),x.2.2.1,x.2.2.2.1,(IntKind.wrap .i64 (x.2.2.2.2+1)))))
 (some x.2.1)
def zbM (a0:(List jQ)):Option jQ :=
 ((lp qT zd) (a0,0,a0,((List.length a0:Nat):Int),0)).bind fun r9 =>
 (zek r9).bind fun r10 =>
 ((lp qQ zd) (a0,((List.length a0:Nat):Int),0,r10)).bind fun r11 =>
 some r11
def zaX (rec:(Int×jQ×Int×Int×jR×jQ×jQ)→Option (jR×jQ×jQ)) (x:(Int×jQ×Int×Int×jR×jQ×jQ)):Option (jR×jQ×jQ) :=
 cond (decide (x.2.2.2.1<x.2.2.1))
 ((gx x.2.1 x.2.2.2.1).bind fun e8 =>
  cond (x.2.2.2.1 != x.1)
  (cond (yQ (List.length x.2.2.2.2.2.1+List.length ([(e8.1,e8.2)]:List zc)) 32)
   (rec (x.1,x.2.1,x.2.2.1,(IntKind.wrap .i64 (x.2.2.2.1+1)),x.2.2.2.2.1,(x.2.2.2.2.2.1++([(e8.1,e8.2)]:List zc)),x.2.2.2.2.2.2))
   (none))
  (rec (x.1,x.2.1,x.2.2.1,(IntKind.wrap .i64 (x.2.2.2.1+1)),x.2.2.2.2.1,x.2.2.2.2.2.1,x.2.2.2.2.2.2)))
 (some (x.2.2.2.2.1,x.2.2.2.2.2.1,x.2.2.2.2.2.2))
def za6 (rec:(Int×Int×jQ×Int×Int×jQ×jR×jQ×jR×jQ×jQ)→Option (jR×jQ×jQ)) (x:(Int×Int×jQ×Int×Int×jQ×jR×jQ×jR×jQ×jQ)):Option (jR×jQ×jQ) :=
 cond (decide (x.2.2.2.2.1<x.2.2.2.1))
 ((gx x.2.2.1 x.2.2.2.2.1).bind fun e5 =>
  cond (x.2.2.2.2.1 != x.1)
  (cond (yQ (List.length x.2.2.2.2.2.2.2.2.2.1+List.length ([(e5.1,e5.2)]:List zc)) 32)
   (rec (x.1,x.2.1,x.2.2.1,x.2.2.2.1,(IntKind.wrap .i64 (x.2.2.2.2.1+1)),x.2.2.2.2.2.1,x.2.2.2.2.2.2.1,x.2.2.2.2.2.2.2.1,x.2.2.2.2.2.2.2.2.1,(x.2.2.2.2.2.2.2.2.2.1++([(e5.1,e5.2)]:List zc)),x.2.2.2.2.2.2.2.2.2.2))
   (none))
  (rec (x.1,x.2.1,x.2.2.1,x.2.2.2.1,(IntKind.wrap .i64 (x.2.2.2.2.1+1)),x.2.2.2.2.2.1,x.2.2.2.2.2.2.1,x.2.2.2.2.2.2.2.1,x.2.2.2.2.2.2.2.2.1,x.2.2.2.2.2.2.2.2.2.1,x.2.2.2.2.2.2.2.2.2.2)))
 (some (x.2.2.2.2.2.2.2.2.1,x.2.2.2.2.2.2.2.2.2.1,x.2.2.2.2.2.2.2.2.2.2))
def zdN (a0:jQ) (a1:jR) (a2:jQ) (a3:Int) (a4:jQ) (a5:jR) (a6:jQ) (a7:Int):Option (jR×jQ×jQ) :=
 (zee ([a1,a5]:List jR)).bind fun r10 =>
 (zbM ([a2,a6]:List jQ)).bind fun r11 =>
 ((lp za6 zd) (a3,a7,a0,((List.length a0:Nat):Int),0,a4,a5,a6,r10,([]:jQ),r11)).bind fun r12 =>
 ((lp zaX zd) (a7,a4,((List.length a4:Nat):Int),0,r12.1,r12.2.1,r12.2.2)).bind fun r13 =>
 some (r13.1,r13.2.1,r13.2.2)
def zcy (rec:(Int×(List (Int×jI))×Int×Int)→Option (Unit⊕jI)) (x:(Int×(List (Int×jI))×Int×Int)):Option (Unit⊕jI) :=
 cond (decide (x.2.2.2<x.2.2.1))
 ((gx x.2.1 x.2.2.2).bind fun e2 =>
  cond (e2.1==x.1)
  (some (Sum.inr e2.2))
  (rec (x.1,x.2.1,x.2.2.1,(IntKind.wrap .i64 (x.2.2.2+1)))))
 (some (Sum.inl ()))
def zhh (a0:(List (Int×jI))) (a1:Int):Option (Option jI) :=
 ((lp zcy zd) (a1,a0,((List.length a0:Nat):Int),0)).bind fun r6 =>
 yd r6
 (fun z7=>some (none:(Option jI)))
 (fun z8=>(nn z8).bind fun p9 =>
  some (some p9))
def zet (rec:((List (Int×jI))×jI×Int×Int×jI)→Option jI) (x:((List (Int×jI))×jI×Int×Int×jI)):Option jI :=
 cond (decide (x.2.2.2.1<x.2.2.1))
 ((gx x.2.1 x.2.2.2.1).bind fun e10 =>
  (z6 e10).bind fun r11 =>
  (zhh x.1 r11).bind fun r12 =>
  cond (decide (e10≥0))
  (cond (yQ (List.length x.2.2.2.2+List.length ([e10]:List Int)) 8)
   (rec (x.1,x.2.1,x.2.2.1,(IntKind.wrap .i64 (x.2.2.2.1+1)),(x.2.2.2.2++([e10]:List Int))))
   (none))
  (cond (Option.isNone r12)
   (cond (yQ (List.length x.2.2.2.2+List.length ([e10]:List Int)) 8)
    (rec (x.1,x.2.1,x.2.2.1,(IntKind.wrap .i64 (x.2.2.2.1+1)),(x.2.2.2.2++([e10]:List Int))))
    (none))
   (cond (yQ (List.length x.2.2.2.2+List.length (Option.getD r12 [])) 8)
    (rec (x.1,x.2.1,x.2.2.1,(IntKind.wrap .i64 (x.2.2.2.1+1)),(x.2.2.2.2++(Option.getD r12 []))))
    (none))))
 (some x.2.2.2.2)
def zjK (a0:(List (Int×jI))) (a1:jI):Option jI :=
 ((lp zet zd) (a0,a1,((List.length a1:Nat):Int),0,([]:jI))).bind fun r14 =>
 some r14
def q4 (a0:jI) (a1:(List (Int×jI))):Option jI :=
 (zjK a1 a0).bind fun r2 =>
 some r2
def zbA (rec:(jQ×Int×Int×(List (Int×jI))×jQ×jR×jQ)→Option (jQ×jR×jQ)) (x:(jQ×Int×Int×(List (Int×jI))×jQ×jR×jQ)):Option (jQ×jR×jQ) :=
 cond (decide (x.2.2.1<x.2.1))
 ((gx x.1 x.2.2.1).bind fun e19 =>
  (q4 e19.2 x.2.2.2.1).bind fun r20 =>
  cond (yQ (List.length x.2.2.2.2.2.2+List.length ([(e19.1,r20)]:List zc)) 32)
  (rec (x.1,x.2.1,(IntKind.wrap .i64 (x.2.2.1+1)),x.2.2.2.1,x.2.2.2.2.1,x.2.2.2.2.2.1,(x.2.2.2.2.2.2++([(e19.1,r20)]:List zc))))
  (none))
 (some (x.2.2.2.2.1,x.2.2.2.2.2.1,x.2.2.2.2.2.2))
def zbx (rec:(jR×Int×Int×(List (Int×jI))×jQ×jR×jQ×jQ×jR)→Option (jQ×jR)) (x:(jR×Int×Int×(List (Int×jI))×jQ×jR×jQ×jQ×jR)):Option (jQ×jR) :=
 cond (decide (x.2.2.1<x.2.1))
 ((gx x.1 x.2.2.1).bind fun e12 =>
  (q4 e12 x.2.2.2.1).bind fun r13 =>
  cond (yQ (List.length x.2.2.2.2.2.2.2.2+List.length ([r13]:List jI)) 24)
  (rec (x.1,x.2.1,(IntKind.wrap .i64 (x.2.2.1+1)),x.2.2.2.1,x.2.2.2.2.1,x.2.2.2.2.2.1,x.2.2.2.2.2.2.1,x.2.2.2.2.2.2.2.1,(x.2.2.2.2.2.2.2.2++([r13]:List jI))))
  (none))
 (some (x.2.2.2.2.2.2.2.1,x.2.2.2.2.2.2.2.2))
def zbs (rec:(jQ×Int×Int×(List (Int×jI))×jQ×jR×jQ×jQ)→Option jQ) (x:(jQ×Int×Int×(List (Int×jI))×jQ×jR×jQ×jQ)):Option jQ :=
 cond (decide (x.2.2.1<x.2.1))
 ((gx x.1 x.2.2.1).bind fun e5 =>
  (q4 e5.2 x.2.2.2.1).bind fun r6 =>
  cond (yQ (List.length x.2.2.2.2.2.2.2+List.length ([(e5.1,r6)]:List zc)) 32)
  (rec (x.1,x.2.1,(IntKind.wrap .i64 (x.2.2.1+1)),x.2.2.2.1,x.2.2.2.2.1,x.2.2.2.2.2.1,x.2.2.2.2.2.2.1,(x.2.2.2.2.2.2.2++([(e5.1,r6)]:List zc))))
  (none))
 (some x.2.2.2.2.2.2.2)
def ziu (a0:jQ) (a1:jR) (a2:jQ) (a3:(List (Int×jI))):Option (jQ×jR×jQ) :=
 ((lp zbs zd) (a0,((List.length a0:Nat):Int),0,a3,a0,a1,a2,([]:jQ))).bind fun r22 =>
 ((lp zbx zd) (a1,((List.length a1:Nat):Int),0,a3,a0,a1,a2,r22,([]:jR))).bind fun r23 =>
 ((lp zbA zd) (a2,((List.length a2:Nat):Int),0,a3,r23.1,r23.2,([]:jQ))).bind fun r24 =>
 some (r24.1,r24.2.1,r24.2.2)
def zfw (a0:(List (Int×jI))) (a1:jQ) (a2:jR) (a3:jQ):Option (jQ×jR×jQ) :=
 (ziu a1 a2 a3 a0).bind fun r2 =>
 some (r2.1,r2.2.1,r2.2.2)
def zf9 (a0:Bool) (a1:jI) (a2:jS):Option Bool :=
 (zgg a2 a0 a1).bind fun r2 =>
 some (!r2)
def yV (rec:(jQ×Int×Int×jS)→Option (Unit⊕Int)) (x:(jQ×Int×Int×jS)):Option (Unit⊕Int) :=
 cond (decide (x.2.2.1<x.2.1))
 ((gx x.1 x.2.2.1).bind fun e3 =>
  (zf9 e3.1 e3.2 x.2.2.2).bind fun r4 =>
  cond r4
  (some (Sum.inr x.2.2.1))
  (rec (x.1,x.2.1,(IntKind.wrap .i64 (x.2.2.1+1)),x.2.2.2)))
 (some (Sum.inl ()))
def zcT (a0:jQ) (a1:jS):Option Int :=
 ((lp yV zd) (a0,((List.length a0:Nat):Int),0,a1)).bind fun r8 =>
 yd r8
 (fun z9=>some (-1))
 (fun z10=>some z10)
def zbS (a0:jQ) (a1:jS):Option Bool :=
 (zcT a0 a1).bind fun r2 =>
 some (decide (r2≥0))
def zco (a0:jS) (a1:jI):Option Bool :=
 (zdf a0 a1).bind fun r2 =>
 cond r2.1
 (some (((List.length r2.2:Nat):Int)==1))
 (some false)
def zbC (rec:(jI×Int×Int×jI)→Option jI) (x:(jI×Int×Int×jI)):Option jI :=
 cond (decide (x.2.2.1<x.2.1))
 ((gx x.1 x.2.2.1).bind fun e7 =>
  cond (decide (e7<0))
  ((z6 e7).bind fun r8 =>
   (inR r8 24).bind fun k9 =>
   (x.2.2.2[k9]?).bind fun x10 =>
   (inR r8 24).bind fun k11 =>
   (x.2.2.2[k11]?).bind fun x12 =>
   rec (x.1,x.2.1,(IntKind.wrap .i64 (x.2.2.1+1)),(List.set x.2.2.2 k11 (IntKind.wrap .i64 (x10+1)))))
  (rec (x.1,x.2.1,(IntKind.wrap .i64 (x.2.2.1+1)),x.2.2.2)))
 (some x.2.2.2)
def zeG (a0:jI):Option jI :=
 ((lp zbC zd) (a0,((List.length a0:Nat):Int),0,(List.replicate 24 (0:Int)))).bind fun r14 =>
 cond (Nat.beq (List.length r14) 24)
 (cond (Nat.beq (List.length r14) 24)
  (cond (Nat.beq (List.length r14) 24)
   (some r14)
   (none))
  (none))
 (none)
def zak (rec:(Int×jI×jI)→Option (Unit⊕Bool)) (x:(Int×jI×jI)):Option (Unit⊕Bool) :=
 cond (decide (x.1<24))
 ((inR x.1 24).bind fun k11 =>
  (x.2.1[k11]?).bind fun x12 =>
  (inR x.1 24).bind fun k13 =>
  (x.2.2[k13]?).bind fun x14 =>
  cond (decide (x12<x14))
  (some (Sum.inr false))
  (rec ((IntKind.wrap .i64 (x.1+1)),x.2.1,x.2.2)))
 (some (Sum.inl ()))
def zfc (a0:jI) (a1:jI):Option Bool :=
 (zeG a0).bind fun r18 =>
 (zeG a1).bind fun r19 =>
 cond (Nat.beq (List.length (List.replicate 24 (0:Int))) 24)
 (cond (Nat.beq (List.length (List.replicate 24 (0:Int))) 24)
  (((lp zak zd) (0,r18,r19)).bind fun r20 =>
   yd r20
   (fun z21=>some true)
   (fun z22=>some z22))
  (none))
 (none)
def zdg (rec:(jS×Int×jI×Int×Int)→Option Int) (x:(jS×Int×jI×Int×Int)):Option Int :=
 cond (decide (x.2.2.2.2<x.2.2.2.1))
 ((gx x.2.2.1 x.2.2.2.2).bind fun e3 =>
  cond (decide (e3<0))
  (rec (x.1,(IntKind.wrap .i64 (x.2.1+1)),x.2.2.1,x.2.2.2.1,(IntKind.wrap .i64 (x.2.2.2.2+1))))
  ((gx x.1 e3).bind fun e4 =>
   rec (x.1,(IntKind.wrap .i64 (x.2.1+e4.2.2.2)),x.2.2.1,x.2.2.2.1,(IntKind.wrap .i64 (x.2.2.2.2+1)))))
 (some x.2.1)
def zgt (a0:jS) (a1:jI):Option Int :=
 ((lp zdg zd) (a0,0,a1,((List.length a1:Nat):Int),0)).bind fun r6 =>
 some r6
def zaY (rec:(jR×jR×Int×Int)→Option (Unit⊕(jI×jI))) (x:(jR×jR×Int×Int)):Option (Unit⊕(jI×jI)) :=
 cond (decide (x.2.2.2<x.2.2.1))
 ((gx x.2.1 x.2.2.2).bind fun e7 =>
  cond (decide (x.2.2.2<((List.length x.1:Nat):Int)))
  ((gx x.1 x.2.2.2).bind fun e8 =>
   (ym e7 e8).bind fun r9 =>
   cond (!r9)
   ((gx x.1 x.2.2.2).bind fun e10 =>
    some (Sum.inr (e7,e10)))
   (rec (x.1,x.2.1,x.2.2.1,(IntKind.wrap .i64 (x.2.2.2+1)))))
  (rec (x.1,x.2.1,x.2.2.1,(IntKind.wrap .i64 (x.2.2.2+1)))))
 (some (Sum.inl ()))
def zhs (a0:jS) (a1:jI) (a2:jI):Option (jI×jI) :=
 (zbe a0 a2).bind fun r14 =>
 (zbe a0 a1).bind fun r15 =>
 ((lp zaY zd) (r14,r15,((List.length r15:Nat):Int),0)).bind fun r16 =>
 yd r16
 (fun z17=>some (([]:jI),([]:jI)))
 (fun z18=>some (z18.1,z18.2))
def zc1 (rec:(jS×jI×jI)→Option (Unit⊕Bool)) (x:(jS×jI×jI)):Option (Unit⊕Bool) :=
 (((nn x.2.1).bind fun _ =>
  some false)).bind fun z23 =>
 cond (!z23)
 ((zfc x.2.1 x.2.2).bind fun r24 =>
  cond r24
  ((zgt x.1 x.2.1).bind fun r25 =>
   (zgt x.1 x.2.2).bind fun r26 =>
   cond (r25 != r26)
   (some (Sum.inr (decide (r25>r26))))
   ((gx x.2.1 0).bind fun e27 =>
    (gx x.2.2 0).bind fun e28 =>
    cond (e27 != e28)
    ((gx x.2.1 0).bind fun e29 =>
     (gx x.2.2 0).bind fun e30 =>
     some (Sum.inr (decide (e29>e30))))
    ((zbV x.2.1 (some 1) none).bind fun y31 =>
     (zbV x.2.2 (some 1) none).bind fun y32 =>
     (zhs x.1 y31 y32).bind fun r33 =>
     rec (x.1,r33.1,r33.2))))
  (some (Sum.inl ())))
 (some (Sum.inl ()))
def zab (a0:jS) (a1:jI) (a2:jI):Option Bool :=
 ((lp zc1 zd) (a0,a1,a2)).bind fun r37 =>
 yd r37
 (fun z38=>some false)
 (fun z39=>some z39)
def zaG (a0:jS) (a1:jI) (a2:jI):Option (Int×Int) :=
 (zco a0 a1).bind fun r19 =>
 cond r19
 ((zco a0 a2).bind fun r20 =>
  (zbi a0 a1).bind fun r21 =>
  cond r21
  ((zbi a0 a2).bind fun r22 =>
   cond (!r20)
   (cond (!r22)
    (some (0,600))
    ((ym a1 a2).bind fun r23 =>
     cond r23
     (some (1,0))
     ((zab a0 a1 a2).bind fun r24 =>
      cond r24
      (some (2,0))
      ((zab a0 a2 a1).bind fun r25 =>
       cond r25
       (some (0,0))
       (some (3,0))))))
   ((ym a1 a2).bind fun r26 =>
    cond r26
    (some (1,0))
    ((zab a0 a1 a2).bind fun r27 =>
     cond r27
     (some (2,0))
     ((zab a0 a2 a1).bind fun r28 =>
      cond r28
      (some (0,0))
      (some (3,0))))))
  (cond (!r20)
   (some (0,600))
   ((ym a1 a2).bind fun r29 =>
    cond r29
    (some (1,0))
    ((zab a0 a1 a2).bind fun r30 =>
     cond r30
     (some (2,0))
     ((zab a0 a2 a1).bind fun r31 =>
      cond r31
      (some (0,0))
      (some (3,0)))))))
 ((zbi a0 a1).bind fun r32 =>
  cond r32
  ((zbi a0 a2).bind fun r33 =>
   cond (!r33)
   (some (0,600))
   ((ym a1 a2).bind fun r34 =>
    cond r34
    (some (1,0))
    ((zab a0 a1 a2).bind fun r35 =>
     cond r35
     (some (2,0))
     ((zab a0 a2 a1).bind fun r36 =>
      cond r36
      (some (0,0))
      (some (3,0))))))
  (some (0,600)))
def zgw (a0:jS) (a1:Bool) (a2:jI) (a3:Bool) (a4:jI):Option (Int×Int) :=
 (zgg a0 a1 a2).bind fun r4 =>
 cond (!r4)
 (some (0,700))
 ((zgg a0 a3 a4).bind fun r5 =>
  cond (!r5)
  (some (0,700))
  ((zaG a0 a2 a4).bind fun r6 =>
   cond (r6.1 != 1)
   (some (r6.1,0))
   (cond (a1==a3)
    (some (r6.1,0))
    (cond a1
     (some (2,0))
     (some (0,0))))))
def zgq (a0:Bool) (a1:jI) (a2:jS) (a3:Bool) (a4:jI):Option Bool :=
 (zgw a2 a0 a1 a3 a4).bind fun r2 =>
 some (r2.1==2)
def yU (rec:(jQ×Int×Int×jS×Bool×jI)→Option (Unit⊕Int)) (x:(jQ×Int×Int×jS×Bool×jI)):Option (Unit⊕Int) :=
 cond (decide (x.2.2.1<x.2.1))
 ((gx x.1 x.2.2.1).bind fun e3 =>
  (zgq e3.1 e3.2 x.2.2.2.1 x.2.2.2.2.1 x.2.2.2.2.2).bind fun r4 =>
  cond r4
  (some (Sum.inr x.2.2.1))
  (rec (x.1,x.2.1,(IntKind.wrap .i64 (x.2.2.1+1)),x.2.2.2.1,x.2.2.2.2.1,x.2.2.2.2.2)))
 (some (Sum.inl ()))
def zcU (a0:jQ) (a1:jS) (a2:Bool) (a3:jI):Option Int :=
 ((lp yU zd) (a0,((List.length a0:Nat):Int),0,a1,a2,a3)).bind fun r8 =>
 yd r8
 (fun z9=>some (-1))
 (fun z10=>some z10)
def qM (a0:jQ) (a1:jS) (a2:Bool) (a3:jI):Option Bool :=
 (zcU a0 a1 a2 a3).bind fun r2 =>
 some (decide (r2≥0))
def zdi (rec:(jQ×jQ×Int×Int×jS×jI)→Option jI) (x:(jQ×jQ×Int×Int×jS×jI)):Option jI :=
 cond (decide (x.2.2.2.1<x.2.2.1))
 ((gx x.2.1 x.2.2.2.1).bind fun e7 =>
  (qM x.1 x.2.2.2.2.1 e7.1 e7.2).bind fun r8 =>
  cond (!r8)
  (cond (yQ (List.length x.2.2.2.2.2+List.length ([x.2.2.2.1]:List Int)) 8)
   (rec (x.1,x.2.1,x.2.2.1,(IntKind.wrap .i64 (x.2.2.2.1+1)),x.2.2.2.2.1,(x.2.2.2.2.2++([x.2.2.2.1]:List Int))))
   (none))
  (rec (x.1,x.2.1,x.2.2.1,(IntKind.wrap .i64 (x.2.2.2.1+1)),x.2.2.2.2.1,x.2.2.2.2.2)))
 (some x.2.2.2.2.2)
def ziP (a0:jS) (a1:jQ):Option (Int×jI) :=
 (zhy a0).bind fun r10 =>
 cond (!r10)
 (some (700,([]:jI)))
 ((zbS a1 a0).bind fun r11 =>
  cond r11
  (some (700,([]:jI)))
  (((lp zdi zd) (a1,a1,((List.length a1:Nat):Int),0,a0,([]:jI))).bind fun r12 =>
   some (0,r12)))
def za4 (a0:jS) (a1:Bool) (a2:jI):Option Bool :=
 cond a1
 (some false)
 ((gx a2 0).bind fun e9 =>
  cond (e9 != 0)
  (some false)
  ((zbV a2 (some 1) none).bind fun y10 =>
   (zbe a0 y10).bind fun r11 =>
   (inR 0 (List.length r11)).bind fun k12 =>
   (r11[k12]?).bind fun x13 =>
   (inR 1 (List.length r11)).bind fun k14 =>
   (r11[k14]?).bind fun x15 =>
   (ym x13 x15).bind fun r16 =>
   some r16))
def zbW (a0:Bool) (a1:jI) (a2:Bool) (a3:jI):Option Bool :=
 cond (!(a2==a0))
 ((ym a3 a1).bind fun r2 =>
  some r2)
 (some false)
def yO (rec:(jQ×Int×Int×Bool×jI)→Option (Unit⊕Int)) (x:(jQ×Int×Int×Bool×jI)):Option (Unit⊕Int) :=
 cond (decide (x.2.2.1<x.2.1))
 ((gx x.1 x.2.2.1).bind fun e3 =>
  (zbW e3.1 e3.2 x.2.2.2.1 x.2.2.2.2).bind fun r4 =>
  cond r4
  (some (Sum.inr x.2.2.1))
  (rec (x.1,x.2.1,(IntKind.wrap .i64 (x.2.2.1+1)),x.2.2.2.1,x.2.2.2.2)))
 (some (Sum.inl ()))
def zcZ (a0:jQ) (a1:Bool) (a2:jI):Option Int :=
 ((lp yO zd) (a0,((List.length a0:Nat):Int),0,a1,a2)).bind fun r8 =>
 yd r8
 (fun z9=>some (-1))
 (fun z10=>some z10)
def qA (a0:jQ) (a1:Bool) (a2:jI):Option Bool :=
 (zcZ a0 a1 a2).bind fun r2 =>
 some (decide (r2≥0))
def q8 (rec:(jS×jQ×Int×Int×jQ×jR×jQ)→Option (Unit⊕(Bool×Int))) (x:(jS×jQ×Int×Int×jQ×jR×jQ)):Option (Unit⊕(Bool×Int)) :=
 cond (decide (x.2.2.2.1<x.2.2.1))
 ((gx x.2.1 x.2.2.2.1).bind fun e5 =>
  (za4 x.1 e5.1 e5.2).bind fun r6 =>
  cond r6
  (some (Sum.inr (true,0)))
  ((qA x.2.2.2.2.1 e5.1 e5.2).bind fun r7 =>
   cond r7
   (some (Sum.inr (true,0)))
   (rec (x.1,x.2.1,x.2.2.1,(IntKind.wrap .i64 (x.2.2.2.1+1)),x.2.2.2.2.1,x.2.2.2.2.2.1,x.2.2.2.2.2.2))))
 (some (Sum.inl ()))
def zbz (a0:jS) (a1:jQ) (a2:jR) (a3:jQ):Option (Bool×Int) :=
 (za0 a0 a1 a2 a3).bind fun r11 =>
 cond (!r11)
 (some (false,800))
 (((lp q8 zd) (a0,a1,((List.length a1:Nat):Int),0,a1,a2,a3)).bind fun r12 =>
  yd r12
  (fun z13=>some (false,0))
  (fun z14=>some (z14.1,z14.2)))
def zQ (a0:Int) (a1:Int) (a2:Int) (a3:Int) (a4:Int) (a5:Int) (a6:Int) (a7:jQ) (a8:jR) (a9:jQ) (a10:jQ) (a11:jR) (a12:jQ) (a13:Bool) (a14:Int) (a15:jS) (a16:Int) (a17:jT):Option (jS×Int×jT) :=
 cond (a14 != 0)
 (some (a15,(IntKind.wrap .i64 (a16+1)),a17))
 ((zbz a15 a10 a11 a12).bind fun r2 =>
  cond (!a13)
  (some (a15,a16,a17))
  (cond r2.1
   (some (a15,a16,a17))
   (cond (yQ (List.length a17+List.length ([(a0,a1,a2,a3,a4,a5,a6,a10,a11,a12)]:List jU)) 128)
    (some (a15,a16,(a17++([(a0,a1,a2,a3,a4,a5,a6,a10,a11,a12)]:List jU))))
    (none))))
def zjk (a0:Int) (a1:Int) (a2:Int) (a3:Int) (a4:Int) (a5:Int) (a6:Int) (a7:jQ) (a8:jR) (a9:jQ) (a10:Int) (a11:Int) (a12:Int) (a13:Int) (a14:Int) (a15:Int) (a16:Int) (a17:jQ) (a18:jR) (a19:jQ):Option Bool :=
 cond (a0==a10)
 (cond (a1==a11)
  (cond (a2==a12)
   (cond (a3==a13)
    (cond (a4==a14)
     (cond (a5==a15)
      (cond (a6==a16)
       ((qE a7 a8 a9 a17 a18 a19).bind fun r2 =>
        some r2)
       (some false))
      (some false))
     (some false))
    (some false))
   (some false))
  (some false))
 (some false)
def zfF (rec:(jT×jT×Int)→Option (Unit⊕Bool)) (x:(jT×jT×Int)):Option (Unit⊕Bool) :=
 cond (decide (x.2.2<((List.length x.1:Nat):Int)))
 ((gx x.1 x.2.2).bind fun e4 =>
  (gx x.2.1 x.2.2).bind fun e5 =>
  (zjk e4.1 e4.2.1 e4.2.2.1 e4.2.2.2.1 e4.2.2.2.2.1 e4.2.2.2.2.2.1 e4.2.2.2.2.2.2.1 e4.2.2.2.2.2.2.2.1 e4.2.2.2.2.2.2.2.2.1 e4.2.2.2.2.2.2.2.2.2 e5.1 e5.2.1 e5.2.2.1 e5.2.2.2.1 e5.2.2.2.2.1 e5.2.2.2.2.2.1 e5.2.2.2.2.2.2.1 e5.2.2.2.2.2.2.2.1 e5.2.2.2.2.2.2.2.2.1 e5.2.2.2.2.2.2.2.2.2).bind fun r6 =>
  cond (!r6)
  (some (Sum.inr false))
  (rec (x.1,x.2.1,(IntKind.wrap .i64 (x.2.2+1)))))
 (some (Sum.inl ()))
def zhZ (a0:jT) (a1:jT):Option Bool :=
 cond (((List.length a0:Nat):Int) != ((List.length a1:Nat):Int))
 (some false)
 (((lp zfF zd) (a0,a1,0)).bind fun r10 =>
  yd r10
  (fun z11=>some true)
  (fun z12=>some z12))
end Go.Abs.Q
namespace Go.Abs.Q
open Go Go.Abs
def zG (s1:jR) (s6:Int) (s8:Int):List jI→Nat→(List (jI×Int×jI×Int))→Option (List (jI×Int×jI×Int))
 | [],i,s4=>some s4
 | e::es,i,s4 =>
  (gx s1 (i:Int)).bind fun e8 =>
  cond (yQ (List.length s4+List.length ([(e,s6,e8,s8)]:List (jI×Int×jI×Int))) 64)
  (zG s1 s6 s8 es (i+1) (s4++([(e,s6,e8,s8)]:List (jI×Int×jI×Int))))
  (none)
theorem zex (s0:jR) (s1:jR) (s5:jI) (s6:Int) (s7:jI) (s8:Int) (s4:(List (jI×Int×jI×Int))) (hl:List.length s0≤maxLen):lp qj zd (s0,s1,((List.length s0:Nat):Int),0,s4,s5,s6,s7,s8)=zG s1 s6 s8 s0 0 s4:=zaJ qj (fun i s4=>(s0,s1,((List.length s0:Nat):Int),i,s4,s5,s6,s7,s8)) (fun es i s4=>zG s1 s6 s8 es i s4) hl (fun r i s4 h=>by unfold qj zG; simp only[h,cond_false]) (fun r i s4 e es h g w k=>by unfold qj zG; simp only[h,cond_true,g,Option.bind_some,w,k]) s4
def zh (s0:Int) (s5:(List ((Option jI)×Int))) (s6:jI) (s7:Int):List Int→(List Bool)→(List (jI×Int))→Option (((List Bool)×(List (jI×Int)))⊕Bool)
 | [],s8,s9=>some (Sum.inl (s8,s9))
 | e::es,s8,s9 =>
  cond (decide (e≥0))
  (zh s0 s5 s6 s7 es s8 s9)
  ((yy s6 s7 e).bind fun r15 =>
   cond (r15==s0)
   (some (Sum.inr true))
   ((inR r15 48).bind fun k16 =>
    (s8[k16]?).bind fun x17 =>
    cond (!x17)
    ((inR r15 48).bind fun k18 =>
     (s5[k18]?).bind fun x19 =>
     cond (!(Option.isNone x19.1))
     ((inR r15 48).bind fun k20 =>
      (s8[k20]?).bind fun x21 =>
      (inR r15 48).bind fun k22 =>
      (s5[k22]?).bind fun x23 =>
      cond (yQ (List.length s9+List.length ([((Option.getD x23.1 []),x23.2)]:List (jI×Int))) 32)
      (zh s0 s5 s6 s7 es (List.set s8 k20 true) (s9++([((Option.getD x23.1 []),x23.2)]:List (jI×Int))))
      (none))
     (zh s0 s5 s6 s7 es s8 s9))
    (zh s0 s5 s6 s7 es s8 s9)))
theorem ze1 (s0:Int) (s1:jI) (s4:jS) (s5:(List ((Option jI)×Int))) (s6:jI) (s7:Int) (s8:(List Bool)) (s9:(List (jI×Int))) (hl:List.length s1≤maxLen):lp qv zd (s0,s1,((List.length s1:Nat):Int),0,s4,s5,s6,s7,s8,s9)=zh s0 s5 s6 s7 s1 s8 s9:=zDB qv (fun i s8 s9=>(s0,s1,((List.length s1:Nat):Int),i,s4,s5,s6,s7,s8,s9)) (fun es i s8 s9=>zh s0 s5 s6 s7 es s8 s9) hl (fun r i s8 s9 h=>by unfold qv zh; simp only[h,cond_false]) (fun r i s8 s9 e es h g w k=>by unfold qv zh; simp only[h,cond_true,g,Option.bind_some,w,k]) s8 s9
def yh:List jR→jR→Option jR
 | [],s3=>some s3
 | e::es,s3 =>
  cond (yQ (List.length s3+List.length e) 24)
  (yh es (s3++e))
  (none)
theorem zgk (s0:(List jR)) (s3:jR) (hl:List.length s0≤maxLen):lp zat zd (s0,((List.length s0:Nat):Int),0,s3)=yh s0 s3:=zaJ zat (fun i s3=>(s0,((List.length s0:Nat):Int),i,s3)) (fun es i s3=>yh es s3) hl (fun r i s3 h=>by unfold zat yh; simp only[h,cond_false]) (fun r i s3 e es h g w k=>by unfold zat yh; simp only[h,cond_true,g,Option.bind_some,w,k]) s3
def yi:List jR→Int→Option Int
 | [],s1=>some s1
 | e::es,s1 =>
  cond (decide ((IntKind.wrap .i64 (s1+((List.length e:Nat):Int)))<0))
  (none)
  (yi es (IntKind.wrap .i64 (s1+((List.length e:Nat):Int))))
theorem zgi (s0:(List jR)) (s2:(List jR)) (s1:Int) (hl:List.length s2≤maxLen):lp zas zd (s0,s1,s2,((List.length s2:Nat):Int),0)=yi s2 s1:=zaJ zas (fun i s1=>(s0,s1,s2,((List.length s2:Nat):Int),i)) (fun es i s1=>yi es s1) hl (fun r i s1 h=>by unfold zas yi; simp only[h,cond_false]) (fun r i s1 e es h g w k=>by unfold zas yi; simp only[h,cond_true,g,Option.bind_some,w,k]) s1
def zT:List jQ→jQ→Option jQ
 | [],s3=>some s3
 | e::es,s3 =>
  cond (yQ (List.length s3+List.length e) 32)
  (zT es (s3++e))
  (none)
theorem zfl (s0:(List jQ)) (s3:jQ) (hl:List.length s0≤maxLen):lp qQ zd (s0,((List.length s0:Nat):Int),0,s3)=zT s0 s3:=zaJ qQ (fun i s3=>(s0,((List.length s0:Nat):Int),i,s3)) (fun es i s3=>zT es s3) hl (fun r i s3 h=>by unfold qQ zT; simp only[h,cond_false]) (fun r i s3 e es h g w k=>by unfold qQ zT; simp only[h,cond_true,g,Option.bind_some,w,k]) s3
def zU:List jQ→Int→Option Int
 | [],s1=>some s1
 | e::es,s1 =>
  cond (decide ((IntKind.wrap .i64 (s1+((List.length e:Nat):Int)))<0))
  (none)
  (zU es (IntKind.wrap .i64 (s1+((List.length e:Nat):Int))))
theorem zfq (s0:(List jQ)) (s2:(List jQ)) (s1:Int) (hl:List.length s2≤maxLen):lp qT zd (s0,s1,s2,((List.length s2:Nat):Int),0)=zU s2 s1:=zaJ qT (fun i s1=>(s0,s1,s2,((List.length s2:Nat):Int),i)) (fun es i s1=>zU es s1) hl (fun r i s1 h=>by unfold qT zU; simp only[h,cond_false]) (fun r i s1 e es h g w k=>by unfold qT zU; simp only[h,cond_true,g,Option.bind_some,w,k]) s1
def ya (s0:Int) (s4:jR) (s6:jQ):List zc→Nat→jQ→Option (jR×jQ×jQ)
 | [],i,s5=>some (s4,s5,s6)
 | e::es,i,s5 =>
  cond ((i:Int) != s0)
  (cond (yQ (List.length s5+List.length ([(e.1,e.2)]:List zc)) 32)
   (ya s0 s4 s6 es (i+1) (s5++([(e.1,e.2)]:List zc)))
   (none))
  (ya s0 s4 s6 es (i+1) s5)
theorem zgI (s0:Int) (s1:jQ) (s4:jR) (s6:jQ) (s5:jQ) (hl:List.length s1≤maxLen):lp zaX zd (s0,s1,((List.length s1:Nat):Int),0,s4,s5,s6)=ya s0 s4 s6 s1 0 s5:=zaJ zaX (fun i s5=>(s0,s1,((List.length s1:Nat):Int),i,s4,s5,s6)) (fun es i s5=>ya s0 s4 s6 es i s5) hl (fun r i s5 h=>by unfold zaX ya; simp only[h,cond_false]) (fun r i s5 e es h g w k=>by unfold zaX ya; simp only[h,cond_true,g,Option.bind_some,w,k]) s5
def yb (s0:Int) (s8:jR) (s10:jQ):List zc→Nat→jQ→Option (jR×jQ×jQ)
 | [],i,s9=>some (s8,s9,s10)
 | e::es,i,s9 =>
  cond ((i:Int) != s0)
  (cond (yQ (List.length s9+List.length ([(e.1,e.2)]:List zc)) 32)
   (yb s0 s8 s10 es (i+1) (s9++([(e.1,e.2)]:List zc)))
   (none))
  (yb s0 s8 s10 es (i+1) s9)
theorem zgL (s0:Int) (s1:Int) (s2:jQ) (s5:jQ) (s6:jR) (s7:jQ) (s8:jR) (s10:jQ) (s9:jQ) (hl:List.length s2≤maxLen):lp za6 zd (s0,s1,s2,((List.length s2:Nat):Int),0,s5,s6,s7,s8,s9,s10)=yb s0 s8 s10 s2 0 s9:=zaJ za6 (fun i s9=>(s0,s1,s2,((List.length s2:Nat):Int),i,s5,s6,s7,s8,s9,s10)) (fun es i s9=>yb s0 s8 s10 es i s9) hl (fun r i s9 h=>by unfold za6 yb; simp only[h,cond_false]) (fun r i s9 e es h g w k=>by unfold za6 yb; simp only[h,cond_true,g,Option.bind_some,w,k]) s9
def zal (s0:Int):List (Int×jI)→Option (Unit⊕jI)
 | []=>some (Sum.inl ())
 | e::es =>
  cond (e.1==s0)
  (some (Sum.inr e.2))
  (zal s0 es)
theorem zh1 (s0:Int) (s1:(List (Int×jI))) (hl:List.length s1≤maxLen):lp zcy zd (s0,s1,((List.length s1:Nat):Int),0)=zal s0 s1:=zdC zcy (fun i=>(s0,s1,((List.length s1:Nat):Int),i)) (fun es i=>zal s0 es) hl (fun r i h=>by unfold zcy zal; simp only[h,cond_false]) (fun r i e es h g w k=>by unfold zcy zal; simp only[h,cond_true,g,Option.bind_some,w,k])
def qx (s0:(List (Int×jI))):List Int→jI→Option jI
 | [],s4=>some s4
 | e::es,s4 =>
  (z6 e).bind fun r11 =>
  (zhh s0 r11).bind fun r12 =>
  cond (decide (e≥0))
  (cond (yQ (List.length s4+List.length ([e]:List Int)) 8)
   (qx s0 es (s4++([e]:List Int)))
   (none))
  (cond (Option.isNone r12)
   (cond (yQ (List.length s4+List.length ([e]:List Int)) 8)
    (qx s0 es (s4++([e]:List Int)))
    (none))
   (cond (yQ (List.length s4+List.length (Option.getD r12 [])) 8)
    (qx s0 es (s4++(Option.getD r12 [])))
    (none)))
theorem zjt (s0:(List (Int×jI))) (s1:jI) (s4:jI) (hl:List.length s1≤maxLen):lp zet zd (s0,s1,((List.length s1:Nat):Int),0,s4)=qx s0 s1 s4:=zaJ zet (fun i s4=>(s0,s1,((List.length s1:Nat):Int),i,s4)) (fun es i s4=>qx s0 es s4) hl (fun r i s4 h=>by unfold zet qx; simp only[h,cond_false]) (fun r i s4 e es h g w k=>by unfold zet qx; simp only[h,cond_true,g,Option.bind_some,w,k]) s4
def yW (s3:(List (Int×jI))) (s4:jQ) (s5:jR):List zc→jQ→Option (jQ×jR×jQ)
 | [],s6=>some (s4,s5,s6)
 | e::es,s6 =>
  (q4 e.2 s3).bind fun r20 =>
  cond (yQ (List.length s6+List.length ([(e.1,r20)]:List zc)) 32)
  (yW s3 s4 s5 es (s6++([(e.1,r20)]:List zc)))
  (none)
theorem zgQ (s0:jQ) (s3:(List (Int×jI))) (s4:jQ) (s5:jR) (s6:jQ) (hl:List.length s0≤maxLen):lp zbA zd (s0,((List.length s0:Nat):Int),0,s3,s4,s5,s6)=yW s3 s4 s5 s0 s6:=zaJ zbA (fun i s6=>(s0,((List.length s0:Nat):Int),i,s3,s4,s5,s6)) (fun es i s6=>yW s3 s4 s5 es s6) hl (fun r i s6 h=>by unfold zbA yW; simp only[h,cond_false]) (fun r i s6 e es h g w k=>by unfold zbA yW; simp only[h,cond_true,g,Option.bind_some,w,k]) s6
def yK (s3:(List (Int×jI))) (s7:jQ):List jI→jR→Option (jQ×jR)
 | [],s8=>some (s7,s8)
 | e::es,s8 =>
  (q4 e s3).bind fun r13 =>
  cond (yQ (List.length s8+List.length ([r13]:List jI)) 24)
  (yK s3 s7 es (s8++([r13]:List jI)))
  (none)
theorem zg5 (s0:jR) (s3:(List (Int×jI))) (s4:jQ) (s5:jR) (s6:jQ) (s7:jQ) (s8:jR) (hl:List.length s0≤maxLen):lp zbx zd (s0,((List.length s0:Nat):Int),0,s3,s4,s5,s6,s7,s8)=yK s3 s7 s0 s8:=zaJ zbx (fun i s8=>(s0,((List.length s0:Nat):Int),i,s3,s4,s5,s6,s7,s8)) (fun es i s8=>yK s3 s7 es s8) hl (fun r i s8 h=>by unfold zbx yK; simp only[h,cond_false]) (fun r i s8 e es h g w k=>by unfold zbx yK; simp only[h,cond_true,g,Option.bind_some,w,k]) s8
def yR (s3:(List (Int×jI))):List zc→jQ→Option jQ
 | [],s7=>some s7
 | e::es,s7 =>
  (q4 e.2 s3).bind fun r6 =>
  cond (yQ (List.length s7+List.length ([(e.1,r6)]:List zc)) 32)
  (yR s3 es (s7++([(e.1,r6)]:List zc)))
  (none)
theorem zg9 (s0:jQ) (s3:(List (Int×jI))) (s4:jQ) (s5:jR) (s6:jQ) (s7:jQ) (hl:List.length s0≤maxLen):lp zbs zd (s0,((List.length s0:Nat):Int),0,s3,s4,s5,s6,s7)=yR s3 s0 s7:=zaJ zbs (fun i s7=>(s0,((List.length s0:Nat):Int),i,s3,s4,s5,s6,s7)) (fun es i s7=>yR s3 es s7) hl (fun r i s7 h=>by unfold zbs yR; simp only[h,cond_false]) (fun r i s7 e es h g w k=>by unfold zbs yR; simp only[h,cond_true,g,Option.bind_some,w,k]) s7
def zO (s3:jS):List zc→Nat→Option (Unit⊕Int)
 | [],i=>some (Sum.inl ())
 | e::es,i =>
  (zf9 e.1 e.2 s3).bind fun r4 =>
  cond r4
  (some (Sum.inr (i:Int)))
  (zO s3 es (i+1))
theorem zep (s0:jQ) (s3:jS) (hl:List.length s0≤maxLen):lp yV zd (s0,((List.length s0:Nat):Int),0,s3)=zO s3 s0 0:=zdC yV (fun i=>(s0,((List.length s0:Nat):Int),i,s3)) (fun es i=>zO s3 es i) hl (fun r i h=>by unfold yV zO; simp only[h,cond_false]) (fun r i e es h g w k=>by unfold yV zO; simp only[h,cond_true,g,Option.bind_some,w,k])
def yX:List Int→jI→Option jI
 | [],s3=>some s3
 | e::es,s3 =>
  cond (decide (e<0))
  ((z6 e).bind fun r8 =>
   (inR r8 24).bind fun k9 =>
   (s3[k9]?).bind fun x10 =>
   (inR r8 24).bind fun k11 =>
   (s3[k11]?).bind fun x12 =>
   yX es (List.set s3 k11 (IntKind.wrap .i64 (x10+1))))
  (yX es s3)
theorem zg1 (s0:jI) (s3:jI) (hl:List.length s0≤maxLen):lp zbC zd (s0,((List.length s0:Nat):Int),0,s3)=yX s0 s3:=zaJ zbC (fun i s3=>(s0,((List.length s0:Nat):Int),i,s3)) (fun es i s3=>yX es s3) hl (fun r i s3 h=>by unfold zbC yX; simp only[h,cond_false]) (fun r i s3 e es h g w k=>by unfold zbC yX; simp only[h,cond_true,g,Option.bind_some,w,k]) s3
def y8 (s0:jS):List Int→Int→Option Int
 | [],s1=>some s1
 | e::es,s1 =>
  cond (decide (e<0))
  (y8 s0 es (IntKind.wrap .i64 (s1+1)))
  ((gx s0 e).bind fun e4 =>
   y8 s0 es (IntKind.wrap .i64 (s1+e4.2.2.2)))
theorem ze5 (s0:jS) (s2:jI) (s1:Int) (hl:List.length s2≤maxLen):lp zdg zd (s0,s1,s2,((List.length s2:Nat):Int),0)=y8 s0 s2 s1:=zaJ zdg (fun i s1=>(s0,s1,s2,((List.length s2:Nat):Int),i)) (fun es i s1=>y8 s0 es s1) hl (fun r i s1 h=>by unfold zdg y8; simp only[h,cond_false]) (fun r i s1 e es h g w k=>by unfold zdg y8; simp only[h,cond_true,g,Option.bind_some,w,k]) s1
def yx (s0:jR):List jI→Nat→Option (Unit⊕(jI×jI))
 | [],i=>some (Sum.inl ())
 | e::es,i =>
  cond (decide ((i:Int)<((List.length s0:Nat):Int)))
  ((gx s0 (i:Int)).bind fun e8 =>
   (ym e e8).bind fun r9 =>
   cond (!r9)
   ((gx s0 (i:Int)).bind fun e10 =>
    some (Sum.inr (e,e10)))
   (yx s0 es (i+1)))
  (yx s0 es (i+1))
theorem zgH (s0:jR) (s1:jR) (hl:List.length s1≤maxLen):lp zaY zd (s0,s1,((List.length s1:Nat):Int),0)=yx s0 s1 0:=zdC zaY (fun i=>(s0,s1,((List.length s1:Nat):Int),i)) (fun es i=>yx s0 es i) hl (fun r i h=>by unfold zaY yx; simp only[h,cond_false]) (fun r i e es h g w k=>by unfold zaY yx; simp only[h,cond_true,g,Option.bind_some,w,k])
def zP (s3:jS) (s4:Bool) (s5:jI):List zc→Nat→Option (Unit⊕Int)
 | [],i=>some (Sum.inl ())
 | e::es,i =>
  (zgq e.1 e.2 s3 s4 s5).bind fun r4 =>
  cond r4
  (some (Sum.inr (i:Int)))
  (zP s3 s4 s5 es (i+1))
theorem zel (s0:jQ) (s3:jS) (s4:Bool) (s5:jI) (hl:List.length s0≤maxLen):lp yU zd (s0,((List.length s0:Nat):Int),0,s3,s4,s5)=zP s3 s4 s5 s0 0:=zdC yU (fun i=>(s0,((List.length s0:Nat):Int),i,s3,s4,s5)) (fun es i=>zP s3 s4 s5 es i) hl (fun r i h=>by unfold yU zP; simp only[h,cond_false]) (fun r i e es h g w k=>by unfold yU zP; simp only[h,cond_true,g,Option.bind_some,w,k])
def qw (s0:jQ) (s4:jS):List zc→Nat→jI→Option jI
 | [],i,s5=>some s5
 | e::es,i,s5 =>
  (qM s0 s4 e.1 e.2).bind fun r8 =>
  cond (!r8)
  (cond (yQ (List.length s5+List.length ([(i:Int)]:List Int)) 8)
   (qw s0 s4 es (i+1) (s5++([(i:Int)]:List Int)))
   (none))
  (qw s0 s4 es (i+1) s5)
theorem zjn (s0:jQ) (s1:jQ) (s4:jS) (s5:jI) (hl:List.length s1≤maxLen):lp zdi zd (s0,s1,((List.length s1:Nat):Int),0,s4,s5)=qw s0 s4 s1 0 s5:=zaJ zdi (fun i s5=>(s0,s1,((List.length s1:Nat):Int),i,s4,s5)) (fun es i s5=>qw s0 s4 es i s5) hl (fun r i s5 h=>by unfold zdi qw; simp only[h,cond_false]) (fun r i s5 e es h g w k=>by unfold zdi qw; simp only[h,cond_true,g,Option.bind_some,w,k]) s5
def zL (s3:Bool) (s4:jI):List zc→Nat→Option (Unit⊕Int)
 | [],i=>some (Sum.inl ())
 | e::es,i =>
  (zbW e.1 e.2 s3 s4).bind fun r4 =>
  cond r4
  (some (Sum.inr (i:Int)))
  (zL s3 s4 es (i+1))
theorem zeb (s0:jQ) (s3:Bool) (s4:jI) (hl:List.length s0≤maxLen):lp yO zd (s0,((List.length s0:Nat):Int),0,s3,s4)=zL s3 s4 s0 0:=zdC yO (fun i=>(s0,((List.length s0:Nat):Int),i,s3,s4)) (fun es i=>zL s3 s4 es i) hl (fun r i h=>by unfold yO zL; simp only[h,cond_false]) (fun r i e es h g w k=>by unfold yO zL; simp only[h,cond_true,g,Option.bind_some,w,k])
def yt (s0:jS) (s4:jQ):List zc→Option (Unit⊕(Bool×Int))
 | []=>some (Sum.inl ())
 | e::es =>
  (za4 s0 e.1 e.2).bind fun r6 =>
  cond r6
  (some (Sum.inr (true,0)))
  ((qA s4 e.1 e.2).bind fun r7 =>
   cond r7
   (some (Sum.inr (true,0)))
   (yt s0 s4 es))
theorem zfQ (s0:jS) (s1:jQ) (s4:jQ) (s5:jR) (s6:jQ) (hl:List.length s1≤maxLen):lp q8 zd (s0,s1,((List.length s1:Nat):Int),0,s4,s5,s6)=yt s0 s4 s1:=zdC q8 (fun i=>(s0,s1,((List.length s1:Nat):Int),i,s4,s5,s6)) (fun es i=>yt s0 s4 es) hl (fun r i h=>by unfold q8 yt; simp only[h,cond_false]) (fun r i e es h g w k=>by unfold q8 yt; simp only[h,cond_true,g,Option.bind_some,w,k])
end Go.Abs.Q
namespace Go.Abs.Q
open Go Go.Abs
section
theorem zdZ {xs:List Int} (h:xs.length≤1099511627776):zbZ xs=some xs:=by
 unfold zbZ zhq
 simp only[Option.isNone_some,cond_false,Option.getD_some,List.length_nil,Nat.zero_add,List.nil_append]
 rw[zn (show xs.length*8≤140737488351232 by omega)]
 rfl
theorem zry (ys:List Int):(es:List Int)→(i:Nat)→es.length=(ys.drop i).length→qd ys es i=some (cond (decide (es=ys.drop i)) (.inl ()) (.inr false))
 | [],i,h=>by
  have:ys.drop i=[]:=List.eq_nil_of_length_eq_zero h.symm
  rw[this]; rfl
 | e::es,i,h=>by
  cases hd:ys.drop i with
  | nil=>rw[hd] at h; simp at h
  | cons y r =>
   have hn:=ze hd
   have:=zry ys es (i+1) (by rw[hn]; rw[hd] at h; simpa using h)
   unfold qd
   simp only[y5,zk hd,Option.bind_some,this,hn]
   by_cases he:e=y
   ·subst he
    simp
   ·have h1:(e != y)=true:=by simpa using he
    simp [h1,he]
theorem za8 {xs ys:List Int} (h:xs.length≤maxLen):ym xs ys=some (decide (xs=ys)):=by
 unfold ym
 by_cases hl:xs.length=ys.length
 ·rw[show (((List.length xs:Nat):Int) != ((List.length ys:Nat):Int))=false from by simp [hl],cond_false,zgK _ _ h,zry ys xs 0 hl,List.drop_zero]
  cases decide (xs=ys)<;>rfl
 ·rw[show (((List.length xs:Nat):Int) != ((List.length ys:Nat):Int))=true from by simp; omega,cond_true,decide_eq_false (by intro h; subst h; exact hl rfl)]
theorem zpK {a b:Bool} {xs ys:List Int} (h:xs.length≤maxLen):zkB a xs b ys=some (decide ((a,xs)=(b,ys))):=by
 unfold zkB
 cases hab:(a==b) with
 | false =>
  have:a≠b:=by simpa using hab
  simp [this]
 | true =>
  have:a=b:=by simpa using hab
  subst this
  rw[cond_true,za8 h]
  simp
theorem zrB (l:zc) (hl:l.2.length≤maxLen):(es:List zc)→(i:Nat)→∃ r,zZ l.1 l.2 es i=some r∧(l∈es→∃ j:Nat,r = .inr (j:Int))∧(l∉es→r = .inl ())
 | [],i=>⟨.inl (),rfl,(fun h=>by cases h),fun _=>rfl⟩
 | e::es,i=>by
  unfold zZ zdx
  rw[zpK hl]
  simp only[Option.bind_some]
  by_cases he:(l.1,l.2)=(e.1,e.2)
  ·rw[decide_eq_true he,cond_true]
   have he':l=e:=he
   exact ⟨_,rfl,fun _=>⟨i,rfl⟩,fun h=>absurd (List.mem_cons.2 (.inl he')) h⟩
  ·rw[decide_eq_false he,cond_false]
   obtain⟨r,h1,h2,h3⟩:=zrB l hl es (i+1)
   have he':l≠e:=he
   refine ⟨r,h1,fun h=>h2 ?_,fun h=>h3 fun h'=>h (List.mem_cons_of_mem _ h')⟩
   rcases List.mem_cons.1 h with h | h
   ·exact absurd h he'
   ·exact h
theorem zgJ {l:zc} {es:List zc} (hl:l.2.length≤maxLen) (h:es.length≤maxLen):zai es l.1 l.2=some (decide (l∈es)):=by
 unfold zai zd2
 rw[ze2 _ _ _ h]
 obtain⟨r,h1,h2,h3⟩:=zrB l hl es 0
 rw[h1]
 by_cases hm:l∈es
 ·obtain⟨j,rfl⟩:=h2 hm
  simp [yd,hm]
 ·rw[h3 hm]
  simp [yd,hm]
def zK {α:Type} [DecidableEq α]:List α→List α→List α
 | [],out=>out
 | e::es,out=>cond (decide (e∈out)) (zK es out) (zK es (out++[e]))
theorem zaH {α:Type} [DecidableEq α]:(es out:List α)→(zK es out).length≤out.length+es.length
 | [],out=>by simp [zK]
 | e::es,out=>by
  unfold zK
  cases decide (e∈out) with
  | true=>have:=zaH es out; simp only[cond_true,List.length_cons]; omega
  | false=>have:=zaH es (out++[e]); simp only[cond_false,List.length_cons,List.length_append,List.length_nil] at this ⊢; omega
theorem qJ {α:Type} [DecidableEq α] {x:α}:(es out:List α)→(x∈zK es out↔x∈out∨x∈es)
 | [],out=>by simp [zK]
 | e::es,out=>by
  unfold zK
  by_cases h:e∈out
  ·rw[decide_eq_true h,cond_true,qJ es out,List.mem_cons]
   constructor
   ·rintro (h1 | h1)
    ·exact .inl h1
    ·exact .inr (.inr h1)
   ·rintro (h1 | rfl | h1)
    ·exact .inl h1
    ·exact .inl h
    ·exact .inr h1
  ·rw[decide_eq_false h,cond_false,qJ es (out++[e])]
   simp only[List.mem_append,List.mem_cons,List.not_mem_nil,or_false]
   constructor
   ·rintro ((h1 | h1) | h1)
    ·exact .inl h1
    ·exact .inr (.inl h1)
    ·exact .inr (.inr h1)
   ·rintro (h1 | h1 | h1)
    ·exact .inl (.inl h1)
    ·exact .inl (.inr h1)
    ·exact .inr h1
theorem zpO:(es out:List zc)→(∀ e∈es,e.2.length≤maxLen)→out.length+es.length≤1000000→yN es out=some (zK es out)
 | [],out,_,_=>rfl
 | e::es,out,h,hl=>by
  have h1:=h e (List.mem_cons_self ..)
  have hl':out.length+(es.length+1)≤1000000:=hl
  unfold yN zK
  rw[zgJ h1 (by unfold maxLen; omega),Option.bind_some]
  by_cases hm:e∈out
  ·simp only[hm,decide_true,Bool.not_true,cond_false,cond_true]
   exact zpO es out (fun x hx=>h x (List.mem_cons_of_mem _ hx)) (by omega)
  ·simp only[hm,decide_false,Bool.not_false,cond_false,cond_true]
   rw[zn (show (out.length+([(e.1,e.2)]:List zc).length)*32≤140737488351232 by simp; omega),cond_true]
   exact zpO es (out++[e]) (fun x hx=>h x (List.mem_cons_of_mem _ hx)) (by simp; omega)
theorem zhW {es:List zc} (h:∀ e∈es,e.2.length≤maxLen) (hl:es.length≤1000000):zeL es=some (zK es []):=by
 unfold zeL
 rw[zgX _ _ (by unfold maxLen; omega),zpO es [] h (by simpa using hl)]
 rfl
theorem zrk (l:List Int) (hl:l.length≤maxLen):(es:List jI)→(i:Nat)→∃ r,zM l es i=some r∧(l∈es→∃ j:Nat,r = .inr (j:Int))∧(l∉es→r = .inl ())
 | [],i=>⟨.inl (),rfl,(fun h=>by cases h),fun _=>rfl⟩
 | e::es,i=>by
  unfold zM zdw
  rw[za8 hl]
  simp only[Option.bind_some]
  by_cases he:l=e
  ·rw[decide_eq_true he,cond_true]
   exact ⟨_,rfl,fun _=>⟨i,rfl⟩,fun h=>absurd (List.mem_cons.2 (.inl he)) h⟩
  ·rw[decide_eq_false he,cond_false]
   obtain⟨r,h1,h2,h3⟩:=zrk l hl es (i+1)
   refine ⟨r,h1,fun h=>h2 ?_,fun h=>h3 fun h'=>h (List.mem_cons_of_mem _ h')⟩
   rcases List.mem_cons.1 h with h | h
   ·exact absurd h he
   ·exact h
theorem zfy {l:List Int} {es:List jI} (hl:l.length≤maxLen) (h:es.length≤maxLen):qL es l=some (decide (l∈es)):=by
 unfold qL zcS
 rw[zeg _ _ h]
 obtain⟨r,h1,h2,h3⟩:=zrk l hl es 0
 rw[h1]
 by_cases hm:l∈es
 ·obtain⟨j,rfl⟩:=h2 hm
  simp [yd,hm]
 ·rw[h3 hm]
  simp [yd,hm]
theorem zqw (s3 s4:List zc):(es out:List jI)→(∀ e∈es,e.length≤maxLen)→out.length+es.length≤1000000→yS s3 s4 es out=some (s3,s4,zK es out)
 | [],out,_,_=>rfl
 | e::es,out,h,hl=>by
  have h1:=h e (List.mem_cons_self ..)
  have hl':out.length+(es.length+1)≤1000000:=hl
  unfold yS zK
  rw[zfy h1 (by unfold maxLen; omega),Option.bind_some]
  by_cases hm:e∈out
  ·simp only[hm,decide_true,Bool.not_true,cond_false,cond_true]
   exact zqw s3 s4 es out (fun x hx=>h x (List.mem_cons_of_mem _ hx)) (by omega)
  ·simp only[hm,decide_false,Bool.not_false,cond_false,cond_true]
   rw[zn (show (out.length+([e]:List jI).length)*24≤140737488351232 by simp; omega),cond_true]
   exact zqw s3 s4 es (out++[e]) (fun x hx=>h x (List.mem_cons_of_mem _ hx)) (by simp; omega)
def zkL (s:List Int×Int) (c:Int):Int×(List Int×Int) :=
 cond (decide (c≥0)) (c,s) (cond (s.1.getD (-1 - c).toNat 0==0) (-(s.2+1),(s.1.set (-1 - c).toNat (s.2+1),s.2+1)) (-(s.1.getD (-1 - c).toNat 0),s))
def zd4:List Int×Int→List Int→List Int×(List Int×Int)
 | s,[]=>([],s)
 | s,c::cs=>((zkL s c).1::(zd4 (zkL s c).2 cs).1,(zd4 (zkL s c).2 cs).2)
theorem znw:(s:List Int×Int)→(cs:List Int)→(zd4 s cs).1.length=cs.length
 | _,[]=>rfl
 | s,c::cs=>by simp [zd4,znw (zkL s c).2 cs]
structure RenOk (s:List Int×Int) (b:Int):Prop where
 len:s.1.length=24
 lo:0≤s.2
 hi:s.2≤b
 all:∀ x∈s.1,0≤x∧x≤s.2
theorem RenOk.more {s:List Int×Int} {b b':Int} (h:RenOk s b) (hb:b≤b'):RenOk s b':=⟨h.len,h.lo,Int.le_trans h.hi hb,h.all⟩
theorem RenOk.get {s:List Int×Int} {b:Int} (h:RenOk s b) (v:Nat):0≤s.1.getD v 0∧s.1.getD v 0≤s.2:=by
 have h0:=h.lo
 rw[List.getD_eq_getElem?_getD]
 cases hv:s.1[v]? with
 | none=>exact ⟨Int.le_refl _,h0⟩
 | some x=>exact h.all x (List.mem_of_getElem? hv)
theorem zuZ {s:List Int×Int} {b:Int} (h:RenOk s b) (c:Int):RenOk (zkL s c).2 (b+1):=by
 unfold zkL
 cases decide (c≥0) with
 | true=>exact h.more (by omega)
 | false =>
  rw[cond_false]
  cases (s.1.getD (-1 - c).toNat 0==0) with
  | false=>exact h.more (by omega)
  | true =>
   refine ⟨by simpa using h.len,by have:=h.lo; simp; omega,by have:=h.hi; simp; omega,fun x hx => ?_⟩
   simp only[cond_true] at hx ⊢
   rcases List.mem_or_eq_of_mem_set hx with hx | rfl
   ·have:=h.all x hx; omega
   ·have:=h.lo; omega
theorem zh8:{s:List Int×Int}→{b:Int}→(cs:List Int)→RenOk s b→RenOk (zd4 s cs).2 (b+cs.length)
 | s,b,[],h=>by simpa[zd4] using h
 | s,b,c::cs,h=>by
  have:=zh8 cs (zuZ h c)
  simp only[zd4,List.length_cons]
  exact this.more (by omega)
theorem zvQ {α:Type} (done es:List α) (e x:α):(done++e::es).set done.length x=done++x::es:=by
 rw[List.set_append_right _ _ (Nat.le_refl _),Nat.sub_self]
 rfl
theorem znt {α:Type} (done es:List α) (e:α):(done++e::es)[done.length]? = some e:=by
 rw[List.getElem?_append_right (Nat.le_refl _),Nat.sub_self]
 rfl
theorem zod:(es done:List Int)→(s:List Int×Int)→(k:Nat)→es.length<k→done.length+es.length≤1000000→RenOk s 1000000→s.2+es.length≤1000000→(∀ c∈es,-24≤c) →
  lp yJ k (((done.length+es.length:Nat):Int),(done.length:Int),s.1,s.2,done++es)=some ((zd4 s es).2.1,(zd4 s es).2.2,done++(zd4 s es).1)
 | [],done,s,k,hk,hl,hs,hb,hc=>by
  obtain⟨k,rfl⟩:∃ k',k=k'+1:=⟨k - 1,by omega⟩
  rw[zm]
  generalize lp yJ k=rec
  unfold yJ
  simp [zd4]
 | e::es,done,s,k,hk,hl,hs,hb,hc=>by
  obtain⟨k,rfl⟩:∃ k',k=k'+1:=⟨k - 1,by omega⟩
  rw[zm]
  have he:=hc e (List.mem_cons_self ..)
  have hl':done.length+(es.length+1)≤1000000:=hl
  have hb':s.2+((es.length+1:Nat):Int)≤1000000:=hb
  have key:=fun (e':Int) (s':List Int×Int) (hs':RenOk s' 1000000) (hb2:s'.2+es.length≤1000000)=>zod es (done++[e']) s' k (Nat.lt_of_succ_lt_succ hk) (by simp; omega) hs' hb2 (fun c hx=>hc c (List.mem_cons_of_mem _ hx))
  generalize lp yJ k=rec at key ⊢
  unfold yJ
  have e1:decide (((done.length:Nat):Int)<((done.length+(e::es).length:Nat):Int))=true:=by rw[decide_eq_true_eq,List.length_cons]; omega
  have e2:inR ((done.length:Nat):Int) (List.length (done++e::es))=some done.length:=yY (by simp)
  have e3:IntKind.wrap .i64 (((done.length:Nat):Int)+1)=((done.length+1:Nat):Int):=by rw[zp]<;>omega
  have key2:=fun (e':Int) (s':List Int×Int) (hs':RenOk s' 1000000) (hb2:s'.2+es.length≤1000000)=>by
   have:=key e' s' hs' hb2
   rw[List.append_assoc,List.length_append,List.length_singleton,Nat.add_assoc,Nat.add_comm 1 es.length] at this
   exact this
  simp only[e1,cond_true,e2,Option.bind_some,znt,e3]
  by_cases h0:e≥0
  ·have hr:zkL s e=(e,s):=by unfold zkL; rw[decide_eq_true h0]; rfl
   rw[decide_eq_true h0,cond_true]
   have:=key2 e s hs (by omega)
   simp only[zd4,hr]
   exact this.trans (by simp)
  ·rw[decide_eq_false h0,cond_false]
   have h24:(-1 - e).toNat<24:=by omega
   have e4:inR (-1 - e) 24=some (-1 - e).toNat:=by
    have:=yY h24
    rwa [Int.toNat_of_nonneg (by omega)] at this
   have hget:∀ xs:List Int,xs.length=24→xs[(-1 - e).toNat]? = some (xs.getD (-1 - e).toNat 0):=fun xs hx=>by
    rw[List.getD_eq_getElem?_getD,List.getElem?_eq_getElem (by omega)]; rfl
   have hg:=hs.get (-1 - e).toNat
   have hs1:=hs.hi
   have hs0:=hs.lo
   simp only[zaQ (x:=e) (by omega) (by omega),Option.bind_some,e4,hget s.1 hs.len]
   by_cases hz:s.1.getD (-1 - e).toNat 0=0
   ·have hr:zkL s e=(-(s.2+1),(s.1.set (-1 - e).toNat (s.2+1),s.2+1)):=by unfold zkL; rw[decide_eq_false h0,hz]; rfl
    have w1:IntKind.wrap .i64 (s.2+1)=s.2+1:=by rw[zp]<;>omega
    have hset:(List.set s.1 (-1 - e).toNat (s.2+1)).getD (-1 - e).toNat 0=s.2+1:=by
     rw[List.getD_eq_getElem?_getD,List.getElem?_set_self (by rw[hs.len]; exact h24)]; rfl
    have hn:zAt .i64 (s.2+1) = -(s.2+1):=by unfold zAt; rw[zp]<;>omega
    rw[hz]
    simp only[show (((0:Int)==0))=true from rfl,cond_true,w1,hget (List.set s.1 (-1 - e).toNat (s.2+1)) (by simpa using hs.len),Option.bind_some,hset,hn,zvQ]
    have hok:=zuZ (b:=s.2) ⟨hs.len,hs.lo,Int.le_refl _,hs.all⟩ e
    rw[hr] at hok
    have:=key2 (-(s.2+1)) (s.1.set (-1 - e).toNat (s.2+1),s.2+1) (hok.more (by omega)) (by simp only; omega)
    simp only[zd4,hr]
    exact this.trans (by simp)
   ·have hr:zkL s e=(-(s.1.getD (-1 - e).toNat 0),s):=by
     unfold zkL
     rw[decide_eq_false h0,show (s.1.getD (-1 - e).toNat 0==0)=false from by simpa using hz]; rfl
    have hn:zAt .i64 (s.1.getD (-1 - e).toNat 0) = -(s.1.getD (-1 - e).toNat 0):=by unfold zAt; rw[zp]<;>omega
    rw[show (s.1.getD (-1 - e).toNat 0==0)=false from by simpa using hz,cond_false]
    simp only[hn,zvQ]
    have:=key2 (-(s.1.getD (-1 - e).toNat 0)) s hs (by omega)
    simp only[zd4,hr]
    exact this.trans (by simp)
theorem zcn {r:List Int} {s:List Int×Int} (hl:r.length≤1000) (hs:RenOk s 900000) (hc:∀ c∈r,-24≤c):yE r s.1 s.2=some ((zd4 s r).1,(zd4 s r).2.1,(zd4 s r).2.2):=by
 unfold yE
 rw[zdZ (by omega),Option.bind_some]
 have h1:=hs.hi
 have:=zod r [] s zd (by unfold zd; omega) (by simp; omega) (hs.more (by omega)) (by omega) hc
 simp only[List.length_nil,Nat.zero_add,List.nil_append] at this
 rw[show ((0:Nat):Int)=0 from rfl] at this
 rw[this,Option.bind_some]
 have hlen:=(zh8 r hs).len
 simp only[hs.len,hlen]
 rfl
def zaN:List Int×Int→List zc→List zc×(List Int×Int)
 | s,[]=>([],s)
 | s,l::ls=>((l.1,(zd4 s l.2).1)::(zaN (zd4 s l.2).2 ls).1,(zaN (zd4 s l.2).2 ls).2)
def zcA:List Int×Int→List jI→List jI×(List Int×Int)
 | s,[]=>([],s)
 | s,l::ls=>((zd4 s l).1::(zcA (zd4 s l).2 ls).1,(zcA (zd4 s l).2 ls).2)
def zdH (r:List Int):Prop:=r.length≤1000∧∀ c∈r,-24≤c
theorem znA:{s:List Int×Int}→{b:Int}→(ls:List zc)→(∀ l∈ls,zdH l.2)→RenOk s b→RenOk (zaN s ls).2 (b+1000*ls.length)
 | s,b,[],_,h=>by simpa[zaN] using h
 | s,b,l::ls,hl,h=>by
  have h1:=hl l (List.mem_cons_self ..)
  have:=znA ls (fun x hx=>hl x (List.mem_cons_of_mem _ hx)) (zh8 l.2 h)
  have h2:=h1.1
  simp only[zaN,List.length_cons]
  exact this.more (by omega)
theorem zq1:{s:List Int×Int}→{b:Int}→(ls:List jI)→(∀ l∈ls,zdH l)→RenOk s b→RenOk (zcA s ls).2 (b+1000*ls.length)
 | s,b,[],_,h=>by simpa[zcA] using h
 | s,b,l::ls,hl,h=>by
  have h1:=hl l (List.mem_cons_self ..)
  have:=zq1 ls (fun x hx=>hl x (List.mem_cons_of_mem _ hx)) (zh8 l h)
  have h2:=h1.1
  simp only[zcA,List.length_cons]
  exact this.more (by omega)
theorem zm1:(es:List zc)→(s:List Int×Int)→(out:List zc)→(b:Int)→RenOk s b→b+1000*es.length≤900000→(∀ l∈es,zdH l.2)→out.length+es.length≤1000000 →
  ye es s.1 s.2 out=some ((zaN s es).2.1,(zaN s es).2.2,out++(zaN s es).1)
 | [],s,out,b,_,_,_,_=>by simp [ye,zaN]
 | e::es,s,out,b,hs,hb,h,hl=>by
  have he:=h e (List.mem_cons_self ..)
  have h1:=he.1
  rw[List.length_cons] at hb hl
  unfold ye
  rw[zcn he.1 (hs.more (by omega)) he.2,Option.bind_some]
  rw[zn (show (out.length+([(e.1,(zd4 s e.2).1)]:List zc).length)*32≤140737488351232 by simp; omega),cond_true]
  have:=zm1 es (zd4 s e.2).2 (out++[(e.1,(zd4 s e.2).1)]) _ (zh8 e.2 hs) (by omega) (fun x hx=>h x (List.mem_cons_of_mem _ hx)) (by simp; omega)
  exact this.trans (by simp [zaN])
theorem zmG (s8:List zc):(es:List jI)→(s:List Int×Int)→(out:List jI)→(b:Int)→RenOk s b→b+1000*es.length≤900000→(∀ l∈es,zdH l)→out.length+es.length≤1000000 →
  yg s8 es s.1 s.2 out=some ((zcA s es).2.1,(zcA s es).2.2,s8,out++(zcA s es).1)
 | [],s,out,b,_,_,_,_=>by simp [yg,zcA]
 | e::es,s,out,b,hs,hb,h,hl=>by
  have he:=h e (List.mem_cons_self ..)
  have h1:=he.1
  rw[List.length_cons] at hb hl
  unfold yg
  rw[zcn he.1 (hs.more (by omega)) he.2,Option.bind_some]
  rw[zn (show (out.length+([(zd4 s e).1]:List jI).length)*24≤140737488351232 by simp; omega),cond_true]
  have:=zmG s8 es (zd4 s e).2 (out++[(zd4 s e).1]) _ (zh8 e hs) (by omega) (fun x hx=>h x (List.mem_cons_of_mem _ hx)) (by simp; omega)
  exact this.trans (by simp [zcA])
theorem zmV (s5:List zc) (s6:List jI):(es:List zc)→(s:List Int×Int)→(out:List zc)→(b:Int)→RenOk s b→b+1000*es.length≤900000→(∀ l∈es,zdH l.2)→out.length+es.length≤1000000 →
  yl s5 s6 es s.1 s.2 out=some ((zaN s es).2.1,(zaN s es).2.2,s5,s6,out++(zaN s es).1)
 | [],s,out,b,_,_,_,_=>by simp [yl,zaN]
 | e::es,s,out,b,hs,hb,h,hl=>by
  have he:=h e (List.mem_cons_self ..)
  have h1:=he.1
  rw[List.length_cons] at hb hl
  unfold yl
  rw[zcn he.1 (hs.more (by omega)) he.2,Option.bind_some]
  rw[zn (show (out.length+([(e.1,(zd4 s e.2).1)]:List zc).length)*32≤140737488351232 by simp; omega),cond_true]
  have:=zmV s5 s6 es (zd4 s e.2).2 (out++[(e.1,(zd4 s e.2).1)]) _ (zh8 e.2 hs) (by omega) (fun x hx=>h x (List.mem_cons_of_mem _ hx)) (by simp; omega)
  exact this.trans (by simp [zaN])
def zCQ (L:List zc) (T:List jI) (C:List zc):List zc×List jI×List zc :=
 ((zaN (List.replicate 24 0,0) L).1,(zcA (zaN (List.replicate 24 0,0) L).2 T).1,(zaN (zcA (zaN (List.replicate 24 0,0) L).2 T).2 C).1)
theorem zvu:RenOk (List.replicate 24 (0:Int),0) 0:=⟨rfl,Int.le_refl _,Int.le_refl _,fun x hx=>by have:=List.eq_of_mem_replicate hx; omega⟩
def zeT (L:List zc) (T:List jI) (C:List zc):List zc×List jI×List zc:=zCQ (zK L []) (zK T []) (zK C [])
theorem zmw {L:List zc} {T:List jI} {C:List zc} (hL:L.length≤100) (hT:T.length≤100) (hC:C.length≤100) (sL:∀ l∈L,zdH l.2) (sT:∀ l∈T,zdH l) (sC:∀ l∈C,zdH l.2) :
  zfW L T C=some (zeT L T C):=by
 have big:∀ r:List Int,zdH r→r.length≤maxLen:=fun r h=>by have:=h.1; unfold maxLen; omega
 have lL:=zaH L []
 have lT:=zaH T []
 have lC:=zaH C []
 simp only[List.length_nil,Nat.zero_add] at lL lT lC
 have sL':∀ l∈zK L [],zdH l.2:=fun l h=>sL l (by simpa using (qJ L []).1 h)
 have sT':∀ l∈zK T [],zdH l:=fun l h=>sT l (by simpa using (qJ T []).1 h)
 have sC':∀ l∈zK C [],zdH l.2:=fun l h=>sC l (by simpa using (qJ C []).1 h)
 unfold zfW
 rw[zhW (fun e he=>big _ (sL e he)) (by omega),Option.bind_some,zhW (fun e he=>big _ (sC e he)) (by omega),Option.bind_some,
  zg7 _ _ _ _ (by unfold maxLen; omega),zqw _ _ T [] (fun e he=>big _ (sT e he)) (by simp; omega),Option.bind_some]
 simp only
 generalize hL2:zK L []=L2 at lL sL'
 generalize hT2:zK T []=T2 at lT sT'
 generalize hC2:zK C []=C2 at lC sC'
 have k0:=znA L2 sL' zvu
 have k1:=zq1 T2 sT' k0
 have k2:=znA C2 sC' k1
 have e0:=zm1 L2 (List.replicate 24 0,0) [] 0 zvu (by omega) sL' (by simp; omega)
 have e1:=zmG (zaN (List.replicate 24 0,0) L2).1 T2 _ [] _ k0 (by omega) sT' (by simp; omega)
 have e2:=zmV (zaN (List.replicate 24 0,0) L2).1 (zcA (zaN (List.replicate 24 0,0) L2).2 T2).1 C2 _ [] _ k1 (by omega) sC' (by simp; omega)
 simp only[List.nil_append] at e0 e1 e2
 unfold zgv
 rw[zf4 L2 L2 T2 C2 (List.replicate 24 0) 0 [] (by unfold maxLen; omega),e0,Option.bind_some]
 simp only
 rw[zf3 _ _ _ _ _ _ _ _ (by unfold maxLen; omega),e1,Option.bind_some]
 simp only
 rw[zfU _ _ _ _ _ _ (by unfold maxLen; omega),e2,Option.bind_some]
 have hlen:=k2.len
 simp only[List.length_replicate,hlen]
 unfold zeT zCQ
 rw[hL2,hT2,hC2]
 rfl
end
end Go.Abs.Q
namespace Go.Abs.Q
open Go Go.Abs
section
theorem zq5 {a0:List zi}:{xs:List Int}→{n k:Nat}→sk a0 n xs=some k→∀ c∈xs.take k,-24≤c
 | [],n,k,h,c,hc=>by simp at hc
 | x::xs,0,k,h,c,hc=>by
  simp [sk] at h; subst h; simp at hc
 | x::xs,n+1,k,h,c,hc=>by
  unfold sk at h
  cases ha:zcf a0 x with
  | none=>rw[ha] at h; cases h
  | some m =>
   rw[ha] at h
   simp only[Option.map_eq_some_iff] at h
   obtain⟨j,hj,rfl⟩:=h
   rw[List.take_succ_cons] at hc
   rcases List.mem_cons.1 hc with rfl | hc
   ·by_cases h0:c<0
    ·exact (zo9 ha h0).1
    ·omega
   ·exact zq5 hj c hc
theorem zjw {a0:List zi} {xs:List Int} {ps:List jI} (h:zkm a0 xs=some ps):∀ c∈xs,-24≤c:=by
 obtain⟨h1,h2⟩:=zg0 xs.length xs ps (Nat.le_refl _) h
 intro c hc
 rw[← h1] at hc
 obtain⟨p,hp,hcp⟩:=List.mem_flatten.1 hc
 have:=zq5 (h2 p hp).2 c
 rw[List.take_length] at this
 exact this hcp
theorem zpV {a0:List zi} {xs:List Int} (h:qz a0 xs=true):zdH xs:=by
 obtain⟨x,r,e,ps,rfl,h0,-,-,-,-,hl,hc,-⟩:=zhE h
 refine ⟨by simp; omega,fun c hcm => ?_⟩
 rcases List.mem_cons.1 hcm with rfl | hcm
 ·omega
 ·exact zjw hc c hcm
theorem zrL {a0:List zi} {r:List Int} {n:Nat} (h:zgG a0 r=some n):zdH r:=by
 obtain⟨ps,hc,-,hl,-⟩:=zl9 h
 exact ⟨by omega,zjw hc⟩
theorem zdl {a0:List zi} {ls:List zc} (h:zd1 a0 ls=true):∀ l∈ls,zdH l.2:=fun l hl =>
 zpV (List.all_eq_true.1 h l hl)
theorem zh7 {a0:List zi} {rs:List jI} (h:zgy a0 rs=true):∀ r∈rs,zdH r:=fun r hr=>by
 obtain⟨n,hn⟩:=zi2 h
 exact zrL (hn r hr)
theorem zko (a0:List zi) (L:List zc) (T:List jI) (C:List zc):zcG a0 L T C=some (cond (zc4 a0 L T C) ((zeT L T C).1,(zeT L T C).2.1,0,(zeT L T C).2.2) ([],[],800,[])):=by
 unfold zcG
 rw[yC,Option.bind_some]
 cases h:zc4 a0 L T C with
 | false=>rfl
 | true =>
  obtain⟨-,h1,h2,h3,h4,h5,h6,-⟩:=zE h
  rw[Bool.not_true,cond_false,zmw (by omega) (by omega) (by omega) (zdl h4) (zh7 h5) (zdl h6),Option.bind_some]
  rfl
theorem zl4:(s:List Int×Int)→(ls:List zc)→(zaN s ls).1.length=ls.length
 | _,[]=>rfl
 | s,l::ls=>by simp [zaN,zl4 (zd4 s l.2).2 ls]
theorem zn9:(s:List Int×Int)→(ls:List jI)→(zcA s ls).1.length=ls.length
 | _,[]=>rfl
 | s,l::ls=>by simp [zcA,zn9 (zd4 s l).2 ls]
theorem zjF:(s:List Int×Int)→(ls:List zc)→(b:Nat)→(∀ l∈ls,l.2.length≤b)→∀ l∈(zaN s ls).1,l.2.length≤b
 | _,[],_,_,l,hl=>by cases hl
 | s,e::es,b,h,l,hl=>by
  simp only[zaN] at hl
  rcases List.mem_cons.1 hl with rfl | hl
  ·rw[znw]; exact h e (List.mem_cons_self ..)
  ·exact zjF _ es b (fun x hx=>h x (List.mem_cons_of_mem _ hx)) l hl
theorem zmH:(s:List Int×Int)→(ls:List jI)→(b:Nat)→(∀ l∈ls,l.length≤b)→∀ l∈(zcA s ls).1,l.length≤b
 | _,[],_,_,l,hl=>by cases hl
 | s,e::es,b,h,l,hl=>by
  simp only[zcA] at hl
  rcases List.mem_cons.1 hl with rfl | hl
  ·rw[znw]; exact h e (List.mem_cons_self ..)
  ·exact zmH _ es b (fun x hx=>h x (List.mem_cons_of_mem _ hx)) l hl
theorem zr7 {a0:List zi} {L:List zc} {T:List jI} {C:List zc} (h:zc4 a0 L T C=true) :
  qE (zeT L T C).1 (zeT L T C).2.1 (zeT L T C).2.2 (zeT L T C).1 (zeT L T C).2.1 (zeT L T C).2.2=some true:=by
 obtain⟨-,h1,h2,h3,h4,h5,h6,-⟩:=zE h
 have lL:=zaH L []
 have lT:=zaH T []
 have lC:=zaH C []
 simp only[List.length_nil,Nat.zero_add] at lL lT lC
 have sL:∀ l∈zK L [],l.2.length≤1000:=fun l h=>(zdl h4 l (by simpa using (qJ L []).1 h)).1
 have sT:∀ l∈zK T [],l.length≤1000:=fun l h=>(zh7 h5 l (by simpa using (qJ T []).1 h)).1
 have sC:∀ l∈zK C [],l.2.length≤1000:=fun l h=>(zdl h6 l (by simpa using (qJ C []).1 h)).1
 unfold zeT zCQ
 apply zd7
 ·simp only[zl4]; unfold maxLen; omega
 ·intro e he
  have:=zjF _ _ 1000 sL e he
  unfold maxLen; omega
 ·simp only[zn9]; unfold maxLen; omega
 ·intro e he
  have:=zmH _ _ 1000 sT e he
  unfold maxLen; omega
 ·simp only[zl4]; unfold maxLen; omega
 ·intro e he
  have:=zjF _ _ 1000 sC e he
  unfold maxLen; omega
def zV {α:Type} (s:Int):List α→Nat→List α
 | [],_=>[]
 | e::es,i=>cond ((i:Int) != s) (e::zV s es (i+1)) (zV s es (i+1))
theorem zmb {α:Type} (s:Int):(es:List α)→(i:Nat)→(zV s es i).length≤es.length
 | [],_=>Nat.le_refl _
 | e::es,i=>by
  unfold zV
  have:=zmb s es (i+1)
  cases ((i:Int) != s)<;>simp<;>omega
theorem zqH (s0:Int) (s8:List jI) (s10:List zc):(es:List zc)→(i:Nat)→(out:List zc)→out.length+es.length≤1000000→yb s0 s8 s10 es i out=some (s8,out++zV s0 es i,s10)
 | [],i,out,_=>by simp [yb,zV]
 | e::es,i,out,h=>by
  rw[List.length_cons] at h
  unfold yb zV
  cases ((i:Int) != s0) with
  | true =>
   rw[cond_true,cond_true,zn (show (out.length+([(e.1,e.2)]:List zc).length)*32≤140737488351232 by simp; omega),cond_true,zqH s0 s8 s10 es (i+1) _ (by simp; omega)]
   simp
  | false=>rw[cond_false,cond_false,zqH s0 s8 s10 es (i+1) out (by omega)]
theorem zqd (s0:Int) (s8:List jI) (s10:List zc):(es:List zc)→(i:Nat)→(out:List zc)→out.length+es.length≤1000000→ya s0 s8 s10 es i out=some (s8,out++zV s0 es i,s10)
 | [],i,out,_=>by simp [ya,zV]
 | e::es,i,out,h=>by
  rw[List.length_cons] at h
  unfold ya zV
  cases ((i:Int) != s0) with
  | true =>
   rw[cond_true,cond_true,zn (show (out.length+([(e.1,e.2)]:List zc).length)*32≤140737488351232 by simp; omega),cond_true,zqd s0 s8 s10 es (i+1) _ (by simp; omega)]
   simp
  | false=>rw[cond_false,cond_false,zqd s0 s8 s10 es (i+1) out (by omega)]
theorem zmx {n:Nat} (h:n≤1000000):zgn (n:Int)=some []:=by
 unfold zgn
 have e:IntKind.wrap .i64 ((n:Int) - 0)=(n:Int):=by rw[zp]<;>omega
 rw[e,decide_eq_false (show ¬((n:Int)<0) by omega),cond_false]
 by_cases h0:n=0
 ·subst h0; rfl
 ·rw[decide_eq_true (show (n:Int)>0 by omega),cond_true,show (eqI 0 0&&eqI 0 0)=true from rfl,cond_true,show zrq (n:Int)=true from decide_eq_true (by omega),cond_true,Int.toNat_natCast,zn (by omega),cond_true]
  have:zbV (List.replicate n ([]:List Int)) none (some 0)=some []:=by
   show slc (List.replicate n ([]:List Int)) 0 0=some []
   unfold slc
   rw[decide_eq_true (show (0:Int)≤0 by omega),decide_eq_true (show (0:Int)≤(((List.replicate n ([]:List Int)).length:Nat):Int) by omega)]
   rfl
  rw[this]; rfl
theorem zkq {n:Nat} (h:n≤1000000):zek (n:Int)=some []:=by
 unfold zek
 have e:IntKind.wrap .i64 ((n:Int) - 0)=(n:Int):=by rw[zp]<;>omega
 rw[e,decide_eq_false (show ¬((n:Int)<0) by omega),cond_false]
 by_cases h0:n=0
 ·subst h0; rfl
 ·rw[decide_eq_true (show (n:Int)>0 by omega),cond_true,show (eqI 0 0&&eqI 0 0)=true from rfl,cond_true,show zrq (n:Int)=true from decide_eq_true (by omega),cond_true,Int.toNat_natCast,zn (by omega),cond_true]
  have:∀ z:zc,zbV (List.replicate n z) none (some 0)=some []:=fun z=>by
   show slc (List.replicate n z) 0 0=some []
   unfold slc
   rw[decide_eq_true (show (0:Int)≤0 by omega),decide_eq_true (show (0:Int)≤(((List.replicate n z).length:Nat):Int) by omega)]
   rfl
  rw[this]; rfl
theorem zjM {a b:List jI} (h:a.length+b.length≤1000000):zee [a,b]=some (a++b):=by
 have w0:IntKind.wrap .i64 ((0:Int)+((a.length:Nat):Int))=((a.length:Nat):Int):=by rw[zp]<;>omega
 have w1:IntKind.wrap .i64 (((a.length:Nat):Int)+((b.length:Nat):Int))=((a.length+b.length:Nat):Int):=by rw[zp]<;>omega
 have e0:yi [a,b] 0=some ((a.length+b.length:Nat):Int):=by
  unfold yi
  rw[w0,decide_eq_false (show ¬(((a.length:Nat):Int)<0) by omega),cond_false]
  unfold yi
  rw[w1,decide_eq_false (show ¬(((a.length+b.length:Nat):Int)<0) by omega),cond_false]
  rfl
 have e1:yh [a,b] []=some (a++b):=by
  unfold yh
  rw[zn (by simp; omega),cond_true,List.nil_append]
  unfold yh
  rw[zn (by omega),cond_true]
  rfl
 unfold zee
 rw[zgi _ _ _ (by unfold maxLen; simp),e0,Option.bind_some,zmx h,Option.bind_some,zgk _ _ (by unfold maxLen; simp),e1]
 rfl
theorem ze4 {a b:List zc} (h:a.length+b.length≤1000000):zbM [a,b]=some (a++b):=by
 have w0:IntKind.wrap .i64 ((0:Int)+((a.length:Nat):Int))=((a.length:Nat):Int):=by rw[zp]<;>omega
 have w1:IntKind.wrap .i64 (((a.length:Nat):Int)+((b.length:Nat):Int))=((a.length+b.length:Nat):Int):=by rw[zp]<;>omega
 have e0:zU [a,b] 0=some ((a.length+b.length:Nat):Int):=by
  unfold zU
  rw[w0,decide_eq_false (show ¬(((a.length:Nat):Int)<0) by omega),cond_false]
  unfold zU
  rw[w1,decide_eq_false (show ¬(((a.length+b.length:Nat):Int)<0) by omega),cond_false]
  rfl
 have e1:zT [a,b] []=some (a++b):=by
  unfold zT
  rw[zn (by simp; omega),cond_true,List.nil_append]
  unfold zT
  rw[zn (by omega),cond_true]
  rfl
 unfold zbM
 rw[zfq _ _ _ (by unfold maxLen; simp),e0,Option.bind_some,zkq h,Option.bind_some,zfl _ _ (by unfold maxLen; simp),e1]
 rfl
theorem zlQ {L:List zc} {T:List jI} {C:List zc} {L':List zc} {T':List jI} {C':List zc} (i j:Int) (h1:L.length≤1000) (h2:T.length≤1000) (h3:C.length≤1000) (h4:L'.length≤1000) (h5:T'.length≤1000) (h6:C'.length≤1000) :
  zdN L T C i L' T' C' j=some (T++T',zV i L 0++zV j L' 0,C++C'):=by
 have hw:=zmb i L 0
 unfold zdN
 rw[zjM (by omega),Option.bind_some,ze4 (by omega),Option.bind_some,
  zgL _ _ _ _ _ _ _ _ _ (by unfold maxLen; omega),zqH _ _ _ _ _ _ (by simp; omega),Option.bind_some]
 simp only[List.nil_append]
 rw[zgI _ _ _ _ _ (by unfold maxLen; omega),zqd _ _ _ _ _ _ (by omega),Option.bind_some]
def qX (L:List zc) (i:Int):Bool:=decide (0≤i)&&decide (i<L.length)
theorem ziB {α:Type} {s:Int} {x:α}:(es:List α)→(i:Nat)→x∈zV s es i→x∈es
 | [],_,h=>by cases h
 | e::es,i,h=>by
  unfold zV at h
  cases hb:((i:Int) != s) with
  | true =>
   rw[hb,cond_true] at h
   rcases List.mem_cons.1 h with rfl | h
   ·exact List.mem_cons_self ..
   ·exact List.mem_cons_of_mem _ (ziB es (i+1) h)
  | false=>rw[hb,cond_false] at h; exact List.mem_cons_of_mem _ (ziB es (i+1) h)
end
end Go.Abs.Q
namespace Go.Abs.Q
open Go Go.Abs
section
def to0:List (Option jI×Int):=List.replicate 48 ((none:Option jI),(0:Int))
theorem zAy {k:Nat} (h:k<48):to0[k]? = some (none,0):=by
 unfold to0
 rw[List.getElem?_replicate,if_pos h]
theorem zrl {α:Type} (xs:List α) (y:α):zbV (xs++[y]) none (some (xs.length:Int))=some xs:=by
 show slc (xs++[y]) 0 (xs.length:Int)=some xs
 unfold slc
 rw[decide_eq_true (show (0:Int)≤0 by omega),decide_eq_true (show (0:Int)≤(xs.length:Int) by omega),decide_eq_true (show (xs.length:Int)≤(((xs++[y]).length:Nat):Int) by simp; omega)]
 simp
theorem zxq (ps:List jI):zl ps=ps.flatten.length:=by
 induction ps with
 | nil=>rfl
 | cons p ps ih =>
  unfold zl at ih ⊢
  simp only[List.map_cons,List.sum_cons,List.flatten_cons,List.length_append,ih]
def zd3 (s:List (Int×List Int)) (v:Int):Option jI:=(s.find? fun b=>b.1==v).map (·.2)
def onC (s:List (Int×List Int)) (c:Int):List Int:=cond (decide (c≥0)) [c] ((zd3 s (-1 - c)).getD [c])
def onB (s:List (Int×List Int)) (r:List Int):List Int:=r.flatMap (onC s)
structure BindsOk (s:List (Int×List Int)):Prop where
 len:s.length≤1000
 all:∀ b∈s,b.2≠[]∧b.2.length≤1000
theorem zqU (v:Int):(es:List (Int×List Int))→zal v es=some (match zd3 es v with
  | none=>.inl ()
  | some t=>.inr t)
 | []=>rfl
 | e::es=>by
  unfold zal zd3
  rw[List.find?_cons]
  cases he:(e.1==v) with
  | true=>rfl
  | false =>
   rw[cond_false,zqU v es]
   rfl
theorem zo6 {s:List (Int×List Int)} {v:Int} {t:List Int} (h:zd3 s v=some t):∃ b∈s,b.1=v∧b.2=t:=by
 unfold zd3 at h
 obtain⟨b,hb,rfl⟩:=Option.map_eq_some_iff.1 h
 exact ⟨b,List.mem_of_find?_eq_some hb,by simpa using List.find?_some hb,rfl⟩
theorem zjO {α:Type} {xs:List α} (h:xs≠[]):nn xs=some xs:=by
 cases xs with
 | nil=>exact absurd rfl h
 | cons x xs=>rfl
theorem zoj {s:List (Int×List Int)} (h:BindsOk s) (v:Int):zhh s v=some (zd3 s v):=by
 unfold zhh
 rw[zh1 _ _ (by have:=h.len; unfold maxLen; omega),zqU]
 cases hl:zd3 s v with
 | none=>rfl
 | some t =>
  obtain⟨b,hb,-,rfl⟩:=zo6 hl
  show (nn b.2).bind _=_
  rw[zjO (h.all b hb).1]
  rfl
theorem zAi {s:List (Int×List Int)} (h:BindsOk s) (c:Int):(onC s c).length≤1000:=by
 unfold onC
 cases decide (c≥0) with
 | true=>simp
 | false =>
  cases hl:zd3 s (-1 - c) with
  | none=>simp
  | some t =>
   obtain⟨b,hb,-,rfl⟩:=zo6 hl
   exact (h.all b hb).2
theorem zoq {s:List (Int×List Int)} (h:BindsOk s):(es:List Int)→(out:List Int)→(∀ c∈es,-1000000≤c∧c≤1000000)→out.length+1000*es.length≤10000000→qx s es out=some (out++onB s es)
 | [],out,_,_=>by simp [qx,onB]
 | e::es,out,hc,hl=>by
  rw[List.length_cons] at hl
  have he:=hc e (List.mem_cons_self ..)
  have ih:=fun out' hl'=>zoq h es out' (fun c hx=>hc c (List.mem_cons_of_mem _ hx)) hl'
  have hcl:=zAi h e
  have hB:onB s (e::es)=onC s e++onB s es:=by simp [onB]
  unfold qx
  rw[zaQ (by omega) (by omega),Option.bind_some,zoj h,Option.bind_some,hB]
  unfold onC at hcl ⊢
  by_cases h0:e≥0
  ·rw[decide_eq_true h0,cond_true,cond_true,zn (show (out.length+([e]:List Int).length)*8≤140737488351232 by simp; omega),cond_true,ih _ (by simp; omega)]
   simp
  ·rw[decide_eq_false h0] at hcl ⊢
   simp only[cond_false] at hcl ⊢
   cases hl2:zd3 s (-1 - e) with
   | none =>
    simp only[Option.isNone_none,cond_true,Option.getD_none]
    rw[zn (show (out.length+([e]:List Int).length)*8≤140737488351232 by simp; omega),cond_true,ih _ (by simp; omega)]
    simp
   | some t =>
    rw[hl2] at hcl
    simp only[Option.getD_some] at hcl
    simp only[Option.isNone_some,cond_false,Option.getD_some]
    rw[zn (by omega),cond_true,ih _ (by simp; omega)]
    simp
theorem zfL {s:List (Int×List Int)} (h:BindsOk s) {r:List Int} (hl:r.length≤1000) (hc:∀ c∈r,-1000000≤c∧c≤1000000):zjK s r=some (onB s r):=by
 unfold zjK
 rw[zjt _ _ _ (by unfold maxLen; omega),zoq h r [] hc (by simp; omega)]
 rfl
def zcB (r:List Int):Prop:=r.length≤1000∧∀ c∈r,-1000000≤c∧c≤1000000
def zmh (s:List (Int×List Int)) (ls:List zc):List zc:=ls.map fun l=>(l.1,onB s l.2)
def zsD (s:List (Int×List Int)) (rs:List jI):List jI:=rs.map (onB s)
theorem zou {s:List (Int×List Int)} (h:BindsOk s):(es out:List zc)→(∀ l∈es,zcB l.2)→out.length+es.length≤1000000→yR s es out=some (out++zmh s es)
 | [],out,_,_=>by simp [yR,zmh]
 | e::es,out,hn,hl=>by
  rw[List.length_cons] at hl
  have he:=hn e (List.mem_cons_self ..)
  unfold yR q4
  rw[zfL h he.1 he.2,Option.bind_some,Option.bind_some,zn (show (out.length+([(e.1,onB s e.2)]:List zc).length)*32≤140737488351232 by simp; omega),cond_true,
   zou h es _ (fun l hl=>hn l (List.mem_cons_of_mem _ hl)) (by simp; omega)]
  simp [zmh]
theorem zpc {s:List (Int×List Int)} (h:BindsOk s) (s7:List zc):(es out:List jI)→(∀ l∈es,zcB l)→out.length+es.length≤1000000→yK s s7 es out=some (s7,out++zsD s es)
 | [],out,_,_=>by simp [yK,zsD]
 | e::es,out,hn,hl=>by
  rw[List.length_cons] at hl
  have he:=hn e (List.mem_cons_self ..)
  unfold yK q4
  rw[zfL h he.1 he.2,Option.bind_some,Option.bind_some,zn (show (out.length+([onB s e]:List jI).length)*24≤140737488351232 by simp; omega),cond_true,
   zpc h s7 es _ (fun l hl=>hn l (List.mem_cons_of_mem _ hl)) (by simp; omega)]
  simp [zsD]
theorem zof {s:List (Int×List Int)} (h:BindsOk s) (s4:List zc) (s5:List jI):(es out:List zc)→(∀ l∈es,zcB l.2)→out.length+es.length≤1000000→yW s s4 s5 es out=some (s4,s5,out++zmh s es)
 | [],out,_,_=>by simp [yW,zmh]
 | e::es,out,hn,hl=>by
  rw[List.length_cons] at hl
  have he:=hn e (List.mem_cons_self ..)
  unfold yW q4
  rw[zfL h he.1 he.2,Option.bind_some,Option.bind_some,zn (show (out.length+([(e.1,onB s e.2)]:List zc).length)*32≤140737488351232 by simp; omega),cond_true,
   zof h s4 s5 es _ (fun l hl=>hn l (List.mem_cons_of_mem _ hl)) (by simp; omega)]
  simp [zmh]
theorem zpl {s:List (Int×List Int)} (h:BindsOk s) {L:List zc} {T:List jI} {C:List zc} (hL:∀ l∈L,zcB l.2) (hT:∀ l∈T,zcB l) (hC:∀ l∈C,zcB l.2) (h1:L.length≤1000) (h2:T.length≤1000) (h3:C.length≤1000) :
  zfw s L T C=some (zmh s L,zsD s T,zmh s C):=by
 unfold zfw ziu
 rw[zg9 _ _ _ _ _ _ (by unfold maxLen; omega),zou h L [] hL (by simp; omega),Option.bind_some,
  zg5 _ _ _ _ _ _ _ (by unfold maxLen; omega),zpc h _ T [] hT (by simp; omega),Option.bind_some,
  zgQ _ _ _ _ _ (by unfold maxLen; omega),zof h _ _ C [] hC (by simp; omega),Option.bind_some]
 simp
end
end Go.Abs.Q
namespace Go.Abs.Q
open Go Go.Abs
def zec (a0:Int):Option jI :=
 cond (decide (a0<0))
 (none)
 (cond (decide ((IntKind.wrap .i64 (a0 - 0))>0))
  (cond (eqI 0 0&&eqI 0 0)
   (cond (zrq (IntKind.wrap .i64 (a0 - 0)))
    (cond (yQ (Int.toNat (IntKind.wrap .i64 (a0 - 0))) 8)
     ((zbV (List.replicate (Int.toNat (IntKind.wrap .i64 (a0 - 0))) (0:Int)) none (some 0)).bind fun y2 =>
      some y2)
     (none))
    (none))
   (none))
  (some ([]:jI)))
def qR (rec:(jR×Int×Int×jI)→Option jI) (x:(jR×Int×Int×jI)):Option jI :=
 cond (decide (x.2.2.1<x.2.1))
 ((gx x.1 x.2.2.1).bind fun e7 =>
  cond (yQ (List.length x.2.2.2+List.length e7) 8)
  (rec (x.1,x.2.1,(IntKind.wrap .i64 (x.2.2.1+1)),(x.2.2.2++e7)))
  (none))
 (some x.2.2.2)
def qS (rec:(jR×Int×jR×Int×Int)→Option Int) (x:(jR×Int×jR×Int×Int)):Option Int :=
 cond (decide (x.2.2.2.2<x.2.2.2.1))
 ((gx x.2.2.1 x.2.2.2.2).bind fun e2 =>
  cond (decide ((IntKind.wrap .i64 (x.2.1+((List.length e2:Nat):Int)))<0))
  (none)
  (rec (x.1,(IntKind.wrap .i64 (x.2.1+((List.length e2:Nat):Int))),x.2.2.1,x.2.2.2.1,(IntKind.wrap .i64 (x.2.2.2.2+1)))))
 (some x.2.1)
def zc0 (a0:jR):Option jI :=
 ((lp qS zd) (a0,0,a0,((List.length a0:Nat):Int),0)).bind fun r9 =>
 (zec r9).bind fun r10 =>
 ((lp qR zd) (a0,((List.length a0:Nat):Int),0,r10)).bind fun r11 =>
 some r11
end Go.Abs.Q
namespace Go.Abs.Q
open Go Go.Abs
def zF:List jI→jI→Option jI
 | [],s3=>some s3
 | e::es,s3 =>
  cond (yQ (List.length s3+List.length e) 8)
  (zF es (s3++e))
  (none)
theorem zfn (s0:jR) (s3:jI) (hl:List.length s0≤maxLen):lp qR zd (s0,((List.length s0:Nat):Int),0,s3)=zF s0 s3:=zaJ qR (fun i s3=>(s0,((List.length s0:Nat):Int),i,s3)) (fun es i s3=>zF es s3) hl (fun r i s3 h=>by unfold qR zF; simp only[h,cond_false]) (fun r i s3 e es h g w k=>by unfold qR zF; simp only[h,cond_true,g,Option.bind_some,w,k]) s3
def zH:List jI→Int→Option Int
 | [],s1=>some s1
 | e::es,s1 =>
  cond (decide ((IntKind.wrap .i64 (s1+((List.length e:Nat):Int)))<0))
  (none)
  (zH es (IntKind.wrap .i64 (s1+((List.length e:Nat):Int))))
theorem zfi (s0:jR) (s2:jR) (s1:Int) (hl:List.length s2≤maxLen):lp qS zd (s0,s1,s2,((List.length s2:Nat):Int),0)=zH s2 s1:=zaJ qS (fun i s1=>(s0,s1,s2,((List.length s2:Nat):Int),i)) (fun es i s1=>zH es s1) hl (fun r i s1 h=>by unfold qS zH; simp only[h,cond_false]) (fun r i s1 e es h g w k=>by unfold qS zH; simp only[h,cond_true,g,Option.bind_some,w,k]) s1
end Go.Abs.Q
namespace Go.Abs.Q
open Go Go.Abs
section
end
end Go.Abs.Q
namespace Go.Abs.Q
open Go Go.Abs
end Go.Abs.Q
namespace Go.Abs.Q
open Go Go.Abs
end Go.Abs.Q
namespace Go.Abs.Q
open Go Go.Abs
section
end
end Go.Abs.Q
namespace Go.Abs.Q
open Go Go.Abs
section
end
end Go.Abs.Q
namespace Go.Abs.Q
open Go Go.Abs
section
end
end Go.Abs.Q
namespace Go.Abs.Q
open Go Go.Abs
section
end
end Go.Abs.Q
namespace Go.Abs.Q
open Go Go.Abs
section
def zGh (c:UInt8):Bool:=zjj ((UInt8.toNat c:Nat):Int)
def zGi (c:UInt8):Bool:=decide (((UInt8.toNat c:Nat):Int)≥48)&&decide (((UInt8.toNat c:Nat):Int)≤57)
def zF7 (b:Bool) (c:UInt8):Bool:=zGi c||(b&&zGh c)
end
end Go.Abs.Q
namespace Go.Abs.Q
open Go Go.Abs
section
end
end Go.Abs.Q
namespace Go.Abs.Q
open Go Go.Abs
section
end
end Go.Abs.Q
namespace Go.Abs.Q
open Go Go.Abs
section
def Stop (c:Str):Prop:=c.takeWhile (zF7 true)=[]
end
end Go.Abs.Q
namespace Go.Abs.Q
open Go Go.Abs
section
end
end Go.Abs.Q
namespace Go.Abs.Q
open Go Go.Abs
section
end
end Go.Abs.Q
namespace Go.Abs.Q
open Go Go.Abs
section
end
end Go.Abs.Q
namespace Go.Abs.Q
open Go Go.Abs
section
theorem zkr {n:Nat} (h:n≤10000000):zec (n:Int)=some []:=by
 unfold zec
 have e:IntKind.wrap .i64 ((n:Int) - 0)=(n:Int):=by rw[zp]<;>omega
 rw[e,decide_eq_false (show ¬((n:Int)<0) by omega),cond_false]
 by_cases h0:n=0
 ·subst h0; rfl
 ·rw[decide_eq_true (show (n:Int)>0 by omega),cond_true,show (eqI 0 0&&eqI 0 0)=true from rfl,cond_true,show zrq (n:Int)=true from decide_eq_true (by omega),cond_true,Int.toNat_natCast,zn (by omega),cond_true]
  have:∀ z:Int,zbV (List.replicate n z) none (some 0)=some []:=fun z=>by
   show slc (List.replicate n z) 0 0=some []
   unfold slc
   rw[decide_eq_true (show (0:Int)≤0 by omega),decide_eq_true (show (0:Int)≤(((List.replicate n z).length:Nat):Int) by omega)]
   rfl
  rw[this]; rfl
theorem zAp {a b c:List Int} (h:a.length+b.length+c.length≤9000000):zc0 [a,b,c]=some ((a++b)++c):=by
 have w0:IntKind.wrap .i64 ((0:Int)+((a.length:Nat):Int))=((a.length:Nat):Int):=by rw[zp]<;>omega
 have w1:IntKind.wrap .i64 (((a.length:Nat):Int)+((b.length:Nat):Int))=((a.length+b.length:Nat):Int):=by rw[zp]<;>omega
 have w2:IntKind.wrap .i64 (((a.length+b.length:Nat):Int)+((c.length:Nat):Int))=((a.length+b.length+c.length:Nat):Int):=by rw[zp]<;>omega
 have e0:zH [a,b,c] 0=some ((a.length+b.length+c.length:Nat):Int):=by
  unfold zH
  rw[w0,decide_eq_false (show ¬(((a.length:Nat):Int)<0) by omega),cond_false]
  unfold zH
  rw[w1,decide_eq_false (show ¬(((a.length+b.length:Nat):Int)<0) by omega),cond_false]
  unfold zH
  rw[w2,decide_eq_false (show ¬(((a.length+b.length+c.length:Nat):Int)<0) by omega),cond_false]
  rfl
 have e1:zF [a,b,c] []=some ((a++b)++c):=by
  unfold zF
  rw[zn (by simp; omega),cond_true,List.nil_append]
  unfold zF
  rw[zn (by omega),cond_true]
  unfold zF
  rw[zn (by simp; omega),cond_true]
  rfl
 unfold zc0
 rw[zfi _ _ _ (by unfold maxLen; simp),e0,Option.bind_some,zkr (by omega),Option.bind_some,zfn _ _ (by unfold maxLen; simp),e1]
 rfl
end
end Go.Abs.Q
namespace Go.Abs.Q
open Go Go.Abs
section
end
end Go.Abs.Q
namespace Go.Abs.Q
open Go Go.Abs
section
end
end Go.Abs.Q
namespace Go.Abs.Q
open Go Go.Abs
section
end
end Go.Abs.Q
namespace Go.Abs.Q
open Go Go.Abs
section
end
end Go.Abs.Q
namespace Go.Abs.Q
open Go Go.Abs
section
end
end Go.Abs.Q
namespace Go.Abs.Q
open Go Go.Abs
section
theorem zyC {a0:List zi}:{xs:List Int}→{n m:Nat}→{ys:List Int}→sk a0 n xs=some xs.length→sk a0 m ys=some ys.length→sk a0 (n+m) (xs++ys)=some (xs++ys).length
 | [],0,m,ys,_,h=>by rw[Nat.zero_add]; exact h
 | [],n+1,m,ys,h,_=>by simp [sk] at h
 | x::xs,0,m,ys,h,_=>by simp [sk] at h
 | x::xs,n+1,m,ys,h,h'=>by
  unfold sk at h
  cases ha:zcf a0 x with
  | none=>rw[ha] at h; cases h
  | some k =>
   rw[ha] at h
   simp only[Option.map_eq_some_iff,List.length_cons] at h
   obtain⟨j,hj,hjl⟩:=h
   have hj2:j=xs.length:=by omega
   subst hj2
   have ih:=zyC hj h'
   rw[show n+1+m=(n+m)+1 from by omega,List.cons_append]
   unfold sk
   rw[ha]
   simp only
   rw[show n+m+k=n+k+m from by omega,ih]
   rfl
end
end Go.Abs.Q
namespace Go.Abs.Q
open Go Go.Abs
section
theorem zuL {a0:List zi} {x:Int} {q:Nat} (h:zcf a0 x=some q):x<0∨x<a0.length:=by
 by_cases hx:x<0
 ·exact .inl hx
 ·obtain⟨e,-,he,-⟩:=zoo h hx
  have:=(List.getElem?_eq_some_iff.1 he).1
  exact .inr (by omega)
theorem zlz {a0:List zi}:{xs:List Int}→{n k:Nat}→sk a0 n xs=some k→∀ c∈xs.take k,c<0∨c<a0.length
 | [],n,k,h,c,hc=>by simp at hc
 | x::xs,0,k,h,c,hc=>by
  simp [sk] at h; subst h; simp at hc
 | x::xs,n+1,k,h,c,hc=>by
  unfold sk at h
  cases ha:zcf a0 x with
  | none=>rw[ha] at h; cases h
  | some m =>
   rw[ha] at h
   simp only[Option.map_eq_some_iff] at h
   obtain⟨j,hj,rfl⟩:=h
   rw[List.take_succ_cons] at hc
   rcases List.mem_cons.1 hc with rfl | hc
   ·exact zuL ha
   ·exact zlz hj c hc
theorem zok {a0:List zi} (hs:SignOk a0) {xs:List Int} {ps:List jI} (h:zkm a0 xs=some ps):∀ c∈xs,-24≤c∧c<20:=by
 obtain⟨h1,h2⟩:=zg0 xs.length xs ps (Nat.le_refl _) h
 have hl:=hs.len
 intro c hc
 refine ⟨zjw h c hc,?_⟩
 rw[← h1] at hc
 obtain⟨p,hp,hcp⟩:=List.mem_flatten.1 hc
 have:=zlz (h2 p hp).2 c
 rw[List.take_length] at this
 rcases this hcp with h | h<;>omega
theorem zsk {a0:List zi} (hs:SignOk a0) {xs:List Int} (h:qz a0 xs=true):zcB xs:=by
 obtain⟨x,r,e,ps,rfl,h0,he,-,-,-,hl,hc,-⟩:=zhE h
 have:=(List.getElem?_eq_some_iff.1 he).1
 have hl2:=hs.len
 refine ⟨by simp; omega,fun c hcm => ?_⟩
 rcases List.mem_cons.1 hcm with rfl | hcm
 ·omega
 ·have:=zok hs hc c hcm; omega
theorem zeq {a0:List zi} (hs:SignOk a0) {ls:List zc} (h:zd1 a0 ls=true):∀ l∈ls,zcB l.2:=fun l hl=>zsk hs (List.all_eq_true.1 h l hl)
theorem zjQ {a0:List zi} (hs:SignOk a0) {rs:List jI} (h:zgy a0 rs=true):∀ r∈rs,zcB r:=fun r hr=>by
 obtain⟨n,hn⟩:=zi2 h
 obtain⟨ps,hc,-,hl,-⟩:=zl9 (hn r hr)
 exact ⟨by omega,fun c hcm=>by have:=zok hs hc c hcm; omega⟩
end
end Go.Abs.Q
namespace Go.Abs.Q
open Go Go.Abs
def ziR (a0:Int):Option Bool :=
 some (a0 != a0)
def zkz (a0:Int) (a1:Int):Option Bool :=
 (ziR a0).bind fun r3 =>
 cond r3
 ((ziR a1).bind fun r4 =>
  cond (!r4)
  (some true)
  (some (decide (a0<a1))))
 (some (decide (a0<a1)))
def zdS (a0:Int):Option Bool :=
 some (a0 != a0)
def yz (rec:(jI×Int×Int×Int×Int)→Option Int) (x:(jI×Int×Int×Int×Int)):Option Int :=
 cond (decide (x.2.2.2.1<x.2.2.2.2))
 ((gx x.1 (IntKind.wrap .i64 (Int.fdiv (IntKind.wrap .u64 (IntKind.wrap .i64 (x.2.2.2.1+x.2.2.2.2))) (2 ^ min (Int.toNat 1) (IntKind.bits .u64))))).bind fun e3 =>
  (zkz e3 x.2.1).bind fun r4 =>
  cond r4
  (rec (x.1,x.2.1,x.2.2.1,(IntKind.wrap .i64 ((IntKind.wrap .i64 (Int.fdiv (IntKind.wrap .u64 (IntKind.wrap .i64 (x.2.2.2.1+x.2.2.2.2))) (2 ^ min (Int.toNat 1) (IntKind.bits .u64))))+1)),x.2.2.2.2))
  (rec (x.1,x.2.1,x.2.2.1,x.2.2.2.1,(IntKind.wrap .i64 (Int.fdiv (IntKind.wrap .u64 (IntKind.wrap .i64 (x.2.2.2.1+x.2.2.2.2))) (2 ^ min (Int.toNat 1) (IntKind.bits .u64)))))))
 (some x.2.2.2.1)
def zah (a0:jI) (a1:Int):Option (Int×Bool) :=
 ((lp yz zd) (a0,a1,((List.length a0:Nat):Int),0,((List.length a0:Nat):Int))).bind fun r10 =>
 cond (decide (r10<((List.length a0:Nat):Int)))
 ((gx a0 r10).bind fun e11 =>
  cond (e11==a1)
  (some (r10,true))
  ((gx a0 r10).bind fun e12 =>
   (zdS e12).bind fun r13 =>
   cond r13
   ((zdS a1).bind fun r14 =>
    some (r10,r14))
   (some (r10,false))))
 (some (r10,false))
def zed (a0:Int) (a1:jI) (a2:jI):Option jI:=zBx a0 a1 a2
def zbF (rec:(jI×Int×Int×jI)→Option jI) (x:(jI×Int×Int×jI)):Option jI :=
 cond (decide (x.2.2.1<x.2.1))
 ((gx x.1 x.2.2.1).bind fun e11 =>
  cond (decide (e11≥0))
  (rec (x.1,x.2.1,(IntKind.wrap .i64 (x.2.2.1+1)),x.2.2.2))
  ((z6 e11).bind fun r12 =>
   (zah x.2.2.2 r12).bind fun r13 =>
   cond (!r13.2)
   ((z6 e11).bind fun r14 =>
    (zed r13.1 x.2.2.2 ([r14]:List Int)).bind fun r15 =>
    rec (x.1,x.2.1,(IntKind.wrap .i64 (x.2.2.1+1)),r15))
   (rec (x.1,x.2.1,(IntKind.wrap .i64 (x.2.2.1+1)),x.2.2.2))))
 (some x.2.2.2)
def zcl (a0:jI) (a1:jI):Option jI :=
 ((lp zbF zd) (a0,((List.length a0:Nat):Int),0,a1)).bind fun r17 =>
 some r17
def zbG (rec:(jR×Int×Int×jI)→Option jI) (x:(jR×Int×Int×jI)):Option jI :=
 cond (decide (x.2.2.1<x.2.1))
 ((gx x.1 x.2.2.1).bind fun e12 =>
  (zcl e12 x.2.2.2).bind fun r13 =>
  rec (x.1,x.2.1,(IntKind.wrap .i64 (x.2.2.1+1)),r13))
 (some x.2.2.2)
def zbD (rec:(jQ×Int×Int×jQ×jR×jQ×jI)→Option jI) (x:(jQ×Int×Int×jQ×jR×jQ×jI)):Option jI :=
 cond (decide (x.2.2.1<x.2.1))
 ((gx x.1 x.2.2.1).bind fun e7 =>
  (zcl e7.2 x.2.2.2.2.2.2).bind fun r8 =>
  rec (x.1,x.2.1,(IntKind.wrap .i64 (x.2.2.1+1)),x.2.2.2.1,x.2.2.2.2.1,x.2.2.2.2.2.1,r8))
 (some x.2.2.2.2.2.2)
def qe (a0:jS) (a1:jQ) (a2:jR) (a3:jQ):Option (Int×jI) :=
 (za0 a0 a1 a2 a3).bind fun r15 =>
 cond (!r15)
 (some (800,([]:jI)))
 ((zbM ([a1,a3]:List jQ)).bind fun r16 =>
  ((lp zbD zd) (r16,((List.length r16:Nat):Int),0,a1,a2,a3,([]:jI))).bind fun r17 =>
  ((lp zbG zd) (a2,((List.length a2:Nat):Int),0,r17)).bind fun r18 =>
  some (0,r18))
def y9 (rec:(Int×Int×Int×jI)→Option jI) (x:(Int×Int×Int×jI)):Option jI :=
 cond (decide (x.2.1<x.1))
 ((inR x.2.1 (List.length x.2.2.2)).bind fun k6 =>
  (x.2.2.2[k6]?).bind fun x7 =>
  cond (decide (x7<0))
  ((inR x.2.1 (List.length x.2.2.2)).bind fun k8 =>
   (x.2.2.2[k8]?).bind fun x9 =>
   rec (x.1,(IntKind.wrap .i64 (x.2.1+1)),x.2.2.1,(List.set x.2.2.2 k8 (IntKind.wrap .i64 (x7 - x.2.2.1)))))
  (rec (x.1,(IntKind.wrap .i64 (x.2.1+1)),x.2.2.1,x.2.2.2)))
 (some x.2.2.2)
def qb (a0:jI) (a1:Int):Option jI :=
 (zbZ a0).bind fun r11 =>
 ((lp y9 zd) (((List.length r11:Nat):Int),0,a1,r11)).bind fun r12 =>
 some r12
def zar (rec:(jQ×Int×Int×Int×jQ×jR×jQ)→Option (jQ×jR×jQ)) (x:(jQ×Int×Int×Int×jQ×jR×jQ)):Option (jQ×jR×jQ) :=
 cond (decide (x.2.2.1<x.2.1))
 ((gx x.1 x.2.2.1).bind fun e19 =>
  (qb e19.2 x.2.2.2.1).bind fun r20 =>
  cond (yQ (List.length x.2.2.2.2.2.2+List.length ([(e19.1,r20)]:List zc)) 32)
  (rec (x.1,x.2.1,(IntKind.wrap .i64 (x.2.2.1+1)),x.2.2.2.1,x.2.2.2.2.1,x.2.2.2.2.2.1,(x.2.2.2.2.2.2++([(e19.1,r20)]:List zc))))
  (none))
 (some (x.2.2.2.2.1,x.2.2.2.2.2.1,x.2.2.2.2.2.2))
def zaz (rec:(jR×Int×Int×Int×jQ×jR×jQ×jQ×jR)→Option (jQ×jR)) (x:(jR×Int×Int×Int×jQ×jR×jQ×jQ×jR)):Option (jQ×jR) :=
 cond (decide (x.2.2.1<x.2.1))
 ((gx x.1 x.2.2.1).bind fun e12 =>
  (qb e12 x.2.2.2.1).bind fun r13 =>
  cond (yQ (List.length x.2.2.2.2.2.2.2.2+List.length ([r13]:List jI)) 24)
  (rec (x.1,x.2.1,(IntKind.wrap .i64 (x.2.2.1+1)),x.2.2.2.1,x.2.2.2.2.1,x.2.2.2.2.2.1,x.2.2.2.2.2.2.1,x.2.2.2.2.2.2.2.1,(x.2.2.2.2.2.2.2.2++([r13]:List jI))))
  (none))
 (some (x.2.2.2.2.2.2.2.1,x.2.2.2.2.2.2.2.2))
def zaC (rec:(jQ×Int×Int×Int×jQ×jR×jQ×jQ)→Option jQ) (x:(jQ×Int×Int×Int×jQ×jR×jQ×jQ)):Option jQ :=
 cond (decide (x.2.2.1<x.2.1))
 ((gx x.1 x.2.2.1).bind fun e5 =>
  (qb e5.2 x.2.2.2.1).bind fun r6 =>
  cond (yQ (List.length x.2.2.2.2.2.2.2+List.length ([(e5.1,r6)]:List zc)) 32)
  (rec (x.1,x.2.1,(IntKind.wrap .i64 (x.2.2.1+1)),x.2.2.2.1,x.2.2.2.2.1,x.2.2.2.2.2.1,x.2.2.2.2.2.2.1,(x.2.2.2.2.2.2.2++([(e5.1,r6)]:List zc))))
  (none))
 (some x.2.2.2.2.2.2.2)
def zge (a0:jQ) (a1:jR) (a2:jQ) (a3:Int):Option (jQ×jR×jQ) :=
 ((lp zaC zd) (a0,((List.length a0:Nat):Int),0,a3,a0,a1,a2,([]:jQ))).bind fun r22 =>
 ((lp zaz zd) (a1,((List.length a1:Nat):Int),0,a3,a0,a1,a2,r22,([]:jR))).bind fun r23 =>
 ((lp zar zd) (a2,((List.length a2:Nat):Int),0,a3,r23.1,r23.2,([]:jQ))).bind fun r24 =>
 some (r24.1,r24.2.1,r24.2.2)
def zC (a0:jQ) (a1:jR) (a2:jQ) (a3:Int):Option (jQ×jR×jQ) :=
 (zge a0 a1 a2 a3).bind fun r2 =>
 some (r2.1,r2.2.1,r2.2.2)
def zcN (a0:jS) (a1:jQ) (a2:jR) (a3:jQ) (a4:jQ) (a5:jR) (a6:jQ):Option (jQ×jR×Bool×jQ) :=
 (qe a0 a1 a2 a3).bind fun r14 =>
 cond (decide (((List.length r14.2:Nat):Int)>0))
 ((inR (IntKind.wrap .i64 (((List.length r14.2:Nat):Int) - 1)) (List.length r14.2)).bind fun k15 =>
  (r14.2[k15]?).bind fun x16 =>
  (qe a0 a4 a5 a6).bind fun r17 =>
  cond (decide (((List.length r17.2:Nat):Int)>0))
  ((inR (IntKind.wrap .i64 (((List.length r17.2:Nat):Int) - 1)) (List.length r17.2)).bind fun k18 =>
   (r17.2[k18]?).bind fun x19 =>
   cond (decide ((IntKind.wrap .i64 (x19+(IntKind.wrap .i64 (x16+1))))>23))
   (some (([]:jQ),([]:jR),false,([]:jQ)))
   ((zC a4 a5 a6 (IntKind.wrap .i64 (x16+1))).bind fun r20 =>
    some (r20.1,r20.2.1,true,r20.2.2)))
  ((zC a4 a5 a6 (IntKind.wrap .i64 (x16+1))).bind fun r21 =>
   some (r21.1,r21.2.1,true,r21.2.2)))
 ((qe a0 a4 a5 a6).bind fun r22 =>
  cond (decide (((List.length r22.2:Nat):Int)>0))
  ((inR (IntKind.wrap .i64 (((List.length r22.2:Nat):Int) - 1)) (List.length r22.2)).bind fun k23 =>
   (r22.2[k23]?).bind fun x24 =>
   cond (decide ((IntKind.wrap .i64 (x24+0))>23))
   (some (([]:jQ),([]:jR),false,([]:jQ)))
   ((zC a4 a5 a6 0).bind fun r25 =>
    some (r25.1,r25.2.1,true,r25.2.2)))
  ((zC a4 a5 a6 0).bind fun r26 =>
   some (r26.1,r26.2.1,true,r26.2.2)))
end Go.Abs.Q
namespace Go.Abs.Q
open Go Go.Abs
def yo:List Int→jI→Option jI
 | [],s3=>some s3
 | e::es,s3 =>
  cond (decide (e≥0))
  (yo es s3)
  ((z6 e).bind fun r12 =>
   (zah s3 r12).bind fun r13 =>
   cond (!r13.2)
   ((z6 e).bind fun r14 =>
    (zed r13.1 s3 ([r14]:List Int)).bind fun r15 =>
    yo es r15)
   (yo es s3))
theorem zg4 (s0:jI) (s3:jI) (hl:List.length s0≤maxLen):lp zbF zd (s0,((List.length s0:Nat):Int),0,s3)=yo s0 s3:=zaJ zbF (fun i s3=>(s0,((List.length s0:Nat):Int),i,s3)) (fun es i s3=>yo es s3) hl (fun r i s3 h=>by unfold zbF yo; simp only[h,cond_false]) (fun r i s3 e es h g w k=>by unfold zbF yo; simp only[h,cond_true,g,Option.bind_some,w,k]) s3
def qp:List jI→jI→Option jI
 | [],s3=>some s3
 | e::es,s3 =>
  (zcl e s3).bind fun r13 =>
  qp es r13
theorem zhe (s0:jR) (s3:jI) (hl:List.length s0≤maxLen):lp zbG zd (s0,((List.length s0:Nat):Int),0,s3)=qp s0 s3:=zaJ zbG (fun i s3=>(s0,((List.length s0:Nat):Int),i,s3)) (fun es i s3=>qp es s3) hl (fun r i s3 h=>by unfold zbG qp; simp only[h,cond_false]) (fun r i s3 e es h g w k=>by unfold zbG qp; simp only[h,cond_true,g,Option.bind_some,w,k]) s3
def qo:List zc→jI→Option jI
 | [],s6=>some s6
 | e::es,s6 =>
  (zcl e.2 s6).bind fun r8 =>
  qo es r8
theorem zgZ (s0:jQ) (s3:jQ) (s4:jR) (s5:jQ) (s6:jI) (hl:List.length s0≤maxLen):lp zbD zd (s0,((List.length s0:Nat):Int),0,s3,s4,s5,s6)=qo s0 s6:=zaJ zbD (fun i s6=>(s0,((List.length s0:Nat):Int),i,s3,s4,s5,s6)) (fun es i s6=>qo es s6) hl (fun r i s6 h=>by unfold zbD qo; simp only[h,cond_false]) (fun r i s6 e es h g w k=>by unfold zbD qo; simp only[h,cond_true,g,Option.bind_some,w,k]) s6
def yk (s3:Int) (s4:jQ) (s5:jR):List zc→jQ→Option (jQ×jR×jQ)
 | [],s6=>some (s4,s5,s6)
 | e::es,s6 =>
  (qb e.2 s3).bind fun r20 =>
  cond (yQ (List.length s6+List.length ([(e.1,r20)]:List zc)) 32)
  (yk s3 s4 s5 es (s6++([(e.1,r20)]:List zc)))
  (none)
theorem zgo (s0:jQ) (s3:Int) (s4:jQ) (s5:jR) (s6:jQ) (hl:List.length s0≤maxLen):lp zar zd (s0,((List.length s0:Nat):Int),0,s3,s4,s5,s6)=yk s3 s4 s5 s0 s6:=zaJ zar (fun i s6=>(s0,((List.length s0:Nat):Int),i,s3,s4,s5,s6)) (fun es i s6=>yk s3 s4 s5 es s6) hl (fun r i s6 h=>by unfold zar yk; simp only[h,cond_false]) (fun r i s6 e es h g w k=>by unfold zar yk; simp only[h,cond_true,g,Option.bind_some,w,k]) s6
def yj (s3:Int) (s7:jQ):List jI→jR→Option (jQ×jR)
 | [],s8=>some (s7,s8)
 | e::es,s8 =>
  (qb e s3).bind fun r13 =>
  cond (yQ (List.length s8+List.length ([r13]:List jI)) 24)
  (yj s3 s7 es (s8++([r13]:List jI)))
  (none)
theorem zgh (s0:jR) (s3:Int) (s4:jQ) (s5:jR) (s6:jQ) (s7:jQ) (s8:jR) (hl:List.length s0≤maxLen):lp zaz zd (s0,((List.length s0:Nat):Int),0,s3,s4,s5,s6,s7,s8)=yj s3 s7 s0 s8:=zaJ zaz (fun i s8=>(s0,((List.length s0:Nat):Int),i,s3,s4,s5,s6,s7,s8)) (fun es i s8=>yj s3 s7 es s8) hl (fun r i s8 h=>by unfold zaz yj; simp only[h,cond_false]) (fun r i s8 e es h g w k=>by unfold zaz yj; simp only[h,cond_true,g,Option.bind_some,w,k]) s8
def yf (s3:Int):List zc→jQ→Option jQ
 | [],s7=>some s7
 | e::es,s7 =>
  (qb e.2 s3).bind fun r6 =>
  cond (yQ (List.length s7+List.length ([(e.1,r6)]:List zc)) 32)
  (yf s3 es (s7++([(e.1,r6)]:List zc)))
  (none)
theorem zfY (s0:jQ) (s3:Int) (s4:jQ) (s5:jR) (s6:jQ) (s7:jQ) (hl:List.length s0≤maxLen):lp zaC zd (s0,((List.length s0:Nat):Int),0,s3,s4,s5,s6,s7)=yf s3 s0 s7:=zaJ zaC (fun i s7=>(s0,((List.length s0:Nat):Int),i,s3,s4,s5,s6,s7)) (fun es i s7=>yf s3 es s7) hl (fun r i s7 h=>by unfold zaC yf; simp only[h,cond_false]) (fun r i s7 e es h g w k=>by unfold zaC yf; simp only[h,cond_true,g,Option.bind_some,w,k]) s7
end Go.Abs.Q
