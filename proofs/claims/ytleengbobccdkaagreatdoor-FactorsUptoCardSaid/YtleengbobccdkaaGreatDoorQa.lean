import Derived.Test.YtleengbobccdkaaGreatDoorFc
/-
  What the functions make of plain values, and what the law says of that.
-/
namespace Go.Abs.Q
open Go Go.Abs
abbrev zm:=Str×Int×Int×Int
abbrev qr:Tys:=.cons .str (.cons (.int .i64) (.cons (.int .i64) (.one (.int .i64))))
abbrev zd:=Bool×List Int
abbrev zx:Tys:=.cons .bool (.one (.sl (.one (.int .i64))))
def zc5 (a0:Int):Option Bool :=
 cond (decide (a0 ≥ 97))
 (some (decide (a0≤122)))
 (some false)
def qB (rec:(Str×Int×Int)→Option (Unit⊕Bool)) (x:(Str×Int×Int)):Option (Unit⊕Bool) :=
 cond (decide (x.2.2 < x.2.1))
 ((gx x.1 x.2.2).bind fun c7 =>
  (zc5 ((UInt8.toNat c7:Nat):Int)).bind fun r8 =>
  cond (!r8)
  ((gx x.1 x.2.2).bind fun c9 =>
   cond (decide (((UInt8.toNat c9:Nat):Int) < 48))
   (some (Sum.inr false))
   ((gx x.1 x.2.2).bind fun c10 =>
    cond (decide (((UInt8.toNat c10:Nat):Int) > 57))
    (some (Sum.inr false))
    (rec (x.1,x.2.1,(IntKind.wrap .i64 (x.2.2+1))))))
  (rec (x.1,x.2.1,(IntKind.wrap .i64 (x.2.2+1)))))
 (some (Sum.inl ()))
def zez (a0:Str):Option Bool :=
 cond (a0 == ([]:Str))
 (some false)
 (cond (decide (((List.length a0:Nat):Int) > 8))
  (some false)
  ((gx a0 0).bind fun c14 =>
   (zc5 ((UInt8.toNat c14:Nat):Int)).bind fun r15 =>
   cond (!r15)
   (some false)
   (((lp qB zr) (a0,((List.length a0:Nat):Int),0)).bind fun r16 =>
    qH r16
    (fun z17=>some true)
    (fun z18=>some z18))))
def zdb (a0:Str) (a1:Int) (a2:Int) (a3:Int):Option Bool :=
 (zez a0).bind fun r2 =>
 cond r2
 (cond (decide (a1 ≥ 0))
  (cond (decide (a1≤2))
   (cond (decide (a2 ≥ 0))
    (cond (decide (a2≤3))
     (cond (decide (a3 ≥ 1))
      (some (decide (a3≤20)))
      (some false))
     (some false))
    (some false))
   (some false))
  (some false))
 (some false)
def zaw (rec:((List zm)×Str×Int×Int)→Option (Unit⊕Int)) (x:((List zm)×Str×Int×Int)):Option (Unit⊕Int) :=
 cond (decide (x.2.2.2 < x.2.2.1))
 ((gx x.1 x.2.2.2).bind fun e2 =>
  cond (e2.1 == x.2.1)
  (some (Sum.inr x.2.2.2))
  (rec (x.1,x.2.1,x.2.2.1,(IntKind.wrap .i64 (x.2.2.2+1)))))
 (some (Sum.inl ()))
def zeh (a0:(List zm)) (a1:Str):Option Int :=
 ((lp zaw zr) (a0,a1,((List.length a0:Nat):Int),0)).bind fun r6 =>
 qH r6
 (fun z7=>some (-1))
 (fun z8=>some z8)
def zbj (rec:((List zm)×Int)→Option (Unit⊕Bool)) (x:((List zm)×Int)):Option (Unit⊕Bool) :=
 cond (decide (x.2 < ((List.length x.1:Nat):Int)))
 ((gx x.1 x.2).bind fun e6 =>
  (zdb e6.1 e6.2.1 e6.2.2.1 e6.2.2.2).bind fun r7 =>
  cond (!r7)
  (some (Sum.inr false))
  ((gx x.1 x.2).bind fun e8 =>
   (zeh x.1 e8.1).bind fun r9 =>
   cond (r9 != x.2)
   (some (Sum.inr false))
   (rec (x.1,(IntKind.wrap .i64 (x.2+1))))))
 (some (Sum.inl ()))
def ze1 (a0:(List zm)):Option Bool :=
 cond (decide (((List.length a0:Nat):Int) < 1))
 (some false)
 (cond (decide (((List.length a0:Nat):Int) > 20))
  (some false)
  ((gx a0 0).bind fun e13 =>
   cond (!(cond (eqS e13.1 [61]) (cond (eqI e13.2.1 0) (cond (eqI e13.2.2.1 2) (cond (eqI e13.2.2.2 1) true false) false) false) false))
   (some false)
   (((lp zbj zr) (a0,1)).bind fun r14 =>
    qH r14
    (fun z15=>some true)
    (fun z16=>some z16))))
def zdm (rec:((List Int)×Int×Int×Int)→Option (Unit⊕Int)) (x:((List Int)×Int×Int×Int)):Option (Unit⊕Int) :=
 cond (decide (x.2.2.2 < x.2.2.1))
 ((gx x.1 x.2.2.2).bind fun e2 =>
  cond (x.2.1 == e2)
  (some (Sum.inr x.2.2.2))
  (rec (x.1,x.2.1,x.2.2.1,(IntKind.wrap .i64 (x.2.2.2+1)))))
 (some (Sum.inl ()))
def zjw (a0:(List Int)) (a1:Int):Option Int :=
 ((lp zdm zr) (a0,a1,((List.length a0:Nat):Int),0)).bind fun r6 =>
 qH r6
 (fun z7=>some (-1))
 (fun z8=>some z8)
def zdj (a0:(List Int)) (a1:Int):Option Bool :=
 (zjw a0 a1).bind fun r2 =>
 some (decide (r2 ≥ 0))
def zgm (a0:(Option (List Int))):Option (List Int) :=
 cond (Option.isNone a0)
 (some ([]:(List Int)))
 (cond (qt (List.length ([]:List Int)+List.length (Option.getD a0 [])) 8)
  (some (([]:List Int)++(Option.getD a0 [])))
  (none))
def zlw:Option (List Int) :=
 some ([]:(List Int))
def zbo (a0:(List Int)):Option (List Int):=zgm (some a0)
def zfO (a0:Bool) (a1:(List Int)):Option zd :=
 (zbo a1).bind fun r2 =>
 some ((!a0),r2)
def qh (a0:Int):Option Int :=
 some (IntKind.wrap .i64 ((-1) - a0))
def zgh (a0:(List zm)) (a1:Int):Option (Int×Bool) :=
 cond (decide (a1 < 0))
 ((qh 23).bind fun r4 =>
  some (0,(decide (a1 ≥ r4))))
 (cond (decide (a1 ≥ ((List.length a0:Nat):Int)))
  (some (0,false))
  ((gx a0 a1).bind fun e5 =>
   cond (e5.2.1 == 0)
   (some (0,false))
   ((gx a0 a1).bind fun e6 =>
    some (e6.2.2.1,true))))
def zaO (rec:((List zm)×(List Int)×Int×Int)→Option (Int×Bool)) (x:((List zm)×(List Int)×Int×Int)):Option (Int×Bool) :=
 cond (decide (x.2.2.1 ≥ ((List.length x.2.1:Nat):Int)))
 (some (0,false))
 ((gx x.2.1 x.2.2.1).bind fun e5 =>
  (zgh x.1 e5).bind fun r6 =>
  cond (!r6.2)
  (some (0,false))
  (cond (decide ((IntKind.wrap .i64 (x.2.2.2+(IntKind.wrap .i64 (r6.1 - 1)))) > 0))
   (rec (x.1,x.2.1,(IntKind.wrap .i64 (x.2.2.1+1)),(IntKind.wrap .i64 (x.2.2.2+(IntKind.wrap .i64 (r6.1 - 1))))))
   (some ((IntKind.wrap .i64 (x.2.2.1+1)),true))))
def zek (a0:(List zm)) (a1:(List Int)) (a2:Int):Option (Int×Bool) :=
 cond (decide (a2 ≥ ((List.length a1:Nat):Int)))
 (some (0,false))
 ((gx a1 a2).bind fun e8 =>
  (zgh a0 e8).bind fun r9 =>
  cond (!r9.2)
  (some (0,false))
  (cond (decide ((IntKind.wrap .i64 (1+(IntKind.wrap .i64 (r9.1 - 1)))) > 0))
   ((((lp zaO zr) (a0,a1,(IntKind.wrap .i64 (a2+1)),(IntKind.wrap .i64 (1+(IntKind.wrap .i64 (r9.1 - 1))))))).bind fun r10 =>
    some (r10.1,r10.2))
   (some ((IntKind.wrap .i64 (a2+1)),true))))
def za5 (rec:((List zm)×(List Int)×Int×(List Int))→Option zd) (x:((List zm)×(List Int)×Int×(List Int))):Option zd :=
 cond (x.2.2.1 == ((List.length x.2.1:Nat):Int))
 (some (true,x.2.2.2))
 ((zek x.1 x.2.1 x.2.2.1).bind fun r4 =>
  cond (!r4.2)
  (some (false,([]:(List Int))))
  (cond (qt (List.length x.2.2.2+List.length ([x.2.2.1]:List Int)) 8)
   (rec (x.1,x.2.1,r4.1,(x.2.2.2++([x.2.2.1]:List Int))))
   (none)))
def zcj (a0:(List zm)) (a1:(List Int)):Option zd :=
 (ze1 a0).bind fun r6 =>
 cond (!r6)
 (some (false,([]:(List Int))))
 (cond (decide (((List.length a1:Nat):Int) > 48))
  (some (false,([]:(List Int))))
  (cond (0 == ((List.length a1:Nat):Int))
   (some (true,([]:(List Int))))
   ((zek a0 a1 0).bind fun r7 =>
    cond (!r7.2)
    (some (false,([]:(List Int))))
    (cond (qt (List.length ([0]:List Int)) 8)
     ((((lp za5 zr) (a0,a1,r7.1,([0]:List Int)))).bind fun r8 =>
      some (r8.1,r8.2))
     (none)))))
def zbl (a0:(List zm)) (a1:(List Int)):Option Bool :=
 cond (((List.length a1:Nat):Int) == 0)
 (some false)
 ((gx a1 0).bind fun e9 =>
  cond (decide (e9 < 0))
  (some false)
  ((gx a1 0).bind fun e10 =>
   cond (decide (e10 ≥ ((List.length a0:Nat):Int)))
   (some false)
   ((gx a1 0).bind fun e11 =>
    (gx a0 e11).bind fun e12 =>
    cond (e12.2.1 != 0)
    (some false)
    ((zbS a1 (some 1) none).bind fun y13 =>
     (zcj a0 y13).bind fun r14 =>
     cond r14.1
     ((gx a1 0).bind fun e15 =>
      (gx a0 e15).bind fun e16 =>
      some (((List.length r14.2:Nat):Int) == e16.2.2.1))
     (some false)))))
def zhe (a0:(List zm)) (a1:Bool) (a2:(List Int)):Option Bool :=
 (zbl a0 a2).bind fun r2 =>
 some r2
def yE (rec:((List zm)×Int×(List zd)×Int×Int)→Option (Int⊕(Int×Bool))) (x:((List zm)×Int×(List zd)×Int×Int)):Option (Int⊕(Int×Bool)) :=
 cond (decide (x.2.2.2.2 < x.2.2.2.1))
 ((gx x.2.2.1 x.2.2.2.2).bind fun e3 =>
  (zhe x.1 e3.1 e3.2).bind fun r4 =>
  cond (!r4)
  (some (Sum.inr (0,false)))
  (rec (x.1,(IntKind.wrap .i64 (x.2.1+((List.length e3.2:Nat):Int))),x.2.2.1,x.2.2.2.1,(IntKind.wrap .i64 (x.2.2.2.2+1)))))
 (some (Sum.inl x.2.1))
def zbz (a0:(List zm)) (a1:(List zd)):Option (Int×Bool) :=
 ((lp yE zr) (a0,0,a1,((List.length a1:Nat):Int),0)).bind fun r8 =>
 qH r8
 (fun z9=>some (z9,true))
 (fun z10=>some (z10.1,z10.2))
def zeo (a0:(List zm)) (a1:(List Int)):Option (Int×Int) :=
 (zcj a0 a1).bind fun r2 =>
 cond (!r2.1)
 (some (0,200))
 (some (((List.length r2.2:Nat):Int),0))
def yF (rec:((List zm)×Int×Int×(List (List Int))×Int×Int)→Option (Int⊕(Int×Bool))) (x:((List zm)×Int×Int×(List (List Int))×Int×Int)):Option (Int⊕(Int×Bool)) :=
 cond (decide (x.2.2.2.2.2 < x.2.2.2.2.1))
 ((gx x.2.2.2.1 x.2.2.2.2.2).bind fun e3 =>
  (zeo x.1 e3).bind fun r4 =>
  cond (x.2.2.2.2.2 == 0)
  (cond (r4.2 != 0)
   (some (Sum.inr (0,false)))
   (cond (r4.1 != r4.1)
    (some (Sum.inr (0,false)))
    (rec (x.1,(IntKind.wrap .i64 (x.2.1+((List.length e3:Nat):Int))),r4.1,x.2.2.2.1,x.2.2.2.2.1,(IntKind.wrap .i64 (x.2.2.2.2.2+1))))))
  (cond (r4.2 != 0)
   (some (Sum.inr (0,false)))
   (cond (r4.1 != x.2.2.1)
    (some (Sum.inr (0,false)))
    (rec (x.1,(IntKind.wrap .i64 (x.2.1+((List.length e3:Nat):Int))),x.2.2.1,x.2.2.2.1,x.2.2.2.2.1,(IntKind.wrap .i64 (x.2.2.2.2.2+1)))))))
 (some (Sum.inl x.2.1))
def zco (a0:(List zm)) (a1:(List (List Int))):Option (Int×Bool) :=
 ((lp yF zr) (a0,0,0,a1,((List.length a1:Nat):Int),0)).bind fun r8 =>
 qH r8
 (fun z9=>some (z9,true))
 (fun z10=>some (z10.1,z10.2))
def zbN (a0:(List zm)) (a1:(List zd)) (a2:(List (List Int))) (a3:(List zd)):Option Bool :=
 (ze1 a0).bind fun r5 =>
 cond (!r5)
 (some false)
 (cond (decide (((List.length a1:Nat):Int) > 5))
  (some false)
  (cond (decide (((List.length a2:Nat):Int) > 3))
   (some false)
   (cond (decide (((List.length a3:Nat):Int) > 3))
    (some false)
    ((zbz a0 a1).bind fun r6 =>
     (zco a0 a2).bind fun r7 =>
     (zbz a0 a3).bind fun r8 =>
     cond r6.2
     (cond r7.2
      (cond r8.2
       (some (decide ((IntKind.wrap .i64 ((IntKind.wrap .i64 (r6.1+r7.1))+r8.1))≤240)))
       (some false))
      (some false))
     (some false)))))
def qn (rec:((List Int)×(List Int)×Int×Int)→Option (Unit⊕Bool)) (x:((List Int)×(List Int)×Int×Int)):Option (Unit⊕Bool) :=
 cond (decide (x.2.2.2 < x.2.2.1))
 ((gx x.1 x.2.2.2).bind fun e3 =>
  (gx x.2.1 x.2.2.2).bind fun e4 =>
  cond (e3 != e4)
  (some (Sum.inr false))
  (rec (x.1,x.2.1,x.2.2.1,(IntKind.wrap .i64 (x.2.2.2+1)))))
 (some (Sum.inl ()))
def qo (a0:(List Int)) (a1:(List Int)):Option Bool :=
 cond (((List.length a0:Nat):Int) != ((List.length a1:Nat):Int))
 (some false)
 (((lp qn zr) (a0,a1,((List.length a0:Nat):Int),0)).bind fun r8 =>
  qH r8
  (fun z9=>some true)
  (fun z10=>some z10))
def zjW (a0:Bool) (a1:(List Int)) (a2:Bool) (a3:(List Int)):Option Bool :=
 cond (a0 == a2)
 ((qo a1 a3).bind fun r2 =>
  some r2)
 (some false)
def zcp (a0:Bool) (a1:(List Int)) (a2:Bool) (a3:(List Int)):Option Bool :=
 (zjW a2 a3 a0 a1).bind fun r2 =>
 some r2
def yd (rec:((List zd)×Int×Int×Bool×(List Int))→Option (Unit⊕Int)) (x:((List zd)×Int×Int×Bool×(List Int))):Option (Unit⊕Int) :=
 cond (decide (x.2.2.1 < x.2.1))
 ((gx x.1 x.2.2.1).bind fun e3 =>
  (zcp e3.1 e3.2 x.2.2.2.1 x.2.2.2.2).bind fun r4 =>
  cond r4
  (some (Sum.inr x.2.2.1))
  (rec (x.1,x.2.1,(IntKind.wrap .i64 (x.2.2.1+1)),x.2.2.2.1,x.2.2.2.2)))
 (some (Sum.inl ()))
def zcN (a0:(List zd)) (a1:Bool) (a2:(List Int)):Option Int :=
 ((lp yd zr) (a0,((List.length a0:Nat):Int),0,a1,a2)).bind fun r8 =>
 qH r8
 (fun z9=>some (-1))
 (fun z10=>some z10)
def zaf (a0:(List zd)) (a1:Bool) (a2:(List Int)):Option Bool :=
 (zcN a0 a1 a2).bind fun r2 =>
 some (decide (r2 ≥ 0))
def qA (rec:((List zd)×Int×Int×(List zd))→Option (List zd)) (x:((List zd)×Int×Int×(List zd))):Option (List zd) :=
 cond (decide (x.2.2.1 < x.2.1))
 ((gx x.1 x.2.2.1).bind fun e5 =>
  (zaf x.2.2.2 e5.1 e5.2).bind fun r6 =>
  cond (!r6)
  (cond (qt (List.length x.2.2.2+List.length ([(e5.1,e5.2)]:List zd)) 32)
   (rec (x.1,x.2.1,(IntKind.wrap .i64 (x.2.2.1+1)),(x.2.2.2++([(e5.1,e5.2)]:List zd))))
   (none))
  (rec (x.1,x.2.1,(IntKind.wrap .i64 (x.2.2.1+1)),x.2.2.2)))
 (some x.2.2.2)
def zdn (a0:(List zd)):Option (List zd) :=
 ((lp qA zr) (a0,((List.length a0:Nat):Int),0,([]:(List zd)))).bind fun r8 =>
 some r8
def zcq (a0:(List Int)) (a1:(List Int)):Option Bool :=
 (qo a1 a0).bind fun r2 =>
 some r2
def zW (rec:((List (List Int))×Int×Int×(List Int))→Option (Unit⊕Int)) (x:((List (List Int))×Int×Int×(List Int))):Option (Unit⊕Int) :=
 cond (decide (x.2.2.1 < x.2.1))
 ((gx x.1 x.2.2.1).bind fun e3 =>
  (zcq e3 x.2.2.2).bind fun r4 =>
  cond r4
  (some (Sum.inr x.2.2.1))
  (rec (x.1,x.2.1,(IntKind.wrap .i64 (x.2.2.1+1)),x.2.2.2)))
 (some (Sum.inl ()))
def zbU (a0:(List (List Int))) (a1:(List Int)):Option Int :=
 ((lp zW zr) (a0,((List.length a0:Nat):Int),0,a1)).bind fun r8 =>
 qH r8
 (fun z9=>some (-1))
 (fun z10=>some z10)
def qN (a0:(List (List Int))) (a1:(List Int)):Option Bool :=
 (zbU a0 a1).bind fun r2 =>
 some (decide (r2 ≥ 0))
def yy (rec:(Int×Int×(List Int)×Int×(List Int))→Option ((List Int)×Int×(List Int))) (x:(Int×Int×(List Int)×Int×(List Int))):Option ((List Int)×Int×(List Int)) :=
 cond (decide (x.2.1 < x.1))
 ((inR x.2.1 (List.length x.2.2.2.2)).bind fun k33 =>
  (x.2.2.2.2[k33]?).bind fun x34 =>
  cond (decide (x34 ≥ 0))
  (rec (x.1,(IntKind.wrap .i64 (x.2.1+1)),x.2.2.1,x.2.2.2.1,x.2.2.2.2))
  ((qh x34).bind fun r35 =>
   (inR r35 24).bind fun k36 =>
   (x.2.2.1[k36]?).bind fun x37 =>
   cond (x37 == 0)
   ((qh x34).bind fun r38 =>
    (inR r38 24).bind fun k39 =>
    (x.2.2.1[k39]?).bind fun x40 =>
    (qh x34).bind fun r41 =>
    (inR r41 24).bind fun k42 =>
    ((List.set x.2.2.1 k39 (IntKind.wrap .i64 (x.2.2.2.1+1)))[k42]?).bind fun x43 =>
    (inR x.2.1 (List.length x.2.2.2.2)).bind fun k44 =>
    (x.2.2.2.2[k44]?).bind fun x45 =>
    rec (x.1,(IntKind.wrap .i64 (x.2.1+1)),(List.set x.2.2.1 k39 (IntKind.wrap .i64 (x.2.2.2.1+1))),(IntKind.wrap .i64 (x.2.2.2.1+1)),(List.set x.2.2.2.2 k44 (zDG .i64 x43))))
   ((qh x34).bind fun r46 =>
    (inR r46 24).bind fun k47 =>
    (x.2.2.1[k47]?).bind fun x48 =>
    (inR x.2.1 (List.length x.2.2.2.2)).bind fun k49 =>
    (x.2.2.2.2[k49]?).bind fun x50 =>
    rec (x.1,(IntKind.wrap .i64 (x.2.1+1)),x.2.2.1,x.2.2.2.1,(List.set x.2.2.2.2 k49 (zDG .i64 x48))))))
 (some (x.2.2.1,x.2.2.2.1,x.2.2.2.2))
def yW (a0:(List Int)) (a1:(List Int)) (a2:Int):Option ((List Int)×(List Int)×Int) :=
 (zbo a0).bind fun r52 =>
 ((lp yy zr) (((List.length r52:Nat):Int),0,a1,a2,r52)).bind fun r53 =>
 cond (Nat.beq (List.length a1) (List.length r53.1)&&true)
 (some (r53.2.2,r53.1,r53.2.1))
 (none)
def yM (rec:((List zd)×Int×Int×(List Int)×Int×(List zd)×(List (List Int))×(List zd))→Option ((List Int)×Int×(List zd)×(List (List Int))×(List zd))) (x:((List zd)×Int×Int×(List Int)×Int×(List zd)×(List (List Int))×(List zd))):Option ((List Int)×Int×(List zd)×(List (List Int))×(List zd)) :=
 cond (decide (x.2.2.1 < x.2.1))
 ((gx x.1 x.2.2.1).bind fun e19 =>
  (yW e19.2 x.2.2.2.1 x.2.2.2.2.1).bind fun r20 =>
  cond (qt (List.length x.2.2.2.2.2.2.2+List.length ([(e19.1,r20.1)]:List zd)) 32)
  (rec (x.1,x.2.1,(IntKind.wrap .i64 (x.2.2.1+1)),r20.2.1,r20.2.2,x.2.2.2.2.2.1,x.2.2.2.2.2.2.1,(x.2.2.2.2.2.2.2++([(e19.1,r20.1)]:List zd))))
  (none))
 (some (x.2.2.2.1,x.2.2.2.2.1,x.2.2.2.2.2.1,x.2.2.2.2.2.2.1,x.2.2.2.2.2.2.2))
def yV (rec:((List (List Int))×Int×Int×(List Int)×Int×(List zd)×(List (List Int))×(List zd)×(List zd)×(List (List Int)))→Option ((List Int)×Int×(List zd)×(List (List Int)))) (x:((List (List Int))×Int×Int×(List Int)×Int×(List zd)×(List (List Int))×(List zd)×(List zd)×(List (List Int)))):Option ((List Int)×Int×(List zd)×(List (List Int))) :=
 cond (decide (x.2.2.1 < x.2.1))
 ((gx x.1 x.2.2.1).bind fun e12 =>
  (yW e12 x.2.2.2.1 x.2.2.2.2.1).bind fun r13 =>
  cond (qt (List.length x.2.2.2.2.2.2.2.2.2+List.length ([r13.1]:List (List Int))) 24)
  (rec (x.1,x.2.1,(IntKind.wrap .i64 (x.2.2.1+1)),r13.2.1,r13.2.2,x.2.2.2.2.2.1,x.2.2.2.2.2.2.1,x.2.2.2.2.2.2.2.1,x.2.2.2.2.2.2.2.2.1,(x.2.2.2.2.2.2.2.2.2++([r13.1]:List (List Int)))))
  (none))
 (some (x.2.2.2.1,x.2.2.2.2.1,x.2.2.2.2.2.2.2.2.1,x.2.2.2.2.2.2.2.2.2))
def yR (rec:((List zd)×Int×Int×(List Int)×Int×(List zd)×(List (List Int))×(List zd)×(List zd))→Option ((List Int)×Int×(List zd))) (x:((List zd)×Int×Int×(List Int)×Int×(List zd)×(List (List Int))×(List zd)×(List zd))):Option ((List Int)×Int×(List zd)) :=
 cond (decide (x.2.2.1 < x.2.1))
 ((gx x.1 x.2.2.1).bind fun e5 =>
  (yW e5.2 x.2.2.2.1 x.2.2.2.2.1).bind fun r6 =>
  cond (qt (List.length x.2.2.2.2.2.2.2.2+List.length ([(e5.1,r6.1)]:List zd)) 32)
  (rec (x.1,x.2.1,(IntKind.wrap .i64 (x.2.2.1+1)),r6.2.1,r6.2.2,x.2.2.2.2.2.1,x.2.2.2.2.2.2.1,x.2.2.2.2.2.2.2.1,(x.2.2.2.2.2.2.2.2++([(e5.1,r6.1)]:List zd))))
  (none))
 (some (x.2.2.2.1,x.2.2.2.2.1,x.2.2.2.2.2.2.2.2))
def zeJ (a0:(List zd)) (a1:(List (List Int))) (a2:(List zd)) (a3:(List Int)) (a4:Int):Option ((List zd)×(List (List Int))×(List zd)×(List Int)×Int) :=
 ((lp yR zr) (a0,((List.length a0:Nat):Int),0,a3,a4,a0,a1,a2,([]:(List zd)))).bind fun r22 =>
 ((lp yV zr) (a1,((List.length a1:Nat):Int),0,r22.1,r22.2.1,a0,a1,a2,r22.2.2,([]:(List (List Int))))).bind fun r23 =>
 ((lp yM zr) (a2,((List.length a2:Nat):Int),0,r23.1,r23.2.1,r23.2.2.1,r23.2.2.2,([]:(List zd)))).bind fun r24 =>
 cond (Nat.beq (List.length a3) (List.length r24.1)&&true)
 (some (r24.2.2.1,r24.2.2.2.1,r24.2.2.2.2,r24.1,r24.2.1))
 (none)
def qD (rec:((List (List Int))×Int×Int×(List zd)×(List zd)×(List (List Int)))→Option ((List zd)×(List zd)×(List (List Int)))) (x:((List (List Int))×Int×Int×(List zd)×(List zd)×(List (List Int)))):Option ((List zd)×(List zd)×(List (List Int))) :=
 cond (decide (x.2.2.1 < x.2.1))
 ((gx x.1 x.2.2.1).bind fun e7 =>
  (qN x.2.2.2.2.2 e7).bind fun r8 =>
  cond (!r8)
  (cond (qt (List.length x.2.2.2.2.2+List.length ([e7]:List (List Int))) 24)
   (rec (x.1,x.2.1,(IntKind.wrap .i64 (x.2.2.1+1)),x.2.2.2.1,x.2.2.2.2.1,(x.2.2.2.2.2++([e7]:List (List Int)))))
   (none))
  (rec (x.1,x.2.1,(IntKind.wrap .i64 (x.2.2.1+1)),x.2.2.2.1,x.2.2.2.2.1,x.2.2.2.2.2)))
 (some (x.2.2.2.1,x.2.2.2.2.1,x.2.2.2.2.2))
def zen (a0:(List zd)) (a1:(List (List Int))) (a2:(List zd)):Option ((List zd)×(List (List Int))×(List zd)) :=
 (zdn a0).bind fun r11 =>
 (zdn a2).bind fun r12 =>
 ((lp qD zr) (a1,((List.length a1:Nat):Int),0,r11,r12,([]:(List (List Int))))).bind fun r13 =>
 (zeJ r13.1 r13.2.2 r13.2.1 (List.replicate 24 (0:Int)) 0).bind fun r14 =>
 some (r14.1,r14.2.1,r14.2.2.1)
def zb5 (a0:(List zm)) (a1:(List zd)) (a2:(List (List Int))) (a3:(List zd)):Option ((List zd)×(List (List Int))×Int×(List zd)) :=
 (zbN a0 a1 a2 a3).bind fun r3 =>
 cond (!r3)
 (some (([]:(List zd)),([]:(List (List Int))),800,([]:(List zd))))
 ((zen a1 a2 a3).bind fun r4 =>
  some (r4.1,r4.2.1,0,r4.2.2))
def za6 (rec:((List zm)×(List Int)×Int×(List (List Int)))→Option ((List (List Int))⊕(List (List Int)))) (x:((List zm)×(List Int)×Int×(List (List Int)))):Option ((List (List Int))⊕(List (List Int))) :=
 cond (decide (x.2.2.1 < ((List.length x.2.1:Nat):Int)))
 ((zek x.1 x.2.1 x.2.2.1).bind fun r5 =>
  cond (!r5.2)
  (some (Sum.inr x.2.2.2))
  ((zbS x.2.1 (some x.2.2.1) (some r5.1)).bind fun y6 =>
   cond (qt (List.length x.2.2.2+List.length ([y6]:List (List Int))) 24)
   (rec (x.1,x.2.1,r5.1,(x.2.2.2++([y6]:List (List Int)))))
   (none)))
 (some (Sum.inl x.2.2.2))
def zbm (a0:(List zm)) (a1:(List Int)):Option (List (List Int)) :=
 ((lp za6 zr) (a0,a1,0,([]:(List (List Int))))).bind fun r10 =>
 qH r10
 (fun z11=>some z11)
 (fun z12=>some z12)
def zdI (a0:Int):Option Int :=
 some a0
def yO (rec:((List Int)×(List Int)×Int)→Option (Unit⊕Bool)) (x:((List Int)×(List Int)×Int)):Option (Unit⊕Bool) :=
 cond (decide (x.2.2 < ((List.length x.1:Nat):Int)))
 ((gx x.1 x.2.2).bind fun e3 =>
  (gx x.2.1 x.2.2).bind fun e4 =>
  cond (e3 != e4)
  (some (Sum.inr false))
  (rec (x.1,x.2.1,(IntKind.wrap .i64 (x.2.2+1)))))
 (some (Sum.inl ()))
def zaP (a0:(List Int)) (a1:(List Int)):Option Bool :=
 cond (((List.length a0:Nat):Int) != ((List.length a1:Nat):Int))
 (some false)
 (((lp yO zr) (a0,a1,0)).bind fun r8 =>
  qH r8
  (fun z9=>some true)
  (fun z10=>some z10))
def yS (rec:((List zd)×(List zd)×Int)→Option (Unit⊕Bool)) (x:((List zd)×(List zd)×Int)):Option (Unit⊕Bool) :=
 cond (decide (x.2.2 < ((List.length x.1:Nat):Int)))
 ((gx x.1 x.2.2).bind fun e6 =>
  (gx x.2.1 x.2.2).bind fun e7 =>
  cond (!(e6.1 == e7.1))
  (some (Sum.inr false))
  ((gx x.1 x.2.2).bind fun e8 =>
   (gx x.2.1 x.2.2).bind fun e9 =>
   (zaP e8.2 e9.2).bind fun r10 =>
   cond (!r10)
   (some (Sum.inr false))
   (rec (x.1,x.2.1,(IntKind.wrap .i64 (x.2.2+1))))))
 (some (Sum.inl ()))
def zbT (a0:(List zd)) (a1:(List zd)):Option Bool :=
 cond (((List.length a0:Nat):Int) != ((List.length a1:Nat):Int))
 (some false)
 (((lp yS zr) (a0,a1,0)).bind fun r14 =>
  qH r14
  (fun z15=>some true)
  (fun z16=>some z16))
def yT (rec:((List (List Int))×(List (List Int))×Int)→Option (Unit⊕Bool)) (x:((List (List Int))×(List (List Int))×Int)):Option (Unit⊕Bool) :=
 cond (decide (x.2.2 < ((List.length x.1:Nat):Int)))
 ((gx x.1 x.2.2).bind fun e4 =>
  (gx x.2.1 x.2.2).bind fun e5 =>
  (zaP e4 e5).bind fun r6 =>
  cond (!r6)
  (some (Sum.inr false))
  (rec (x.1,x.2.1,(IntKind.wrap .i64 (x.2.2+1)))))
 (some (Sum.inl ()))
def zc1 (a0:(List (List Int))) (a1:(List (List Int))):Option Bool :=
 cond (((List.length a0:Nat):Int) != ((List.length a1:Nat):Int))
 (some false)
 (((lp yT zr) (a0,a1,0)).bind fun r10 =>
  qH r10
  (fun z11=>some true)
  (fun z12=>some z12))
def yA (a0:(List zd)) (a1:(List (List Int))) (a2:(List zd)) (a3:(List zd)) (a4:(List (List Int))) (a5:(List zd)):Option Bool :=
 (zbT a0 a3).bind fun r4 =>
 cond r4
 ((zc1 a1 a4).bind fun r5 =>
  cond r5
  ((zbT a2 a5).bind fun r6 =>
   some r6)
  (some false))
 (some false)
end Go.Abs.Q
namespace Go.Abs.Q
open Go Go.Abs
section
theorem zl {X Y:Type} (s:(X→Option Y)→X→Option Y) (k:Nat):lp s (k+1)=s (lp s k):=rfl
theorem zP {α:Type} (xs:List α) (i:Nat):gx xs (i:Int)=xs[i]? := by
 unfold gx
 rw[show decide ((0:Int)≤(i:Int))=true from by simp]
 rfl
theorem qx {α:Type} (xs:List α):gx xs 0=xs[0]? := zP xs 0
theorem zrM {α:Type} {xs:List α} {i:Int} (h0:0≤i) (h:i < xs.length):∃ x,gx xs i=some x∧x∈xs∧xs[i.toNat]? = some x:=by
 have hi:i.toNat < xs.length:=by omega
 refine ⟨xs[i.toNat],?_,List.getElem_mem hi,List.getElem?_eq_getElem hi⟩
 unfold gx
 rw[show decide ((0:Int)≤i)=true from by simp; omega,cond_true,List.getElem?_eq_getElem hi]
theorem zaJ {i l:Nat} (h:i < l):inR (i:Int) l=some i:=by
 unfold inR
 simp [h]
theorem yk {n:Int} (h1 : -9223372036854775808≤n) (h2:n≤9223372036854775807):IntKind.wrap .i64 n=n:=by
 simp [IntKind.wrap,IntKind.signed,IntKind.bits]
 omega
theorem zO {i l:Nat} (h:i < l) (hl:l≤maxLen):IntKind.wrap .i64 ((i:Int)+1)=((i+1:Nat):Int):=by
 unfold maxLen at hl
 rw[yk] <;> omega
theorem zM {i l:Nat} (h:i < l):decide ((i:Int) < (l:Int))=true:=by simp [h]
theorem zy {i l:Nat} (h:l≤i):decide ((i:Int) < (l:Int))=false:=by simp; omega
theorem zo {α:Type} {xs:List α} {i:Nat} (h:xs.drop i=[]):xs.length≤i:=by simpa using h
theorem zn {α:Type} {xs es:List α} {e:α} {i:Nat} (h:xs.drop i=e :: es):i < xs.length:=by
 rw[← Nat.not_le]
 intro hn
 rw[List.drop_eq_nil_iff.2 hn] at h
 cases h
theorem zk {α:Type} {xs es:List α} {e:α} {i:Nat} (h:xs.drop i=e :: es):xs[i]? = some e:=by
 have:=congrArg (·[0]?) h
 simpa using this
theorem zj {α:Type} {xs es:List α} {e:α} {i:Nat} (h:xs.drop i=e :: es):xs.drop (i+1)=es:=by
 rw[← List.drop_drop,h]
 rfl
end
end Go.Abs.Q
namespace Go.Abs.Q
open Go Go.Abs
def yi:List UInt8→Option (Unit⊕Bool)
 | []=>some (Sum.inl ())
 | e :: es =>
  (zc5 ((UInt8.toNat e:Nat):Int)).bind fun r8 =>
  cond (!r8)
  (cond (decide (((UInt8.toNat e:Nat):Int) < 48))
   (some (Sum.inr false))
   (cond (decide (((UInt8.toNat e:Nat):Int) > 57))
    (some (Sum.inr false))
    (yi es)))
  (yi es)
theorem zgJ (s0:Str) (hl:List.length s0≤maxLen):∀ (es:List UInt8) (i:Nat) (k:Nat),s0.drop i=es→es.length < k→lp qB k (s0,((List.length s0:Nat):Int),(i:Int))=yi es:=by
 intro es
 induction es with
 | nil =>
  intro i k h hk
  obtain⟨k,rfl⟩:∃ k',k=k'+1:=⟨k - 1,by omega⟩
  rw[zl]
  generalize lp qB k=rec
  unfold qB yi
  simp only[zy (zo h),cond_false]
 | cons e es ih =>
  intro i k h hk
  obtain⟨k,rfl⟩:∃ k',k=k'+1:=⟨k - 1,by omega⟩
  rw[zl]
  have hi:=zn h
  have hk2:es.length < k:=Nat.lt_of_succ_lt_succ hk
  have key:=fun (_:Unit)=>ih (i+1) k (zj h) hk2
  generalize lp qB k=rec at key ⊢
  unfold qB yi
  simp only[zM hi,cond_true,zP,zk h,Option.bind_some,zO hi hl,key ()]
theorem zf5 (s0:Str) (hl:List.length s0≤maxLen):lp qB zr (s0,((List.length s0:Nat):Int),0)=yi s0 :=
 zgJ s0 hl s0 0 zr rfl (Nat.lt_of_le_of_lt hl (by decide))
def qi (s1:Str):List zm→Nat→Option (Unit⊕Int)
 | [],i=>some (Sum.inl ())
 | e :: es,i =>
  cond (e.1 == s1)
  (some (Sum.inr (i:Int)))
  (qi s1 es (i+1))
theorem zhU (s0:(List zm)) (s1:Str) (hl:List.length s0≤maxLen):∀ (es:List zm) (i:Nat) (k:Nat),s0.drop i=es→es.length < k→lp zaw k (s0,s1,((List.length s0:Nat):Int),(i:Int))=qi s1 es i:=by
 intro es
 induction es with
 | nil =>
  intro i k h hk
  obtain⟨k,rfl⟩:∃ k',k=k'+1:=⟨k - 1,by omega⟩
  rw[zl]
  generalize lp zaw k=rec
  unfold zaw qi
  simp only[zy (zo h),cond_false]
 | cons e es ih =>
  intro i k h hk
  obtain⟨k,rfl⟩:∃ k',k=k'+1:=⟨k - 1,by omega⟩
  rw[zl]
  have hi:=zn h
  have hk2:es.length < k:=Nat.lt_of_succ_lt_succ hk
  have key:=fun (_:Unit)=>ih (i+1) k (zj h) hk2
  generalize lp zaw k=rec at key ⊢
  unfold zaw qi
  simp only[zM hi,cond_true,zP,zk h,Option.bind_some,zO hi hl,key ()]
theorem zhz (s0:(List zm)) (s1:Str) (hl:List.length s0≤maxLen):lp zaw zr (s0,s1,((List.length s0:Nat):Int),0)=qi s1 s0 0 :=
 zhU s0 s1 hl s0 0 zr rfl (Nat.lt_of_le_of_lt hl (by decide))
def za7 (s0:(List zm)):List zm→Nat→Option (Unit⊕Bool)
 | [],i=>some (Sum.inl ())
 | e :: es,i =>
  (zdb e.1 e.2.1 e.2.2.1 e.2.2.2).bind fun r7 =>
  cond (!r7)
  (some (Sum.inr false))
  ((zeh s0 e.1).bind fun r9 =>
   cond (r9 != (i:Int))
   (some (Sum.inr false))
   (za7 s0 es (i+1)))
theorem ziD (s0:(List zm)) (hl:List.length s0≤maxLen):∀ (es:List zm) (i:Nat) (k:Nat),s0.drop i=es→es.length < k→lp zbj k (s0,(i:Int))=za7 s0 es i:=by
 intro es
 induction es with
 | nil =>
  intro i k h hk
  obtain⟨k,rfl⟩:∃ k',k=k'+1:=⟨k - 1,by omega⟩
  rw[zl]
  generalize lp zbj k=rec
  unfold zbj za7
  simp only[zy (zo h),cond_false]
 | cons e es ih =>
  intro i k h hk
  obtain⟨k,rfl⟩:∃ k',k=k'+1:=⟨k - 1,by omega⟩
  rw[zl]
  have hi:=zn h
  have hk2:es.length < k:=Nat.lt_of_succ_lt_succ hk
  have key:=fun (_:Unit)=>ih (i+1) k (zj h) hk2
  generalize lp zbj k=rec at key ⊢
  unfold zbj za7
  simp only[zM hi,cond_true,zP,zk h,Option.bind_some,zO hi hl,key ()]
def yj (s0:(List zm)):List zd→Int→Option (Int⊕(Int×Bool))
 | [],s1=>some (Sum.inl s1)
 | e :: es,s1 =>
  (zhe s0 e.1 e.2).bind fun r4 =>
  cond (!r4)
  (some (Sum.inr (0,false)))
  (yj s0 es (IntKind.wrap .i64 (s1+((List.length e.2:Nat):Int))))
theorem zeu (s0:(List zm)) (s2:(List zd)) (hl:List.length s2≤maxLen):∀ (es:List zd) (i:Nat) (k:Nat) (s1:Int),s2.drop i=es→es.length < k→lp yE k (s0,s1,s2,((List.length s2:Nat):Int),(i:Int))=yj s0 es s1:=by
 intro es
 induction es with
 | nil =>
  intro i k s1 h hk
  obtain⟨k,rfl⟩:∃ k',k=k'+1:=⟨k - 1,by omega⟩
  rw[zl]
  generalize lp yE k=rec
  unfold yE yj
  simp only[zy (zo h),cond_false]
 | cons e es ih =>
  intro i k s1 h hk
  obtain⟨k,rfl⟩:∃ k',k=k'+1:=⟨k - 1,by omega⟩
  rw[zl]
  have hi:=zn h
  have hk2:es.length < k:=Nat.lt_of_succ_lt_succ hk
  have key:=fun s1=>ih (i+1) k s1 (zj h) hk2
  generalize lp yE k=rec at key ⊢
  unfold yE yj
  simp only[zM hi,cond_true,zP,zk h,Option.bind_some,zO hi hl,key]
theorem zec (s0:(List zm)) (s2:(List zd)) (s1:Int) (hl:List.length s2≤maxLen):lp yE zr (s0,s1,s2,((List.length s2:Nat):Int),0)=yj s0 s2 s1 :=
 zeu s0 s2 hl s2 0 zr s1 rfl (Nat.lt_of_le_of_lt hl (by decide))
def zV (s0:(List zm)):List (List Int)→Nat→Int→Int→Option (Int⊕(Int×Bool))
 | [],i,s1,s2=>some (Sum.inl s1)
 | e :: es,i,s1,s2 =>
  (zeo s0 e).bind fun r4 =>
  cond ((i:Int) == 0)
  (cond (r4.2 != 0)
   (some (Sum.inr (0,false)))
   (cond (r4.1 != r4.1)
    (some (Sum.inr (0,false)))
    (zV s0 es (i+1) (IntKind.wrap .i64 (s1+((List.length e:Nat):Int))) r4.1)))
  (cond (r4.2 != 0)
   (some (Sum.inr (0,false)))
   (cond (r4.1 != s2)
    (some (Sum.inr (0,false)))
    (zV s0 es (i+1) (IntKind.wrap .i64 (s1+((List.length e:Nat):Int))) s2)))
theorem zes (s0:(List zm)) (s3:(List (List Int))) (hl:List.length s3≤maxLen):∀ (es:List (List Int)) (i:Nat) (k:Nat) (s1:Int) (s2:Int),s3.drop i=es→es.length < k→lp yF k (s0,s1,s2,s3,((List.length s3:Nat):Int),(i:Int))=zV s0 es i s1 s2:=by
 intro es
 induction es with
 | nil =>
  intro i k s1 s2 h hk
  obtain⟨k,rfl⟩:∃ k',k=k'+1:=⟨k - 1,by omega⟩
  rw[zl]
  generalize lp yF k=rec
  unfold yF zV
  simp only[zy (zo h),cond_false]
 | cons e es ih =>
  intro i k s1 s2 h hk
  obtain⟨k,rfl⟩:∃ k',k=k'+1:=⟨k - 1,by omega⟩
  rw[zl]
  have hi:=zn h
  have hk2:es.length < k:=Nat.lt_of_succ_lt_succ hk
  have key:=fun s1 s2=>ih (i+1) k s1 s2 (zj h) hk2
  generalize lp yF k=rec at key ⊢
  unfold yF zV
  simp only[zM hi,cond_true,zP,zk h,Option.bind_some,zO hi hl,key]
theorem zd9 (s0:(List zm)) (s3:(List (List Int))) (s1:Int) (s2:Int) (hl:List.length s3≤maxLen):lp yF zr (s0,s1,s2,s3,((List.length s3:Nat):Int),0)=zV s0 s3 0 s1 s2 :=
 zes s0 s3 hl s3 0 zr s1 s2 rfl (Nat.lt_of_le_of_lt hl (by decide))
def ql (s1:(List Int)):List Int→Nat→Option (Unit⊕Bool)
 | [],i=>some (Sum.inl ())
 | e :: es,i =>
  (gx s1 (i:Int)).bind fun e4 =>
  cond (e != e4)
  (some (Sum.inr false))
  (ql s1 es (i+1))
theorem zfH (s0:(List Int)) (s1:(List Int)) (hl:List.length s0≤maxLen):∀ (es:List Int) (i:Nat) (k:Nat),s0.drop i=es→es.length < k→lp qn k (s0,s1,((List.length s0:Nat):Int),(i:Int))=ql s1 es i:=by
 intro es
 induction es with
 | nil =>
  intro i k h hk
  obtain⟨k,rfl⟩:∃ k',k=k'+1:=⟨k - 1,by omega⟩
  rw[zl]
  generalize lp qn k=rec
  unfold qn ql
  simp only[zy (zo h),cond_false]
 | cons e es ih =>
  intro i k h hk
  obtain⟨k,rfl⟩:∃ k',k=k'+1:=⟨k - 1,by omega⟩
  rw[zl]
  have hi:=zn h
  have hk2:es.length < k:=Nat.lt_of_succ_lt_succ hk
  have key:=fun (_:Unit)=>ih (i+1) k (zj h) hk2
  generalize lp qn k=rec at key ⊢
  unfold qn ql
  simp only[zM hi,cond_true,zP,zk h,Option.bind_some,zO hi hl,key ()]
theorem zfr (s0:(List Int)) (s1:(List Int)) (hl:List.length s0≤maxLen):lp qn zr (s0,s1,((List.length s0:Nat):Int),0)=ql s1 s0 0 :=
 zfH s0 s1 hl s0 0 zr rfl (Nat.lt_of_le_of_lt hl (by decide))
def yl (s3:Bool) (s4:(List Int)):List zd→Nat→Option (Unit⊕Int)
 | [],i=>some (Sum.inl ())
 | e :: es,i =>
  (zcp e.1 e.2 s3 s4).bind fun r4 =>
  cond r4
  (some (Sum.inr (i:Int)))
  (yl s3 s4 es (i+1))
theorem zdR (s0:(List zd)) (s3:Bool) (s4:(List Int)) (hl:List.length s0≤maxLen):∀ (es:List zd) (i:Nat) (k:Nat),s0.drop i=es→es.length < k→lp yd k (s0,((List.length s0:Nat):Int),(i:Int),s3,s4)=yl s3 s4 es i:=by
 intro es
 induction es with
 | nil =>
  intro i k h hk
  obtain⟨k,rfl⟩:∃ k',k=k'+1:=⟨k - 1,by omega⟩
  rw[zl]
  generalize lp yd k=rec
  unfold yd yl
  simp only[zy (zo h),cond_false]
 | cons e es ih =>
  intro i k h hk
  obtain⟨k,rfl⟩:∃ k',k=k'+1:=⟨k - 1,by omega⟩
  rw[zl]
  have hi:=zn h
  have hk2:es.length < k:=Nat.lt_of_succ_lt_succ hk
  have key:=fun (_:Unit)=>ih (i+1) k (zj h) hk2
  generalize lp yd k=rec at key ⊢
  unfold yd yl
  simp only[zM hi,cond_true,zP,zk h,Option.bind_some,zO hi hl,key ()]
theorem zdx (s0:(List zd)) (s3:Bool) (s4:(List Int)) (hl:List.length s0≤maxLen):lp yd zr (s0,((List.length s0:Nat):Int),0,s3,s4)=yl s3 s4 s0 0 :=
 zdR s0 s3 s4 hl s0 0 zr rfl (Nat.lt_of_le_of_lt hl (by decide))
def y0:List zd→(List zd)→Option (List zd)
 | [],s3=>some s3
 | e :: es,s3 =>
  (zaf s3 e.1 e.2).bind fun r6 =>
  cond (!r6)
  (cond (qt (List.length s3+List.length ([(e.1,e.2)]:List zd)) 32)
   (y0 es (s3++([(e.1,e.2)]:List zd)))
   (none))
  (y0 es s3)
theorem zgG (s0:(List zd)) (hl:List.length s0≤maxLen):∀ (es:List zd) (i:Nat) (k:Nat) (s3:(List zd)),s0.drop i=es→es.length < k→lp qA k (s0,((List.length s0:Nat):Int),(i:Int),s3)=y0 es s3:=by
 intro es
 induction es with
 | nil =>
  intro i k s3 h hk
  obtain⟨k,rfl⟩:∃ k',k=k'+1:=⟨k - 1,by omega⟩
  rw[zl]
  generalize lp qA k=rec
  unfold qA y0
  simp only[zy (zo h),cond_false]
 | cons e es ih =>
  intro i k s3 h hk
  obtain⟨k,rfl⟩:∃ k',k=k'+1:=⟨k - 1,by omega⟩
  rw[zl]
  have hi:=zn h
  have hk2:es.length < k:=Nat.lt_of_succ_lt_succ hk
  have key:=fun s3=>ih (i+1) k s3 (zj h) hk2
  generalize lp qA k=rec at key ⊢
  unfold qA y0
  simp only[zM hi,cond_true,zP,zk h,Option.bind_some,zO hi hl,key]
theorem zfB (s0:(List zd)) (s3:(List zd)) (hl:List.length s0≤maxLen):lp qA zr (s0,((List.length s0:Nat):Int),0,s3)=y0 s0 s3 :=
 zgG s0 hl s0 0 zr s3 rfl (Nat.lt_of_le_of_lt hl (by decide))
def ya (s3:(List Int)):List (List Int)→Nat→Option (Unit⊕Int)
 | [],i=>some (Sum.inl ())
 | e :: es,i =>
  (zcq e s3).bind fun r4 =>
  cond r4
  (some (Sum.inr (i:Int)))
  (ya s3 es (i+1))
theorem zdf (s0:(List (List Int))) (s3:(List Int)) (hl:List.length s0≤maxLen):∀ (es:List (List Int)) (i:Nat) (k:Nat),s0.drop i=es→es.length < k→lp zW k (s0,((List.length s0:Nat):Int),(i:Int),s3)=ya s3 es i:=by
 intro es
 induction es with
 | nil =>
  intro i k h hk
  obtain⟨k,rfl⟩:∃ k',k=k'+1:=⟨k - 1,by omega⟩
  rw[zl]
  generalize lp zW k=rec
  unfold zW ya
  simp only[zy (zo h),cond_false]
 | cons e es ih =>
  intro i k h hk
  obtain⟨k,rfl⟩:∃ k',k=k'+1:=⟨k - 1,by omega⟩
  rw[zl]
  have hi:=zn h
  have hk2:es.length < k:=Nat.lt_of_succ_lt_succ hk
  have key:=fun (_:Unit)=>ih (i+1) k (zj h) hk2
  generalize lp zW k=rec at key ⊢
  unfold zW ya
  simp only[zM hi,cond_true,zP,zk h,Option.bind_some,zO hi hl,key ()]
theorem zc0 (s0:(List (List Int))) (s3:(List Int)) (hl:List.length s0≤maxLen):lp zW zr (s0,((List.length s0:Nat):Int),0,s3)=ya s3 s0 0 :=
 zdf s0 s3 hl s0 0 zr rfl (Nat.lt_of_le_of_lt hl (by decide))
def yB (s5:(List zd)) (s6:(List (List Int))):List zd→(List Int)→Int→(List zd)→Option ((List Int)×Int×(List zd)×(List (List Int))×(List zd))
 | [],s3,s4,s7=>some (s3,s4,s5,s6,s7)
 | e :: es,s3,s4,s7 =>
  (yW e.2 s3 s4).bind fun r20 =>
  cond (qt (List.length s7+List.length ([(e.1,r20.1)]:List zd)) 32)
  (yB s5 s6 es r20.2.1 r20.2.2 (s7++([(e.1,r20.1)]:List zd)))
  (none)
theorem zfk (s0:(List zd)) (s5:(List zd)) (s6:(List (List Int))) (hl:List.length s0≤maxLen):∀ (es:List zd) (i:Nat) (k:Nat) (s3:(List Int)) (s4:Int) (s7:(List zd)),s0.drop i=es→es.length < k→lp yM k (s0,((List.length s0:Nat):Int),(i:Int),s3,s4,s5,s6,s7)=yB s5 s6 es s3 s4 s7:=by
 intro es
 induction es with
 | nil =>
  intro i k s3 s4 s7 h hk
  obtain⟨k,rfl⟩:∃ k',k=k'+1:=⟨k - 1,by omega⟩
  rw[zl]
  generalize lp yM k=rec
  unfold yM yB
  simp only[zy (zo h),cond_false]
 | cons e es ih =>
  intro i k s3 s4 s7 h hk
  obtain⟨k,rfl⟩:∃ k',k=k'+1:=⟨k - 1,by omega⟩
  rw[zl]
  have hi:=zn h
  have hk2:es.length < k:=Nat.lt_of_succ_lt_succ hk
  have key:=fun s3 s4 s7=>ih (i+1) k s3 s4 s7 (zj h) hk2
  generalize lp yM k=rec at key ⊢
  unfold yM yB
  simp only[zM hi,cond_true,zP,zk h,Option.bind_some,zO hi hl,key]
theorem zey (s0:(List zd)) (s5:(List zd)) (s6:(List (List Int))) (s3:(List Int)) (s4:Int) (s7:(List zd)) (hl:List.length s0≤maxLen):lp yM zr (s0,((List.length s0:Nat):Int),0,s3,s4,s5,s6,s7)=yB s5 s6 s0 s3 s4 s7 :=
 zfk s0 s5 s6 hl s0 0 zr s3 s4 s7 rfl (Nat.lt_of_le_of_lt hl (by decide))
def yv (s8:(List zd)):List (List Int)→(List Int)→Int→(List (List Int))→Option ((List Int)×Int×(List zd)×(List (List Int)))
 | [],s3,s4,s9=>some (s3,s4,s8,s9)
 | e :: es,s3,s4,s9 =>
  (yW e s3 s4).bind fun r13 =>
  cond (qt (List.length s9+List.length ([r13.1]:List (List Int))) 24)
  (yv s8 es r13.2.1 r13.2.2 (s9++([r13.1]:List (List Int))))
  (none)
theorem zfd (s0:(List (List Int))) (s5:(List zd)) (s6:(List (List Int))) (s7:(List zd)) (s8:(List zd)) (hl:List.length s0≤maxLen):∀ (es:List (List Int)) (i:Nat) (k:Nat) (s3:(List Int)) (s4:Int) (s9:(List (List Int))),s0.drop i=es→es.length < k→lp yV k (s0,((List.length s0:Nat):Int),(i:Int),s3,s4,s5,s6,s7,s8,s9)=yv s8 es s3 s4 s9:=by
 intro es
 induction es with
 | nil =>
  intro i k s3 s4 s9 h hk
  obtain⟨k,rfl⟩:∃ k',k=k'+1:=⟨k - 1,by omega⟩
  rw[zl]
  generalize lp yV k=rec
  unfold yV yv
  simp only[zy (zo h),cond_false]
 | cons e es ih =>
  intro i k s3 s4 s9 h hk
  obtain⟨k,rfl⟩:∃ k',k=k'+1:=⟨k - 1,by omega⟩
  rw[zl]
  have hi:=zn h
  have hk2:es.length < k:=Nat.lt_of_succ_lt_succ hk
  have key:=fun s3 s4 s9=>ih (i+1) k s3 s4 s9 (zj h) hk2
  generalize lp yV k=rec at key ⊢
  unfold yV yv
  simp only[zM hi,cond_true,zP,zk h,Option.bind_some,zO hi hl,key]
theorem ze2 (s0:(List (List Int))) (s5:(List zd)) (s6:(List (List Int))) (s7:(List zd)) (s8:(List zd)) (s3:(List Int)) (s4:Int) (s9:(List (List Int))) (hl:List.length s0≤maxLen):lp yV zr (s0,((List.length s0:Nat):Int),0,s3,s4,s5,s6,s7,s8,s9)=yv s8 s0 s3 s4 s9 :=
 zfd s0 s5 s6 s7 s8 hl s0 0 zr s3 s4 s9 rfl (Nat.lt_of_le_of_lt hl (by decide))
def yx:List zd→(List Int)→Int→(List zd)→Option ((List Int)×Int×(List zd))
 | [],s3,s4,s8=>some (s3,s4,s8)
 | e :: es,s3,s4,s8 =>
  (yW e.2 s3 s4).bind fun r6 =>
  cond (qt (List.length s8+List.length ([(e.1,r6.1)]:List zd)) 32)
  (yx es r6.2.1 r6.2.2 (s8++([(e.1,r6.1)]:List zd)))
  (none)
theorem zfn (s0:(List zd)) (s5:(List zd)) (s6:(List (List Int))) (s7:(List zd)) (hl:List.length s0≤maxLen):∀ (es:List zd) (i:Nat) (k:Nat) (s3:(List Int)) (s4:Int) (s8:(List zd)),s0.drop i=es→es.length < k→lp yR k (s0,((List.length s0:Nat):Int),(i:Int),s3,s4,s5,s6,s7,s8)=yx es s3 s4 s8:=by
 intro es
 induction es with
 | nil =>
  intro i k s3 s4 s8 h hk
  obtain⟨k,rfl⟩:∃ k',k=k'+1:=⟨k - 1,by omega⟩
  rw[zl]
  generalize lp yR k=rec
  unfold yR yx
  simp only[zy (zo h),cond_false]
 | cons e es ih =>
  intro i k s3 s4 s8 h hk
  obtain⟨k,rfl⟩:∃ k',k=k'+1:=⟨k - 1,by omega⟩
  rw[zl]
  have hi:=zn h
  have hk2:es.length < k:=Nat.lt_of_succ_lt_succ hk
  have key:=fun s3 s4 s8=>ih (i+1) k s3 s4 s8 (zj h) hk2
  generalize lp yR k=rec at key ⊢
  unfold yR yx
  simp only[zM hi,cond_true,zP,zk h,Option.bind_some,zO hi hl,key]
theorem zeY (s0:(List zd)) (s5:(List zd)) (s6:(List (List Int))) (s7:(List zd)) (s3:(List Int)) (s4:Int) (s8:(List zd)) (hl:List.length s0≤maxLen):lp yR zr (s0,((List.length s0:Nat):Int),0,s3,s4,s5,s6,s7,s8)=yx s0 s3 s4 s8 :=
 zfn s0 s5 s6 s7 hl s0 0 zr s3 s4 s8 rfl (Nat.lt_of_le_of_lt hl (by decide))
def qc (s3:(List zd)) (s4:(List zd)):List (List Int)→(List (List Int))→Option ((List zd)×(List zd)×(List (List Int)))
 | [],s5=>some (s3,s4,s5)
 | e :: es,s5 =>
  (qN s5 e).bind fun r8 =>
  cond (!r8)
  (cond (qt (List.length s5+List.length ([e]:List (List Int))) 24)
   (qc s3 s4 es (s5++([e]:List (List Int))))
   (none))
  (qc s3 s4 es s5)
theorem zgI (s0:(List (List Int))) (s3:(List zd)) (s4:(List zd)) (hl:List.length s0≤maxLen):∀ (es:List (List Int)) (i:Nat) (k:Nat) (s5:(List (List Int))),s0.drop i=es→es.length < k→lp qD k (s0,((List.length s0:Nat):Int),(i:Int),s3,s4,s5)=qc s3 s4 es s5:=by
 intro es
 induction es with
 | nil =>
  intro i k s5 h hk
  obtain⟨k,rfl⟩:∃ k',k=k'+1:=⟨k - 1,by omega⟩
  rw[zl]
  generalize lp qD k=rec
  unfold qD qc
  simp only[zy (zo h),cond_false]
 | cons e es ih =>
  intro i k s5 h hk
  obtain⟨k,rfl⟩:∃ k',k=k'+1:=⟨k - 1,by omega⟩
  rw[zl]
  have hi:=zn h
  have hk2:es.length < k:=Nat.lt_of_succ_lt_succ hk
  have key:=fun s5=>ih (i+1) k s5 (zj h) hk2
  generalize lp qD k=rec at key ⊢
  unfold qD qc
  simp only[zM hi,cond_true,zP,zk h,Option.bind_some,zO hi hl,key]
theorem zfv (s0:(List (List Int))) (s3:(List zd)) (s4:(List zd)) (s5:(List (List Int))) (hl:List.length s0≤maxLen):lp qD zr (s0,((List.length s0:Nat):Int),0,s3,s4,s5)=qc s3 s4 s0 s5 :=
 zgI s0 s3 s4 hl s0 0 zr s5 rfl (Nat.lt_of_le_of_lt hl (by decide))
def yY (s1:(List Int)):List Int→Nat→Option (Unit⊕Bool)
 | [],i=>some (Sum.inl ())
 | e :: es,i =>
  (gx s1 (i:Int)).bind fun e4 =>
  cond (e != e4)
  (some (Sum.inr false))
  (yY s1 es (i+1))
theorem zfu (s0:(List Int)) (s1:(List Int)) (hl:List.length s0≤maxLen):∀ (es:List Int) (i:Nat) (k:Nat),s0.drop i=es→es.length < k→lp yO k (s0,s1,(i:Int))=yY s1 es i:=by
 intro es
 induction es with
 | nil =>
  intro i k h hk
  obtain⟨k,rfl⟩:∃ k',k=k'+1:=⟨k - 1,by omega⟩
  rw[zl]
  generalize lp yO k=rec
  unfold yO yY
  simp only[zy (zo h),cond_false]
 | cons e es ih =>
  intro i k h hk
  obtain⟨k,rfl⟩:∃ k',k=k'+1:=⟨k - 1,by omega⟩
  rw[zl]
  have hi:=zn h
  have hk2:es.length < k:=Nat.lt_of_succ_lt_succ hk
  have key:=fun (_:Unit)=>ih (i+1) k (zj h) hk2
  generalize lp yO k=rec at key ⊢
  unfold yO yY
  simp only[zM hi,cond_true,zP,zk h,Option.bind_some,zO hi hl,key ()]
theorem zeN (s0:(List Int)) (s1:(List Int)) (hl:List.length s0≤maxLen):lp yO zr (s0,s1,0)=yY s1 s0 0 :=
 zfu s0 s1 hl s0 0 zr rfl (Nat.lt_of_le_of_lt hl (by decide))
def yX (s1:(List zd)):List zd→Nat→Option (Unit⊕Bool)
 | [],i=>some (Sum.inl ())
 | e :: es,i =>
  (gx s1 (i:Int)).bind fun e7 =>
  cond (!(e.1 == e7.1))
  (some (Sum.inr false))
  ((gx s1 (i:Int)).bind fun e9 =>
   (zaP e.2 e9.2).bind fun r10 =>
   cond (!r10)
   (some (Sum.inr false))
   (yX s1 es (i+1)))
theorem zfc (s0:(List zd)) (s1:(List zd)) (hl:List.length s0≤maxLen):∀ (es:List zd) (i:Nat) (k:Nat),s0.drop i=es→es.length < k→lp yS k (s0,s1,(i:Int))=yX s1 es i:=by
 intro es
 induction es with
 | nil =>
  intro i k h hk
  obtain⟨k,rfl⟩:∃ k',k=k'+1:=⟨k - 1,by omega⟩
  rw[zl]
  generalize lp yS k=rec
  unfold yS yX
  simp only[zy (zo h),cond_false]
 | cons e es ih =>
  intro i k h hk
  obtain⟨k,rfl⟩:∃ k',k=k'+1:=⟨k - 1,by omega⟩
  rw[zl]
  have hi:=zn h
  have hk2:es.length < k:=Nat.lt_of_succ_lt_succ hk
  have key:=fun (_:Unit)=>ih (i+1) k (zj h) hk2
  generalize lp yS k=rec at key ⊢
  unfold yS yX
  simp only[zM hi,cond_true,zP,zk h,Option.bind_some,zO hi hl,key ()]
theorem zeG (s0:(List zd)) (s1:(List zd)) (hl:List.length s0≤maxLen):lp yS zr (s0,s1,0)=yX s1 s0 0 :=
 zfc s0 s1 hl s0 0 zr rfl (Nat.lt_of_le_of_lt hl (by decide))
def yZ (s1:(List (List Int))):List (List Int)→Nat→Option (Unit⊕Bool)
 | [],i=>some (Sum.inl ())
 | e :: es,i =>
  (gx s1 (i:Int)).bind fun e5 =>
  (zaP e e5).bind fun r6 =>
  cond (!r6)
  (some (Sum.inr false))
  (yZ s1 es (i+1))
theorem zfp (s0:(List (List Int))) (s1:(List (List Int))) (hl:List.length s0≤maxLen):∀ (es:List (List Int)) (i:Nat) (k:Nat),s0.drop i=es→es.length < k→lp yT k (s0,s1,(i:Int))=yZ s1 es i:=by
 intro es
 induction es with
 | nil =>
  intro i k h hk
  obtain⟨k,rfl⟩:∃ k',k=k'+1:=⟨k - 1,by omega⟩
  rw[zl]
  generalize lp yT k=rec
  unfold yT yZ
  simp only[zy (zo h),cond_false]
 | cons e es ih =>
  intro i k h hk
  obtain⟨k,rfl⟩:∃ k',k=k'+1:=⟨k - 1,by omega⟩
  rw[zl]
  have hi:=zn h
  have hk2:es.length < k:=Nat.lt_of_succ_lt_succ hk
  have key:=fun (_:Unit)=>ih (i+1) k (zj h) hk2
  generalize lp yT k=rec at key ⊢
  unfold yT yZ
  simp only[zM hi,cond_true,zP,zk h,Option.bind_some,zO hi hl,key ()]
theorem zeH (s0:(List (List Int))) (s1:(List (List Int))) (hl:List.length s0≤maxLen):lp yT zr (s0,s1,0)=yZ s1 s0 0 :=
 zfp s0 s1 hl s0 0 zr rfl (Nat.lt_of_le_of_lt hl (by decide))
end Go.Abs.Q
namespace Go.Abs.Q
open Go Go.Abs
section
def zhT (n:Int):Bool:=decide (97≤n)&&decide (n≤122)
theorem zcY (n:Int):zc5 n=some (zhT n):=by
 unfold zc5 zhT
 by_cases h:n ≥ 97 <;> simp [h]
def zrL (e:UInt8):Bool:=zhT ((UInt8.toNat e:Nat):Int)||(decide (48≤((UInt8.toNat e:Nat):Int))&&decide (((UInt8.toNat e:Nat):Int)≤57))
theorem zoe (es:List UInt8):yi es=some (cond (es.all zrL) (.inl ()) (.inr false)):=by
 induction es with
 | nil=>rfl
 | cons e es ih =>
  unfold yi
  rw[zcY,Option.bind_some,ih,List.all_cons]
  unfold zrL
  cases h:zhT ((UInt8.toNat e:Nat):Int) with
  | true=>simp
  | false =>
   by_cases h1:((UInt8.toNat e:Nat):Int) < 48
   ·have:¬ (48≤((UInt8.toNat e:Nat):Int)):=by omega
    simp only[Bool.not_false,cond_true,decide_eq_true h1,decide_eq_false this,Bool.false_and,Bool.or_false,cond_false]
   ·have h3:48≤((UInt8.toNat e:Nat):Int):=by omega
    by_cases h2:((UInt8.toNat e:Nat):Int) > 57
    ·have:¬ (((UInt8.toNat e:Nat):Int)≤57):=by omega
     simp only[Bool.not_false,cond_true,decide_eq_false h1,decide_eq_true h2,decide_eq_false this,Bool.and_false,Bool.false_and,Bool.or_false,cond_false]
    ·have h4:((UInt8.toNat e:Nat):Int)≤57:=by omega
     simp only[Bool.not_false,cond_true,decide_eq_false h1,decide_eq_false h2,decide_eq_true h3,decide_eq_true h4,Bool.and_true,Bool.true_and,Bool.or_true,cond_false]
def zfJ (s:Str):Bool:=match s with
 | []=>false
 | c :: _=>decide (s.length≤8)&&zhT ((UInt8.toNat c:Nat):Int)&&s.all zrL
theorem zlp (s:Str):zez s=some (zfJ s):=by
 unfold zez zfJ
 cases s with
 | nil=>rfl
 | cons c r =>
  rw[show ((c :: r:Str) == ([]:Str))=false from rfl,cond_false]
  by_cases h:(c :: r).length≤8
  ·have h1:¬ (((List.length (c :: r):Nat):Int) > 8):=by omega
   rw[decide_eq_false h1,cond_false,qx,List.getElem?_cons_zero,Option.bind_some,zcY,Option.bind_some,zf5 _ (by unfold maxLen; omega),zoe,decide_eq_true h]
   dsimp only
   cases zhT ((UInt8.toNat c:Nat):Int) with
   | false=>rfl
   | true=>cases (c :: r).all zrL <;> rfl
  ·have h1:((List.length (c :: r):Nat):Int) > 8:=by omega
   rw[decide_eq_true h1,decide_eq_false h]
   rfl
def zvj (e:zm):Bool:=zfJ e.1&&decide (0≤e.2.1)&&decide (e.2.1≤2)&&decide (0≤e.2.2.1)&&decide (e.2.2.1≤3)&&decide (1≤e.2.2.2)&&decide (e.2.2.2≤20)
theorem zlt (e:zm):zdb e.1 e.2.1 e.2.2.1 e.2.2.2=some (zvj e):=by
 unfold zdb zvj
 rw[zlp,Option.bind_some]
 cases zfJ e.1 <;> simp only[cond_true,cond_false,Bool.true_and,Bool.false_and,ge_iff_le]
 cases decide (0≤e.2.1) <;> simp only[cond_true,cond_false,Bool.true_and,Bool.false_and]
 cases decide (e.2.1≤2) <;> simp only[cond_true,cond_false,Bool.true_and,Bool.false_and]
 cases decide (0≤e.2.2.1) <;> simp only[cond_true,cond_false,Bool.true_and,Bool.false_and]
 cases decide (e.2.2.1≤3) <;> simp only[cond_true,cond_false,Bool.true_and,Bool.false_and]
 cases decide (1≤e.2.2.2) <;> simp only[cond_true,cond_false,Bool.true_and,Bool.false_and]
def zya (o:Option Nat):Int:=match o with
 | some i=>(i:Int)
 | none => -1
theorem zvV (nm:Str) (es:List zm) (i:Nat):qi nm es i=some (match es.findIdx? (fun e=>e.1 == nm) with
  | some j=>.inr ((i+j:Nat):Int)
  | none=>.inl ()):=by
 induction es generalizing i with
 | nil=>rfl
 | cons e es ih =>
  unfold qi
  rw[List.findIdx?_cons]
  cases h:(e.1 == nm) with
  | true=>simp
  | false =>
   rw[cond_false,ih]
   cases es.findIdx? (fun e=>e.1 == nm) with
   | none=>rfl
   | some j=>simp; omega
theorem zoL (a0:List zm) (nm:Str) (h:a0.length≤maxLen):zeh a0 nm=some (zya (a0.findIdx? (fun e=>e.1 == nm))):=by
 unfold zeh
 rw[zhz _ _ h,zvV]
 cases a0.findIdx? (fun e=>e.1 == nm) with
 | none=>rfl
 | some j=>simp [qH,zya]
def ziI (a0:List zm):List zm→Nat→Bool
 | [],_=>true
 | e :: es,i=>zvj e&&(zya (a0.findIdx? (fun d=>d.1 == e.1)) == (i:Int))&&ziI a0 es (i+1)
theorem zI7 (a0:List zm) (h:a0.length≤maxLen) (es:List zm) (i:Nat):za7 a0 es i=some (cond (ziI a0 es i) (.inl ()) (.inr false)):=by
 induction es generalizing i with
 | nil=>rfl
 | cons e es ih =>
  unfold za7 ziI
  rw[zlt,Option.bind_some,zoL _ _ h,Option.bind_some,ih,bne]
  cases zvj e with
  | false=>rfl
  | true =>
   cases (zya (a0.findIdx? (fun d=>d.1 == e.1)) == (i:Int)) with
   | false=>rfl
   | true=>simp
def zpX:zm:=([61],0,2,1)
def eqQ (e:zm):Bool:=cond (eqS e.1 [61]) (cond (eqI e.2.1 0) (cond (eqI e.2.2.1 2) (cond (eqI e.2.2.2 1) true false) false) false) false
theorem zEJ (e:zm):eqQ e=true ↔ e=zpX:=by
 obtain⟨a,b,c,d⟩:=e
 unfold eqQ zpX eqS eqI
 cases h1:(a == ([61]:List UInt8)) <;> cases h2:(b == 0) <;> cases h3:(c == 2) <;> cases h4:(d == 1) <;> simp_all
def zcX (a0:List zm):Bool:=match a0 with
 | []=>false
 | e :: es=>decide (a0.length≤20)&&eqQ e&&ziI a0 es 1
theorem zkd (a0:List zm):ze1 a0=some (zcX a0):=by
 unfold ze1 zcX
 cases a0 with
 | nil=>rfl
 | cons e es =>
  rw[decide_eq_false (show ¬ (((List.length (e :: es):Nat):Int) < 1) by rw[List.length_cons]; omega),cond_false]
  by_cases h:(e :: es).length≤20
  ·have h1:¬ (((List.length (e :: es):Nat):Int) > 20):=by omega
   have hm:(e :: es).length≤maxLen:=by unfold maxLen; omega
   rw[decide_eq_false h1,cond_false,qx,List.getElem?_cons_zero,Option.bind_some,decide_eq_true h]
   show cond (!(eqQ e)) _ _=some (true&&eqQ e&&ziI (e :: es) es 1)
   cases eqQ e with
   | false=>rfl
   | true =>
    have:=ziD (e :: es) hm es 1 zr rfl (by simp [zr]; simp at h; omega)
    simp only[Bool.not_true,cond_false]
    rw[show ((1:Int))=((1:Nat):Int) from rfl,this,zI7 _ hm]
    cases ziI (e :: es) es 1 <;> rfl
  ·have h1:((List.length (e :: es):Nat):Int) > 20:=by omega
   rw[decide_eq_true h1,decide_eq_false h]
   rfl
theorem zrH {a0:List zm}:{es:List zm}→{i:Nat}→ziI a0 es i=true→∀ (j:Nat) e,es[j]? = some e→zvj e=true∧zya (a0.findIdx? (fun d=>d.1 == e.1))=((i+j:Nat):Int)
 | [],_,_,j,e,he=>by simp at he
 | d :: es,i,h,0,e,he=>by
  injection he with he; subst he
  simp only[ziI,Bool.and_eq_true] at h
  exact ⟨h.1.1,by simpa using h.1.2⟩
 | d :: es,i,h,j+1,e,he=>by
  simp only[ziI,Bool.and_eq_true] at h
  have:=zrH h.2 j e (by simpa using he)
  exact ⟨this.1,by rw[this.2]; omega⟩
structure SignOk (a0:List zm):Prop where
 pos:1≤a0.length
 len:a0.length≤20
 eq:a0[0]? = some zpX
 sym:∀ (i:Nat) e,a0[i+1]? = some e→zvj e=true∧zya (a0.findIdx? (fun d=>d.1 == e.1))=((i+1:Nat):Int)
theorem zgD {a0:List zm} (h:zcX a0=true):SignOk a0:=by
 unfold zcX at h
 cases a0 with
 | nil=>cases h
 | cons e es =>
  simp only[Bool.and_eq_true,decide_eq_true_eq] at h
  exact ⟨by simp,h.1.1,by rw[List.getElem?_cons_zero,(zEJ e).1 h.1.2],fun i d hd=>by
   have:=zrH h.2 i d (by simpa using hd)
   exact ⟨this.1,by rw[this.2]; omega⟩⟩
theorem SignOk.max {a0:List zm} (h:SignOk a0):a0.length≤maxLen:=Nat.le_trans h.len (by unfold maxLen; omega)
theorem zvF {e:zm} (h:zvj e=true):zfJ e.1=true∧0≤e.2.1∧e.2.1≤2∧0≤e.2.2.1∧e.2.2.1≤3∧1≤e.2.2.2∧e.2.2.2≤20:=by
 unfold zvj at h
 simp only[Bool.and_eq_true,decide_eq_true_eq] at h
 exact ⟨h.1.1.1.1.1.1,h.1.1.1.1.1.2,h.1.1.1.1.2,h.1.1.1.2,h.1.1.2,h.1.2,h.2⟩
theorem zqD {s:Str} (h:zfJ s=true):1≤s.length∧s.length≤8:=by
 unfold zfJ at h
 cases s with
 | nil=>cases h
 | cons c r =>
  simp only[Bool.and_eq_true,decide_eq_true_eq] at h
  exact ⟨by simp,h.1.1⟩
theorem SignOk.at {a0:List zm} (h:SignOk a0) {i:Nat} {e:zm} (he:a0[i]? = some e):1≤e.1.length∧e.1.length≤8∧0≤e.2.1∧e.2.1≤2∧0≤e.2.2.1∧e.2.2.1≤3:=by
 cases i with
 | zero =>
  rw[h.eq] at he
  injection he with he; subst he
  decide
 | succ i =>
  obtain⟨h1,h2,h3,h4,h5,_⟩:=zvF (h.sym i e he).1
  have:=zqD h1
  exact ⟨this.1,this.2,h2,h3,h4,h5⟩
def zbZ (a0:List zm) (x:Int):Option Nat :=
 cond (decide (x < 0)) (cond (decide (-24≤x)) (some 0) none) (match a0[x.toNat]? with
  | some e=>cond (e.2.1 == 0) none (some e.2.2.1.toNat)
  | none=>none)
def nOk (o:Option Nat):Int×Bool:=match o with
 | some k=>((k:Int),true)
 | none=>(0,false)
theorem zbA {x:Int} (h1 : -9223372036854775808≤x) (h2:x≤9223372036854775807):qh x=some (-1 - x):=by
 unfold qh
 rw[yk] <;> omega
theorem zjp {a0:List zm} (h:SignOk a0) (x:Int):zgh a0 x=some (nOk (zbZ a0 x)):=by
 unfold zgh zbZ
 by_cases h0:x < 0
 ·rw[decide_eq_true h0,cond_true,cond_true,zbA (by omega) (by omega),Option.bind_some]
  by_cases h1 : -24≤x
  ·rw[decide_eq_true h1,decide_eq_true (show x ≥ -1 - 23 by omega)]; rfl
  ·rw[decide_eq_false h1,decide_eq_false (show ¬ (x ≥ -1 - 23) by omega)]; rfl
 ·rw[decide_eq_false h0,cond_false,cond_false]
  by_cases h1:x ≥ ((List.length a0:Nat):Int)
  ·rw[decide_eq_true h1,cond_true,List.getElem?_eq_none (by omega)]; rfl
  ·obtain⟨e,he1,he2,he3⟩:=zrM (xs:=a0) (i:=x) (by omega) (by omega)
   have:=h.at he3
   rw[decide_eq_false h1,cond_false,he1,Option.bind_some,he3]
   cases he:(e.2.1 == 0) with
   | true=>simp only[he,cond_true]; rfl
   | false =>
    simp only[he,cond_false,Option.bind_some]
    unfold nOk
    simp only[Option.some.injEq,Prod.mk.injEq,and_true]
    omega
theorem zmq {a0:List zm} (h:SignOk a0) {x:Int} {k:Nat} (hk:zbZ a0 x=some k):k≤3:=by
 unfold zbZ at hk
 by_cases h0:x < 0
 ·rw[decide_eq_true h0,cond_true] at hk
  by_cases h1 : -24≤x
  ·rw[decide_eq_true h1] at hk; injection hk with hk; omega
  ·rw[decide_eq_false h1] at hk; cases hk
 ·rw[decide_eq_false h0,cond_false] at hk
  cases he:a0[x.toNat]? with
  | none=>rw[he] at hk; cases hk
  | some e =>
   rw[he] at hk
   have:=h.at he
   simp only at hk
   cases hz:(e.2.1 == 0) with
   | true=>rw[hz] at hk; cases hk
   | false=>rw[hz] at hk; injection hk with hk; omega
def sk (a0:List zm):Nat→List Int→Option Nat
 | 0,_=>some 0
 | _+1,[]=>none
 | n+1,x :: xs=>match zbZ a0 x with
  | none=>none
  | some k=>(sk a0 (n+k) xs).map (· + 1)
theorem zkD {a0:List zm}:{xs:List Int}→{n k:Nat}→sk a0 n xs=some k→k≤xs.length∧(0 < n→0 < k)∧n≤k
 | [],0,k,h=>by simp [sk] at h; omega
 | [],n+1,k,h=>by simp [sk] at h
 | x :: xs,0,k,h=>by simp [sk] at h; omega
 | x :: xs,n+1,k,h=>by
  unfold sk at h
  cases ha:zbZ a0 x with
  | none=>rw[ha] at h; cases h
  | some m =>
   rw[ha] at h
   simp only[Option.map_eq_some_iff] at h
   obtain⟨j,hj,rfl⟩:=h
   have:=zkD hj
   rw[List.length_cons]
   omega
theorem zsF {a0:List zm} (h:SignOk a0) (a1:List Int) (hl:a1.length≤1099511627776):∀ (m i n:Nat) (k:Nat),a1.length - i=m→0 < n→n≤1+3 * i→m < k →
  lp zaO k (a0,a1,(i:Int),(n:Int))=some (match sk a0 n (a1.drop i) with
   | some j=>(((i+j:Nat):Int),true)
   | none=>(0,false)):=by
 intro m
 induction m with
 | zero =>
  intro i n k hm hn hni hk
  obtain⟨k,rfl⟩:∃ k',k=k'+1:=⟨k - 1,by omega⟩
  rw[zl]
  generalize lp zaO k=rec
  unfold zaO
  simp only[decide_eq_true (show ((i:Int) ≥ ((List.length a1:Nat):Int)) by omega),cond_true,List.drop_eq_nil_iff.2 (show a1.length≤i by omega)]
  obtain⟨n,rfl⟩:∃ n',n=n'+1:=⟨n - 1,by omega⟩
  rfl
 | succ m ih =>
  intro i n k hm hn hni hk
  obtain⟨k,rfl⟩:∃ k',k=k'+1:=⟨k - 1,by omega⟩
  have hi:i < a1.length:=by omega
  rw[zl]
  have key:=fun n' h1 h2=>ih (i+1) n' k (by omega) h1 h2 (by omega)
  generalize lp zaO k=rec at key ⊢
  unfold zaO
  obtain⟨n,rfl⟩:∃ n',n=n'+1:=⟨n - 1,by omega⟩
  simp only[decide_eq_false (show ¬ ((i:Int) ≥ ((List.length a1:Nat):Int)) by omega),cond_false,zP,List.getElem?_eq_getElem hi,Option.bind_some,zjp h,List.drop_eq_getElem_cons hi,sk]
  cases ha:zbZ a0 a1[i] with
  | none=>simp [nOk]
  | some q =>
   have hq:=zmq h ha
   have e1:IntKind.wrap .i64 ((q:Int) - 1)=(q:Int) - 1:=yk (by omega) (by omega)
   have e2:IntKind.wrap .i64 (((n+1:Nat):Int)+((q:Int) - 1))=((n+q:Nat):Int):=by rw[yk] <;> omega
   have e3:IntKind.wrap .i64 ((i:Int)+1)=((i+1:Nat):Int):=by rw[yk] <;> omega
   simp only[nOk,Bool.not_true,cond_false,e1,e2,e3]
   by_cases hp:0 < n+q
   ·rw[decide_eq_true (show ((n+q:Nat):Int) > 0 by omega),cond_true,key _ hp (by omega)]
    cases sk a0 (n+q) (a1.drop (i+1)) with
    | none=>rfl
    | some j=>simp only[Option.map_some]; rw[show i+1+j=i+(j+1) from by omega]
   ·rw[decide_eq_false (show ¬ (((n+q:Nat):Int) > 0) by omega),cond_false]
    have:n+q=0:=by omega
    rw[this]
    simp [sk]
theorem zf7 {a0:List zm} (h:SignOk a0) (a1:List Int) (hl:a1.length≤1099511627776) (i:Nat):zek a0 a1 (i:Int)=some (match sk a0 1 (a1.drop i) with
   | some j=>(((i+j:Nat):Int),true)
   | none=>(0,false)):=by
 unfold zek
 by_cases hi:i < a1.length
 ·simp only[decide_eq_false (show ¬ ((i:Int) ≥ ((List.length a1:Nat):Int)) by omega),cond_false,zP,List.getElem?_eq_getElem hi,Option.bind_some,zjp h,List.drop_eq_getElem_cons hi,sk]
  cases ha:zbZ a0 a1[i] with
  | none=>simp [nOk]
  | some q =>
   have hq:=zmq h ha
   have e1:IntKind.wrap .i64 ((q:Int) - 1)=(q:Int) - 1:=yk (by omega) (by omega)
   have e2:IntKind.wrap .i64 (1+((q:Int) - 1))=((q:Nat):Int):=by rw[yk] <;> omega
   have e3:IntKind.wrap .i64 ((i:Int)+1)=((i+1:Nat):Int):=by rw[yk] <;> omega
   simp only[nOk,Bool.not_true,cond_false,e1,e2,e3]
   by_cases hp:0 < q
   ·rw[decide_eq_true (show (q:Int) > 0 by omega),cond_true,zsF h a1 hl (a1.length - (i+1)) (i+1) q zr rfl hp (by omega) (by unfold zr; omega),Nat.zero_add]
    cases sk a0 q (a1.drop (i+1)) with
    | none=>rfl
    | some j=>simp only[Option.map_some,Option.bind_some]; rw[show i+1+j=i+(j+1) from by omega]
   ·rw[decide_eq_false (show ¬ ((q:Int) > 0) by omega),cond_false]
    have:q=0:=by omega
    subst this
    simp [sk]
 ·simp only[decide_eq_true (show ((i:Int) ≥ ((List.length a1:Nat):Int)) by omega),cond_true,List.drop_eq_nil_iff.2 (show a1.length≤i by omega)]
  rfl
end
end Go.Abs.Q
namespace Go.Abs.Q
open Go Go.Abs
section
def zpN (a0:List zm):Nat→List Int→Option (List (List Int))
 | _,[]=>some []
 | 0,_ :: _=>none
 | n+1,x :: xs=>match sk a0 1 (x :: xs) with
  | none=>none
  | some k=>(zpN a0 n ((x :: xs).drop k)).map ((x :: xs).take k :: ·)
def ziJ (a0:List zm) (xs:List Int):Option (List (List Int)):=zpN a0 xs.length xs
theorem zl3 {a0:List zm}:{n m:Nat}→{xs:List Int}→xs.length≤n→n≤m→zpN a0 m xs=zpN a0 n xs
 | n,m,[],_,_=>by cases n <;> cases m <;> rfl
 | 0,_,_ :: _,h,_=>by simp at h
 | n+1,0,_ :: _,_,h=>by omega
 | n+1,m+1,x :: xs,h,hm=>by
  unfold zpN
  cases hk:sk a0 1 (x :: xs) with
  | none=>rfl
  | some k =>
   have:=zkD hk
   simp only
   rw[zl3 (n:=n) (m:=m) (by simp at h ⊢; omega) (by omega)]
theorem zjT (a0:List zm):ziJ a0 []=some []:=rfl
theorem zcw {a0:List zm} {xs:List Int} (h:xs ≠ []):ziJ a0 xs=match sk a0 1 xs with
  | none=>none
  | some k=>(ziJ a0 (xs.drop k)).map (xs.take k :: ·):=by
 cases xs with
 | nil=>exact absurd rfl h
 | cons x xs =>
  show zpN a0 (xs.length+1) (x :: xs)=_
  unfold zpN
  cases hk:sk a0 1 (x :: xs) with
  | none=>rfl
  | some k =>
   have:=zkD hk
   simp only
   unfold ziJ
   rw[zl3 (n:=((x :: xs).drop k).length) (m:=xs.length) (Nat.le_refl _) (by simp; omega)]
theorem zxm {a0:List zm}:{xs:List Int}→{n k:Nat}→sk a0 n xs=some k→sk a0 n (xs.take k)=some k
 | [],0,k,h=>by simp [sk] at h; subst h; rfl
 | [],n+1,k,h=>by simp [sk] at h
 | x :: xs,0,k,h=>by simp [sk] at h; subst h; rfl
 | x :: xs,n+1,k,h=>by
  unfold sk at h
  cases ha:zbZ a0 x with
  | none=>rw[ha] at h; cases h
  | some m =>
   rw[ha] at h
   simp only[Option.map_eq_some_iff] at h
   obtain⟨j,hj,rfl⟩:=h
   rw[List.take_succ_cons]
   unfold sk
   rw[ha]
   simp only[zxm hj,Option.map_some]
theorem zfz {a0:List zm}:∀ (n:Nat) (xs:List Int) (ps:List (List Int)),xs.length≤n→ziJ a0 xs=some ps→ps.flatten=xs∧∀ p∈ps,p ≠ []∧sk a0 1 p=some p.length:=by
 intro n
 induction n with
 | zero =>
  intro xs ps h hc
  obtain rfl:xs=[]:=List.length_eq_zero_iff.1 (by omega)
  injection hc with hc; subst hc
  exact ⟨rfl,fun p hp=>by cases hp⟩
 | succ n ih =>
  intro xs ps h hc
  by_cases hx:xs=[]
  ·subst hx
   injection hc with hc; subst hc
   exact ⟨rfl,fun p hp=>by cases hp⟩
  ·rw[zcw hx] at hc
   cases hk:sk a0 1 xs with
   | none=>rw[hk] at hc; cases hc
   | some k =>
    rw[hk] at hc
    simp only[Option.map_eq_some_iff] at hc
    obtain⟨qs,hq,rfl⟩:=hc
    have hle:=zkD hk
    obtain⟨h1,h2⟩:=ih _ qs (by simp; omega) hq
    refine ⟨by rw[List.flatten_cons,h1,List.take_append_drop],fun p hp => ?_⟩
    rcases List.mem_cons.1 hp with rfl | hp
    ·have hl:(xs.take k).length=k:=by simp; omega
     exact ⟨fun e=>by rw[e] at hl; simp at hl; omega,by rw[hl]; exact zxm hk⟩
    ·exact h2 p hp
def zdK:Nat→List (List Int)→List Int
 | _,[]=>[]
 | i,p :: ps=>(i:Int) :: zdK (i+p.length) ps
theorem zfD:(i:Nat)→(ps:List (List Int))→(zdK i ps).length=ps.length
 | _,[]=>rfl
 | i,p :: ps=>by simp [zdK,zfD (i+p.length) ps]
theorem zT {n b:Nat} (h:n * b≤140737488351232):qt n b=true:=by simpa[qt] using h
theorem zot {a0:List zm} (h:SignOk a0) (a1:List Int) (hl:a1.length≤1099511627776):∀ (m i:Nat) (acc:List Int) (k:Nat),a1.length - i=m→i≤a1.length→acc.length≤i→m < k →
  lp za5 k (a0,a1,(i:Int),acc)=some (match ziJ a0 (a1.drop i) with
   | some ps=>(true,acc++zdK i ps)
   | none=>(false,[])):=by
 intro m
 induction m using Nat.strongRecOn with
 | _ m ih =>
  intro i acc k hm hi hacc hk
  obtain⟨k,rfl⟩:∃ k',k=k'+1:=⟨k - 1,by omega⟩
  rw[zl]
  have key:=fun j acc' (h1:i < j) h2 h3=>ih (a1.length - j) (by omega) j acc' k rfl h2 h3 (by omega)
  generalize lp za5 k=rec at key ⊢
  unfold za5
  by_cases he:i=a1.length
  ·subst he
   simp [zjT,zdK]
  ·have hlt:i < a1.length:=by omega
   have hne:a1.drop i ≠ []:=by simp; omega
   simp only[show (((i:Int)) == ((List.length a1:Nat):Int))=false from by simp; omega,cond_false,zf7 h a1 hl,Option.bind_some,zcw hne]
   cases hs:sk a0 1 (a1.drop i) with
   | none=>rfl
   | some j =>
    have hj:=zkD hs
    rw[List.length_drop] at hj
    simp only[Bool.not_true,cond_false,List.length_singleton,zT (show (acc.length+1) * 8≤140737488351232 by omega),cond_true]
    rw[key (i+j) _ (by omega) (by omega) (by simp; omega),List.drop_drop]
    cases ziJ a0 (a1.drop (i+j)) with
    | none=>rfl
    | some ps =>
     simp only[Option.map_some,zdK]
     rw[List.length_take,List.length_drop,Nat.min_eq_left (by omega)]
     simp
def zbJ (a0:List zm) (a1:List Int):Option (List (List Int)):=cond (zcX a0&&decide (a1.length≤48)) (ziJ a0 a1) none
theorem zgZ (a0:List zm) (a1:List Int):zcj a0 a1=some (match zbJ a0 a1 with
  | some ps=>(true,zdK 0 ps)
  | none=>(false,[])):=by
 unfold zcj zbJ
 rw[zkd,Option.bind_some]
 cases hs:zcX a0 with
 | false=>rfl
 | true =>
  have h:=zgD hs
  by_cases hl:a1.length≤48
  ·simp only[Bool.not_true,cond_false,decide_eq_false (show ¬ (((List.length a1:Nat):Int) > 48) by omega),decide_eq_true hl,Bool.and_true,cond_true]
   by_cases h0:a1=[]
   ·subst h0; rfl
   ·have hpos:0 < a1.length:=List.length_pos_iff.2 h0
    simp only[show ((0:Int) == ((List.length a1:Nat):Int))=false from by simp; omega,cond_false]
    have e:=zf7 h a1 (by omega) 0
    rw[show ((0:Nat):Int)=0 from rfl] at e
    rw[e,Option.bind_some,List.drop_zero,zcw h0]
    cases hk:sk a0 1 a1 with
    | none=>rfl
    | some j =>
     have hj:=zkD hk
     simp only[Bool.not_true,cond_false,Nat.zero_add,List.length_singleton,zT (show 1 * 8≤140737488351232 by omega),cond_true]
     rw[zot h a1 (by omega) (a1.length - j) j [0] zr rfl (by omega) (by simp; omega) (by unfold zr; omega)]
     cases ziJ a0 (a1.drop j) with
     | none=>rfl
     | some ps=>simp [zdK,Nat.min_eq_left hj.1]
  ·simp only[Bool.not_true,cond_false,decide_eq_true (show (((List.length a1:Nat):Int) > 48) by omega),decide_eq_false hl,Bool.and_false,cond_true]
def zfg (a0:List zm) (xs:List Int):Bool:=match xs with
 | []=>false
 | x :: r=>decide (0≤x)&&(match a0[x.toNat]? with
  | none=>false
  | some e=>(e.2.1 == 0)&&(match zbJ a0 r with
   | none=>false
   | some ps=>((ps.length:Nat):Int) == e.2.2.1))
theorem zcU {α:Type} (x:α) (r:List α):zbS (x :: r) (some 1) none=some r:=by
 show slc (x :: r) 1 ((x :: r).length:Int)=some r
 unfold slc
 simp only[List.length_cons]
 rw[decide_eq_true (show (0:Int)≤1 by omega),decide_eq_true (show (1:Int)≤((r.length+1:Nat):Int) by omega),decide_eq_true (show ((r.length+1:Nat):Int)≤((r.length+1:Nat):Int) by omega)]
 simp
theorem zlm (a0:List zm) (xs:List Int):zbl a0 xs=some (zfg a0 xs):=by
 unfold zbl zfg
 cases xs with
 | nil=>rfl
 | cons x r =>
  simp only[show ((((x :: r).length:Nat):Int) == 0)=false from by simp; omega,cond_false,qx,List.getElem?_cons_zero,Option.bind_some]
  by_cases h0:x < 0
  ·rw[decide_eq_true h0,decide_eq_false (show ¬ (0≤x) by omega)]; rfl
  ·rw[decide_eq_false h0,decide_eq_true (show 0≤x by omega),cond_false,Bool.true_and]
   by_cases h1:x ≥ ((List.length a0:Nat):Int)
   ·rw[decide_eq_true h1,List.getElem?_eq_none (by omega)]; rfl
   ·obtain⟨e,he1,he2,he3⟩:=zrM (xs:=a0) (i:=x) (by omega) (by omega)
    simp only[decide_eq_false h1,cond_false,he1,he3,Option.bind_some,bne]
    cases hk:(e.2.1 == 0) with
    | false=>rfl
    | true =>
     simp only[Bool.not_true,cond_false,zcU,Option.bind_some,zgZ,Bool.true_and]
     cases zbJ a0 r with
     | none=>rfl
     | some ps=>simp [zfD]
def zJ (xs:List (List Int)):Nat:=(xs.map List.length).sum
def zcL (a0:List zm) (ls:List zd):Bool:=ls.all fun l=>zfg a0 l.2
theorem zoh {a0:List zm} {xs:List Int} (h:zfg a0 xs=true):xs.length≤49:=by
 unfold zfg at h
 cases xs with
 | nil=>cases h
 | cons x r =>
  simp only[Bool.and_eq_true] at h
  cases he:a0[x.toNat]? with
  | none=>rw[he] at h; simp at h
  | some e =>
   rw[he] at h
   simp only[Bool.and_eq_true] at h
   cases hb:zbJ a0 r with
   | none=>rw[hb] at h; simp at h
   | some ps =>
    unfold zbJ at hb
    cases hl:decide (r.length≤48) with
    | false=>rw[hl,Bool.and_false] at hb; cases hb
    | true=>rw[decide_eq_true_eq] at hl; simp; omega
theorem zxb (a0:List zm):(es:List zd)→(t:Nat)→t+49 * es.length≤1099511627776→yj a0 es (t:Int)=some (cond (zcL a0 es) (.inl ((t+zJ (es.map (·.2)):Nat):Int)) (.inr (0,false)))
 | [],t,_=>by simp [yj,zcL,zJ]
 | e :: es,t,h=>by
  unfold yj zhe zcL
  rw[zlm,Option.bind_some,Option.bind_some,List.all_cons]
  cases ha:zfg a0 e.2 with
  | false=>rfl
  | true =>
   have hl:=zoh ha
   rw[List.length_cons] at h
   have e1:IntKind.wrap .i64 ((t:Int)+((List.length e.2:Nat):Int))=((t+e.2.length:Nat):Int):=by rw[yk] <;> omega
   rw[e1]
   have:=zxb a0 es (t+e.2.length) (by omega)
   unfold zcL at this
   simp only[Bool.not_true,cond_false,Bool.true_and,this]
   rw[show t+e.2.length+zJ (es.map (·.2))=t+zJ ((e :: es).map (·.2)) from by simp [zJ]; omega]
theorem zel (a0:List zm) (ls:List zd) (h:ls.length≤1000000000):zbz a0 ls=some (cond (zcL a0 ls) (((zJ (ls.map (·.2)):Nat):Int),true) (0,false)):=by
 unfold zbz
 rw[zec _ _ _ (by unfold maxLen; omega),show ((0:Int))=((0:Nat):Int) from rfl,zxb a0 ls 0 (by omega)]
 cases zcL a0 ls with
 | false=>rfl
 | true=>simp [qH]
def zgW (a0:List zm) (xs:List Int):Option Nat:=(zbJ a0 xs).map List.length
theorem zeA (a0:List zm) (xs:List Int):zeo a0 xs=some (match zgW a0 xs with
  | some n=>((n:Int),0)
  | none=>(0,200)):=by
 unfold zeo zgW
 rw[zgZ,Option.bind_some]
 cases zbJ a0 xs with
 | none=>rfl
 | some ps=>simp [zfD]
theorem zim {a0:List zm} {xs:List Int} {n:Nat} (h:zgW a0 xs=some n):xs.length≤48:=by
 unfold zgW zbJ at h
 cases hl:decide (xs.length≤48) with
 | false=>rw[hl,Bool.and_false] at h; cases h
 | true=>rw[decide_eq_true_eq] at hl; exact hl
def zgP (a0:List zm) (rs:List (List Int)):Bool:=match rs with
 | []=>true
 | r :: rs=>match zgW a0 r with
  | none=>false
  | some n=>rs.all fun q=>zgW a0 q == some n
theorem zxN (a0:List zm) (w:Nat):(es:List (List Int))→(i t:Nat)→t+49 * es.length≤1099511627776→zV a0 es (i+1) (t:Int) (w:Int)=some (cond (es.all fun q=>zgW a0 q == some w) (.inl ((t+zJ es:Nat):Int)) (.inr (0,false)))
 | [],i,t,_=>by simp [zV,zJ]
 | e :: es,i,t,h=>by
  unfold zV
  rw[zeA,Option.bind_some,List.all_cons]
  rw[show ((((i+1:Nat):Int)) == 0)=false from by simp; omega,cond_false]
  cases hr:zgW a0 e with
  | none=>rfl
  | some n =>
   have hl:=zim hr
   rw[List.length_cons] at h
   have e1:IntKind.wrap .i64 ((t:Int)+((List.length e:Nat):Int))=((t+e.length:Nat):Int):=by rw[yk] <;> omega
   have:=zxN a0 w es (i+1) (t+e.length) (by omega)
   simp only[e1,this]
   by_cases hn:n=w
   ·subst hn
    simp [zJ,Nat.add_assoc]
   ·have h1:((n:Int) != (w:Int))=true:=by simp; omega
    have h2:(some n == some w)=false:=by simpa using hn
    simp [h1,h2]
theorem ziX (a0:List zm) (rs:List (List Int)) (h:rs.length≤1000000000):zco a0 rs=some (cond (zgP a0 rs) (((zJ rs:Nat):Int),true) (0,false)):=by
 unfold zco
 rw[zd9 _ _ _ _ (by unfold maxLen; omega)]
 cases rs with
 | nil=>rfl
 | cons r rs =>
  unfold zV zgP
  rw[zeA,Option.bind_some]
  rw[show ((((0:Nat):Int)) == 0)=true from rfl,cond_true]
  dsimp only
  cases hr:zgW a0 r with
  | none=>rfl
  | some n =>
   have hl:=zim hr
   rw[List.length_cons] at h
   have e1:IntKind.wrap .i64 (0+((List.length r:Nat):Int))=((r.length:Nat):Int):=by rw[yk] <;> omega
   have:=zxN a0 n rs 0 r.length (by omega)
   simp only[e1,this]
   cases hb:rs.all fun q=>zgW a0 q == some n with
   | false=>simp [qH]
   | true=>simp [qH,zJ]
def ziw (a0:List zm) (a1:List zd) (a2:List (List Int)) (a3:List zd):Bool :=
 zcX a0&&decide (a1.length≤5)&&decide (a2.length≤3)&&decide (a3.length≤3)&&zcL a0 a1&&zgP a0 a2&&zcL a0 a3&&decide (zJ (a1.map (·.2))+zJ a2+zJ (a3.map (·.2))≤240)
theorem zir {a0:List zm}:(ls:List zd)→zcL a0 ls=true→zJ (ls.map (·.2))≤49 * ls.length
 | [],_=>by simp [zJ]
 | l :: ls,h=>by
  unfold zcL at h
  rw[List.all_cons,Bool.and_eq_true] at h
  have h1:=zoh h.1
  have h2:=zir ls h.2
  unfold zJ at h2 ⊢
  simp only[List.map_cons,List.sum_cons,List.length_cons]
  omega
theorem zrd {a0:List zm} (rs:List (List Int)) (h:zgP a0 rs=true):zJ rs≤49 * rs.length:=by
 cases rs with
 | nil=>simp [zJ]
 | cons r rs =>
  unfold zgP at h
  dsimp only at h
  cases hr:zgW a0 r with
  | none=>rw[hr] at h; cases h
  | some n =>
   rw[hr] at h
   have h1:=zim hr
   have h2:∀ qs:List (List Int),(qs.all fun q=>zgW a0 q == some n)=true→zJ qs≤49 * qs.length:=by
    intro qs
    induction qs with
    | nil=>intro _; simp [zJ]
    | cons q qs ih =>
     intro hq
     rw[List.all_cons,Bool.and_eq_true] at hq
     have h3:=ih hq.2
     have h4:=zim (by simpa using hq.1)
     unfold zJ at h3 ⊢
     simp only[List.map_cons,List.sum_cons,List.length_cons]
     omega
   have h5:=h2 rs h
   unfold zJ at h5 ⊢
   simp only[List.map_cons,List.sum_cons,List.length_cons]
   omega
theorem zc3 (a0:List zm) (a1:List zd) (a2:List (List Int)) (a3:List zd):zbN a0 a1 a2 a3=some (ziw a0 a1 a2 a3):=by
 unfold zbN ziw
 rw[zkd,Option.bind_some]
 cases zcX a0 with
 | false=>rfl
 | true =>
  by_cases h1:a1.length≤5
  ·by_cases h2:a2.length≤3
   ·by_cases h3:a3.length≤3
    ·simp only[Bool.not_true,cond_false,decide_eq_false (show ¬ (((List.length a1:Nat):Int) > 5) by omega),decide_eq_false (show ¬ (((List.length a2:Nat):Int) > 3) by omega),decide_eq_false (show ¬ (((List.length a3:Nat):Int) > 3) by omega),
      decide_eq_true h1,decide_eq_true h2,decide_eq_true h3,zel a0 a1 (by omega),ziX a0 a2 (by omega),zel a0 a3 (by omega),Option.bind_some,Bool.true_and]
     cases hb1:zcL a0 a1 with
     | false=>rfl
     | true =>
      cases hb2:zgP a0 a2 with
      | false=>rfl
      | true =>
       cases hb3:zcL a0 a3 with
       | false=>rfl
       | true =>
        have s1:=zir a1 hb1
        have s2:=zrd a2 hb2
        have s3:=zir a3 hb3
        simp only[cond_true,Bool.true_and]
        have e1:IntKind.wrap .i64 (((zJ (a1.map (·.2)):Nat):Int)+((zJ a2:Nat):Int))=((zJ (a1.map (·.2))+zJ a2:Nat):Int):=by rw[yk] <;> omega
        have e2:IntKind.wrap .i64 (((zJ (a1.map (·.2))+zJ a2:Nat):Int)+((zJ (a3.map (·.2)):Nat):Int))=((zJ (a1.map (·.2))+zJ a2+zJ (a3.map (·.2)):Nat):Int):=by rw[yk] <;> omega
        simp only[e1,e2,Option.some.injEq,decide_eq_decide]
        omega
    ·simp only[Bool.not_true,cond_false,decide_eq_false (show ¬ (((List.length a1:Nat):Int) > 5) by omega),decide_eq_false (show ¬ (((List.length a2:Nat):Int) > 3) by omega),decide_eq_true (show (((List.length a3:Nat):Int) > 3) by omega),decide_eq_false h3,cond_true,Bool.and_false,Bool.false_and]
   ·simp only[Bool.not_true,cond_false,decide_eq_false (show ¬ (((List.length a1:Nat):Int) > 5) by omega),decide_eq_true (show (((List.length a2:Nat):Int) > 3) by omega),decide_eq_false h2,cond_true,Bool.and_false,Bool.false_and]
  ·simp only[Bool.not_true,cond_false,decide_eq_true (show (((List.length a1:Nat):Int) > 5) by omega),decide_eq_false h1,cond_true,Bool.and_false,Bool.false_and]
end
end Go.Abs.Q
namespace Go.Abs.Q
open Go Go.Abs
section
theorem zB4 {a0:List zm}:{xs:List Int}→{n m k:Nat}→sk a0 (n+m) xs=some k→∃ j,sk a0 n xs=some j∧j≤k∧sk a0 m (xs.drop j)=some (k - j)
 | xs,0,m,k,h=>⟨0,by cases xs <;> rfl,Nat.zero_le _,by simpa using h⟩
 | [],n+1,m,k,h=>by rw[show n+1+m=n+m+1 from by omega] at h; simp [sk] at h
 | x :: xs,n+1,m,k,h=>by
  rw[show n+1+m=n+m+1 from by omega] at h
  unfold sk at h
  cases ha:zbZ a0 x with
  | none=>rw[ha] at h; cases h
  | some q =>
   rw[ha] at h
   simp only[Option.map_eq_some_iff] at h
   obtain⟨j,hj,rfl⟩:=h
   rw[show n+m+q=(n+q)+m from by omega] at hj
   obtain⟨i,h1,h2,h3⟩:=zB4 hj
   refine ⟨i+1,?_,by omega,?_⟩
   ·unfold sk; rw[ha]; simp only[h1,Option.map_some]
   ·rw[List.drop_succ_cons,h3]; congr 1; omega
theorem zD5 {a0:List zm}:∀ (n:Nat) (xs:List Int),sk a0 n xs=some xs.length→∃ ps,ziJ a0 xs=some ps∧ps.length=n:=by
 intro n
 induction n with
 | zero =>
  intro xs h
  have:xs.length=0:=by cases xs <;> simp [sk] at h ⊢
  obtain rfl:=List.length_eq_zero_iff.1 this
  exact ⟨[],rfl,rfl⟩
 | succ n ih =>
  intro xs h
  rw[Nat.add_comm] at h
  obtain⟨j,h1,h2,h3⟩:=zB4 h
  have hj:=zkD h1
  have hne:xs ≠ []:=fun e=>by subst e; simp at hj; omega
  obtain⟨ps,h4,h5⟩:=ih (xs.drop j) (by rw[h3,List.length_drop])
  refine ⟨xs.take j :: ps,?_,by simp [h5]⟩
  rw[zcw hne,h1]
  dsimp only
  rw[h4]; rfl
theorem zp2 {a0:List zm} {p:List Int} (h:sk a0 1 p=some p.length):∃ x r q,p=x :: r∧zbZ a0 x=some q∧sk a0 q r=some r.length:=by
 cases p with
 | nil=>simp [sk] at h
 | cons x r =>
  unfold sk at h
  cases ha:zbZ a0 x with
  | none=>rw[ha] at h; cases h
  | some q =>
   rw[ha] at h
   simp only[Option.map_eq_some_iff,Nat.zero_add] at h
   obtain⟨j,hj,he⟩:=h
   rw[List.length_cons] at he
   exact ⟨x,r,q,rfl,ha,by rw[hj]; congr 1; omega⟩
theorem zod {a0:List zm} (h:SignOk a0) (a1:List Int) (hl:a1.length≤1099511627776):∀ (m i:Nat) (acc ps:List (List Int)) (k:Nat),a1.length - i=m→i≤a1.length→acc.length≤i→ziJ a0 (a1.drop i)=some ps→m < k →
  lp za6 k (a0,a1,(i:Int),acc)=some (.inl (acc++ps)):=by
 intro m
 induction m using Nat.strongRecOn with
 | _ m ih =>
  intro i acc ps k hm hi hacc hc hk
  obtain⟨k,rfl⟩:∃ k',k=k'+1:=⟨k - 1,by omega⟩
  rw[zl]
  have key:=fun j acc' ps' (h1:i < j) h2 h3 h4=>ih (a1.length - j) (by omega) j acc' ps' k rfl h2 h3 h4 (by omega)
  generalize lp za6 k=rec at key ⊢
  unfold za6
  by_cases he:i=a1.length
  ·subst he
   rw[List.drop_length,zjT] at hc
   injection hc with hc; subst hc
   simp
  ·have hlt:i < a1.length:=by omega
   have hne:a1.drop i ≠ []:=by simp; omega
   rw[zcw hne] at hc
   simp only[decide_eq_true (show (i:Int) < ((List.length a1:Nat):Int) by omega),cond_true,zf7 h a1 hl,Option.bind_some]
   cases hs:sk a0 1 (a1.drop i) with
   | none=>rw[hs] at hc; cases hc
   | some j =>
    rw[hs] at hc
    simp only[Option.map_eq_some_iff] at hc
    obtain⟨qs,hq,rfl⟩:=hc
    have hj:=zkD hs
    rw[List.length_drop] at hj
    have e1:zbS a1 (some (i:Int)) (some ((i+j:Nat):Int))=some ((a1.drop i).take j):=by
     show slc a1 _ _=_
     unfold slc
     rw[decide_eq_true (show (0:Int)≤(i:Int) by omega),decide_eq_true (show (i:Int)≤((i+j:Nat):Int) by omega),decide_eq_true (show ((i+j:Nat):Int)≤((a1.length:Nat):Int) by omega)]
     simp only[cond_true,Int.toNat_natCast,Option.some.injEq]
     rw[List.drop_take]; congr 1; omega
    simp only[Bool.not_true,cond_false,e1,Option.bind_some,List.length_singleton,zT (show (acc.length+1) * 24≤140737488351232 by omega),cond_true]
    rw[List.drop_drop] at hq
    rw[key (i+j) _ qs (by omega) (by omega) (by simp; omega) hq]
    simp
theorem zgV {a0:List zm} (h:SignOk a0) {a1:List Int} (hl:a1.length≤1099511627776) {ps:List (List Int)} (hc:ziJ a0 a1=some ps):zbm a0 a1=some ps:=by
 unfold zbm
 have:=zod h a1 hl a1.length 0 [] ps zr rfl (Nat.zero_le _) (Nat.zero_le _) hc (by unfold zr; omega)
 rw[show ((0:Nat):Int)=0 from rfl] at this
 rw[this]
 rfl
theorem zjS {a0:List zm} {xs:List Int} {ps:List (List Int)} (h:ziJ a0 xs=some ps):ps.length≤xs.length:=by
 obtain⟨h1,h2⟩:=zfz xs.length xs ps (Nat.le_refl _) h
 have h3:∀ qs:List (List Int),(∀ p∈qs,p ≠ [])→qs.length≤qs.flatten.length:=by
  intro qs
  induction qs with
  | nil=>intro _; simp
  | cons q qs ih =>
   intro hq
   have:=ih fun p hp=>hq p (by simp [hp])
   have h4:=List.length_pos_iff.2 (hq q (by simp))
   simp only[List.flatten_cons,List.length_append,List.length_cons]
   omega
 have:=h3 ps fun p hp=>(h2 p hp).1
 rw[h1] at this
 exact this
def zrB (a0:List zm) (x:Int):Str:=match a0[x.toNat]? with
 | some e=>e.1
 | none=>[]
theorem zoQ {a0:List zm} {x:Int} {q:Nat} (h:zbZ a0 x=some q) (hx:x < 0) : -24≤x∧q=0:=by
 unfold zbZ at h
 rw[decide_eq_true hx,cond_true] at h
 cases hd:decide (-24≤x) with
 | false=>rw[hd] at h; cases h
 | true=>rw[hd] at h; injection h with h; exact ⟨of_decide_eq_true hd,h.symm⟩
theorem zoS {a0:List zm} {x:Int} {q:Nat} (h:zbZ a0 x=some q) (hx:¬ x < 0):∃ e,gx a0 x=some e∧a0[x.toNat]? = some e∧e.2.1 ≠ 0∧q=e.2.2.1.toNat:=by
 unfold zbZ at h
 rw[decide_eq_false hx,cond_false] at h
 cases he:a0[x.toNat]? with
 | none=>rw[he] at h; cases h
 | some e =>
  rw[he] at h
  have hg:gx a0 x=some e:=by
   unfold gx
   rw[decide_eq_true (show 0≤x by omega),cond_true,he]
  dsimp only at h
  cases hz:(e.2.1 == 0) with
  | true=>rw[hz] at h; cases h
  | false=>rw[hz] at h; injection h with h; exact ⟨e,hg,rfl,by simpa using hz,h.symm⟩
end
end Go.Abs.Q
namespace Go.Abs.Q
open Go Go.Abs
section
theorem zgC {a0:List zm} {xs:List Int} (h:zfg a0 xs=true):∃ x r e ps,xs=x :: r∧0≤x∧a0[x.toNat]? = some e∧gx a0 x=some e∧e.2.1=0∧zcX a0=true∧r.length≤48∧ziJ a0 r=some ps∧((ps.length:Nat):Int)=e.2.2.1:=by
 unfold zfg at h
 cases xs with
 | nil=>cases h
 | cons x r =>
  simp only[Bool.and_eq_true,decide_eq_true_eq] at h
  obtain⟨h0,h⟩:=h
  cases he:a0[x.toNat]? with
  | none=>rw[he] at h; cases h
  | some e =>
   rw[he] at h
   simp only[Bool.and_eq_true] at h
   obtain⟨h1,h⟩:=h
   cases hb:zbJ a0 r with
   | none=>rw[hb] at h; cases h
   | some ps =>
    rw[hb] at h
    unfold zbJ at hb
    cases hs:zcX a0 with
    | false=>rw[hs] at hb; cases hb
    | true =>
     cases hl:decide (r.length≤48) with
     | false=>rw[hs,hl] at hb; cases hb
     | true =>
      rw[hs,hl] at hb
      refine ⟨x,r,e,ps,rfl,h0,he,?_,by simpa using h1,rfl,of_decide_eq_true hl,hb,by simpa using h⟩
      unfold gx
      rw[decide_eq_true h0,cond_true,he]
theorem zpa {a0:List zm} {r:List Int} {n:Nat} (h:zgW a0 r=some n):∃ ps,ziJ a0 r=some ps∧ps.length=n∧r.length≤48∧zcX a0=true:=by
 have hl:=zim h
 unfold zgW zbJ at h
 cases hs:zcX a0 with
 | false=>rw[hs] at h; cases h
 | true =>
  rw[hs,decide_eq_true hl] at h
  simp only[Bool.and_true,cond_true,Option.map_eq_some_iff] at h
  obtain⟨ps,h1,h2⟩:=h
  exact ⟨ps,h1,h2,hl,rfl⟩
theorem zpr {a0:List zm} {rs:List (List Int)} (h:zgP a0 rs=true):∃ n,∀ r∈rs,zgW a0 r=some n:=by
 cases rs with
 | nil=>exact ⟨0,fun r hr=>by cases hr⟩
 | cons r rs =>
  unfold zgP at h
  dsimp only at h
  cases hr:zgW a0 r with
  | none=>rw[hr] at h; cases h
  | some n =>
   rw[hr] at h
   refine ⟨n,fun q hq => ?_⟩
   rcases List.mem_cons.1 hq with rfl | hq
   ·exact hr
   ·simpa using List.all_eq_true.1 h q hq
theorem zaI {a0:List zm} {a1:List zd} {a2:List (List Int)} {a3:List zd} (h:ziw a0 a1 a2 a3=true):zcX a0=true∧a1.length≤5∧a2.length≤3∧a3.length≤3∧zcL a0 a1=true∧zgP a0 a2=true∧zcL a0 a3=true∧zJ (a1.map (·.2))+zJ a2+zJ (a3.map (·.2))≤240:=by
 unfold ziw at h
 simp only[Bool.and_eq_true,decide_eq_true_eq] at h
 exact ⟨h.1.1.1.1.1.1.1,h.1.1.1.1.1.1.2,h.1.1.1.1.1.2,h.1.1.1.1.2,h.1.1.1.2,h.1.1.2,h.1.2,h.2⟩
theorem zFd {a0:List zm} {a1:List zd} {a2:List (List Int)} {a3:List zd} (h1:zcX a0=true) (h2:a1.length≤5) (h3:a2.length≤3) (h4:a3.length≤3) (h5:zcL a0 a1=true) (h6:zgP a0 a2=true) (h7:zcL a0 a3=true)
  (h8:zJ (a1.map (·.2))+zJ a2+zJ (a3.map (·.2))≤240):ziw a0 a1 a2 a3=true:=by
 unfold ziw
 simp only[h1,decide_eq_true h2,decide_eq_true h3,decide_eq_true h4,h5,h6,h7,decide_eq_true h8,Bool.and_self]
end
end Go.Abs.Q
namespace Go.Abs.Q
open Go Go.Abs
section
end
end Go.Abs.Q
namespace Go.Abs.Q
open Go Go.Abs
section
theorem zGx {α:Type} (s:List α) {i j:Nat} (hij:i≤j) (h:j≤s.length):zbS s (some (i:Int)) (some (j:Int))=some ((s.drop i).take (j - i)):=by
 show slc s _ _=_
 unfold slc
 rw[decide_eq_true (show (0:Int)≤(i:Int) by omega),decide_eq_true (show (i:Int)≤(j:Int) by omega),decide_eq_true (show (j:Int)≤((s.length:Nat):Int) by omega)]
 simp only[cond_true,Int.toNat_natCast,Option.some.injEq]
 rw[List.drop_take]
end
end Go.Abs.Q
namespace Go.Abs.Q
open Go Go.Abs
def zaY (a0:(List Int)):Option (List Int) :=
 cond (qt (List.length ([]:List Int)+List.length a0) 8)
 (some (([]:List Int)++a0))
 (none)
def yQ (rec:((List zd)×Int×(List zd))→Option (List zd)) (x:((List zd)×Int×(List zd))):Option (List zd) :=
 cond (decide (x.2.1 < ((List.length x.1:Nat):Int)))
 ((gx x.1 x.2.1).bind fun e7 =>
  (gx x.1 x.2.1).bind fun e8 =>
  (zaY e8.2).bind fun r9 =>
  cond (qt (List.length x.2.2+List.length ([(e7.1,r9)]:List zd)) 32)
  (rec (x.1,(IntKind.wrap .i64 (x.2.1+1)),(x.2.2++([(e7.1,r9)]:List zd))))
  (none))
 (some x.2.2)
def zbW (a0:(List zd)):Option (List zd) :=
 ((lp yQ zr) (a0,0,([]:(List zd)))).bind fun r11 =>
 some r11
def yU (rec:((List (List Int))×Int×(List (List Int)))→Option (List (List Int))) (x:((List (List Int))×Int×(List (List Int)))):Option (List (List Int)) :=
 cond (decide (x.2.1 < ((List.length x.1:Nat):Int)))
 ((gx x.1 x.2.1).bind fun e5 =>
  (zaY e5).bind fun r6 =>
  cond (qt (List.length x.2.2+List.length ([r6]:List (List Int))) 24)
  (rec (x.1,(IntKind.wrap .i64 (x.2.1+1)),(x.2.2++([r6]:List (List Int)))))
  (none))
 (some x.2.2)
def zcT (a0:(List (List Int))):Option (List (List Int)) :=
 ((lp yU zr) (a0,0,([]:(List (List Int))))).bind fun r8 =>
 some r8
def zaM (a0:(List zd)) (a1:(List (List Int))) (a2:(List zd)):Option ((List zd)×(List (List Int))×(List zd)) :=
 (zbW a0).bind fun r4 =>
 (zcT a1).bind fun r5 =>
 (zbW a2).bind fun r6 =>
 some (r4,r5,r6)
def zeg (a0:Int):Option Bool :=
 cond (decide (a0 ≥ 97))
 (some (decide (a0≤122)))
 (some false)
def qz (rec:(Int×Str×Int×Int×Int)→Option (Unit⊕Bool)) (x:(Int×Str×Int×Int×Int)):Option (Unit⊕Bool) :=
 cond (decide (x.1 < ((List.length x.2.1:Nat):Int)))
 ((gx x.2.1 x.1).bind fun c7 =>
  (zeg ((UInt8.toNat c7:Nat):Int)).bind fun r8 =>
  cond (!r8)
  ((gx x.2.1 x.1).bind fun c9 =>
   cond (decide (((UInt8.toNat c9:Nat):Int) < 48))
   (some (Sum.inr false))
   ((gx x.2.1 x.1).bind fun c10 =>
    cond (decide (((UInt8.toNat c10:Nat):Int) > 57))
    (some (Sum.inr false))
    (rec ((IntKind.wrap .i64 (x.1+1)),x.2.1,x.2.2.1,x.2.2.2.1,x.2.2.2.2))))
  (rec ((IntKind.wrap .i64 (x.1+1)),x.2.1,x.2.2.1,x.2.2.2.1,x.2.2.2.2)))
 (some (Sum.inl ()))
def zdq (a0:Str) (a1:Int) (a2:Int) (a3:Int):Option Bool :=
 cond (decide (((List.length a0:Nat):Int) < 1))
 (some false)
 (cond (decide (((List.length a0:Nat):Int) > 8))
  (some false)
  ((gx a0 0).bind fun c14 =>
   (zeg ((UInt8.toNat c14:Nat):Int)).bind fun r15 =>
   cond (!r15)
   (some false)
   (((lp qz zr) (0,a0,a1,a2,a3)).bind fun r16 =>
    qH r16
    (fun z17=>cond (decide (a1 ≥ 0))
     (cond (decide (a1≤2))
      (cond (decide (a2 ≥ 0))
       (cond (decide (a2≤3))
        (cond (decide (a3 ≥ 1))
         (some (decide (a3≤20)))
         (some false))
        (some false))
       (some false))
      (some false))
     (some false))
    (fun z18=>some z18))))
def zay (rec:((List zm)×Str×Int)→Option (Unit⊕Int)) (x:((List zm)×Str×Int)):Option (Unit⊕Int) :=
 cond (decide (x.2.2 < ((List.length x.1:Nat):Int)))
 ((gx x.1 x.2.2).bind fun e2 =>
  cond (e2.1 == x.2.1)
  (some (Sum.inr x.2.2))
  (rec (x.1,x.2.1,(IntKind.wrap .i64 (x.2.2+1)))))
 (some (Sum.inl ()))
def zgk (a0:(List zm)) (a1:Str):Option Int :=
 ((lp zay zr) (a0,a1,0)).bind fun r6 =>
 qH r6
 (fun z7=>some (-1))
 (fun z8=>some z8)
def qP (rec:((List zm)×Int)→Option (Unit⊕Bool)) (x:((List zm)×Int)):Option (Unit⊕Bool) :=
 cond (decide (x.2 < ((List.length x.1:Nat):Int)))
 ((gx x.1 x.2).bind fun e6 =>
  (zdq e6.1 e6.2.1 e6.2.2.1 e6.2.2.2).bind fun r7 =>
  cond (!r7)
  (some (Sum.inr false))
  ((gx x.1 x.2).bind fun e8 =>
   (zgk x.1 e8.1).bind fun r9 =>
   cond (r9 != x.2)
   (some (Sum.inr false))
   (rec (x.1,(IntKind.wrap .i64 (x.2+1))))))
 (some (Sum.inl ()))
def zcr (a0:(List zm)):Option Bool :=
 cond (decide (((List.length a0:Nat):Int) < 1))
 (some false)
 (cond (decide (((List.length a0:Nat):Int) > 20))
  (some false)
  ((gx a0 0).bind fun e13 =>
   cond (!(cond (eqS e13.1 ([61]:Str)) (cond (eqI e13.2.1 0) (cond (eqI e13.2.2.1 2) (cond (eqI e13.2.2.2 1) true false) false) false) false))
   (some false)
   (((lp qP zr) (a0,1)).bind fun r14 =>
    qH r14
    (fun z15=>some true)
    (fun z16=>some z16))))
def zbi (rec:((List zm)×(List Int)×Int×Int)→Option (Int⊕Int)) (x:((List zm)×(List Int)×Int×Int)):Option (Int⊕Int) :=
 cond (decide (x.2.2.1 > 0))
 (cond (decide (x.2.2.2 ≥ ((List.length x.2.1:Nat):Int)))
  (some (Sum.inr (-1)))
  ((gx x.2.1 x.2.2.2).bind fun e8 =>
   cond (decide (e8 < (-24)))
   (some (Sum.inr (-1)))
   ((gx x.2.1 x.2.2.2).bind fun e9 =>
    cond (decide (e9 ≥ ((List.length x.1:Nat):Int)))
    (some (Sum.inr (-1)))
    ((gx x.2.1 x.2.2.2).bind fun e10 =>
     cond (decide (e10 ≥ 0))
     ((gx x.2.1 x.2.2.2).bind fun e11 =>
      (gx x.1 e11).bind fun e12 =>
      cond (e12.2.1 == 0)
      (some (Sum.inr (-1)))
      ((gx x.2.1 x.2.2.2).bind fun e13 =>
       (gx x.1 e13).bind fun e14 =>
       rec (x.1,x.2.1,(IntKind.wrap .i64 ((IntKind.wrap .i64 (x.2.2.1 - 1))+e14.2.2.1)),(IntKind.wrap .i64 (x.2.2.2+1)))))
     (rec (x.1,x.2.1,(IntKind.wrap .i64 (x.2.2.1 - 1)),(IntKind.wrap .i64 (x.2.2.2+1))))))))
 (some (Sum.inl x.2.2.2))
def zjV (a0:(List zm)) (a1:(List Int)) (a2:Int):Option Int :=
 ((lp zbi zr) (a0,a1,1,a2)).bind fun r18 =>
 qH r18
 (fun z19=>some z19)
 (fun z20=>some z20)
def zbn (rec:((List zm)×(List Int)×Int×Int)→Option (Int⊕Int)) (x:((List zm)×(List Int)×Int×Int)):Option (Int⊕Int) :=
 cond (decide (x.2.2.2 < ((List.length x.2.1:Nat):Int)))
 ((zjV x.1 x.2.1 x.2.2.2).bind fun r2 =>
  cond (decide (r2 < 0))
  (some (Sum.inr (-1)))
  (rec (x.1,x.2.1,(IntKind.wrap .i64 (x.2.2.1+1)),r2)))
 (some (Sum.inl x.2.2.1))
def zbR (a0:(List zm)) (a1:(List Int)):Option Int :=
 cond (decide (((List.length a1:Nat):Int) > 48))
 (some (-1))
 (((lp zbn zr) (a0,a1,0,0)).bind fun r6 =>
  qH r6
  (fun z7=>some z7)
  (fun z8=>some z8))
def zeP (a0:(List zm)) (a1:(List Int)):Option Bool :=
 cond (decide (((List.length a1:Nat):Int) > 0))
 ((gx a1 0).bind fun e9 =>
  cond (decide (e9 ≥ 0))
  ((gx a1 0).bind fun e10 =>
   cond (decide (e10 < ((List.length a0:Nat):Int)))
   ((gx a1 0).bind fun e11 =>
    (gx a0 e11).bind fun e12 =>
    cond (e12.2.1 == 0)
    ((zbS a1 (some 1) none).bind fun y13 =>
     (zbR a0 y13).bind fun r14 =>
     (gx a1 0).bind fun e15 =>
     (gx a0 e15).bind fun e16 =>
     some (r14 == e16.2.2.1))
    (some false))
   (some false))
  (some false))
 (some false)
def zbG (a0:(List zm)) (a1:Bool) (a2:(List Int)):Option Bool :=
 (zcr a0).bind fun r3 =>
 cond r3
 ((zeP a0 a2).bind fun r4 =>
  some r4)
 (some false)
def zan (rec:(Int×(List zd)×(List (List Int))×(List zd)×(List (List Int)))→Option (List (List Int))) (x:(Int×(List zd)×(List (List Int))×(List zd)×(List (List Int)))):Option (List (List Int)) :=
 cond (decide (x.1 < ((List.length x.2.2.2.1:Nat):Int)))
 ((gx x.2.2.2.1 x.1).bind fun e9 =>
  cond (qt (List.length x.2.2.2.2+List.length ([e9.2]:List (List Int))) 24)
  (rec ((IntKind.wrap .i64 (x.1+1)),x.2.1,x.2.2.1,x.2.2.2.1,(x.2.2.2.2++([e9.2]:List (List Int)))))
  (none))
 (some x.2.2.2.2)
def zar (rec:(Int×(List zd)×(List (List Int))×(List zd)×(List (List Int)))→Option (List (List Int))) (x:(Int×(List zd)×(List (List Int))×(List zd)×(List (List Int)))):Option (List (List Int)) :=
 cond (decide (x.1 < ((List.length x.2.2.1:Nat):Int)))
 ((gx x.2.2.1 x.1).bind fun e6 =>
  cond (qt (List.length x.2.2.2.2+List.length ([e6]:List (List Int))) 24)
  (rec ((IntKind.wrap .i64 (x.1+1)),x.2.1,x.2.2.1,x.2.2.2.1,(x.2.2.2.2++([e6]:List (List Int)))))
  (none))
 (some x.2.2.2.2)
def zax (rec:(Int×(List zd)×(List (List Int))×(List zd)×(List (List Int)))→Option (List (List Int))) (x:(Int×(List zd)×(List (List Int))×(List zd)×(List (List Int)))):Option (List (List Int)) :=
 cond (decide (x.1 < ((List.length x.2.1:Nat):Int)))
 ((gx x.2.1 x.1).bind fun e3 =>
  cond (qt (List.length x.2.2.2.2+List.length ([e3.2]:List (List Int))) 24)
  (rec ((IntKind.wrap .i64 (x.1+1)),x.2.1,x.2.2.1,x.2.2.2.1,(x.2.2.2.2++([e3.2]:List (List Int)))))
  (none))
 (some x.2.2.2.2)
def zf8 (a0:(List zd)) (a1:(List (List Int))) (a2:(List zd)):Option (List (List Int)) :=
 ((lp zax zr) (0,a0,a1,a2,([]:(List (List Int))))).bind fun r11 =>
 ((lp zar zr) (0,a0,a1,a2,r11)).bind fun r12 =>
 ((lp zan zr) (0,a0,a1,a2,r12)).bind fun r13 =>
 some r13
def zaU (rec:((List (List Int))×Int×Int)→Option Int) (x:((List (List Int))×Int×Int)):Option Int :=
 cond (decide (x.2.2 < ((List.length x.1:Nat):Int)))
 ((gx x.1 x.2.2).bind fun e26 =>
  rec (x.1,(IntKind.wrap .i64 (x.2.1+((List.length e26:Nat):Int))),(IntKind.wrap .i64 (x.2.2+1))))
 (some x.2.1)
def zaX (rec:((List zm)×Int×(List zd)×(List (List Int))×(List zd))→Option (Unit⊕Bool)) (x:((List zm)×Int×(List zd)×(List (List Int))×(List zd))):Option (Unit⊕Bool) :=
 cond (decide (x.2.1 < ((List.length x.2.2.2.1:Nat):Int)))
 ((gx x.2.2.2.1 x.2.1).bind fun e18 =>
  (zbR x.1 e18).bind fun r19 =>
  cond (decide (r19 < 0))
  (some (Sum.inr false))
  ((gx x.2.2.2.1 0).bind fun e20 =>
   (zbR x.1 e20).bind fun r21 =>
   cond (r19 != r21)
   (some (Sum.inr false))
   (rec (x.1,(IntKind.wrap .i64 (x.2.1+1)),x.2.2.1,x.2.2.2.1,x.2.2.2.2))))
 (some (Sum.inl ()))
def zaS (rec:((List zm)×Int×(List zd)×(List (List Int))×(List zd))→Option (Unit⊕Bool)) (x:((List zm)×Int×(List zd)×(List (List Int))×(List zd))):Option (Unit⊕Bool) :=
 cond (decide (x.2.1 < ((List.length x.2.2.2.2:Nat):Int)))
 ((gx x.2.2.2.2 x.2.1).bind fun e10 =>
  (zbG x.1 e10.1 e10.2).bind fun r11 =>
  cond (!r11)
  (some (Sum.inr false))
  (rec (x.1,(IntKind.wrap .i64 (x.2.1+1)),x.2.2.1,x.2.2.2.1,x.2.2.2.2)))
 (some (Sum.inl ()))
def zaZ (rec:((List zm)×Int×(List zd)×(List (List Int))×(List zd))→Option (Unit⊕Bool)) (x:((List zm)×Int×(List zd)×(List (List Int))×(List zd))):Option (Unit⊕Bool) :=
 cond (decide (x.2.1 < ((List.length x.2.2.1:Nat):Int)))
 ((gx x.2.2.1 x.2.1).bind fun e4 =>
  (zbG x.1 e4.1 e4.2).bind fun r5 =>
  cond (!r5)
  (some (Sum.inr false))
  (rec (x.1,(IntKind.wrap .i64 (x.2.1+1)),x.2.2.1,x.2.2.2.1,x.2.2.2.2)))
 (some (Sum.inl ()))
def zgA (a0:(List zm)) (a1:(List zd)) (a2:(List (List Int))) (a3:(List zd)):Option Bool :=
 (zcr a0).bind fun r31 =>
 cond (!r31)
 (some false)
 (cond (decide (((List.length a1:Nat):Int) > 5))
  (some false)
  (cond (decide (((List.length a3:Nat):Int) > 3))
   (some false)
   (cond (decide (((List.length a2:Nat):Int) > 3))
    (some false)
    (((lp zaZ zr) (a0,0,a1,a2,a3)).bind fun r32 =>
     qH r32
     (fun z33=>((lp zaS zr) (a0,0,a1,a2,a3)).bind fun r34 =>
      qH r34
      (fun z35=>((lp zaX zr) (a0,0,a1,a2,a3)).bind fun r36 =>
       qH r36
       (fun z37=>(zf8 a1 a2 a3).bind fun r38 =>
        ((lp zaU zr) (r38,0,0)).bind fun r39 =>
        some (decide (r39≤240)))
       (fun z40=>some z40))
      (fun z41=>some z41))
     (fun z42=>some z42)))))
def q5 (rec:((List zm)×(List Int)×Int×Int)→Option Int) (x:((List zm)×(List Int)×Int×Int)):Option Int :=
 cond (decide (x.2.2.1 > 0))
 ((gx x.2.1 x.2.2.2).bind fun e4 =>
  cond (decide (e4 ≥ 0))
  ((gx x.2.1 x.2.2.2).bind fun e5 =>
   (gx x.1 e5).bind fun e6 =>
   rec (x.1,x.2.1,(IntKind.wrap .i64 ((IntKind.wrap .i64 (x.2.2.1 - 1))+e6.2.2.1)),(IntKind.wrap .i64 (x.2.2.2+1))))
  (rec (x.1,x.2.1,(IntKind.wrap .i64 (x.2.2.1 - 1)),(IntKind.wrap .i64 (x.2.2.2+1)))))
 (some x.2.2.2)
def zeX (a0:(List zm)) (a1:(List Int)) (a2:Int):Option Int :=
 ((lp q5 zr) (a0,a1,1,a2)).bind fun r8 =>
 some r8
def zbu (rec:((List zm)×(List Int)×Int×(List (List Int)))→Option (List (List Int))) (x:((List zm)×(List Int)×Int×(List (List Int)))):Option (List (List Int)) :=
 cond (decide (x.2.2.1 < ((List.length x.2.1:Nat):Int)))
 ((zeX x.1 x.2.1 x.2.2.1).bind fun r5 =>
  (zbS x.2.1 (some x.2.2.1) (some r5)).bind fun y6 =>
  cond (qt (List.length x.2.2.2+List.length ([y6]:List (List Int))) 24)
  (rec (x.1,x.2.1,r5,(x.2.2.2++([y6]:List (List Int)))))
  (none))
 (some x.2.2.2)
def qb (a0:(List zm)) (a1:(List Int)):Option (List (List Int)) :=
 ((lp zbu zr) (a0,a1,0,([]:(List (List Int))))).bind fun r8 =>
 some r8
end Go.Abs.Q
namespace Go.Abs.Q
open Go Go.Abs
def yD:List zd→(List zd)→Option (List zd)
 | [],s2=>some s2
 | e :: es,s2 =>
  (zaY e.2).bind fun r9 =>
  cond (qt (List.length s2+List.length ([(e.1,r9)]:List zd)) 32)
  (yD es (s2++([(e.1,r9)]:List zd)))
  (none)
theorem zfs (s0:(List zd)) (hl:List.length s0≤maxLen):∀ (es:List zd) (i:Nat) (k:Nat) (s2:(List zd)),s0.drop i=es→es.length < k→lp yQ k (s0,(i:Int),s2)=yD es s2:=by
 intro es
 induction es with
 | nil =>
  intro i k s2 h hk
  obtain⟨k,rfl⟩:∃ k',k=k'+1:=⟨k - 1,by omega⟩
  rw[zl]
  generalize lp yQ k=rec
  unfold yQ yD
  simp only[zy (zo h),cond_false]
 | cons e es ih =>
  intro i k s2 h hk
  obtain⟨k,rfl⟩:∃ k',k=k'+1:=⟨k - 1,by omega⟩
  rw[zl]
  have hi:=zn h
  have hk2:es.length < k:=Nat.lt_of_succ_lt_succ hk
  have key:=fun s2=>ih (i+1) k s2 (zj h) hk2
  generalize lp yQ k=rec at key ⊢
  unfold yQ yD
  simp only[zM hi,cond_true,zP,zk h,Option.bind_some,zO hi hl,key]
theorem zeB (s0:(List zd)) (s2:(List zd)) (hl:List.length s0≤maxLen):lp yQ zr (s0,0,s2)=yD s0 s2 :=
 zfs s0 hl s0 0 zr s2 rfl (Nat.lt_of_le_of_lt hl (by decide))
def yz:List (List Int)→(List (List Int))→Option (List (List Int))
 | [],s2=>some s2
 | e :: es,s2 =>
  (zaY e).bind fun r6 =>
  cond (qt (List.length s2+List.length ([r6]:List (List Int))) 24)
  (yz es (s2++([r6]:List (List Int))))
  (none)
theorem zfo (s0:(List (List Int))) (hl:List.length s0≤maxLen):∀ (es:List (List Int)) (i:Nat) (k:Nat) (s2:(List (List Int))),s0.drop i=es→es.length < k→lp yU k (s0,(i:Int),s2)=yz es s2:=by
 intro es
 induction es with
 | nil =>
  intro i k s2 h hk
  obtain⟨k,rfl⟩:∃ k',k=k'+1:=⟨k - 1,by omega⟩
  rw[zl]
  generalize lp yU k=rec
  unfold yU yz
  simp only[zy (zo h),cond_false]
 | cons e es ih =>
  intro i k s2 h hk
  obtain⟨k,rfl⟩:∃ k',k=k'+1:=⟨k - 1,by omega⟩
  rw[zl]
  have hi:=zn h
  have hk2:es.length < k:=Nat.lt_of_succ_lt_succ hk
  have key:=fun s2=>ih (i+1) k s2 (zj h) hk2
  generalize lp yU k=rec at key ⊢
  unfold yU yz
  simp only[zM hi,cond_true,zP,zk h,Option.bind_some,zO hi hl,key]
theorem zeL (s0:(List (List Int))) (s2:(List (List Int))) (hl:List.length s0≤maxLen):lp yU zr (s0,0,s2)=yz s0 s2 :=
 zfo s0 hl s0 0 zr s2 rfl (Nat.lt_of_le_of_lt hl (by decide))
def yG:List UInt8→Option (Unit⊕Bool)
 | []=>some (Sum.inl ())
 | e :: es =>
  (zeg ((UInt8.toNat e:Nat):Int)).bind fun r8 =>
  cond (!r8)
  (cond (decide (((UInt8.toNat e:Nat):Int) < 48))
   (some (Sum.inr false))
   (cond (decide (((UInt8.toNat e:Nat):Int) > 57))
    (some (Sum.inr false))
    (yG es)))
  (yG es)
theorem zgQ (s1:Str) (s2:Int) (s3:Int) (s4:Int) (hl:List.length s1≤maxLen):∀ (es:List UInt8) (i:Nat) (k:Nat),s1.drop i=es→es.length < k→lp qz k ((i:Int),s1,s2,s3,s4)=yG es:=by
 intro es
 induction es with
 | nil =>
  intro i k h hk
  obtain⟨k,rfl⟩:∃ k',k=k'+1:=⟨k - 1,by omega⟩
  rw[zl]
  generalize lp qz k=rec
  unfold qz yG
  simp only[zy (zo h),cond_false]
 | cons e es ih =>
  intro i k h hk
  obtain⟨k,rfl⟩:∃ k',k=k'+1:=⟨k - 1,by omega⟩
  rw[zl]
  have hi:=zn h
  have hk2:es.length < k:=Nat.lt_of_succ_lt_succ hk
  have key:=fun (_:Unit)=>ih (i+1) k (zj h) hk2
  generalize lp qz k=rec at key ⊢
  unfold qz yG
  simp only[zM hi,cond_true,zP,zk h,Option.bind_some,zO hi hl,key ()]
theorem zfx (s1:Str) (s2:Int) (s3:Int) (s4:Int) (hl:List.length s1≤maxLen):lp qz zr (0,s1,s2,s3,s4)=yG s1 :=
 zgQ s1 s2 s3 s4 hl s1 0 zr rfl (Nat.lt_of_le_of_lt hl (by decide))
def zad (s1:Str):List zm→Nat→Option (Unit⊕Int)
 | [],i=>some (Sum.inl ())
 | e :: es,i =>
  cond (e.1 == s1)
  (some (Sum.inr (i:Int)))
  (zad s1 es (i+1))
theorem zhI (s0:(List zm)) (s1:Str) (hl:List.length s0≤maxLen):∀ (es:List zm) (i:Nat) (k:Nat),s0.drop i=es→es.length < k→lp zay k (s0,s1,(i:Int))=zad s1 es i:=by
 intro es
 induction es with
 | nil =>
  intro i k h hk
  obtain⟨k,rfl⟩:∃ k',k=k'+1:=⟨k - 1,by omega⟩
  rw[zl]
  generalize lp zay k=rec
  unfold zay zad
  simp only[zy (zo h),cond_false]
 | cons e es ih =>
  intro i k h hk
  obtain⟨k,rfl⟩:∃ k',k=k'+1:=⟨k - 1,by omega⟩
  rw[zl]
  have hi:=zn h
  have hk2:es.length < k:=Nat.lt_of_succ_lt_succ hk
  have key:=fun (_:Unit)=>ih (i+1) k (zj h) hk2
  generalize lp zay k=rec at key ⊢
  unfold zay zad
  simp only[zM hi,cond_true,zP,zk h,Option.bind_some,zO hi hl,key ()]
theorem zhn (s0:(List zm)) (s1:Str) (hl:List.length s0≤maxLen):lp zay zr (s0,s1,0)=zad s1 s0 0 :=
 zhI s0 s1 hl s0 0 zr rfl (Nat.lt_of_le_of_lt hl (by decide))
def qU (s0:(List zm)):List zm→Nat→Option (Unit⊕Bool)
 | [],i=>some (Sum.inl ())
 | e :: es,i =>
  (zdq e.1 e.2.1 e.2.2.1 e.2.2.2).bind fun r7 =>
  cond (!r7)
  (some (Sum.inr false))
  ((zgk s0 e.1).bind fun r9 =>
   cond (r9 != (i:Int))
   (some (Sum.inr false))
   (qU s0 es (i+1)))
theorem zf1 (s0:(List zm)) (hl:List.length s0≤maxLen):∀ (es:List zm) (i:Nat) (k:Nat),s0.drop i=es→es.length < k→lp qP k (s0,(i:Int))=qU s0 es i:=by
 intro es
 induction es with
 | nil =>
  intro i k h hk
  obtain⟨k,rfl⟩:∃ k',k=k'+1:=⟨k - 1,by omega⟩
  rw[zl]
  generalize lp qP k=rec
  unfold qP qU
  simp only[zy (zo h),cond_false]
 | cons e es ih =>
  intro i k h hk
  obtain⟨k,rfl⟩:∃ k',k=k'+1:=⟨k - 1,by omega⟩
  rw[zl]
  have hi:=zn h
  have hk2:es.length < k:=Nat.lt_of_succ_lt_succ hk
  have key:=fun (_:Unit)=>ih (i+1) k (zj h) hk2
  generalize lp qP k=rec at key ⊢
  unfold qP qU
  simp only[zM hi,cond_true,zP,zk h,Option.bind_some,zO hi hl,key ()]
def qK:List zd→(List (List Int))→Option (List (List Int))
 | [],s4=>some s4
 | e :: es,s4 =>
  cond (qt (List.length s4+List.length ([e.2]:List (List Int))) 24)
  (qK es (s4++([e.2]:List (List Int))))
  (none)
theorem zif (s1:(List zd)) (s2:(List (List Int))) (s3:(List zd)) (hl:List.length s3≤maxLen):∀ (es:List zd) (i:Nat) (k:Nat) (s4:(List (List Int))),s3.drop i=es→es.length < k→lp zan k ((i:Int),s1,s2,s3,s4)=qK es s4:=by
 intro es
 induction es with
 | nil =>
  intro i k s4 h hk
  obtain⟨k,rfl⟩:∃ k',k=k'+1:=⟨k - 1,by omega⟩
  rw[zl]
  generalize lp zan k=rec
  unfold zan qK
  simp only[zy (zo h),cond_false]
 | cons e es ih =>
  intro i k s4 h hk
  obtain⟨k,rfl⟩:∃ k',k=k'+1:=⟨k - 1,by omega⟩
  rw[zl]
  have hi:=zn h
  have hk2:es.length < k:=Nat.lt_of_succ_lt_succ hk
  have key:=fun s4=>ih (i+1) k s4 (zj h) hk2
  generalize lp zan k=rec at key ⊢
  unfold zan qK
  simp only[zM hi,cond_true,zP,zk h,Option.bind_some,zO hi hl,key]
theorem zhm (s1:(List zd)) (s2:(List (List Int))) (s3:(List zd)) (s4:(List (List Int))) (hl:List.length s3≤maxLen):lp zan zr (0,s1,s2,s3,s4)=qK s3 s4 :=
 zif s1 s2 s3 hl s3 0 zr s4 rfl (Nat.lt_of_le_of_lt hl (by decide))
def qT:List (List Int)→(List (List Int))→Option (List (List Int))
 | [],s4=>some s4
 | e :: es,s4 =>
  cond (qt (List.length s4+List.length ([e]:List (List Int))) 24)
  (qT es (s4++([e]:List (List Int))))
  (none)
theorem zh8 (s1:(List zd)) (s2:(List (List Int))) (s3:(List zd)) (hl:List.length s2≤maxLen):∀ (es:List (List Int)) (i:Nat) (k:Nat) (s4:(List (List Int))),s2.drop i=es→es.length < k→lp zar k ((i:Int),s1,s2,s3,s4)=qT es s4:=by
 intro es
 induction es with
 | nil =>
  intro i k s4 h hk
  obtain⟨k,rfl⟩:∃ k',k=k'+1:=⟨k - 1,by omega⟩
  rw[zl]
  generalize lp zar k=rec
  unfold zar qT
  simp only[zy (zo h),cond_false]
 | cons e es ih =>
  intro i k s4 h hk
  obtain⟨k,rfl⟩:∃ k',k=k'+1:=⟨k - 1,by omega⟩
  rw[zl]
  have hi:=zn h
  have hk2:es.length < k:=Nat.lt_of_succ_lt_succ hk
  have key:=fun s4=>ih (i+1) k s4 (zj h) hk2
  generalize lp zar k=rec at key ⊢
  unfold zar qT
  simp only[zM hi,cond_true,zP,zk h,Option.bind_some,zO hi hl,key]
theorem zhf (s1:(List zd)) (s2:(List (List Int))) (s3:(List zd)) (s4:(List (List Int))) (hl:List.length s2≤maxLen):lp zar zr (0,s1,s2,s3,s4)=qT s2 s4 :=
 zh8 s1 s2 s3 hl s2 0 zr s4 rfl (Nat.lt_of_le_of_lt hl (by decide))
def qL:List zd→(List (List Int))→Option (List (List Int))
 | [],s4=>some s4
 | e :: es,s4 =>
  cond (qt (List.length s4+List.length ([e.2]:List (List Int))) 24)
  (qL es (s4++([e.2]:List (List Int))))
  (none)
theorem zh9 (s1:(List zd)) (s2:(List (List Int))) (s3:(List zd)) (hl:List.length s1≤maxLen):∀ (es:List zd) (i:Nat) (k:Nat) (s4:(List (List Int))),s1.drop i=es→es.length < k→lp zax k ((i:Int),s1,s2,s3,s4)=qL es s4:=by
 intro es
 induction es with
 | nil =>
  intro i k s4 h hk
  obtain⟨k,rfl⟩:∃ k',k=k'+1:=⟨k - 1,by omega⟩
  rw[zl]
  generalize lp zax k=rec
  unfold zax qL
  simp only[zy (zo h),cond_false]
 | cons e es ih =>
  intro i k s4 h hk
  obtain⟨k,rfl⟩:∃ k',k=k'+1:=⟨k - 1,by omega⟩
  rw[zl]
  have hi:=zn h
  have hk2:es.length < k:=Nat.lt_of_succ_lt_succ hk
  have key:=fun s4=>ih (i+1) k s4 (zj h) hk2
  generalize lp zax k=rec at key ⊢
  unfold zax qL
  simp only[zM hi,cond_true,zP,zk h,Option.bind_some,zO hi hl,key]
theorem zg6 (s1:(List zd)) (s2:(List (List Int))) (s3:(List zd)) (s4:(List (List Int))) (hl:List.length s1≤maxLen):lp zax zr (0,s1,s2,s3,s4)=qL s1 s4 :=
 zh9 s1 s2 s3 hl s1 0 zr s4 rfl (Nat.lt_of_le_of_lt hl (by decide))
def q3:List (List Int)→Int→Option Int
 | [],s1=>some s1
 | e :: es,s1 =>
  q3 es (IntKind.wrap .i64 (s1+((List.length e:Nat):Int)))
theorem ziC (s0:(List (List Int))) (hl:List.length s0≤maxLen):∀ (es:List (List Int)) (i:Nat) (k:Nat) (s1:Int),s0.drop i=es→es.length < k→lp zaU k (s0,s1,(i:Int))=q3 es s1:=by
 intro es
 induction es with
 | nil =>
  intro i k s1 h hk
  obtain⟨k,rfl⟩:∃ k',k=k'+1:=⟨k - 1,by omega⟩
  rw[zl]
  generalize lp zaU k=rec
  unfold zaU q3
  simp only[zy (zo h),cond_false]
 | cons e es ih =>
  intro i k s1 h hk
  obtain⟨k,rfl⟩:∃ k',k=k'+1:=⟨k - 1,by omega⟩
  rw[zl]
  have hi:=zn h
  have hk2:es.length < k:=Nat.lt_of_succ_lt_succ hk
  have key:=fun s1=>ih (i+1) k s1 (zj h) hk2
  generalize lp zaU k=rec at key ⊢
  unfold zaU q3
  simp only[zM hi,cond_true,zP,zk h,Option.bind_some,zO hi hl,key]
theorem ziq (s0:(List (List Int))) (s1:Int) (hl:List.length s0≤maxLen):lp zaU zr (s0,s1,0)=q3 s0 s1 :=
 ziC s0 hl s0 0 zr s1 rfl (Nat.lt_of_le_of_lt hl (by decide))
def q7 (s0:(List zm)) (s3:(List (List Int))):List (List Int)→Option (Unit⊕Bool)
 | []=>some (Sum.inl ())
 | e :: es =>
  (zbR s0 e).bind fun r19 =>
  cond (decide (r19 < 0))
  (some (Sum.inr false))
  ((gx s3 0).bind fun e20 =>
   (zbR s0 e20).bind fun r21 =>
   cond (r19 != r21)
   (some (Sum.inr false))
   (q7 s0 s3 es))
theorem ziE (s0:(List zm)) (s2:(List zd)) (s3:(List (List Int))) (s4:(List zd)) (hl:List.length s3≤maxLen):∀ (es:List (List Int)) (i:Nat) (k:Nat),s3.drop i=es→es.length < k→lp zaX k (s0,(i:Int),s2,s3,s4)=q7 s0 s3 es:=by
 intro es
 induction es with
 | nil =>
  intro i k h hk
  obtain⟨k,rfl⟩:∃ k',k=k'+1:=⟨k - 1,by omega⟩
  rw[zl]
  generalize lp zaX k=rec
  unfold zaX q7
  simp only[zy (zo h),cond_false]
 | cons e es ih =>
  intro i k h hk
  obtain⟨k,rfl⟩:∃ k',k=k'+1:=⟨k - 1,by omega⟩
  rw[zl]
  have hi:=zn h
  have hk2:es.length < k:=Nat.lt_of_succ_lt_succ hk
  have key:=fun (_:Unit)=>ih (i+1) k (zj h) hk2
  generalize lp zaX k=rec at key ⊢
  unfold zaX q7
  simp only[zM hi,cond_true,zP,zk h,Option.bind_some,zO hi hl,key ()]
theorem zh5 (s0:(List zm)) (s2:(List zd)) (s3:(List (List Int))) (s4:(List zd)) (hl:List.length s3≤maxLen):lp zaX zr (s0,0,s2,s3,s4)=q7 s0 s3 s3 :=
 ziE s0 s2 s3 s4 hl s3 0 zr rfl (Nat.lt_of_le_of_lt hl (by decide))
def zaC (s0:(List zm)):List zd→Option (Unit⊕Bool)
 | []=>some (Sum.inl ())
 | e :: es =>
  (zbG s0 e.1 e.2).bind fun r11 =>
  cond (!r11)
  (some (Sum.inr false))
  (zaC s0 es)
theorem ziG (s0:(List zm)) (s2:(List zd)) (s3:(List (List Int))) (s4:(List zd)) (hl:List.length s4≤maxLen):∀ (es:List zd) (i:Nat) (k:Nat),s4.drop i=es→es.length < k→lp zaS k (s0,(i:Int),s2,s3,s4)=zaC s0 es:=by
 intro es
 induction es with
 | nil =>
  intro i k h hk
  obtain⟨k,rfl⟩:∃ k',k=k'+1:=⟨k - 1,by omega⟩
  rw[zl]
  generalize lp zaS k=rec
  unfold zaS zaC
  simp only[zy (zo h),cond_false]
 | cons e es ih =>
  intro i k h hk
  obtain⟨k,rfl⟩:∃ k',k=k'+1:=⟨k - 1,by omega⟩
  rw[zl]
  have hi:=zn h
  have hk2:es.length < k:=Nat.lt_of_succ_lt_succ hk
  have key:=fun (_:Unit)=>ih (i+1) k (zj h) hk2
  generalize lp zaS k=rec at key ⊢
  unfold zaS zaC
  simp only[zM hi,cond_true,zP,zk h,Option.bind_some,zO hi hl,key ()]
theorem zh6 (s0:(List zm)) (s2:(List zd)) (s3:(List (List Int))) (s4:(List zd)) (hl:List.length s4≤maxLen):lp zaS zr (s0,0,s2,s3,s4)=zaC s0 s4 :=
 ziG s0 s2 s3 s4 hl s4 0 zr rfl (Nat.lt_of_le_of_lt hl (by decide))
def zaA (s0:(List zm)):List zd→Option (Unit⊕Bool)
 | []=>some (Sum.inl ())
 | e :: es =>
  (zbG s0 e.1 e.2).bind fun r5 =>
  cond (!r5)
  (some (Sum.inr false))
  (zaA s0 es)
theorem zi9 (s0:(List zm)) (s2:(List zd)) (s3:(List (List Int))) (s4:(List zd)) (hl:List.length s2≤maxLen):∀ (es:List zd) (i:Nat) (k:Nat),s2.drop i=es→es.length < k→lp zaZ k (s0,(i:Int),s2,s3,s4)=zaA s0 es:=by
 intro es
 induction es with
 | nil =>
  intro i k h hk
  obtain⟨k,rfl⟩:∃ k',k=k'+1:=⟨k - 1,by omega⟩
  rw[zl]
  generalize lp zaZ k=rec
  unfold zaZ zaA
  simp only[zy (zo h),cond_false]
 | cons e es ih =>
  intro i k h hk
  obtain⟨k,rfl⟩:∃ k',k=k'+1:=⟨k - 1,by omega⟩
  rw[zl]
  have hi:=zn h
  have hk2:es.length < k:=Nat.lt_of_succ_lt_succ hk
  have key:=fun (_:Unit)=>ih (i+1) k (zj h) hk2
  generalize lp zaZ k=rec at key ⊢
  unfold zaZ zaA
  simp only[zM hi,cond_true,zP,zk h,Option.bind_some,zO hi hl,key ()]
theorem zic (s0:(List zm)) (s2:(List zd)) (s3:(List (List Int))) (s4:(List zd)) (hl:List.length s2≤maxLen):lp zaZ zr (s0,0,s2,s3,s4)=zaA s0 s2 :=
 zi9 s0 s2 s3 s4 hl s2 0 zr rfl (Nat.lt_of_le_of_lt hl (by decide))
end Go.Abs.Q
namespace Go.Abs.Q
open Go Go.Abs
section
theorem zib (n:Int):zeg n=some (zhT n):=zcY n
theorem zrX (es:List UInt8):yG es=some (cond (es.all zrL) (.inl ()) (.inr false)):=by
 have:∀ es,yG es=yi es:=by
  intro es
  induction es with
  | nil=>rfl
  | cons e es ih =>
   unfold yG yi
   rw[zib,zcY,ih]
 rw[this,zoe]
theorem zlC (e:zm):zdq e.1 e.2.1 e.2.2.1 e.2.2.2=some (zvj e):=by
 obtain⟨s,a,b,c⟩:=e
 unfold zdq zvj zfJ
 dsimp only
 cases s with
 | nil=>rfl
 | cons x r =>
  rw[decide_eq_false (show ¬ (((List.length (x :: r):Nat):Int) < 1) by rw[List.length_cons]; omega),cond_false]
  by_cases h:(x :: r).length≤8
  ·rw[decide_eq_false (show ¬ (((List.length (x :: r):Nat):Int) > 8) by omega),cond_false,qx,List.getElem?_cons_zero,Option.bind_some,zib,Option.bind_some,zfx _ _ _ _ (by unfold maxLen; omega),zrX,decide_eq_true h]
   dsimp only
   cases zhT ((UInt8.toNat x:Nat):Int) with
   | false=>rfl
   | true =>
    cases (x :: r).all zrL with
    | false=>rfl
    | true =>
     simp only[Bool.not_true,cond_false,cond_true,Option.bind_some,zcs,Bool.true_and,Bool.and_true,ge_iff_le]
     cases decide (0≤a) <;> simp only[cond_true,cond_false,Bool.true_and,Bool.false_and]
     cases decide (a≤2) <;> simp only[cond_true,cond_false,Bool.true_and,Bool.false_and]
     cases decide (0≤b) <;> simp only[cond_true,cond_false,Bool.true_and,Bool.false_and]
     cases decide (b≤3) <;> simp only[cond_true,cond_false,Bool.true_and,Bool.false_and]
     cases decide (1≤c) <;> simp only[cond_true,cond_false,Bool.true_and,Bool.false_and]
  ·rw[decide_eq_true (show (((List.length (x :: r):Nat):Int) > 8) by omega),decide_eq_false h]
   rfl
theorem zop (a0:List zm) (nm:Str) (h:a0.length≤maxLen):zgk a0 nm=some (zya (a0.findIdx? (fun e=>e.1 == nm))):=by
 have:∀ es i,zad nm es i=qi nm es i:=by
  intro es
  induction es with
  | nil=>intro i; rfl
  | cons e es ih=>intro i; unfold zad qi; rw[ih]
 unfold zgk
 rw[zhn _ _ h,this,zvV]
 cases a0.findIdx? (fun e=>e.1 == nm) with
 | none=>rfl
 | some j=>simp [qH,zya]
theorem zCL (a0:List zm) (h:a0.length≤maxLen) (es:List zm) (i:Nat):qU a0 es i=some (cond (ziI a0 es i) (.inl ()) (.inr false)):=by
 induction es generalizing i with
 | nil=>rfl
 | cons e es ih =>
  unfold qU ziI
  rw[zlC,Option.bind_some,zop _ _ h,Option.bind_some,ih,bne]
  cases zvj e with
  | false=>rfl
  | true =>
   cases (zya (a0.findIdx? (fun d=>d.1 == e.1)) == (i:Int)) with
   | false=>rfl
   | true=>simp
theorem zfN (a0:List zm):zcr a0=some (zcX a0):=by
 unfold zcr zcX
 cases a0 with
 | nil=>rfl
 | cons e es =>
  rw[decide_eq_false (show ¬ (((List.length (e :: es):Nat):Int) < 1) by rw[List.length_cons]; omega),cond_false]
  by_cases h:(e :: es).length≤20
  ·have h1:¬ (((List.length (e :: es):Nat):Int) > 20):=by omega
   have hm:(e :: es).length≤maxLen:=by unfold maxLen; omega
   rw[decide_eq_false h1,cond_false,qx,List.getElem?_cons_zero,Option.bind_some,decide_eq_true h]
   show cond (!(eqQ e)) _ _=some (true&&eqQ e&&ziI (e :: es) es 1)
   cases eqQ e with
   | false=>rfl
   | true =>
    have:=zf1 (e :: es) hm es 1 zr rfl (by simp [zr]; simp at h; omega)
    simp only[Bool.not_true,cond_false]
    rw[show ((1:Int))=((1:Nat):Int) from rfl,this,zCL _ hm]
    cases ziI (e :: es) es 1 <;> rfl
  ·have h1:((List.length (e :: es):Nat):Int) > 20:=by omega
   rw[decide_eq_true h1,decide_eq_false h]
   rfl
theorem zvv {a0:List zm} (h:SignOk a0) (a1:List Int) (hl:a1.length≤1099511627776):∀ (m i n:Nat) (k:Nat),a1.length - i=m→i≤a1.length→n≤1+3 * i→m+1 < k →
  lp zbi k (a0,a1,(n:Int),(i:Int))=some (match sk a0 n (a1.drop i) with
   | some j=>.inl ((i+j:Nat):Int)
   | none=>.inr (-1)):=by
 intro m
 induction m with
 | zero =>
  intro i n k hm hi hni hk
  obtain⟨k,rfl⟩:∃ k',k=k'+1:=⟨k - 1,by omega⟩
  rw[zl]
  generalize lp zbi k=rec
  unfold zbi
  rw[List.drop_eq_nil_iff.2 (show a1.length≤i by omega)]
  cases n with
  | zero=>simp [sk]
  | succ n =>
   simp only[decide_eq_true (show ((n+1:Nat):Int) > 0 by omega),cond_true,decide_eq_true (show ((i:Int) ≥ ((List.length a1:Nat):Int)) by omega)]
   rfl
 | succ m ih =>
  intro i n k hm hi hni hk
  obtain⟨k,rfl⟩:∃ k',k=k'+1:=⟨k - 1,by omega⟩
  have hi:i < a1.length:=by omega
  rw[zl]
  have key:=fun n' h1=>ih (i+1) n' k (by omega) (by omega) h1 (by omega)
  generalize lp zbi k=rec at key ⊢
  unfold zbi
  cases n with
  | zero=>simp [sk]
  | succ n =>
   have e1:IntKind.wrap .i64 (((n+1:Nat):Int) - 1)=(n:Int):=by rw[yk] <;> omega
   have e3:IntKind.wrap .i64 ((i:Int)+1)=((i+1:Nat):Int):=by rw[yk] <;> omega
   simp only[decide_eq_true (show ((n+1:Nat):Int) > 0 by omega),cond_true,decide_eq_false (show ¬ ((i:Int) ≥ ((List.length a1:Nat):Int)) by omega),cond_false,zP,List.getElem?_eq_getElem hi,Option.bind_some,List.drop_eq_getElem_cons hi,sk,e1,e3]
   generalize a1[i]=x
   unfold zbZ
   by_cases h0:x < 0
   ·rw[decide_eq_true h0,cond_true]
    by_cases h1 : -24≤x
    ·rw[decide_eq_false (show ¬ (x < -24) by omega),cond_false,decide_eq_false (show ¬ (x ≥ ((List.length a0:Nat):Int)) by omega),cond_false,decide_eq_false (show ¬ (x ≥ 0) by omega),cond_false,decide_eq_true h1,cond_true,key n (by omega)]
     dsimp only
     rw[Nat.add_zero]
     cases sk a0 n (a1.drop (i+1)) with
     | none=>rfl
     | some j=>simp only[Option.map_some]; rw[show i+1+j=i+(j+1) from by omega]
    ·rw[decide_eq_true (show x < -24 by omega),decide_eq_false h1]; rfl
   ·rw[decide_eq_false h0,decide_eq_false (show ¬ (x < -24) by omega),cond_false,cond_false]
    by_cases h1:x ≥ ((List.length a0:Nat):Int)
    ·rw[decide_eq_true h1,cond_true,List.getElem?_eq_none (by omega)]
    ·obtain⟨e,he1,he2,he3⟩:=zrM (xs:=a0) (i:=x) (by omega) (by omega)
     have hat:=h.at he3
     rw[decide_eq_false h1,cond_false,decide_eq_true (show x ≥ 0 by omega),cond_true,he1,Option.bind_some,he3]
     dsimp only
     cases hk0:(e.2.1 == 0) with
     | true=>rfl
     | false =>
      have e2:IntKind.wrap .i64 ((n:Int)+e.2.2.1)=((n+e.2.2.1.toNat:Nat):Int):=by rw[yk] <;> omega
      simp only[cond_false,Option.bind_some,e2]
      rw[key _ (by omega)]
      cases sk a0 (n+e.2.2.1.toNat) (a1.drop (i+1)) with
      | none=>rfl
      | some j=>simp only[Option.map_some]; rw[show i+1+j=i+(j+1) from by omega]
def zxq (o:Option Nat):Int:=match o with
 | some k=>(k:Int)
 | none => -1
theorem zpE {a0:List zm} (h:SignOk a0) (a1:List Int) (hl:a1.length≤1099511627776) (i:Nat) (hi:i≤a1.length):zjV a0 a1 (i:Int)=some (zxq ((sk a0 1 (a1.drop i)).map (i + ·))):=by
 unfold zjV
 rw[show (1:Int)=((1:Nat):Int) from rfl,zvv h a1 hl (a1.length - i) i 1 zr rfl hi (by omega) (by unfold zr; omega)]
 cases sk a0 1 (a1.drop i) with
 | none=>rfl
 | some j=>rfl
theorem zpS {a0:List zm} (h:SignOk a0) (a1:List Int) (hl:a1.length≤1099511627776):∀ (m i n k:Nat),a1.length - i=m→i≤a1.length→n≤i→m < k →
  lp zbn k (a0,a1,(n:Int),(i:Int))=some (match ziJ a0 (a1.drop i) with
   | some ps=>.inl ((n+ps.length:Nat):Int)
   | none=>.inr (-1)):=by
 intro m
 induction m using Nat.strongRecOn with
 | _ m ih =>
  intro i n k hm hi hn hk
  obtain⟨k,rfl⟩:∃ k',k=k'+1:=⟨k - 1,by omega⟩
  rw[zl]
  have key:=fun j n' (h1:i < j) h2 h3=>ih (a1.length - j) (by omega) j n' k rfl h2 h3 (by omega)
  generalize lp zbn k=rec at key ⊢
  unfold zbn
  by_cases he:i=a1.length
  ·subst he
   simp [zjT]
  ·have hlt:i < a1.length:=by omega
   have hne:a1.drop i ≠ []:=by simp; omega
   simp only[zM hlt,cond_true,zpE h a1 hl i hi,Option.bind_some,zcw hne]
   cases hs:sk a0 1 (a1.drop i) with
   | none=>rfl
   | some j =>
    have hj:=zkD hs
    rw[List.length_drop] at hj
    have e1:IntKind.wrap .i64 ((n:Int)+1)=((n+1:Nat):Int):=by rw[yk] <;> omega
    rw[show zxq (Option.map (fun x=>i+x) (some j))=((i+j:Nat):Int) from rfl,decide_eq_false (show ¬ (((i+j:Nat):Int) < 0) by omega),cond_false,e1]
    rw[key (i+j) (n+1) (by omega) (by omega) (by omega)]
    dsimp only
    rw[List.drop_drop]
    cases ziJ a0 (a1.drop (i+j)) with
    | none=>rfl
    | some ps=>simp only[Option.map_some,List.length_cons]; rw[show n+1+ps.length=n+(ps.length+1) from by omega]
theorem zeD {a0:List zm} (hs:zcX a0=true) (a1:List Int):zbR a0 a1=some (zxq (zgW a0 a1)):=by
 have h:=zgD hs
 unfold zbR zgW zbJ
 rw[hs,Bool.true_and]
 by_cases hl:a1.length≤48
 ·have:=zpS h a1 (by omega) a1.length 0 0 zr rfl (Nat.zero_le _) (Nat.le_refl _) (by unfold zr; omega)
  rw[show ((0:Nat):Int)=0 from rfl,List.drop_zero] at this
  rw[decide_eq_false (show ¬ (((List.length a1:Nat):Int) > 48) by omega),decide_eq_true hl,cond_false,cond_true,this]
  cases ziJ a0 a1 with
  | none=>rfl
  | some ps=>simp [qH,zxq]
 ·rw[decide_eq_true (show (((List.length a1:Nat):Int) > 48) by omega),decide_eq_false hl]; rfl
theorem zlr {a0:List zm} (hs:zcX a0=true) (xs:List Int):zeP a0 xs=some (zfg a0 xs):=by
 have h:=zgD hs
 unfold zeP zfg
 cases xs with
 | nil=>rfl
 | cons x r =>
  simp only[decide_eq_true (show (((x :: r).length:Nat):Int) > 0 by simp <;> omega),cond_true,qx,List.getElem?_cons_zero,Option.bind_some]
  by_cases h0:x < 0
  ·rw[decide_eq_false (show ¬ (x ≥ 0) by omega)]; rfl
  ·rw[decide_eq_true (show x ≥ 0 by omega),cond_true,Bool.true_and]
   by_cases h1:x ≥ ((List.length a0:Nat):Int)
   ·rw[decide_eq_false (show ¬ (x < ((List.length a0:Nat):Int)) by omega),List.getElem?_eq_none (by omega)]; rfl
   ·obtain⟨e,he1,he2,he3⟩:=zrM (xs:=a0) (i:=x) (by omega) (by omega)
    have hat:=h.at he3
    simp only[decide_eq_true (show x < ((List.length a0:Nat):Int) by omega),cond_true,he1,he3,Option.bind_some]
    cases hk:(e.2.1 == 0) with
    | false=>rfl
    | true =>
     simp only[cond_true,zcU,Option.bind_some,zeD hs,Bool.true_and]
     unfold zgW
     cases zbJ a0 r with
     | none =>
      have:((-1:Int) == e.2.2.1)=false:=by simp; omega
      simp [zxq,this]
     | some ps=>rfl
theorem zsn {a0:List zm} {xs:List Int} (h:zfg a0 xs=true):zcX a0=true:=by
 obtain⟨_,_,_,_,_,_,_,_,_,hs,_⟩:=zgC h
 exact hs
theorem zlq (a0:List zm) (b:Bool) (xs:List Int):zbG a0 b xs=some (zfg a0 xs):=by
 unfold zbG
 rw[zfN,Option.bind_some]
 cases hs:zcX a0 with
 | true=>rw[cond_true,zlr hs]; rfl
 | false =>
  cases ha:zfg a0 xs with
  | false=>rfl
  | true=>rw[zsn ha] at hs; cases hs
theorem ztY (s:List zd):(es:List zd)→(acc:List (List Int))→acc.length+es.length≤1000000→qK es acc=some (acc++es.map (·.2))∧qL es acc=some (acc++es.map (·.2))
 | [],acc,_=>⟨by simp [qK],by simp [qL]⟩
 | e :: es,acc,h=>by
  rw[List.length_cons] at h
  obtain⟨k1,k2⟩:=ztY s es (acc++[e.2]) (by simp; omega)
  unfold qK qL
  rw[zT (show (acc.length+[e.2].length) * 24≤140737488351232 by simp; omega),cond_true,cond_true,k1,k2]
  simp
theorem zBh:(es:List (List Int))→(acc:List (List Int))→acc.length+es.length≤1000000→qT es acc=some (acc++es)
 | [],acc,_=>by simp [qT]
 | e :: es,acc,h=>by
  rw[List.length_cons] at h
  have k1:=zBh es (acc++[e]) (by simp; omega)
  unfold qT
  rw[zT (show (acc.length+[e].length) * 24≤140737488351232 by simp; omega),cond_true,k1]
  simp
theorem zjl (a1:List zd) (a2:List (List Int)) (a3:List zd) (h1:a1.length≤1000) (h2:a2.length≤1000) (h3:a3.length≤1000):zf8 a1 a2 a3=some (a1.map (·.2)++a2++a3.map (·.2)):=by
 unfold zf8
 rw[zg6 _ _ _ _ (by unfold maxLen; omega),(ztY [] a1 [] (by simp; omega)).2,Option.bind_some,zhf _ _ _ _ (by unfold maxLen; omega),zBh a2 _ (by simp; omega),Option.bind_some,
  zhm _ _ _ _ (by unfold maxLen; omega),(ztY [] a3 _ (by simp; omega)).1]
 simp
theorem zxg:(es:List (List Int))→(t:Nat)→t+zJ es≤1000000000000→q3 es (t:Int)=some ((t+zJ es:Nat):Int)
 | [],t,_=>by simp [q3,zJ]
 | e :: es,t,h=>by
  have hs:zJ (e :: es)=e.length+zJ es:=by simp [zJ]
  rw[hs] at h
  unfold q3
  have e1:IntKind.wrap .i64 ((t:Int)+((List.length e:Nat):Int))=((t+e.length:Nat):Int):=by rw[yk] <;> omega
  rw[e1,zxg es (t+e.length) (by omega),hs]
  congr 2
  omega
theorem zmk (a0:List zm):(es:List zd)→zaA a0 es=some (cond (zcL a0 es) (.inl ()) (.inr false))∧zaC a0 es=some (cond (zcL a0 es) (.inl ()) (.inr false))
 | []=>⟨rfl,rfl⟩
 | e :: es=>by
  obtain⟨k1,k2⟩:=zmk a0 es
  unfold zaA zaC
  rw[zlq,k1,k2]
  unfold zcL
  rw[List.all_cons]
  cases zfg a0 e.2 <;> exact ⟨rfl,rfl⟩
theorem zrc {a0:List zm} (hs:zcX a0=true) (s3:List (List Int)) (r:List Int) (h0:s3[0]? = some r):(es:List (List Int))→q7 a0 s3 es=some (cond (es.all fun q=>(zgW a0 q).isSome&&(zgW a0 q == zgW a0 r)) (.inl ()) (.inr false))
 | []=>rfl
 | e :: es=>by
  unfold q7
  rw[zeD hs,Option.bind_some,qx,h0,Option.bind_some,zeD hs,Option.bind_some,zrc hs s3 r h0 es,List.all_cons]
  cases h1:zgW a0 e with
  | none=>rfl
  | some n =>
   rw[show zxq (some n)=(n:Int) from rfl,decide_eq_false (show ¬ ((n:Int) < 0) by omega),cond_false]
   cases h2:zgW a0 r with
   | none =>
    rw[show (((n:Int)) != zxq none)=true from by simp [zxq] <;> omega]
    rfl
   | some k =>
    by_cases hn:n=k
    ·subst hn; simp [zxq]
    ·have e1:(((n:Int)) != zxq (some k))=true:=by simp [zxq]; omega
     have e2:(some n == some k)=false:=by simpa using hn
     rw[e1,e2]; simp
theorem zsf {a0:List zm} (r:List Int) (rs:List (List Int)):((r :: rs).all fun q=>(zgW a0 q).isSome&&(zgW a0 q == zgW a0 r))=zgP a0 (r :: rs):=by
 unfold zgP
 dsimp only
 cases hr:zgW a0 r with
 | none=>simp [hr]
 | some n =>
  rw[List.all_cons,hr]
  simp only[Option.isSome_some,beq_self_eq_true,Bool.true_and]
  congr 1
  funext q
  cases zgW a0 q <;> simp
theorem zhv (a0:List zm) (a1:List zd) (a2:List (List Int)) (a3:List zd):zgA a0 a1 a2 a3=some (ziw a0 a1 a2 a3):=by
 unfold zgA ziw
 rw[zfN,Option.bind_some]
 cases hs:zcX a0 with
 | false=>rfl
 | true =>
  by_cases h1:a1.length≤5
  ·by_cases h3:a3.length≤3
   ·by_cases h2:a2.length≤3
    ·simp only[Bool.not_true,cond_false,decide_eq_false (show ¬ (((List.length a1:Nat):Int) > 5) by omega),decide_eq_false (show ¬ (((List.length a2:Nat):Int) > 3) by omega),decide_eq_false (show ¬ (((List.length a3:Nat):Int) > 3) by omega),
      decide_eq_true h1,decide_eq_true h2,decide_eq_true h3,Bool.true_and]
     rw[zic _ _ _ _ (by unfold maxLen; omega),(zmk a0 a1).1]
     cases hb1:zcL a0 a1 with
     | false=>rfl
     | true =>
      simp only[cond_true,Option.bind_some,zcs,Bool.true_and]
      rw[zh6 _ _ _ _ (by unfold maxLen; omega),(zmk a0 a3).2]
      cases hb3:zcL a0 a3 with
      | false=>simp [qH]
      | true =>
       simp only[cond_true,Option.bind_some,zcs,Bool.and_true]
       rw[zh5 _ _ _ _ (by unfold maxLen; omega)]
       have hrows:q7 a0 a2 a2=some (cond (zgP a0 a2) (.inl ()) (.inr false)):=by
        cases a2 with
        | nil=>rfl
        | cons r rs=>rw[zrc hs (r :: rs) r rfl (r :: rs),zsf]
       rw[hrows]
       cases hb2:zgP a0 a2 with
       | false=>rfl
       | true =>
        have s1:=zir a1 hb1
        have s2:=zrd a2 hb2
        have s3:=zir a3 hb3
        have hsum:zJ (a1.map (·.2)++a2++a3.map (·.2))=zJ (a1.map (·.2))+zJ a2+zJ (a3.map (·.2)):=by simp [zJ]; omega
        simp only[cond_true,Option.bind_some,zcs,zjl a1 a2 a3 (by omega) (by omega) (by omega),Bool.true_and]
        rw[ziq _ _ (by simp only[List.length_append,List.length_map]; unfold maxLen; omega),show (0:Int)=((0:Nat):Int) from rfl,zxg _ 0 (by rw[hsum]; omega),Option.bind_some,Nat.zero_add,hsum]
        simp only[Option.some.injEq,decide_eq_decide]
        omega
    ·simp only[Bool.not_true,cond_false,decide_eq_false (show ¬ (((List.length a1:Nat):Int) > 5) by omega),decide_eq_false (show ¬ (((List.length a3:Nat):Int) > 3) by omega),decide_eq_true (show (((List.length a2:Nat):Int) > 3) by omega),decide_eq_false h2,cond_true,Bool.and_false,Bool.false_and]
   ·simp only[Bool.not_true,cond_false,decide_eq_false (show ¬ (((List.length a1:Nat):Int) > 5) by omega),decide_eq_true (show (((List.length a3:Nat):Int) > 3) by omega),decide_eq_false h3,cond_true,Bool.and_false,Bool.false_and]
  ·simp only[Bool.not_true,cond_false,decide_eq_true (show (((List.length a1:Nat):Int) > 5) by omega),decide_eq_false h1,cond_true,Bool.and_false,Bool.false_and]
end
end Go.Abs.Q
namespace Go.Abs.Q
open Go Go.Abs
section
theorem zpc {a0:List zm} (h:SignOk a0) (a1:List Int) (hl:a1.length≤1099511627776):∀ (m i n j k:Nat),a1.length - i=m→i≤a1.length→n≤1+3 * i→sk a0 n (a1.drop i)=some j→m+1 < k →
  lp q5 k (a0,a1,(n:Int),(i:Int))=some ((i+j:Nat):Int):=by
 intro m
 induction m with
 | zero =>
  intro i n j k hm hi hni hs hk
  obtain⟨k,rfl⟩:∃ k',k=k'+1:=⟨k - 1,by omega⟩
  rw[zl]
  generalize lp q5 k=rec
  unfold q5
  rw[List.drop_eq_nil_iff.2 (show a1.length≤i by omega)] at hs
  cases n with
  | zero =>
   simp [sk] at hs
   subst hs
   simp
  | succ n=>simp [sk] at hs
 | succ m ih =>
  intro i n j k hm hi hni hs hk
  obtain⟨k,rfl⟩:∃ k',k=k'+1:=⟨k - 1,by omega⟩
  have hi:i < a1.length:=by omega
  rw[zl]
  have key:=fun n' j' h1 h2=>ih (i+1) n' j' k (by omega) (by omega) h1 h2 (by omega)
  generalize lp q5 k=rec at key ⊢
  unfold q5
  cases n with
  | zero =>
   simp [sk] at hs
   subst hs
   simp
  | succ n =>
   have e1:IntKind.wrap .i64 (((n+1:Nat):Int) - 1)=(n:Int):=by rw[yk] <;> omega
   have e3:IntKind.wrap .i64 ((i:Int)+1)=((i+1:Nat):Int):=by rw[yk] <;> omega
   rw[List.drop_eq_getElem_cons hi] at hs
   simp only[sk] at hs
   simp only[decide_eq_true (show ((n+1:Nat):Int) > 0 by omega),cond_true,zP,List.getElem?_eq_getElem hi,Option.bind_some,e1,e3]
   generalize a1[i]=x at hs
   cases ha:zbZ a0 x with
   | none=>rw[ha] at hs; cases hs
   | some q =>
    rw[ha] at hs
    simp only[Option.map_eq_some_iff] at hs
    obtain⟨j',hj',rfl⟩:=hs
    by_cases h0:x < 0
    ·obtain⟨_,rfl⟩:=zoQ ha h0
     rw[decide_eq_false (show ¬ (x ≥ 0) by omega),cond_false,key n j' (by omega) hj']
     rw[show i+1+j'=i+(j'+1) from by omega]
    ·obtain⟨e,he1,he2,he3,rfl⟩:=zoS ha h0
     have hat:=h.at he2
     have e2:IntKind.wrap .i64 ((n:Int)+e.2.2.1)=((n+e.2.2.1.toNat:Nat):Int):=by rw[yk] <;> omega
     rw[decide_eq_true (show x ≥ 0 by omega),cond_true,he1,Option.bind_some,e2,key _ j' (by omega) hj']
     rw[show i+1+j'=i+(j'+1) from by omega]
theorem zlo {a0:List zm} (h:SignOk a0) (a1:List Int) (hl:a1.length≤1099511627776) (i j:Nat) (hi:i≤a1.length) (hs:sk a0 1 (a1.drop i)=some j):zeX a0 a1 (i:Int)=some ((i+j:Nat):Int):=by
 unfold zeX
 rw[show (1:Int)=((1:Nat):Int) from rfl,zpc h a1 hl (a1.length - i) i 1 j zr rfl hi (by omega) hs (by unfold zr; omega)]
 rfl
theorem zqK {a0:List zm} (h:SignOk a0) (a1:List Int) (hl:a1.length≤1099511627776):∀ (m i:Nat) (acc ps:List (List Int)) (k:Nat),a1.length - i=m→i≤a1.length→acc.length≤i→ziJ a0 (a1.drop i)=some ps→m < k →
  lp zbu k (a0,a1,(i:Int),acc)=some (acc++ps):=by
 intro m
 induction m using Nat.strongRecOn with
 | _ m ih =>
  intro i acc ps k hm hi hacc hc hk
  obtain⟨k,rfl⟩:∃ k',k=k'+1:=⟨k - 1,by omega⟩
  rw[zl]
  have key:=fun j acc' ps' (h1:i < j) h2 h3 h4=>ih (a1.length - j) (by omega) j acc' ps' k rfl h2 h3 h4 (by omega)
  generalize lp zbu k=rec at key ⊢
  unfold zbu
  by_cases he:i=a1.length
  ·subst he
   rw[List.drop_length,zjT] at hc
   injection hc with hc; subst hc
   simp
  ·have hlt:i < a1.length:=by omega
   have hne:a1.drop i ≠ []:=by simp; omega
   rw[zcw hne] at hc
   cases hs:sk a0 1 (a1.drop i) with
   | none=>rw[hs] at hc; cases hc
   | some j =>
    rw[hs] at hc
    simp only[Option.map_eq_some_iff] at hc
    obtain⟨qs,hq,rfl⟩:=hc
    have hj:=zkD hs
    rw[List.length_drop] at hj
    have e1:zbS a1 (some (i:Int)) (some ((i+j:Nat):Int))=some ((a1.drop i).take j):=by
     rw[zGx a1 (by omega) (by omega),show i+j - i=j from by omega]
    simp only[decide_eq_true (show (i:Int) < ((List.length a1:Nat):Int) by omega),cond_true,zlo h a1 hl i j hi hs,Option.bind_some,e1,List.length_singleton,zT (show (acc.length+1) * 24≤140737488351232 by omega)]
    rw[List.drop_drop] at hq
    rw[key (i+j) _ qs (by omega) (by omega) (by simp; omega) hq]
    simp
theorem zcW {a0:List zm} (h:SignOk a0) {a1:List Int} (hl:a1.length≤1099511627776) {ps:List (List Int)} (hc:ziJ a0 a1=some ps):qb a0 a1=some ps:=by
 unfold qb
 have:=zqK h a1 hl a1.length 0 [] ps zr rfl (Nat.zero_le _) (Nat.zero_le _) hc (by unfold zr; omega)
 rw[show ((0:Nat):Int)=0 from rfl] at this
 rw[this]
 rfl
end
end Go.Abs.Q
namespace Go.Abs.Q
open Go Go.Abs
section
def InB (a0:List zm) (xs:List Int):Prop:=∀ x∈xs,x < (a0.length:Int)
theorem ze7 {xs:List Int} (h:xs.length≤1000000000):zaY xs=some xs:=by
 unfold zaY
 rw[zT (by simp only[List.length_nil]; omega)]; rfl
theorem zjZ:(es acc:List zd)→(∀ l∈es,l.2.length≤1000000000)→acc.length+es.length≤1000000000→yD es acc=some (acc++es)
 | [],acc,_,_=>by simp [yD]
 | e :: es,acc,h,hl=>by
  rw[List.length_cons] at hl
  unfold yD
  rw[ze7 (h e (by simp)),Option.bind_some,zT (by simp only[List.length_cons,List.length_nil]; omega),cond_true,zjZ es _ (fun l hl=>h l (by simp [hl])) (by simp; omega)]
  simp
theorem ze5 {ls:List zd} (h:∀ l∈ls,l.2.length≤1000000000) (hl:ls.length≤1000000000):zbW ls=some ls:=by
 unfold zbW
 rw[zeB _ _ (by unfold maxLen; omega),zjZ ls [] h (by simp; omega)]
 rfl
theorem zkh:(es acc:List (List Int))→(∀ l∈es,l.length≤1000000000)→acc.length+es.length≤1000000000→yz es acc=some (acc++es)
 | [],acc,_,_=>by simp [yz]
 | e :: es,acc,h,hl=>by
  rw[List.length_cons] at hl
  unfold yz
  rw[ze7 (h e (by simp)),Option.bind_some,zT (by simp only[List.length_cons,List.length_nil]; omega),cond_true,zkh es _ (fun l hl=>h l (by simp [hl])) (by simp; omega)]
  simp
theorem zjz {ls:List (List Int)} (h:∀ l∈ls,l.length≤1000000000) (hl:ls.length≤1000000000):zcT ls=some ls:=by
 unfold zcT
 rw[zeL _ _ (by unfold maxLen; omega),zkh ls [] h (by simp; omega)]
 rfl
end
end Go.Abs.Q
namespace Go.Abs.Q
open Go Go.Abs
section
theorem zkb (ys:List Int):(es:List Int)→(i:Nat)→es.length=(ys.drop i).length→yY ys es i=some (cond (decide (es=ys.drop i)) (.inl ()) (.inr false))
 | [],i,h=>by
  have:ys.drop i=[]:=List.length_eq_zero_iff.1 h.symm
  rw[this]; rfl
 | e :: es,i,h=>by
  unfold yY
  rw[List.length_cons,List.length_drop] at h
  have hi:i < ys.length:=by omega
  rw[zP,List.getElem?_eq_getElem hi,Option.bind_some,List.drop_eq_getElem_cons hi,zkb ys es (i+1) (by rw[List.length_drop]; omega)]
  generalize ys[i]=y
  by_cases he:e=y
  ·subst he
   rw[show (e != e)=false from by simp,cond_false]
   simp
  ·rw[show (e != y)=true from by simpa using he,cond_true]
   rw[decide_eq_false (by intro h; injection h with h1 h2; exact he h1)]
   rfl
theorem ze9 {xs ys:List Int} (h:xs.length≤maxLen):zaP xs ys=some (decide (xs=ys)):=by
 unfold zaP
 by_cases hl:xs.length=ys.length
 ·rw[show (((List.length xs:Nat):Int) != ((List.length ys:Nat):Int))=false from by simp [hl],cond_false,zeN _ _ h,zkb ys xs 0 hl,List.drop_zero]
  cases decide (xs=ys) <;> rfl
 ·rw[show (((List.length xs:Nat):Int) != ((List.length ys:Nat):Int))=true from by simp; omega,cond_true,decide_eq_false (by intro h; subst h; exact hl rfl)]
theorem zkA (ys:List zd):(es:List zd)→(i:Nat)→es.length=(ys.drop i).length→(∀ e∈es,e.2.length≤maxLen)→yX ys es i=some (cond (decide (es=ys.drop i)) (.inl ()) (.inr false))
 | [],i,h,_=>by
  have:ys.drop i=[]:=List.length_eq_zero_iff.1 h.symm
  rw[this]; rfl
 | e :: es,i,h,hm=>by
  unfold yX
  rw[List.length_cons,List.length_drop] at h
  have hi:i < ys.length:=by omega
  rw[zP,List.getElem?_eq_getElem hi,Option.bind_some,List.drop_eq_getElem_cons hi,zkA ys es (i+1) (by rw[List.length_drop]; omega) (fun x hx=>hm x (by simp [hx]))]
  generalize ys[i]=y
  obtain⟨a,b⟩:=e
  obtain⟨c,d⟩:=y
  have hb:b.length≤maxLen:=hm (a,b) (by simp)
  simp only[Option.bind_some,ze9 hb]
  by_cases h1:a=c
  ·subst h1
   by_cases h2:b=d
   ·subst h2
    simp
   ·have:¬ ((a,b) :: es=(a,d) :: ys.drop (i+1)):=fun h=>by injection h with h _; injection h with _ h; exact h2 h
    simp [h2,this]
  ·have:¬ ((a,b) :: es=(c,d) :: ys.drop (i+1)):=fun h=>by injection h with h _; injection h with h _; exact h1 h
   have h3:(a == c)=false:=by simpa using h1
   rw[h3,decide_eq_false this]; rfl
theorem ze8 {xs ys:List zd} (h:xs.length≤maxLen) (hm:∀ e∈xs,e.2.length≤maxLen):zbT xs ys=some (decide (xs=ys)):=by
 unfold zbT
 by_cases hl:xs.length=ys.length
 ·rw[show (((List.length xs:Nat):Int) != ((List.length ys:Nat):Int))=false from by simp [hl],cond_false,zeG _ _ h,zkA ys xs 0 hl hm,List.drop_zero]
  cases decide (xs=ys) <;> rfl
 ·rw[show (((List.length xs:Nat):Int) != ((List.length ys:Nat):Int))=true from by simp; omega,cond_true,decide_eq_false (by intro h; subst h; exact hl rfl)]
theorem zk7 (ys:List (List Int)):(es:List (List Int))→(i:Nat)→es.length=(ys.drop i).length→(∀ e∈es,e.length≤maxLen)→yZ ys es i=some (cond (decide (es=ys.drop i)) (.inl ()) (.inr false))
 | [],i,h,_=>by
  have:ys.drop i=[]:=List.length_eq_zero_iff.1 h.symm
  rw[this]; rfl
 | e :: es,i,h,hm=>by
  unfold yZ
  rw[List.length_cons,List.length_drop] at h
  have hi:i < ys.length:=by omega
  rw[zP,List.getElem?_eq_getElem hi,Option.bind_some,List.drop_eq_getElem_cons hi,ze9 (hm e (by simp)),Option.bind_some,zk7 ys es (i+1) (by rw[List.length_drop]; omega) (fun x hx=>hm x (by simp [hx]))]
  generalize ys[i]=y
  by_cases h1:e=y
  ·subst h1
   simp
  ·have:¬ (e :: es=y :: ys.drop (i+1)):=fun h=>by injection h with h _; exact h1 h
   rw[decide_eq_false h1,decide_eq_false this]; rfl
theorem zjD {xs ys:List (List Int)} (h:xs.length≤maxLen) (hm:∀ e∈xs,e.length≤maxLen):zc1 xs ys=some (decide (xs=ys)):=by
 unfold zc1
 by_cases hl:xs.length=ys.length
 ·rw[show (((List.length xs:Nat):Int) != ((List.length ys:Nat):Int))=false from by simp [hl],cond_false,zeH _ _ h,zk7 ys xs 0 hl hm,List.drop_zero]
  cases decide (xs=ys) <;> rfl
 ·rw[show (((List.length xs:Nat):Int) != ((List.length ys:Nat):Int))=true from by simp; omega,cond_true,decide_eq_false (by intro h; subst h; exact hl rfl)]
theorem zby {a0:List zd} {a1:List (List Int)} {a2:List zd} (h0:a0.length≤maxLen) (h0m:∀ e∈a0,e.2.length≤maxLen) (h1:a1.length≤maxLen) (h1m:∀ e∈a1,e.length≤maxLen) (h2:a2.length≤maxLen) (h2m:∀ e∈a2,e.2.length≤maxLen) :
  yA a0 a1 a2 a0 a1 a2=some true:=by
 unfold yA
 rw[ze8 h0 h0m,zjD h1 h1m,ze8 h2 h2m]
 simp
theorem zBg {α:Type} {f:α→Nat} {xs:List α} {x:α} (h:x∈xs):f x≤(xs.map f).sum:=by
 induction xs with
 | nil=>cases h
 | cons y ys ih =>
  simp only[List.map_cons,List.sum_cons]
  rcases List.mem_cons.1 h with rfl | h
  ·omega
  ·have:=ih h; omega
theorem zCi {α:Type} {f:α→Nat} (hf:∀ x,1≤f x) (xs:List α):xs.length≤(xs.map f).sum:=by
 induction xs with
 | nil=>simp
 | cons y ys ih =>
  simp only[List.map_cons,List.sum_cons,List.length_cons]
  have:=hf y
  omega
theorem zxK (xs:List Int):wt (.sl (.one (.int .i64))) xs=xs.length+1:=by
 show (List.map (fun _=>1) xs).sum+1=_
 congr 1
 induction xs with
 | nil=>rfl
 | cons y ys ih=>simp only[List.map_cons,List.sum_cons,List.length_cons,ih]; omega
theorem zCI (l:zd):wtT zx l=l.2.length+2:=by
 show 1+wt (.sl (.one (.int .i64))) l.2=_
 rw[zxK]; omega
theorem zwL {ls:List zd} {b:Nat} (h:wt (.sl zx) ls≤b):ls.length≤b∧∀ l∈ls,l.2.length≤b:=by
 have e:(wtT zx:zd→Nat)=fun l=>l.2.length+2:=funext zCI
 have h:(List.map (wtT zx:zd→Nat) ls).sum+1≤b:=h
 rw[e] at h
 replace h:(List.map (fun l:zd=>l.2.length+2) ls).sum+1≤b:=h
 have h1:=zCi (f:=fun l:zd=>l.2.length+2) (fun l=>by omega) ls
 refine ⟨by omega,fun l hl => ?_⟩
 have:=zBg (f:=fun l:zd=>l.2.length+2) hl
 omega
theorem zEm {rs:List (List Int)} {b:Nat} (h:wt (.sl (.one (.sl (.one (.int .i64))))) rs≤b):rs.length≤b∧∀ l∈rs,l.length≤b:=by
 have e:(wtT (.one (.sl (.one (.int .i64)))):List Int→Nat)=fun l=>l.length+1:=funext zxK
 have h:(List.map (wtT (.one (.sl (.one (.int .i64)))):List Int→Nat) rs).sum+1≤b:=h
 rw[e] at h
 replace h:(List.map (fun l:List Int=>l.length+1) rs).sum+1≤b:=h
 have h1:=zCi (f:=fun l:List Int=>l.length+1) (fun l=>by omega) rs
 refine ⟨by omega,fun l hl => ?_⟩
 have:=zBg (f:=fun l:List Int=>l.length+1) hl
 omega
end
end Go.Abs.Q
namespace Go.Abs.Q
open Go Go.Abs
end Go.Abs.Q
namespace Go.Abs.Q
open Go Go.Abs
end Go.Abs.Q
namespace Go.Abs.Q
open Go Go.Abs
section
end
end Go.Abs.Q
namespace Go.Abs.Q
open Go Go.Abs
def zdp:Option (List zm) :=
 some ([(([61]:Str),0,2,1),(([97]:Str),1,0,1),(([98]:Str),1,0,2),(([102]:Str),1,1,1),(([103]:Str),1,2,3),(([112]:Str),0,1,1),(([114]:Str),0,2,2)]:List zm)
def zbQ (a0:(List zd)) (a1:(List (List Int))) (a2:(List zd)) (a3:Int):Option Bool :=
 cond (decide (a3 ≥ 0))
 (some (decide (a3 < ((List.length a0:Nat):Int))))
 (some false)
def z4 (rec:((List (List Int))×(List (List Int))×Int×Int×(List ((List Int)×Int×(List Int)×Int))×(List Int)×Int×(List Int)×Int)→Option (List ((List Int)×Int×(List Int)×Int))) (x:((List (List Int))×(List (List Int))×Int×Int×(List ((List Int)×Int×(List Int)×Int))×(List Int)×Int×(List Int)×Int)):Option (List ((List Int)×Int×(List Int)×Int)) :=
 cond (decide (x.2.2.2.1 < x.2.2.1))
 ((gx x.1 x.2.2.2.1).bind fun e7 =>
  (gx x.2.1 x.2.2.2.1).bind fun e8 =>
  cond (qt (List.length x.2.2.2.2.1+List.length ([(e7,x.2.2.2.2.2.2.1,e8,x.2.2.2.2.2.2.2.2)]:List ((List Int)×Int×(List Int)×Int))) 64)
  (rec (x.1,x.2.1,x.2.2.1,(IntKind.wrap .i64 (x.2.2.2.1+1)),(x.2.2.2.2.1++([(e7,x.2.2.2.2.2.2.1,e8,x.2.2.2.2.2.2.2.2)]:List ((List Int)×Int×(List Int)×Int))),x.2.2.2.2.2.1,x.2.2.2.2.2.2.1,x.2.2.2.2.2.2.2.1,x.2.2.2.2.2.2.2.2))
  (none))
 (some x.2.2.2.2.1)
def qy (a0:(List Int)) (a1:Int) (a2:(List Int)) (a3:Int) (a4:(List zm)) (a5:(List ((Option (List Int))×Int))) (a6:(List ((List Int)×Int×(List Int)×Int))):Option (List ((List Int)×Int×(List Int)×Int)) :=
 (zbm a4 a0).bind fun r10 =>
 (zbm a4 a2).bind fun r11 =>
 ((lp z4 zr) (r10,r11,((List.length r10:Nat):Int),0,a6,a0,a1,a2,a3)).bind fun r12 =>
 some r12
def yK (a0:(List Int)) (a1:Int) (a2:Int):Option Int :=
 (qh a2).bind fun r2 =>
 some (IntKind.wrap .i64 (r2+a1))
def q9 (rec:((List zm)×(List ((Option (List Int))×Int))×(List Int)×Int×Int)→Option ((List Int)×Int)) (x:((List zm)×(List ((Option (List Int))×Int))×(List Int)×Int×Int)):Option ((List Int)×Int) :=
 (gx x.2.2.1 0).bind fun e6 =>
 cond (decide (e6 < 0))
 ((gx x.2.2.1 0).bind fun e7 =>
  (yK x.2.2.1 x.2.2.2.1 e7).bind fun r8 =>
  (inR r8 48).bind fun k9 =>
  (x.2.1[k9]?).bind fun x10 =>
  cond (Option.isNone x10.1)
  (some (x.2.2.1,x.2.2.2.1))
  (rec (x.1,x.2.1,(Option.getD x10.1 []),x10.2,x.2.2.2.2)))
 (some (x.2.2.1,x.2.2.2.1))
def zaD (a0:(List Int)) (a1:Int) (a2:(List zm)) (a3:(List ((Option (List Int))×Int))):Option ((List Int)×Int) :=
 ((lp q9 zr) (a2,a3,a0,a1,0)).bind fun r12 =>
 some (r12.1,r12.2)
def yf (rec:(Int×(List Int)×Int×Int×(List zm)×(List ((Option (List Int))×Int))×(List Int)×Int×(List Bool)×(List ((List Int)×Int)))→Option (((List Bool)×(List ((List Int)×Int)))⊕Bool)) (x:(Int×(List Int)×Int×Int×(List zm)×(List ((Option (List Int))×Int))×(List Int)×Int×(List Bool)×(List ((List Int)×Int)))):Option (((List Bool)×(List ((List Int)×Int)))⊕Bool) :=
 cond (decide (x.2.2.2.1 < x.2.2.1))
 ((gx x.2.1 x.2.2.2.1).bind fun e14 =>
  cond (decide (e14 ≥ 0))
  (rec (x.1,x.2.1,x.2.2.1,(IntKind.wrap .i64 (x.2.2.2.1+1)),x.2.2.2.2.1,x.2.2.2.2.2.1,x.2.2.2.2.2.2.1,x.2.2.2.2.2.2.2.1,x.2.2.2.2.2.2.2.2.1,x.2.2.2.2.2.2.2.2.2))
  ((yK x.2.2.2.2.2.2.1 x.2.2.2.2.2.2.2.1 e14).bind fun r15 =>
   cond (r15 == x.1)
   (some (Sum.inr true))
   ((inR r15 48).bind fun k16 =>
    (x.2.2.2.2.2.2.2.2.1[k16]?).bind fun x17 =>
    cond (!x17)
    ((inR r15 48).bind fun k18 =>
     (x.2.2.2.2.2.1[k18]?).bind fun x19 =>
     cond (!(Option.isNone x19.1))
     ((inR r15 48).bind fun k20 =>
      (x.2.2.2.2.2.2.2.2.1[k20]?).bind fun x21 =>
      (inR r15 48).bind fun k22 =>
      (x.2.2.2.2.2.1[k22]?).bind fun x23 =>
      cond (qt (List.length x.2.2.2.2.2.2.2.2.2+List.length ([((Option.getD x23.1 []),x23.2)]:List ((List Int)×Int))) 32)
      (rec (x.1,x.2.1,x.2.2.1,(IntKind.wrap .i64 (x.2.2.2.1+1)),x.2.2.2.2.1,x.2.2.2.2.2.1,x.2.2.2.2.2.2.1,x.2.2.2.2.2.2.2.1,(List.set x.2.2.2.2.2.2.2.2.1 k20 true),(x.2.2.2.2.2.2.2.2.2++([((Option.getD x23.1 []),x23.2)]:List ((List Int)×Int)))))
      (none))
     (rec (x.1,x.2.1,x.2.2.1,(IntKind.wrap .i64 (x.2.2.2.1+1)),x.2.2.2.2.1,x.2.2.2.2.2.1,x.2.2.2.2.2.2.1,x.2.2.2.2.2.2.2.1,x.2.2.2.2.2.2.2.2.1,x.2.2.2.2.2.2.2.2.2)))
    (rec (x.1,x.2.1,x.2.2.1,(IntKind.wrap .i64 (x.2.2.2.1+1)),x.2.2.2.2.1,x.2.2.2.2.2.1,x.2.2.2.2.2.2.1,x.2.2.2.2.2.2.2.1,x.2.2.2.2.2.2.2.2.1,x.2.2.2.2.2.2.2.2.2)))))
 (some (Sum.inl (x.2.2.2.2.2.2.2.2.1,x.2.2.2.2.2.2.2.2.2)))
def qw (rec:(Int×(List zm)×(List ((Option (List Int))×Int))×(List Int)×Int×(List Bool)×(List ((List Int)×Int)))→Option (Unit⊕Bool)) (x:(Int×(List zm)×(List ((Option (List Int))×Int))×(List Int)×Int×(List Bool)×(List ((List Int)×Int)))):Option (Unit⊕Bool) :=
 cond (decide (((List.length x.2.2.2.2.2.2:Nat):Int) > 0))
 ((inR (IntKind.wrap .i64 (((List.length x.2.2.2.2.2.2:Nat):Int) - 1)) (List.length x.2.2.2.2.2.2)).bind fun k32 =>
  (x.2.2.2.2.2.2[k32]?).bind fun x33 =>
  (zbS x.2.2.2.2.2.2 none (some (IntKind.wrap .i64 (((List.length x.2.2.2.2.2.2:Nat):Int) - 1)))).bind fun y34 =>
  ((lp yf zr) (x.1,x33.1,((List.length x33.1:Nat):Int),0,x.2.1,x.2.2.1,x33.1,x33.2,x.2.2.2.2.2.1,y34)).bind fun r35 =>
  qH r35
  (fun z36=>rec (x.1,x.2.1,x.2.2.1,x33.1,x33.2,z36.1,z36.2))
  (fun z37=>some (Sum.inr z37)))
 (some (Sum.inl ()))
def zbC (a0:Int) (a1:(List Int)) (a2:Int) (a3:(List zm)) (a4:(List ((Option (List Int))×Int))):Option Bool :=
 ((lp qw zr) (a0,a3,a4,a1,a2,(List.replicate 48 false),([(a1,a2)]:List ((List Int)×Int)))).bind fun r41 =>
 qH r41
 (fun z42=>some false)
 (fun z43=>some z43)
def qf (a0:(List Int)) (a1:Int) (a2:(List Int)) (a3:Int) (a4:(List zm)) (a5:(List ((Option (List Int))×Int))):Option (Bool×(List zm)×(List ((Option (List Int))×Int))) :=
 (gx a0 0).bind fun e16 =>
 (yK a0 a1 e16).bind fun r17 =>
 (gx a2 0).bind fun e18 =>
 cond (decide (e18 ≥ 0))
 ((zbC r17 a2 a3 a4 a5).bind fun r19 =>
  cond r19
  (some (false,a4,a5))
  ((inR r17 48).bind fun k20 =>
   (a5[k20]?).bind fun x21 =>
   (nn a2).bind fun p22 =>
   some (true,a4,(List.set a5 k20 ((some p22),a3)))))
 ((gx a2 0).bind fun e23 =>
  (yK a2 a3 e23).bind fun r24 =>
  cond (decide (r24 > r17))
  ((inR r24 48).bind fun k25 =>
   (a5[k25]?).bind fun x26 =>
   (nn a0).bind fun p27 =>
   some (true,a4,(List.set a5 k25 ((some p27),a1))))
  (cond (decide (r24 < r17))
   ((inR r17 48).bind fun k28 =>
    (a5[k28]?).bind fun x29 =>
    (nn a2).bind fun p30 =>
    some (true,a4,(List.set a5 k28 ((some p30),a3))))
   (some (true,a4,a5))))
def zC (rec:((List zm)×(List ((Option (List Int))×Int))×(List ((List Int)×Int×(List Int)×Int)))→Option (Bool×(List zm)×(List ((Option (List Int))×Int)))) (x:((List zm)×(List ((Option (List Int))×Int))×(List ((List Int)×Int×(List Int)×Int)))):Option (Bool×(List zm)×(List ((Option (List Int))×Int))) :=
 cond (((List.length x.2.2:Nat):Int) == 0)
 (some (true,x.1,x.2.1))
 ((inR (IntKind.wrap .i64 (((List.length x.2.2:Nat):Int) - 1)) (List.length x.2.2)).bind fun k27 =>
  (x.2.2[k27]?).bind fun x28 =>
  (zaD x28.1 x28.2.1 x.1 x.2.1).bind fun r29 =>
  (inR (IntKind.wrap .i64 (((List.length x.2.2:Nat):Int) - 1)) (List.length x.2.2)).bind fun k30 =>
  (x.2.2[k30]?).bind fun x31 =>
  (zaD x31.2.2.1 x31.2.2.2 x.1 x.2.1).bind fun r32 =>
  (zbS x.2.2 none (some (IntKind.wrap .i64 (((List.length x.2.2:Nat):Int) - 1)))).bind fun y33 =>
  (gx r29.1 0).bind fun e34 =>
  cond (decide (e34 < 0))
  ((qf r29.1 r29.2 r32.1 r32.2 x.1 x.2.1).bind fun r35 =>
   cond r35.1
   (rec (r35.2.1,r35.2.2,y33))
   (some (false,r35.2.1,r35.2.2)))
  ((gx r32.1 0).bind fun e36 =>
   cond (decide (e36 < 0))
   ((qf r32.1 r32.2 r29.1 r29.2 x.1 x.2.1).bind fun r37 =>
    cond r37.1
    (rec (r37.2.1,r37.2.2,y33))
    (some (false,r37.2.1,r37.2.2)))
   ((gx r29.1 0).bind fun e38 =>
    (gx r32.1 0).bind fun e39 =>
    cond (e38 != e39)
    (some (false,x.1,x.2.1))
    ((zbS r29.1 (some 1) none).bind fun y40 =>
     (zbS r32.1 (some 1) none).bind fun y41 =>
     (qy y40 r29.2 y41 r32.2 x.1 x.2.1 y33).bind fun r42 =>
     rec (x.1,x.2.1,r42)))))
def zai (a0:(List Int)) (a1:Int) (a2:(List Int)) (a3:Int) (a4:(List zm)) (a5:(List ((Option (List Int))×Int))):Option (Bool×(List zm)×(List ((Option (List Int))×Int))) :=
 (qy a0 a1 a2 a3 a4 a5 ([]:(List ((List Int)×Int×(List Int)×Int)))).bind fun r53 =>
 cond (((List.length r53:Nat):Int) == 0)
 (some (true,a4,a5))
 ((inR (IntKind.wrap .i64 (((List.length r53:Nat):Int) - 1)) (List.length r53)).bind fun k54 =>
  (r53[k54]?).bind fun x55 =>
  (zaD x55.1 x55.2.1 a4 a5).bind fun r56 =>
  (inR (IntKind.wrap .i64 (((List.length r53:Nat):Int) - 1)) (List.length r53)).bind fun k57 =>
  (r53[k57]?).bind fun x58 =>
  (zaD x58.2.2.1 x58.2.2.2 a4 a5).bind fun r59 =>
  (zbS r53 none (some (IntKind.wrap .i64 (((List.length r53:Nat):Int) - 1)))).bind fun y60 =>
  (gx r56.1 0).bind fun e61 =>
  cond (decide (e61 < 0))
  ((qf r56.1 r56.2 r59.1 r59.2 a4 a5).bind fun r62 =>
   cond r62.1
   ((((lp zC zr) (r62.2.1,r62.2.2,y60))).bind fun r63 =>
    some (r63.1,r63.2.1,r63.2.2))
   (some (false,r62.2.1,r62.2.2)))
  ((gx r59.1 0).bind fun e64 =>
   cond (decide (e64 < 0))
   ((qf r59.1 r59.2 r56.1 r56.2 a4 a5).bind fun r65 =>
    cond r65.1
    ((((lp zC zr) (r65.2.1,r65.2.2,y60))).bind fun r66 =>
     some (r66.1,r66.2.1,r66.2.2))
    (some (false,r65.2.1,r65.2.2)))
   ((gx r56.1 0).bind fun e67 =>
    (gx r59.1 0).bind fun e68 =>
    cond (e67 != e68)
    (some (false,a4,a5))
    ((zbS r56.1 (some 1) none).bind fun y69 =>
     (zbS r59.1 (some 1) none).bind fun y70 =>
     (qy y69 r56.2 y70 r59.2 a4 a5 y60).bind fun r71 =>
     (((lp zC zr) (a4,a5,r71))).bind fun r72 =>
     some (r72.1,r72.2.1,r72.2.2)))))
def qX (a0:(Option (List Int))) (a1:Int) (a2:Int):Option Int :=
 (qh a2).bind fun r2 =>
 some (IntKind.wrap .i64 (r2+a1))
def yp (rf:(((Option (List Int))×Int×(List zm)×(List ((Option (List Int))×Int)))→Option (Option (List Int)))) (rec:((Option (List Int))×Int×Int×(List zm)×(List ((Option (List Int))×Int))×(Option (List Int))×Int×(List Int))→Option ((List Int)⊕Unit)) (x:((Option (List Int))×Int×Int×(List zm)×(List ((Option (List Int))×Int))×(Option (List Int))×Int×(List Int))):Option ((List Int)⊕Unit) :=
 cond (decide (x.2.2.1 < x.2.1))
 ((gx (Option.getD x.1 []) x.2.2.1).bind fun e27 =>
  cond (decide (e27 < 0))
  ((qX x.2.2.2.2.2.1 x.2.2.2.2.2.2.1 e27).bind fun r28 =>
   (inR r28 48).bind fun k29 =>
   (x.2.2.2.2.1[k29]?).bind fun x30 =>
   cond (!(Option.isNone x30.1))
   ((qX x.2.2.2.2.2.1 x.2.2.2.2.2.2.1 e27).bind fun r31 =>
    (inR r31 48).bind fun k32 =>
    (x.2.2.2.2.1[k32]?).bind fun x33 =>
    (rf (x33.1,x33.2,x.2.2.2.1,x.2.2.2.2.1)).bind fun r34 =>
    cond (Option.isNone r34)
    (some (Sum.inr ()))
    (cond (decide ((IntKind.wrap .i64 (((List.length x.2.2.2.2.2.2.2:Nat):Int)+((List.length (Option.getD r34 []):Nat):Int))) > 48))
     (some (Sum.inr ()))
     (cond (qt (List.length x.2.2.2.2.2.2.2+List.length (Option.getD r34 [])) 8)
      (rec (x.1,x.2.1,(IntKind.wrap .i64 (x.2.2.1+1)),x.2.2.2.1,x.2.2.2.2.1,x.2.2.2.2.2.1,x.2.2.2.2.2.2.1,(x.2.2.2.2.2.2.2++(Option.getD r34 []))))
      (none))))
   ((((nn ([e27]:List Int)).bind fun _ =>
     some false)).bind fun z35 =>
    cond z35
    (some (Sum.inr ()))
    (cond (decide ((IntKind.wrap .i64 (((List.length x.2.2.2.2.2.2.2:Nat):Int)+((List.length ([e27]:List Int):Nat):Int))) > 48))
     (some (Sum.inr ()))
     (cond (qt (List.length x.2.2.2.2.2.2.2+List.length ([e27]:List Int)) 8)
      (rec (x.1,x.2.1,(IntKind.wrap .i64 (x.2.2.1+1)),x.2.2.2.1,x.2.2.2.2.1,x.2.2.2.2.2.1,x.2.2.2.2.2.2.1,(x.2.2.2.2.2.2.2++([e27]:List Int))))
      (none)))))
  ((((nn ([e27]:List Int)).bind fun _ =>
    some false)).bind fun z36 =>
   cond z36
   (some (Sum.inr ()))
   (cond (decide ((IntKind.wrap .i64 (((List.length x.2.2.2.2.2.2.2:Nat):Int)+((List.length ([e27]:List Int):Nat):Int))) > 48))
    (some (Sum.inr ()))
    (cond (qt (List.length x.2.2.2.2.2.2.2+List.length ([e27]:List Int)) 8)
     (rec (x.1,x.2.1,(IntKind.wrap .i64 (x.2.2.1+1)),x.2.2.2.1,x.2.2.2.2.1,x.2.2.2.2.2.1,x.2.2.2.2.2.2.1,(x.2.2.2.2.2.2.2++([e27]:List Int))))
     (none)))))
 (some (Sum.inl x.2.2.2.2.2.2.2))
def zch (rf:(((Option (List Int))×Int×(List zm)×(List ((Option (List Int))×Int)))→Option (Option (List Int)))) (a0:(Option (List Int))) (a1:Int) (a2:(List zm)) (a3:(List ((Option (List Int))×Int))):Option (Option (List Int)) :=
 ((lp (yp rf) zr) (a0,((List.length (Option.getD a0 []):Nat):Int),0,a2,a3,a0,a1,([]:(List Int)))).bind fun r40 =>
 qH r40
 (fun z41=>((nn z41).bind fun z=>some ((2:Nat),some z)).bind fun p42 =>
  some p42.2)
 (fun z43=>some (none:(Option (List Int))))
def zfi (rf:(((Option (List Int))×Int×(List zm)×(List ((Option (List Int))×Int)))→Option (Option (List Int)))):(((Option (List Int))×Int×(List zm)×(List ((Option (List Int))×Int)))→Option (Option (List Int))) :=
 fun (x:((Option (List Int))×Int×(List zm)×(List ((Option (List Int))×Int))))=>zch rf x.1 x.2.1 x.2.2.1 x.2.2.2
def zfl:(((Option (List Int))×Int×(List zm)×(List ((Option (List Int))×Int)))→Option (Option (List Int))):=fun _=>none
def y5 (k:Nat):(((Option (List Int))×Int×(List zm)×(List ((Option (List Int))×Int)))→Option (Option (List Int))):=lpR zfl zfi k
def zdl (a0:(Option (List Int))) (a1:Int) (a2:(List zm)) (a3:(List ((Option (List Int))×Int))):Option (Option (List Int)):=(y5 zr) (a0,a1,a2,a3)
def qY (rec:(Int×(List zm)×(List ((Option (List Int))×Int))×(List (Int×(List Int))))→Option ((List (Int×(List Int)))⊕(Bool×Int))) (x:(Int×(List zm)×(List ((Option (List Int))×Int))×(List (Int×(List Int))))):Option ((List (Int×(List Int)))⊕(Bool×Int)) :=
 cond (decide (x.1 < 24))
 ((inR x.1 48).bind fun k16 =>
  (x.2.2.1[k16]?).bind fun x17 =>
  cond (Option.isNone x17.1)
  (rec ((IntKind.wrap .i64 (x.1+1)),x.2.1,x.2.2.1,x.2.2.2))
  ((inR x.1 48).bind fun k18 =>
   (x.2.2.1[k18]?).bind fun x19 =>
   (zdl x19.1 x19.2 x.2.1 x.2.2.1).bind fun r20 =>
   cond (Option.isNone r20)
   (some (Sum.inr (false,401)))
   ((zbo (Option.getD r20 [])).bind fun r21 =>
    cond (qt (List.length x.2.2.2+List.length ([(x.1,r21)]:List (Int×(List Int)))) 32)
    (rec ((IntKind.wrap .i64 (x.1+1)),x.2.1,x.2.2.1,(x.2.2.2++([(x.1,r21)]:List (Int×(List Int))))))
    (none))))
 (some (Sum.inl x.2.2.2))
def zde (a0:(List zm)) (a1:(List Int)) (a2:(List Int)):Option (Bool×Int×(List (Int×(List Int)))) :=
 (zeo a0 a1).bind fun r25 =>
 (zeo a0 a2).bind fun r26 =>
 cond (r25.2 != 0)
 (some (false,400,([]:(List (Int×(List Int))))))
 (cond (r26.2 != 0)
  (some (false,400,([]:(List (Int×(List Int))))))
  (cond (r25.1 != r26.1)
   (some (false,0,([]:(List (Int×(List Int))))))
   ((zai a1 0 a2 0 a0 (List.replicate 48 ((none:(Option (List Int))),(0:Int)))).bind fun r27 =>
    cond (!r27.1)
    (some (false,0,([]:(List (Int×(List Int))))))
    (((lp qY zr) (0,r27.2.1,r27.2.2,([]:(List (Int×(List Int)))))).bind fun r28 =>
     qH r28
     (fun z29=>some (true,0,z29))
     (fun z30=>some (z30.1,z30.2,([]:(List (Int×(List Int))))))))))
def zew (a0:Int):Option (List (List Int)) :=
 cond (decide (a0 < 0))
 (none)
 (cond (decide ((IntKind.wrap .i64 (a0 - 0)) > 0))
  (cond (eqI 0 0&&eqI 0 0)
   (cond (zBE (IntKind.wrap .i64 (a0 - 0)))
    (cond (qt (Int.toNat (IntKind.wrap .i64 (a0 - 0))) 24)
     ((zbS (List.replicate (Int.toNat (IntKind.wrap .i64 (a0 - 0))) ([]:(List Int))) none (some 0)).bind fun y2 =>
      some y2)
     (none))
    (none))
   (none))
  (some ([]:(List (List Int)))))
def yP (rec:((List (List (List Int)))×Int×Int×(List (List Int)))→Option (List (List Int))) (x:((List (List (List Int)))×Int×Int×(List (List Int)))):Option (List (List Int)) :=
 cond (decide (x.2.2.1 < x.2.1))
 ((gx x.1 x.2.2.1).bind fun e7 =>
  cond (qt (List.length x.2.2.2+List.length e7) 24)
  (rec (x.1,x.2.1,(IntKind.wrap .i64 (x.2.2.1+1)),(x.2.2.2++e7)))
  (none))
 (some x.2.2.2)
def yN (rec:((List (List (List Int)))×Int×(List (List (List Int)))×Int×Int)→Option Int) (x:((List (List (List Int)))×Int×(List (List (List Int)))×Int×Int)):Option Int :=
 cond (decide (x.2.2.2.2 < x.2.2.2.1))
 ((gx x.2.2.1 x.2.2.2.2).bind fun e2 =>
  cond (decide ((IntKind.wrap .i64 (x.2.1+((List.length e2:Nat):Int))) < 0))
  (none)
  (rec (x.1,(IntKind.wrap .i64 (x.2.1+((List.length e2:Nat):Int))),x.2.2.1,x.2.2.2.1,(IntKind.wrap .i64 (x.2.2.2.2+1)))))
 (some x.2.1)
def zc2 (a0:(List (List (List Int)))):Option (List (List Int)) :=
 ((lp yN zr) (a0,0,a0,((List.length a0:Nat):Int),0)).bind fun r9 =>
 (zew r9).bind fun r10 =>
 ((lp yP zr) (a0,((List.length a0:Nat):Int),0,r10)).bind fun r11 =>
 some r11
def zcS (a0:Int):Option (List zd) :=
 cond (decide (a0 < 0))
 (none)
 (cond (decide ((IntKind.wrap .i64 (a0 - 0)) > 0))
  (cond (eqI 0 0&&eqI 0 0)
   (cond (zBE (IntKind.wrap .i64 (a0 - 0)))
    (cond (qt (Int.toNat (IntKind.wrap .i64 (a0 - 0))) 32)
     ((zbS (List.replicate (Int.toNat (IntKind.wrap .i64 (a0 - 0))) (false,([]:(List Int)))) none (some 0)).bind fun y2 =>
      some y2)
     (none))
    (none))
   (none))
  (some ([]:(List zd))))
def yq (rec:((List (List zd))×Int×Int×(List zd))→Option (List zd)) (x:((List (List zd))×Int×Int×(List zd))):Option (List zd) :=
 cond (decide (x.2.2.1 < x.2.1))
 ((gx x.1 x.2.2.1).bind fun e7 =>
  cond (qt (List.length x.2.2.2+List.length e7) 32)
  (rec (x.1,x.2.1,(IntKind.wrap .i64 (x.2.2.1+1)),(x.2.2.2++e7)))
  (none))
 (some x.2.2.2)
def yo (rec:((List (List zd))×Int×(List (List zd))×Int×Int)→Option Int) (x:((List (List zd))×Int×(List (List zd))×Int×Int)):Option Int :=
 cond (decide (x.2.2.2.2 < x.2.2.2.1))
 ((gx x.2.2.1 x.2.2.2.2).bind fun e2 =>
  cond (decide ((IntKind.wrap .i64 (x.2.1+((List.length e2:Nat):Int))) < 0))
  (none)
  (rec (x.1,(IntKind.wrap .i64 (x.2.1+((List.length e2:Nat):Int))),x.2.2.1,x.2.2.2.1,(IntKind.wrap .i64 (x.2.2.2.2+1)))))
 (some x.2.1)
def zb4 (a0:(List (List zd))):Option (List zd) :=
 ((lp yo zr) (a0,0,a0,((List.length a0:Nat):Int),0)).bind fun r9 =>
 (zcS r9).bind fun r10 =>
 ((lp yq zr) (a0,((List.length a0:Nat):Int),0,r10)).bind fun r11 =>
 some r11
def qg (rec:(Int×(List zd)×Int×Int×(List (List Int))×(List zd)×(List zd))→Option ((List (List Int))×(List zd)×(List zd))) (x:(Int×(List zd)×Int×Int×(List (List Int))×(List zd)×(List zd))):Option ((List (List Int))×(List zd)×(List zd)) :=
 cond (decide (x.2.2.2.1 < x.2.2.1))
 ((gx x.2.1 x.2.2.2.1).bind fun e8 =>
  cond (x.2.2.2.1 != x.1)
  (cond (qt (List.length x.2.2.2.2.2.1+List.length ([(e8.1,e8.2)]:List zd)) 32)
   (rec (x.1,x.2.1,x.2.2.1,(IntKind.wrap .i64 (x.2.2.2.1+1)),x.2.2.2.2.1,(x.2.2.2.2.2.1++([(e8.1,e8.2)]:List zd)),x.2.2.2.2.2.2))
   (none))
  (rec (x.1,x.2.1,x.2.2.1,(IntKind.wrap .i64 (x.2.2.2.1+1)),x.2.2.2.2.1,x.2.2.2.2.2.1,x.2.2.2.2.2.2)))
 (some (x.2.2.2.2.1,x.2.2.2.2.2.1,x.2.2.2.2.2.2))
def qj (rec:(Int×Int×(List zd)×Int×Int×(List zd)×(List (List Int))×(List zd)×(List (List Int))×(List zd)×(List zd))→Option ((List (List Int))×(List zd)×(List zd))) (x:(Int×Int×(List zd)×Int×Int×(List zd)×(List (List Int))×(List zd)×(List (List Int))×(List zd)×(List zd))):Option ((List (List Int))×(List zd)×(List zd)) :=
 cond (decide (x.2.2.2.2.1 < x.2.2.2.1))
 ((gx x.2.2.1 x.2.2.2.2.1).bind fun e5 =>
  cond (x.2.2.2.2.1 != x.1)
  (cond (qt (List.length x.2.2.2.2.2.2.2.2.2.1+List.length ([(e5.1,e5.2)]:List zd)) 32)
   (rec (x.1,x.2.1,x.2.2.1,x.2.2.2.1,(IntKind.wrap .i64 (x.2.2.2.2.1+1)),x.2.2.2.2.2.1,x.2.2.2.2.2.2.1,x.2.2.2.2.2.2.2.1,x.2.2.2.2.2.2.2.2.1,(x.2.2.2.2.2.2.2.2.2.1++([(e5.1,e5.2)]:List zd)),x.2.2.2.2.2.2.2.2.2.2))
   (none))
  (rec (x.1,x.2.1,x.2.2.1,x.2.2.2.1,(IntKind.wrap .i64 (x.2.2.2.2.1+1)),x.2.2.2.2.2.1,x.2.2.2.2.2.2.1,x.2.2.2.2.2.2.2.1,x.2.2.2.2.2.2.2.2.1,x.2.2.2.2.2.2.2.2.2.1,x.2.2.2.2.2.2.2.2.2.2)))
 (some (x.2.2.2.2.2.2.2.2.1,x.2.2.2.2.2.2.2.2.2.1,x.2.2.2.2.2.2.2.2.2.2))
def zcu (a0:(List zd)) (a1:(List (List Int))) (a2:(List zd)) (a3:Int) (a4:(List zd)) (a5:(List (List Int))) (a6:(List zd)) (a7:Int):Option ((List (List Int))×(List zd)×(List zd)) :=
 (zc2 ([a1,a5]:List (List (List Int)))).bind fun r10 =>
 (zb4 ([a2,a6]:List (List zd))).bind fun r11 =>
 ((lp qj zr) (a3,a7,a0,((List.length a0:Nat):Int),0,a4,a5,a6,r10,([]:(List zd)),r11)).bind fun r12 =>
 ((lp qg zr) (a7,a4,((List.length a4:Nat):Int),0,r12.1,r12.2.1,r12.2.2)).bind fun r13 =>
 some (r13.1,r13.2.1,r13.2.2)
def zap (rec:(Int×(List (Int×(List Int)))×Int×Int)→Option (Unit⊕(List Int))) (x:(Int×(List (Int×(List Int)))×Int×Int)):Option (Unit⊕(List Int)) :=
 cond (decide (x.2.2.2 < x.2.2.1))
 ((gx x.2.1 x.2.2.2).bind fun e2 =>
  cond (e2.1 == x.1)
  (some (Sum.inr e2.2))
  (rec (x.1,x.2.1,x.2.2.1,(IntKind.wrap .i64 (x.2.2.2+1)))))
 (some (Sum.inl ()))
def zfA (a0:(List (Int×(List Int)))) (a1:Int):Option (Option (List Int)) :=
 ((lp zap zr) (a1,a0,((List.length a0:Nat):Int),0)).bind fun r6 =>
 qH r6
 (fun z7=>some (none:(Option (List Int))))
 (fun z8=>(nn z8).bind fun p9 =>
  some (some p9))
def zbt (rec:((List (Int×(List Int)))×(List Int)×Int×Int×(List Int))→Option (List Int)) (x:((List (Int×(List Int)))×(List Int)×Int×Int×(List Int))):Option (List Int) :=
 cond (decide (x.2.2.2.1 < x.2.2.1))
 ((gx x.2.1 x.2.2.2.1).bind fun e10 =>
  (qh e10).bind fun r11 =>
  (zfA x.1 r11).bind fun r12 =>
  cond (decide (e10 ≥ 0))
  (cond (qt (List.length x.2.2.2.2+List.length ([e10]:List Int)) 8)
   (rec (x.1,x.2.1,x.2.2.1,(IntKind.wrap .i64 (x.2.2.2.1+1)),(x.2.2.2.2++([e10]:List Int))))
   (none))
  (cond (Option.isNone r12)
   (cond (qt (List.length x.2.2.2.2+List.length ([e10]:List Int)) 8)
    (rec (x.1,x.2.1,x.2.2.1,(IntKind.wrap .i64 (x.2.2.2.1+1)),(x.2.2.2.2++([e10]:List Int))))
    (none))
   (cond (qt (List.length x.2.2.2.2+List.length (Option.getD r12 [])) 8)
    (rec (x.1,x.2.1,x.2.2.1,(IntKind.wrap .i64 (x.2.2.2.1+1)),(x.2.2.2.2++(Option.getD r12 []))))
    (none))))
 (some x.2.2.2.2)
def zni (a0:(List (Int×(List Int)))) (a1:(List Int)):Option (List Int) :=
 ((lp zbt zr) (a0,a1,((List.length a1:Nat):Int),0,([]:(List Int)))).bind fun r14 =>
 some r14
def qZ (a0:(List Int)) (a1:(List (Int×(List Int)))):Option (List Int) :=
 (zni a1 a0).bind fun r2 =>
 some r2
def qC (rec:((List zd)×Int×Int×(List (Int×(List Int)))×(List zd)×(List (List Int))×(List zd))→Option ((List zd)×(List (List Int))×(List zd))) (x:((List zd)×Int×Int×(List (Int×(List Int)))×(List zd)×(List (List Int))×(List zd))):Option ((List zd)×(List (List Int))×(List zd)) :=
 cond (decide (x.2.2.1 < x.2.1))
 ((gx x.1 x.2.2.1).bind fun e19 =>
  (qZ e19.2 x.2.2.2.1).bind fun r20 =>
  cond (qt (List.length x.2.2.2.2.2.2+List.length ([(e19.1,r20)]:List zd)) 32)
  (rec (x.1,x.2.1,(IntKind.wrap .i64 (x.2.2.1+1)),x.2.2.2.1,x.2.2.2.2.1,x.2.2.2.2.2.1,(x.2.2.2.2.2.2++([(e19.1,r20)]:List zd))))
  (none))
 (some (x.2.2.2.2.1,x.2.2.2.2.2.1,x.2.2.2.2.2.2))
def qI (rec:((List (List Int))×Int×Int×(List (Int×(List Int)))×(List zd)×(List (List Int))×(List zd)×(List zd)×(List (List Int)))→Option ((List zd)×(List (List Int)))) (x:((List (List Int))×Int×Int×(List (Int×(List Int)))×(List zd)×(List (List Int))×(List zd)×(List zd)×(List (List Int)))):Option ((List zd)×(List (List Int))) :=
 cond (decide (x.2.2.1 < x.2.1))
 ((gx x.1 x.2.2.1).bind fun e12 =>
  (qZ e12 x.2.2.2.1).bind fun r13 =>
  cond (qt (List.length x.2.2.2.2.2.2.2.2+List.length ([r13]:List (List Int))) 24)
  (rec (x.1,x.2.1,(IntKind.wrap .i64 (x.2.2.1+1)),x.2.2.2.1,x.2.2.2.2.1,x.2.2.2.2.2.1,x.2.2.2.2.2.2.1,x.2.2.2.2.2.2.2.1,(x.2.2.2.2.2.2.2.2++([r13]:List (List Int)))))
  (none))
 (some (x.2.2.2.2.2.2.2.1,x.2.2.2.2.2.2.2.2))
def qE (rec:((List zd)×Int×Int×(List (Int×(List Int)))×(List zd)×(List (List Int))×(List zd)×(List zd))→Option (List zd)) (x:((List zd)×Int×Int×(List (Int×(List Int)))×(List zd)×(List (List Int))×(List zd)×(List zd))):Option (List zd) :=
 cond (decide (x.2.2.1 < x.2.1))
 ((gx x.1 x.2.2.1).bind fun e5 =>
  (qZ e5.2 x.2.2.2.1).bind fun r6 =>
  cond (qt (List.length x.2.2.2.2.2.2.2+List.length ([(e5.1,r6)]:List zd)) 32)
  (rec (x.1,x.2.1,(IntKind.wrap .i64 (x.2.2.1+1)),x.2.2.2.1,x.2.2.2.2.1,x.2.2.2.2.2.1,x.2.2.2.2.2.2.1,(x.2.2.2.2.2.2.2++([(e5.1,r6)]:List zd))))
  (none))
 (some x.2.2.2.2.2.2.2)
def zhw (a0:(List zd)) (a1:(List (List Int))) (a2:(List zd)) (a3:(List (Int×(List Int)))):Option ((List zd)×(List (List Int))×(List zd)) :=
 ((lp qE zr) (a0,((List.length a0:Nat):Int),0,a3,a0,a1,a2,([]:(List zd)))).bind fun r22 =>
 ((lp qI zr) (a1,((List.length a1:Nat):Int),0,a3,a0,a1,a2,r22,([]:(List (List Int))))).bind fun r23 =>
 ((lp qC zr) (a2,((List.length a2:Nat):Int),0,a3,r23.1,r23.2,([]:(List zd)))).bind fun r24 =>
 some (r24.1,r24.2.1,r24.2.2)
def zfF (a0:(List (Int×(List Int)))) (a1:(List zd)) (a2:(List (List Int))) (a3:(List zd)):Option ((List zd)×(List (List Int))×(List zd)) :=
 (zhw a1 a2 a3 a0).bind fun r2 =>
 some (r2.1,r2.2.1,r2.2.2)
def zbL (a0:(List zm)) (a1:(List zd)) (a2:(List (List Int))) (a3:(List zd)) (a4:Int) (a5:Int):Option ((List zd)×(List (List Int))×Bool×Int×(List zd)) :=
 (gx a1 a4).bind fun e11 =>
 (gx a1 a5).bind fun e12 =>
 cond (!(e11.1 == e12.1))
 (some (([]:(List zd)),([]:(List (List Int))),false,0,([]:(List zd))))
 ((gx e11.2 0).bind fun e13 =>
  (gx e12.2 0).bind fun e14 =>
  cond (e13 != e14)
  (some (([]:(List zd)),([]:(List (List Int))),false,0,([]:(List zd))))
  ((zbS e11.2 (some 1) none).bind fun y15 =>
   (zbS e12.2 (some 1) none).bind fun y16 =>
   (zde a0 y15 y16).bind fun r17 =>
   cond (r17.2.1 != 0)
   (some (([]:(List zd)),([]:(List (List Int))),false,1401,([]:(List zd))))
   (cond (!r17.1)
    (some (([]:(List zd)),([]:(List (List Int))),false,0,([]:(List zd))))
    ((zcu a1 a2 a3 a5 ([]:(List zd)) ([]:(List (List Int))) ([]:(List zd)) (-1)).bind fun r18 =>
     (zfF r17.2.2 r18.2.1 r18.1 r18.2.2).bind fun r19 =>
     (zb5 a0 r19.1 r19.2.1 r19.2.2).bind fun r20 =>
     cond (r20.2.2.1 != 0)
     (some (([]:(List zd)),([]:(List (List Int))),false,1401,([]:(List zd))))
     (some (r20.1,r20.2.1,true,0,r20.2.2.2))))))
def zbP (a0:(List zm)) (a1:(List zd)) (a2:(List (List Int))) (a3:(List zd)) (a4:Int) (a5:Int):Option ((List zd)×(List (List Int))×Bool×Int×(List zd)) :=
 (zbN a0 a1 a2 a3).bind fun r5 =>
 cond (!r5)
 (some (([]:(List zd)),([]:(List (List Int))),false,1400,([]:(List zd))))
 ((zbQ a1 a2 a3 a4).bind fun r6 =>
  cond (!r6)
  (some (([]:(List zd)),([]:(List (List Int))),false,1400,([]:(List zd))))
  ((zbQ a1 a2 a3 a5).bind fun r7 =>
   cond (!r7)
   (some (([]:(List zd)),([]:(List (List Int))),false,1400,([]:(List zd))))
   (cond (a4 == a5)
    (some (([]:(List zd)),([]:(List (List Int))),false,1400,([]:(List zd))))
    ((zbL a0 a1 a2 a3 a4 a5).bind fun r8 =>
     some (r8.1,r8.2.1,r8.2.2.1,r8.2.2.2.1,r8.2.2.2.2)))))
def zkg (a0:Bool) (a1:(List Int)) (a2:(List zm)):Option Bool :=
 (zhe a2 a0 a1).bind fun r2 =>
 some (!r2)
def zba (rec:((List zd)×Int×Int×(List zm))→Option (Unit⊕Int)) (x:((List zd)×Int×Int×(List zm))):Option (Unit⊕Int) :=
 cond (decide (x.2.2.1 < x.2.1))
 ((gx x.1 x.2.2.1).bind fun e3 =>
  (zkg e3.1 e3.2 x.2.2.2).bind fun r4 =>
  cond r4
  (some (Sum.inr x.2.2.1))
  (rec (x.1,x.2.1,(IntKind.wrap .i64 (x.2.2.1+1)),x.2.2.2)))
 (some (Sum.inl ()))
def zdJ (a0:(List zd)) (a1:(List zm)):Option Int :=
 ((lp zba zr) (a0,((List.length a0:Nat):Int),0,a1)).bind fun r8 =>
 qH r8
 (fun z9=>some (-1))
 (fun z10=>some z10)
def zcy (a0:(List zd)) (a1:(List zm)):Option Bool :=
 (zdJ a0 a1).bind fun r2 =>
 some (decide (r2 ≥ 0))
def zg2 (a0:(List zm)) (a1:(List Int)):Option Bool :=
 (zcj a0 a1).bind fun r2 =>
 cond r2.1
 (some (((List.length r2.2:Nat):Int) == 1))
 (some false)
def zdX (rec:((List Int)×Int×Int×(List Int))→Option (List Int)) (x:((List Int)×Int×Int×(List Int))):Option (List Int) :=
 cond (decide (x.2.2.1 < x.2.1))
 ((gx x.1 x.2.2.1).bind fun e7 =>
  cond (decide (e7 < 0))
  ((qh e7).bind fun r8 =>
   (inR r8 24).bind fun k9 =>
   (x.2.2.2[k9]?).bind fun x10 =>
   (inR r8 24).bind fun k11 =>
   (x.2.2.2[k11]?).bind fun x12 =>
   rec (x.1,x.2.1,(IntKind.wrap .i64 (x.2.2.1+1)),(List.set x.2.2.2 k11 (IntKind.wrap .i64 (x10+1)))))
  (rec (x.1,x.2.1,(IntKind.wrap .i64 (x.2.2.1+1)),x.2.2.2)))
 (some x.2.2.2)
def zg9 (a0:(List Int)):Option (List Int) :=
 ((lp zdX zr) (a0,((List.length a0:Nat):Int),0,(List.replicate 24 (0:Int)))).bind fun r14 =>
 cond (Nat.beq (List.length r14) 24)
 (cond (Nat.beq (List.length r14) 24)
  (cond (Nat.beq (List.length r14) 24)
   (some r14)
   (none))
  (none))
 (none)
def zdr (rec:(Int×(List Int)×(List Int))→Option (Unit⊕Bool)) (x:(Int×(List Int)×(List Int))):Option (Unit⊕Bool) :=
 cond (decide (x.1 < 24))
 ((inR x.1 24).bind fun k11 =>
  (x.2.1[k11]?).bind fun x12 =>
  (inR x.1 24).bind fun k13 =>
  (x.2.2[k13]?).bind fun x14 =>
  cond (decide (x12 < x14))
  (some (Sum.inr false))
  (rec ((IntKind.wrap .i64 (x.1+1)),x.2.1,x.2.2)))
 (some (Sum.inl ()))
def zjg (a0:(List Int)) (a1:(List Int)):Option Bool :=
 (zg9 a0).bind fun r18 =>
 (zg9 a1).bind fun r19 =>
 cond (Nat.beq (List.length (List.replicate 24 (0:Int))) 24)
 (cond (Nat.beq (List.length (List.replicate 24 (0:Int))) 24)
  (((lp zdr zr) (0,r18,r19)).bind fun r20 =>
   qH r20
   (fun z21=>some true)
   (fun z22=>some z22))
  (none))
 (none)
def zg8 (rec:((List zm)×Int×(List Int)×Int×Int)→Option Int) (x:((List zm)×Int×(List Int)×Int×Int)):Option Int :=
 cond (decide (x.2.2.2.2 < x.2.2.2.1))
 ((gx x.2.2.1 x.2.2.2.2).bind fun e3 =>
  cond (decide (e3 < 0))
  (rec (x.1,(IntKind.wrap .i64 (x.2.1+1)),x.2.2.1,x.2.2.2.1,(IntKind.wrap .i64 (x.2.2.2.2+1))))
  ((gx x.1 e3).bind fun e4 =>
   rec (x.1,(IntKind.wrap .i64 (x.2.1+e4.2.2.2)),x.2.2.1,x.2.2.2.1,(IntKind.wrap .i64 (x.2.2.2.2+1)))))
 (some x.2.1)
def zne (a0:(List zm)) (a1:(List Int)):Option Int :=
 ((lp zg8 zr) (a0,0,a1,((List.length a1:Nat):Int),0)).bind fun r6 =>
 some r6
def zc8 (rec:((List (List Int))×(List (List Int))×Int×Int)→Option (Unit⊕((List Int)×(List Int)))) (x:((List (List Int))×(List (List Int))×Int×Int)):Option (Unit⊕((List Int)×(List Int))) :=
 cond (decide (x.2.2.2 < x.2.2.1))
 ((gx x.2.1 x.2.2.2).bind fun e7 =>
  cond (decide (x.2.2.2 < ((List.length x.1:Nat):Int)))
  ((gx x.1 x.2.2.2).bind fun e8 =>
   (qo e7 e8).bind fun r9 =>
   cond (!r9)
   ((gx x.1 x.2.2.2).bind fun e10 =>
    some (Sum.inr (e7,e10)))
   (rec (x.1,x.2.1,x.2.2.1,(IntKind.wrap .i64 (x.2.2.2+1)))))
  (rec (x.1,x.2.1,x.2.2.1,(IntKind.wrap .i64 (x.2.2.2+1)))))
 (some (Sum.inl ()))
def zjh (a0:(List zm)) (a1:(List Int)) (a2:(List Int)):Option ((List Int)×(List Int)) :=
 (zbm a0 a2).bind fun r14 =>
 (zbm a0 a1).bind fun r15 =>
 ((lp zc8 zr) (r14,r15,((List.length r15:Nat):Int),0)).bind fun r16 =>
 qH r16
 (fun z17=>some (([]:(List Int)),([]:(List Int))))
 (fun z18=>some (z18.1,z18.2))
def zeW (rec:((List zm)×(List Int)×(List Int))→Option (Unit⊕Bool)) (x:((List zm)×(List Int)×(List Int))):Option (Unit⊕Bool) :=
 (((nn x.2.1).bind fun _ =>
  some false)).bind fun z23 =>
 cond (!z23)
 ((zjg x.2.1 x.2.2).bind fun r24 =>
  cond r24
  ((zne x.1 x.2.1).bind fun r25 =>
   (zne x.1 x.2.2).bind fun r26 =>
   cond (r25 != r26)
   (some (Sum.inr (decide (r25 > r26))))
   ((gx x.2.1 0).bind fun e27 =>
    (gx x.2.2 0).bind fun e28 =>
    cond (e27 != e28)
    ((gx x.2.1 0).bind fun e29 =>
     (gx x.2.2 0).bind fun e30 =>
     some (Sum.inr (decide (e29 > e30))))
    ((zbS x.2.1 (some 1) none).bind fun y31 =>
     (zbS x.2.2 (some 1) none).bind fun y32 =>
     (zjh x.1 y31 y32).bind fun r33 =>
     rec (x.1,r33.1,r33.2))))
  (some (Sum.inl ())))
 (some (Sum.inl ()))
def zbr (a0:(List zm)) (a1:(List Int)) (a2:(List Int)):Option Bool :=
 ((lp zeW zr) (a0,a1,a2)).bind fun r37 =>
 qH r37
 (fun z38=>some false)
 (fun z39=>some z39)
def zhX (a0:(List zm)) (a1:(List Int)) (a2:(List Int)):Option (Int×Int) :=
 (zg2 a0 a1).bind fun r19 =>
 cond r19
 ((zg2 a0 a2).bind fun r20 =>
  (zbl a0 a1).bind fun r21 =>
  cond r21
  ((zbl a0 a2).bind fun r22 =>
   cond (!r20)
   (cond (!r22)
    (some (0,600))
    ((qo a1 a2).bind fun r23 =>
     cond r23
     (some (1,0))
     ((zbr a0 a1 a2).bind fun r24 =>
      cond r24
      (some (2,0))
      ((zbr a0 a2 a1).bind fun r25 =>
       cond r25
       (some (0,0))
       (some (3,0))))))
   ((qo a1 a2).bind fun r26 =>
    cond r26
    (some (1,0))
    ((zbr a0 a1 a2).bind fun r27 =>
     cond r27
     (some (2,0))
     ((zbr a0 a2 a1).bind fun r28 =>
      cond r28
      (some (0,0))
      (some (3,0))))))
  (cond (!r20)
   (some (0,600))
   ((qo a1 a2).bind fun r29 =>
    cond r29
    (some (1,0))
    ((zbr a0 a1 a2).bind fun r30 =>
     cond r30
     (some (2,0))
     ((zbr a0 a2 a1).bind fun r31 =>
      cond r31
      (some (0,0))
      (some (3,0)))))))
 ((zbl a0 a1).bind fun r32 =>
  cond r32
  ((zbl a0 a2).bind fun r33 =>
   cond (!r33)
   (some (0,600))
   ((qo a1 a2).bind fun r34 =>
    cond r34
    (some (1,0))
    ((zbr a0 a1 a2).bind fun r35 =>
     cond r35
     (some (2,0))
     ((zbr a0 a2 a1).bind fun r36 =>
      cond r36
      (some (0,0))
      (some (3,0))))))
  (some (0,600)))
def zkn (a0:(List zm)) (a1:Bool) (a2:(List Int)) (a3:Bool) (a4:(List Int)):Option (Int×Int) :=
 (zhe a0 a1 a2).bind fun r4 =>
 cond (!r4)
 (some (0,700))
 ((zhe a0 a3 a4).bind fun r5 =>
  cond (!r5)
  (some (0,700))
  ((zhX a0 a2 a4).bind fun r6 =>
   cond (r6.1 != 1)
   (some (r6.1,0))
   (cond (a1 == a3)
    (some (r6.1,0))
    (cond a1
     (some (2,0))
     (some (0,0))))))
def zj1 (a0:Bool) (a1:(List Int)) (a2:(List zm)) (a3:Bool) (a4:(List Int)):Option Bool :=
 (zkn a2 a0 a1 a3 a4).bind fun r2 =>
 some (r2.1 == 2)
def zbd (rec:((List zd)×Int×Int×(List zm)×Bool×(List Int))→Option (Unit⊕Int)) (x:((List zd)×Int×Int×(List zm)×Bool×(List Int))):Option (Unit⊕Int) :=
 cond (decide (x.2.2.1 < x.2.1))
 ((gx x.1 x.2.2.1).bind fun e3 =>
  (zj1 e3.1 e3.2 x.2.2.2.1 x.2.2.2.2.1 x.2.2.2.2.2).bind fun r4 =>
  cond r4
  (some (Sum.inr x.2.2.1))
  (rec (x.1,x.2.1,(IntKind.wrap .i64 (x.2.2.1+1)),x.2.2.2.1,x.2.2.2.2.1,x.2.2.2.2.2)))
 (some (Sum.inl ()))
def zdG (a0:(List zd)) (a1:(List zm)) (a2:Bool) (a3:(List Int)):Option Int :=
 ((lp zbd zr) (a0,((List.length a0:Nat):Int),0,a1,a2,a3)).bind fun r8 =>
 qH r8
 (fun z9=>some (-1))
 (fun z10=>some z10)
def zcC (a0:(List zd)) (a1:(List zm)) (a2:Bool) (a3:(List Int)):Option Bool :=
 (zdG a0 a1 a2 a3).bind fun r2 =>
 some (decide (r2 ≥ 0))
def zhq (rec:((List zd)×(List zd)×Int×Int×(List zm)×(List Int))→Option (List Int)) (x:((List zd)×(List zd)×Int×Int×(List zm)×(List Int))):Option (List Int) :=
 cond (decide (x.2.2.2.1 < x.2.2.1))
 ((gx x.2.1 x.2.2.2.1).bind fun e7 =>
  (zcC x.1 x.2.2.2.2.1 e7.1 e7.2).bind fun r8 =>
  cond (!r8)
  (cond (qt (List.length x.2.2.2.2.2+List.length ([x.2.2.2.1]:List Int)) 8)
   (rec (x.1,x.2.1,x.2.2.1,(IntKind.wrap .i64 (x.2.2.2.1+1)),x.2.2.2.2.1,(x.2.2.2.2.2++([x.2.2.2.1]:List Int))))
   (none))
  (rec (x.1,x.2.1,x.2.2.1,(IntKind.wrap .i64 (x.2.2.2.1+1)),x.2.2.2.2.1,x.2.2.2.2.2)))
 (some x.2.2.2.2.2)
def zq2 (a0:(List zm)) (a1:(List zd)):Option (Int×(List Int)) :=
 (ze1 a0).bind fun r10 =>
 cond (!r10)
 (some (700,([]:(List Int))))
 ((zcy a1 a0).bind fun r11 =>
  cond r11
  (some (700,([]:(List Int))))
  (((lp zhq zr) (a1,a1,((List.length a1:Nat):Int),0,a0,([]:(List Int)))).bind fun r12 =>
   some (0,r12)))
def zfw (a0:(List zm)) (a1:Bool) (a2:(List Int)):Option Bool :=
 cond a1
 (some false)
 ((gx a2 0).bind fun e9 =>
  cond (e9 != 0)
  (some false)
  ((zbS a2 (some 1) none).bind fun y10 =>
   (zbm a0 y10).bind fun r11 =>
   (inR 0 (List.length r11)).bind fun k12 =>
   (r11[k12]?).bind fun x13 =>
   (inR 1 (List.length r11)).bind fun k14 =>
   (r11[k14]?).bind fun x15 =>
   (qo x13 x15).bind fun r16 =>
   some r16))
def zea (a0:Bool) (a1:(List Int)) (a2:Bool) (a3:(List Int)):Option Bool :=
 cond (!(a2 == a0))
 ((qo a3 a1).bind fun r2 =>
  some r2)
 (some false)
def zbc (rec:((List zd)×Int×Int×Bool×(List Int))→Option (Unit⊕Int)) (x:((List zd)×Int×Int×Bool×(List Int))):Option (Unit⊕Int) :=
 cond (decide (x.2.2.1 < x.2.1))
 ((gx x.1 x.2.2.1).bind fun e3 =>
  (zea e3.1 e3.2 x.2.2.2.1 x.2.2.2.2).bind fun r4 =>
  cond r4
  (some (Sum.inr x.2.2.1))
  (rec (x.1,x.2.1,(IntKind.wrap .i64 (x.2.2.1+1)),x.2.2.2.1,x.2.2.2.2)))
 (some (Sum.inl ()))
def zdD (a0:(List zd)) (a1:Bool) (a2:(List Int)):Option Int :=
 ((lp zbc zr) (a0,((List.length a0:Nat):Int),0,a1,a2)).bind fun r8 =>
 qH r8
 (fun z9=>some (-1))
 (fun z10=>some z10)
def zcG (a0:(List zd)) (a1:Bool) (a2:(List Int)):Option Bool :=
 (zdD a0 a1 a2).bind fun r2 =>
 some (decide (r2 ≥ 0))
def zcg (rec:((List zm)×(List zd)×Int×Int×(List zd)×(List (List Int))×(List zd))→Option (Unit⊕(Bool×Int))) (x:((List zm)×(List zd)×Int×Int×(List zd)×(List (List Int))×(List zd))):Option (Unit⊕(Bool×Int)) :=
 cond (decide (x.2.2.2.1 < x.2.2.1))
 ((gx x.2.1 x.2.2.2.1).bind fun e5 =>
  (zfw x.1 e5.1 e5.2).bind fun r6 =>
  cond r6
  (some (Sum.inr (true,0)))
  ((zcG x.2.2.2.2.1 e5.1 e5.2).bind fun r7 =>
   cond r7
   (some (Sum.inr (true,0)))
   (rec (x.1,x.2.1,x.2.2.1,(IntKind.wrap .i64 (x.2.2.2.1+1)),x.2.2.2.2.1,x.2.2.2.2.2.1,x.2.2.2.2.2.2))))
 (some (Sum.inl ()))
def zgU (a0:(List zm)) (a1:(List zd)) (a2:(List (List Int))) (a3:(List zd)):Option (Bool×Int) :=
 (zbN a0 a1 a2 a3).bind fun r11 =>
 cond (!r11)
 (some (false,800))
 (((lp zcg zr) (a0,a1,((List.length a1:Nat):Int),0,a1,a2,a3)).bind fun r12 =>
  qH r12
  (fun z13=>some (false,0))
  (fun z14=>some (z14.1,z14.2)))
def zb3 (a0:Int) (a1:Int) (a2:Int) (a3:Int) (a4:Int) (a5:Int) (a6:Int) (a7:(List zd)) (a8:(List (List Int))) (a9:(List zd)) (a10:(List zd)) (a11:(List (List Int))) (a12:(List zd)) (a13:Bool) (a14:Int) (a15:(List zm)) (a16:Int) (a17:(List (Int×Int×Int×Int×Int×Int×Int×(List zd)×(List (List Int))×(List zd)))):Option ((List zm)×Int×(List (Int×Int×Int×Int×Int×Int×Int×(List zd)×(List (List Int))×(List zd)))) :=
 cond (a14 != 0)
 (some (a15,(IntKind.wrap .i64 (a16+1)),a17))
 ((zgU a15 a10 a11 a12).bind fun r2 =>
  cond (!a13)
  (some (a15,a16,a17))
  (cond r2.1
   (some (a15,a16,a17))
   (cond (qt (List.length a17+List.length ([(a0,a1,a2,a3,a4,a5,a6,a10,a11,a12)]:List (Int×Int×Int×Int×Int×Int×Int×(List zd)×(List (List Int))×(List zd)))) 128)
    (some (a15,a16,(a17++([(a0,a1,a2,a3,a4,a5,a6,a10,a11,a12)]:List (Int×Int×Int×Int×Int×Int×Int×(List zd)×(List (List Int))×(List zd))))))
    (none))))
def zep (rec:((List zm)×Int×(List Int)×Int×Int×Int×Int×(List zd)×(List (List Int))×(List zd)×(List zm)×Int×(List (Int×Int×Int×Int×Int×Int×Int×(List zd)×(List (List Int))×(List zd))))→Option ((List zm)×Int×(List (Int×Int×Int×Int×Int×Int×Int×(List zd)×(List (List Int))×(List zd))))) (x:((List zm)×Int×(List Int)×Int×Int×Int×Int×(List zd)×(List (List Int))×(List zd)×(List zm)×Int×(List (Int×Int×Int×Int×Int×Int×Int×(List zd)×(List (List Int))×(List zd))))):Option ((List zm)×Int×(List (Int×Int×Int×Int×Int×Int×Int×(List zd)×(List (List Int))×(List zd)))) :=
 cond (decide (x.2.2.2.2.1 < ((List.length x.2.2.2.2.2.2.2.1:Nat):Int)))
 ((zdj x.2.2.1 x.2.2.2.1).bind fun r12 =>
  cond r12
  ((zbL x.1 x.2.2.2.2.2.2.2.1 x.2.2.2.2.2.2.2.2.1 x.2.2.2.2.2.2.2.2.2.1 x.2.2.2.1 x.2.2.2.2.1).bind fun r13 =>
   (zb3 2 x.2.1 x.2.2.2.1 0 (-1) x.2.2.2.2.1 0 ([]:(List zd)) ([]:(List (List Int))) ([]:(List zd)) r13.1 r13.2.1 r13.2.2.2.2 r13.2.2.1 r13.2.2.2.1 x.2.2.2.2.2.2.2.2.2.2.1 x.2.2.2.2.2.2.2.2.2.2.2.1 x.2.2.2.2.2.2.2.2.2.2.2.2).bind fun r14 =>
   rec (x.1,x.2.1,x.2.2.1,x.2.2.2.1,(IntKind.wrap .i64 (x.2.2.2.2.1+1)),x.2.2.2.2.2.1,x.2.2.2.2.2.2.1,x.2.2.2.2.2.2.2.1,x.2.2.2.2.2.2.2.2.1,x.2.2.2.2.2.2.2.2.2.1,r14.1,r14.2.1,r14.2.2))
  ((zdj x.2.2.1 x.2.2.2.2.1).bind fun r15 =>
   cond r15
   ((zbL x.1 x.2.2.2.2.2.2.2.1 x.2.2.2.2.2.2.2.2.1 x.2.2.2.2.2.2.2.2.2.1 x.2.2.2.1 x.2.2.2.2.1).bind fun r16 =>
    (zb3 2 x.2.1 x.2.2.2.1 0 (-1) x.2.2.2.2.1 0 ([]:(List zd)) ([]:(List (List Int))) ([]:(List zd)) r16.1 r16.2.1 r16.2.2.2.2 r16.2.2.1 r16.2.2.2.1 x.2.2.2.2.2.2.2.2.2.2.1 x.2.2.2.2.2.2.2.2.2.2.2.1 x.2.2.2.2.2.2.2.2.2.2.2.2).bind fun r17 =>
    rec (x.1,x.2.1,x.2.2.1,x.2.2.2.1,(IntKind.wrap .i64 (x.2.2.2.2.1+1)),x.2.2.2.2.2.1,x.2.2.2.2.2.2.1,x.2.2.2.2.2.2.2.1,x.2.2.2.2.2.2.2.2.1,x.2.2.2.2.2.2.2.2.2.1,r17.1,r17.2.1,r17.2.2))
   (rec (x.1,x.2.1,x.2.2.1,x.2.2.2.1,(IntKind.wrap .i64 (x.2.2.2.2.1+1)),x.2.2.2.2.2.1,x.2.2.2.2.2.2.1,x.2.2.2.2.2.2.2.1,x.2.2.2.2.2.2.2.2.1,x.2.2.2.2.2.2.2.2.2.1,x.2.2.2.2.2.2.2.2.2.2.1,x.2.2.2.2.2.2.2.2.2.2.2.1,x.2.2.2.2.2.2.2.2.2.2.2.2))))
 (some (x.2.2.2.2.2.2.2.2.2.2.1,x.2.2.2.2.2.2.2.2.2.2.2.1,x.2.2.2.2.2.2.2.2.2.2.2.2))
def zeC (rec:((List zm)×Int×(List Int)×Int×Int×(List zd)×(List (List Int))×(List zd)×(List zm)×Int×(List (Int×Int×Int×Int×Int×Int×Int×(List zd)×(List (List Int))×(List zd))))→Option ((List zm)×Int×(List (Int×Int×Int×Int×Int×Int×Int×(List zd)×(List (List Int))×(List zd))))) (x:((List zm)×Int×(List Int)×Int×Int×(List zd)×(List (List Int))×(List zd)×(List zm)×Int×(List (Int×Int×Int×Int×Int×Int×Int×(List zd)×(List (List Int))×(List zd))))):Option ((List zm)×Int×(List (Int×Int×Int×Int×Int×Int×Int×(List zd)×(List (List Int))×(List zd)))) :=
 cond (decide (x.2.2.2.2.1 < x.2.2.2.1))
 (((lp zep zr) (x.1,x.2.1,x.2.2.1,x.2.2.2.2.1,(IntKind.wrap .i64 (x.2.2.2.2.1+1)),x.2.2.2.1,x.2.2.2.2.1,x.2.2.2.2.2.1,x.2.2.2.2.2.2.1,x.2.2.2.2.2.2.2.1,x.2.2.2.2.2.2.2.2.1,x.2.2.2.2.2.2.2.2.2.1,x.2.2.2.2.2.2.2.2.2.2)).bind fun r20 =>
  rec (x.1,x.2.1,x.2.2.1,x.2.2.2.1,(IntKind.wrap .i64 (x.2.2.2.2.1+1)),x.2.2.2.2.2.1,x.2.2.2.2.2.2.1,x.2.2.2.2.2.2.2.1,r20.1,r20.2.1,r20.2.2))
 (some (x.2.2.2.2.2.2.2.2.1,x.2.2.2.2.2.2.2.2.2.1,x.2.2.2.2.2.2.2.2.2.2))
def zl0 (a0:(List zm)) (a1:(List zd)) (a2:(List (List Int))) (a3:(List zd)) (a4:Int):Option (Int×Int×(List (Int×Int×Int×Int×Int×Int×Int×(List zd)×(List (List Int))×(List zd)))) :=
 (zbN a0 a1 a2 a3).bind fun r22 =>
 cond (!r22)
 (some (0,1400,([]:(List (Int×Int×Int×Int×Int×Int×Int×(List zd)×(List (List Int))×(List zd))))))
 ((zq2 a0 a1).bind fun r23 =>
  ((lp zeC zr) (a0,a4,r23.2,((List.length a1:Nat):Int),0,a1,a2,a3,a0,0,([]:(List (Int×Int×Int×Int×Int×Int×Int×(List zd)×(List (List Int))×(List zd)))))).bind fun r24 =>
  some (r24.2.1,0,r24.2.2))
def zaT (a0:(List zm)) (a1:(List zd)) (a2:(List (List Int))) (a3:(List zd)) (a4:Int):Option ((List zd)×(List (List Int))×Int×(List zd)) :=
 (zbN a0 a1 a2 a3).bind fun r7 =>
 cond (!r7)
 (some (([]:(List zd)),([]:(List (List Int))),1400,([]:(List zd))))
 ((zbQ a1 a2 a3 a4).bind fun r8 =>
  cond (!r8)
  (some (([]:(List zd)),([]:(List (List Int))),1400,([]:(List zd))))
  (cond (((List.length a3:Nat):Int) == 3)
   (some (([]:(List zd)),([]:(List (List Int))),1401,([]:(List zd))))
   ((zcu a1 a2 a3 a4 ([]:(List zd)) ([]:(List (List Int))) ([]:(List zd)) (-1)).bind fun r9 =>
    (gx a1 a4).bind fun e10 =>
    (zfO e10.1 e10.2).bind fun r11 =>
    cond (qt (List.length r9.2.2+List.length ([(r11.1,r11.2)]:List zd)) 32)
    ((zb5 a0 r9.2.1 r9.1 (r9.2.2++([(r11.1,r11.2)]:List zd))).bind fun r12 =>
     some (r12.1,r12.2.1,0,r12.2.2.2))
    (none))))
def zil (a0:Int) (a1:Int) (a2:Int) (a3:Int) (a4:Int) (a5:Int) (a6:Int) (a7:(List zd)) (a8:(List (List Int))) (a9:(List zd)) (a10:Int) (a11:Int) (a12:Int) (a13:Int) (a14:Int) (a15:Int) (a16:Int) (a17:(List zd)) (a18:(List (List Int))) (a19:(List zd)):Option Bool :=
 cond (a0 == a10)
 (cond (a1 == a11)
  (cond (a2 == a12)
   (cond (a3 == a13)
    (cond (a4 == a14)
     (cond (a5 == a15)
      (cond (a6 == a16)
       ((yA a7 a8 a9 a17 a18 a19).bind fun r2 =>
        some r2)
       (some false))
      (some false))
     (some false))
    (some false))
   (some false))
  (some false))
 (some false)
def zci (rec:((List (Int×Int×Int×Int×Int×Int×Int×(List zd)×(List (List Int))×(List zd)))×(List (Int×Int×Int×Int×Int×Int×Int×(List zd)×(List (List Int))×(List zd)))×Int)→Option (Unit⊕Bool)) (x:((List (Int×Int×Int×Int×Int×Int×Int×(List zd)×(List (List Int))×(List zd)))×(List (Int×Int×Int×Int×Int×Int×Int×(List zd)×(List (List Int))×(List zd)))×Int)):Option (Unit⊕Bool) :=
 cond (decide (x.2.2 < ((List.length x.1:Nat):Int)))
 ((gx x.1 x.2.2).bind fun e4 =>
  (gx x.2.1 x.2.2).bind fun e5 =>
  (zil e4.1 e4.2.1 e4.2.2.1 e4.2.2.2.1 e4.2.2.2.2.1 e4.2.2.2.2.2.1 e4.2.2.2.2.2.2.1 e4.2.2.2.2.2.2.2.1 e4.2.2.2.2.2.2.2.2.1 e4.2.2.2.2.2.2.2.2.2 e5.1 e5.2.1 e5.2.2.1 e5.2.2.2.1 e5.2.2.2.2.1 e5.2.2.2.2.2.1 e5.2.2.2.2.2.2.1 e5.2.2.2.2.2.2.2.1 e5.2.2.2.2.2.2.2.2.1 e5.2.2.2.2.2.2.2.2.2).bind fun r6 =>
  cond (!r6)
  (some (Sum.inr false))
  (rec (x.1,x.2.1,(IntKind.wrap .i64 (x.2.2+1)))))
 (some (Sum.inl ()))
def zgY (a0:(List (Int×Int×Int×Int×Int×Int×Int×(List zd)×(List (List Int))×(List zd)))) (a1:(List (Int×Int×Int×Int×Int×Int×Int×(List zd)×(List (List Int))×(List zd)))):Option Bool :=
 cond (((List.length a0:Nat):Int) != ((List.length a1:Nat):Int))
 (some false)
 (((lp zci zr) (a0,a1,0)).bind fun r10 =>
  qH r10
  (fun z11=>some true)
  (fun z12=>some z12))
def zhc:Option Bool :=
 (zdp).bind fun r16 =>
 (zbP r16 ([(false,([5,(-1)]:List Int)),(false,([5,3,(-2)]:List Int))]:List zd) ([([(-1)]:List Int)]:List (List Int)) ([]:(List zd)) 0 1).bind fun r17 =>
 (zdp).bind fun r18 =>
 (zl0 r18 ([(false,([5,(-1)]:List Int)),(false,([5,3,(-2)]:List Int))]:List zd) ([([(-1)]:List Int)]:List (List Int)) ([]:(List zd)) 2).bind fun r19 =>
 (zdp).bind fun r20 =>
 (zaT r20 ([(true,([5,1]:List Int))]:List zd) ([]:(List (List Int))) ([]:(List zd)) 0).bind fun r21 =>
 (zdp).bind fun r22 =>
 (zbP r22 ([(false,([5,(-1)]:List Int)),(false,([5,3,(-2)]:List Int))]:List zd) ([([(-1)]:List Int)]:List (List Int)) ([]:(List zd)) 1 1).bind fun r23 =>
 cond r17.2.2.1
 ((zdI r17.2.2.2.1).bind fun r24 =>
  cond (r24 == 0)
  ((yA r17.1 r17.2.1 r17.2.2.2.2 ([(false,([5,3,(-1)]:List Int))]:List zd) ([([3,(-1)]:List Int)]:List (List Int)) ([]:(List zd))).bind fun r25 =>
   cond r25
   ((zdI r19.2.1).bind fun r26 =>
    cond (r26 == 0)
    (cond (r19.1 == 0)
     ((zgY r19.2.2 ([(2,2,0,0,(-1),1,0,([(false,([5,3,(-1)]:List Int))]:List zd),([([3,(-1)]:List Int)]:List (List Int)),([]:(List zd)))]:List (Int×Int×Int×Int×Int×Int×Int×(List zd)×(List (List Int))×(List zd)))).bind fun r27 =>
      cond r27
      ((zdI r21.2.2.1).bind fun r28 =>
       cond (r28 == 0)
       ((yA r21.1 r21.2.1 r21.2.2.2 ([]:(List zd)) ([]:(List (List Int))) ([(false,([5,1]:List Int))]:List zd)).bind fun r29 =>
        cond r29
        ((zdI r23.2.2.2.1).bind fun r30 =>
         some (r30 == 1400))
        (some false))
       (some false))
      (some false))
     (some false))
    (some false))
   (some false))
  (some false))
 (some false)
end Go.Abs.Q
namespace Go.Abs.Q
open Go Go.Abs
def zX (s1:(List (List Int))) (s6:Int) (s8:Int):List (List Int)→Nat→(List ((List Int)×Int×(List Int)×Int))→Option (List ((List Int)×Int×(List Int)×Int))
 | [],i,s4=>some s4
 | e :: es,i,s4 =>
  (gx s1 (i:Int)).bind fun e8 =>
  cond (qt (List.length s4+List.length ([(e,s6,e8,s8)]:List ((List Int)×Int×(List Int)×Int))) 64)
  (zX s1 s6 s8 es (i+1) (s4++([(e,s6,e8,s8)]:List ((List Int)×Int×(List Int)×Int))))
  (none)
theorem zdz (s0:(List (List Int))) (s1:(List (List Int))) (s5:(List Int)) (s6:Int) (s7:(List Int)) (s8:Int) (hl:List.length s0≤maxLen):∀ (es:List (List Int)) (i:Nat) (k:Nat) (s4:(List ((List Int)×Int×(List Int)×Int))),s0.drop i=es→es.length < k→lp z4 k (s0,s1,((List.length s0:Nat):Int),(i:Int),s4,s5,s6,s7,s8)=zX s1 s6 s8 es i s4:=by
 intro es
 induction es with
 | nil =>
  intro i k s4 h hk
  obtain⟨k,rfl⟩:∃ k',k=k'+1:=⟨k - 1,by omega⟩
  rw[zl]
  generalize lp z4 k=rec
  unfold z4 zX
  simp only[zy (zo h),cond_false]
 | cons e es ih =>
  intro i k s4 h hk
  obtain⟨k,rfl⟩:∃ k',k=k'+1:=⟨k - 1,by omega⟩
  rw[zl]
  have hi:=zn h
  have hk2:es.length < k:=Nat.lt_of_succ_lt_succ hk
  have key:=fun s4=>ih (i+1) k s4 (zj h) hk2
  generalize lp z4 k=rec at key ⊢
  unfold z4 zX
  simp only[zM hi,cond_true,zP,zk h,Option.bind_some,zO hi hl,key]
theorem zc7 (s0:(List (List Int))) (s1:(List (List Int))) (s5:(List Int)) (s6:Int) (s7:(List Int)) (s8:Int) (s4:(List ((List Int)×Int×(List Int)×Int))) (hl:List.length s0≤maxLen):lp z4 zr (s0,s1,((List.length s0:Nat):Int),0,s4,s5,s6,s7,s8)=zX s1 s6 s8 s0 0 s4 :=
 zdz s0 s1 s5 s6 s7 s8 hl s0 0 zr s4 rfl (Nat.lt_of_le_of_lt hl (by decide))
def zv (s0:Int) (s5:(List ((Option (List Int))×Int))) (s6:(List Int)) (s7:Int):List Int→(List Bool)→(List ((List Int)×Int))→Option (((List Bool)×(List ((List Int)×Int)))⊕Bool)
 | [],s8,s9=>some (Sum.inl (s8,s9))
 | e :: es,s8,s9 =>
  cond (decide (e ≥ 0))
  (zv s0 s5 s6 s7 es s8 s9)
  ((yK s6 s7 e).bind fun r15 =>
   cond (r15 == s0)
   (some (Sum.inr true))
   ((inR r15 48).bind fun k16 =>
    (s8[k16]?).bind fun x17 =>
    cond (!x17)
    ((inR r15 48).bind fun k18 =>
     (s5[k18]?).bind fun x19 =>
     cond (!(Option.isNone x19.1))
     ((inR r15 48).bind fun k20 =>
      (s8[k20]?).bind fun x21 =>
      (inR r15 48).bind fun k22 =>
      (s5[k22]?).bind fun x23 =>
      cond (qt (List.length s9+List.length ([((Option.getD x23.1 []),x23.2)]:List ((List Int)×Int))) 32)
      (zv s0 s5 s6 s7 es (List.set s8 k20 true) (s9++([((Option.getD x23.1 []),x23.2)]:List ((List Int)×Int))))
      (none))
     (zv s0 s5 s6 s7 es s8 s9))
    (zv s0 s5 s6 s7 es s8 s9)))
theorem zdP (s0:Int) (s1:(List Int)) (s4:(List zm)) (s5:(List ((Option (List Int))×Int))) (s6:(List Int)) (s7:Int) (hl:List.length s1≤maxLen):∀ (es:List Int) (i:Nat) (k:Nat) (s8:(List Bool)) (s9:(List ((List Int)×Int))),s1.drop i=es→es.length < k→lp yf k (s0,s1,((List.length s1:Nat):Int),(i:Int),s4,s5,s6,s7,s8,s9)=zv s0 s5 s6 s7 es s8 s9:=by
 intro es
 induction es with
 | nil =>
  intro i k s8 s9 h hk
  obtain⟨k,rfl⟩:∃ k',k=k'+1:=⟨k - 1,by omega⟩
  rw[zl]
  generalize lp yf k=rec
  unfold yf zv
  simp only[zy (zo h),cond_false]
 | cons e es ih =>
  intro i k s8 s9 h hk
  obtain⟨k,rfl⟩:∃ k',k=k'+1:=⟨k - 1,by omega⟩
  rw[zl]
  have hi:=zn h
  have hk2:es.length < k:=Nat.lt_of_succ_lt_succ hk
  have key:=fun s8 s9=>ih (i+1) k s8 s9 (zj h) hk2
  generalize lp yf k=rec at key ⊢
  unfold yf zv
  simp only[zM hi,cond_true,zP,zk h,Option.bind_some,zO hi hl,key]
theorem zdv (s0:Int) (s1:(List Int)) (s4:(List zm)) (s5:(List ((Option (List Int))×Int))) (s6:(List Int)) (s7:Int) (s8:(List Bool)) (s9:(List ((List Int)×Int))) (hl:List.length s1≤maxLen):lp yf zr (s0,s1,((List.length s1:Nat):Int),0,s4,s5,s6,s7,s8,s9)=zv s0 s5 s6 s7 s1 s8 s9 :=
 zdP s0 s1 s4 s5 s6 s7 hl s1 0 zr s8 s9 rfl (Nat.lt_of_le_of_lt hl (by decide))
def yC:List (List (List Int))→(List (List Int))→Option (List (List Int))
 | [],s3=>some s3
 | e :: es,s3 =>
  cond (qt (List.length s3+List.length e) 24)
  (yC es (s3++e))
  (none)
theorem zfm (s0:(List (List (List Int)))) (hl:List.length s0≤maxLen):∀ (es:List (List (List Int))) (i:Nat) (k:Nat) (s3:(List (List Int))),s0.drop i=es→es.length < k→lp yP k (s0,((List.length s0:Nat):Int),(i:Int),s3)=yC es s3:=by
 intro es
 induction es with
 | nil =>
  intro i k s3 h hk
  obtain⟨k,rfl⟩:∃ k',k=k'+1:=⟨k - 1,by omega⟩
  rw[zl]
  generalize lp yP k=rec
  unfold yP yC
  simp only[zy (zo h),cond_false]
 | cons e es ih =>
  intro i k s3 h hk
  obtain⟨k,rfl⟩:∃ k',k=k'+1:=⟨k - 1,by omega⟩
  rw[zl]
  have hi:=zn h
  have hk2:es.length < k:=Nat.lt_of_succ_lt_succ hk
  have key:=fun s3=>ih (i+1) k s3 (zj h) hk2
  generalize lp yP k=rec at key ⊢
  unfold yP yC
  simp only[zM hi,cond_true,zP,zk h,Option.bind_some,zO hi hl,key]
theorem zeT (s0:(List (List (List Int)))) (s3:(List (List Int))) (hl:List.length s0≤maxLen):lp yP zr (s0,((List.length s0:Nat):Int),0,s3)=yC s0 s3 :=
 zfm s0 hl s0 0 zr s3 rfl (Nat.lt_of_le_of_lt hl (by decide))
def yw:List (List (List Int))→Int→Option Int
 | [],s1=>some s1
 | e :: es,s1 =>
  cond (decide ((IntKind.wrap .i64 (s1+((List.length e:Nat):Int))) < 0))
  (none)
  (yw es (IntKind.wrap .i64 (s1+((List.length e:Nat):Int))))
theorem zft (s0:(List (List (List Int)))) (s2:(List (List (List Int)))) (hl:List.length s2≤maxLen):∀ (es:List (List (List Int))) (i:Nat) (k:Nat) (s1:Int),s2.drop i=es→es.length < k→lp yN k (s0,s1,s2,((List.length s2:Nat):Int),(i:Int))=yw es s1:=by
 intro es
 induction es with
 | nil =>
  intro i k s1 h hk
  obtain⟨k,rfl⟩:∃ k',k=k'+1:=⟨k - 1,by omega⟩
  rw[zl]
  generalize lp yN k=rec
  unfold yN yw
  simp only[zy (zo h),cond_false]
 | cons e es ih =>
  intro i k s1 h hk
  obtain⟨k,rfl⟩:∃ k',k=k'+1:=⟨k - 1,by omega⟩
  rw[zl]
  have hi:=zn h
  have hk2:es.length < k:=Nat.lt_of_succ_lt_succ hk
  have key:=fun s1=>ih (i+1) k s1 (zj h) hk2
  generalize lp yN k=rec at key ⊢
  unfold yN yw
  simp only[zM hi,cond_true,zP,zk h,Option.bind_some,zO hi hl,key]
theorem zeZ (s0:(List (List (List Int)))) (s2:(List (List (List Int)))) (s1:Int) (hl:List.length s2≤maxLen):lp yN zr (s0,s1,s2,((List.length s2:Nat):Int),0)=yw s2 s1 :=
 zft s0 s2 hl s2 0 zr s1 rfl (Nat.lt_of_le_of_lt hl (by decide))
def yc:List (List zd)→(List zd)→Option (List zd)
 | [],s3=>some s3
 | e :: es,s3 =>
  cond (qt (List.length s3+List.length e) 32)
  (yc es (s3++e))
  (none)
theorem zee (s0:(List (List zd))) (hl:List.length s0≤maxLen):∀ (es:List (List zd)) (i:Nat) (k:Nat) (s3:(List zd)),s0.drop i=es→es.length < k→lp yq k (s0,((List.length s0:Nat):Int),(i:Int),s3)=yc es s3:=by
 intro es
 induction es with
 | nil =>
  intro i k s3 h hk
  obtain⟨k,rfl⟩:∃ k',k=k'+1:=⟨k - 1,by omega⟩
  rw[zl]
  generalize lp yq k=rec
  unfold yq yc
  simp only[zy (zo h),cond_false]
 | cons e es ih =>
  intro i k s3 h hk
  obtain⟨k,rfl⟩:∃ k',k=k'+1:=⟨k - 1,by omega⟩
  rw[zl]
  have hi:=zn h
  have hk2:es.length < k:=Nat.lt_of_succ_lt_succ hk
  have key:=fun s3=>ih (i+1) k s3 (zj h) hk2
  generalize lp yq k=rec at key ⊢
  unfold yq yc
  simp only[zM hi,cond_true,zP,zk h,Option.bind_some,zO hi hl,key]
theorem zdS (s0:(List (List zd))) (s3:(List zd)) (hl:List.length s0≤maxLen):lp yq zr (s0,((List.length s0:Nat):Int),0,s3)=yc s0 s3 :=
 zee s0 hl s0 0 zr s3 rfl (Nat.lt_of_le_of_lt hl (by decide))
def yb:List (List zd)→Int→Option Int
 | [],s1=>some s1
 | e :: es,s1 =>
  cond (decide ((IntKind.wrap .i64 (s1+((List.length e:Nat):Int))) < 0))
  (none)
  (yb es (IntKind.wrap .i64 (s1+((List.length e:Nat):Int))))
theorem zei (s0:(List (List zd))) (s2:(List (List zd))) (hl:List.length s2≤maxLen):∀ (es:List (List zd)) (i:Nat) (k:Nat) (s1:Int),s2.drop i=es→es.length < k→lp yo k (s0,s1,s2,((List.length s2:Nat):Int),(i:Int))=yb es s1:=by
 intro es
 induction es with
 | nil =>
  intro i k s1 h hk
  obtain⟨k,rfl⟩:∃ k',k=k'+1:=⟨k - 1,by omega⟩
  rw[zl]
  generalize lp yo k=rec
  unfold yo yb
  simp only[zy (zo h),cond_false]
 | cons e es ih =>
  intro i k s1 h hk
  obtain⟨k,rfl⟩:∃ k',k=k'+1:=⟨k - 1,by omega⟩
  rw[zl]
  have hi:=zn h
  have hk2:es.length < k:=Nat.lt_of_succ_lt_succ hk
  have key:=fun s1=>ih (i+1) k s1 (zj h) hk2
  generalize lp yo k=rec at key ⊢
  unfold yo yb
  simp only[zM hi,cond_true,zP,zk h,Option.bind_some,zO hi hl,key]
theorem zdM (s0:(List (List zd))) (s2:(List (List zd))) (s1:Int) (hl:List.length s2≤maxLen):lp yo zr (s0,s1,s2,((List.length s2:Nat):Int),0)=yb s2 s1 :=
 zei s0 s2 hl s2 0 zr s1 rfl (Nat.lt_of_le_of_lt hl (by decide))
def yn (s0:Int) (s4:(List (List Int))) (s6:(List zd)):List zd→Nat→(List zd)→Option ((List (List Int))×(List zd)×(List zd))
 | [],i,s5=>some (s4,s5,s6)
 | e :: es,i,s5 =>
  cond ((i:Int) != s0)
  (cond (qt (List.length s5+List.length ([(e.1,e.2)]:List zd)) 32)
   (yn s0 s4 s6 es (i+1) (s5++([(e.1,e.2)]:List zd)))
   (none))
  (yn s0 s4 s6 es (i+1) s5)
theorem zf9 (s0:Int) (s1:(List zd)) (s4:(List (List Int))) (s6:(List zd)) (hl:List.length s1≤maxLen):∀ (es:List zd) (i:Nat) (k:Nat) (s5:(List zd)),s1.drop i=es→es.length < k→lp qg k (s0,s1,((List.length s1:Nat):Int),(i:Int),s4,s5,s6)=yn s0 s4 s6 es i s5:=by
 intro es
 induction es with
 | nil =>
  intro i k s5 h hk
  obtain⟨k,rfl⟩:∃ k',k=k'+1:=⟨k - 1,by omega⟩
  rw[zl]
  generalize lp qg k=rec
  unfold qg yn
  simp only[zy (zo h),cond_false]
 | cons e es ih =>
  intro i k s5 h hk
  obtain⟨k,rfl⟩:∃ k',k=k'+1:=⟨k - 1,by omega⟩
  rw[zl]
  have hi:=zn h
  have hk2:es.length < k:=Nat.lt_of_succ_lt_succ hk
  have key:=fun s5=>ih (i+1) k s5 (zj h) hk2
  generalize lp qg k=rec at key ⊢
  unfold qg yn
  simp only[zM hi,cond_true,zP,zk h,Option.bind_some,zO hi hl,key]
theorem zfj (s0:Int) (s1:(List zd)) (s4:(List (List Int))) (s6:(List zd)) (s5:(List zd)) (hl:List.length s1≤maxLen):lp qg zr (s0,s1,((List.length s1:Nat):Int),0,s4,s5,s6)=yn s0 s4 s6 s1 0 s5 :=
 zf9 s0 s1 s4 s6 hl s1 0 zr s5 rfl (Nat.lt_of_le_of_lt hl (by decide))
def ym (s0:Int) (s8:(List (List Int))) (s10:(List zd)):List zd→Nat→(List zd)→Option ((List (List Int))×(List zd)×(List zd))
 | [],i,s9=>some (s8,s9,s10)
 | e :: es,i,s9 =>
  cond ((i:Int) != s0)
  (cond (qt (List.length s9+List.length ([(e.1,e.2)]:List zd)) 32)
   (ym s0 s8 s10 es (i+1) (s9++([(e.1,e.2)]:List zd)))
   (none))
  (ym s0 s8 s10 es (i+1) s9)
theorem zga (s0:Int) (s1:Int) (s2:(List zd)) (s5:(List zd)) (s6:(List (List Int))) (s7:(List zd)) (s8:(List (List Int))) (s10:(List zd)) (hl:List.length s2≤maxLen):∀ (es:List zd) (i:Nat) (k:Nat) (s9:(List zd)),s2.drop i=es→es.length < k→lp qj k (s0,s1,s2,((List.length s2:Nat):Int),(i:Int),s5,s6,s7,s8,s9,s10)=ym s0 s8 s10 es i s9:=by
 intro es
 induction es with
 | nil =>
  intro i k s9 h hk
  obtain⟨k,rfl⟩:∃ k',k=k'+1:=⟨k - 1,by omega⟩
  rw[zl]
  generalize lp qj k=rec
  unfold qj ym
  simp only[zy (zo h),cond_false]
 | cons e es ih =>
  intro i k s9 h hk
  obtain⟨k,rfl⟩:∃ k',k=k'+1:=⟨k - 1,by omega⟩
  rw[zl]
  have hi:=zn h
  have hk2:es.length < k:=Nat.lt_of_succ_lt_succ hk
  have key:=fun s9=>ih (i+1) k s9 (zj h) hk2
  generalize lp qj k=rec at key ⊢
  unfold qj ym
  simp only[zM hi,cond_true,zP,zk h,Option.bind_some,zO hi hl,key]
theorem zfe (s0:Int) (s1:Int) (s2:(List zd)) (s5:(List zd)) (s6:(List (List Int))) (s7:(List zd)) (s8:(List (List Int))) (s10:(List zd)) (s9:(List zd)) (hl:List.length s2≤maxLen):lp qj zr (s0,s1,s2,((List.length s2:Nat):Int),0,s5,s6,s7,s8,s9,s10)=ym s0 s8 s10 s2 0 s9 :=
 zga s0 s1 s2 s5 s6 s7 s8 s10 hl s2 0 zr s9 rfl (Nat.lt_of_le_of_lt hl (by decide))
def zac (s0:Int):List (Int×(List Int))→Option (Unit⊕(List Int))
 | []=>some (Sum.inl ())
 | e :: es =>
  cond (e.1 == s0)
  (some (Sum.inr e.2))
  (zac s0 es)
theorem zhW (s0:Int) (s1:(List (Int×(List Int)))) (hl:List.length s1≤maxLen):∀ (es:List (Int×(List Int))) (i:Nat) (k:Nat),s1.drop i=es→es.length < k→lp zap k (s0,s1,((List.length s1:Nat):Int),(i:Int))=zac s0 es:=by
 intro es
 induction es with
 | nil =>
  intro i k h hk
  obtain⟨k,rfl⟩:∃ k',k=k'+1:=⟨k - 1,by omega⟩
  rw[zl]
  generalize lp zap k=rec
  unfold zap zac
  simp only[zy (zo h),cond_false]
 | cons e es ih =>
  intro i k h hk
  obtain⟨k,rfl⟩:∃ k',k=k'+1:=⟨k - 1,by omega⟩
  rw[zl]
  have hi:=zn h
  have hk2:es.length < k:=Nat.lt_of_succ_lt_succ hk
  have key:=fun (_:Unit)=>ih (i+1) k (zj h) hk2
  generalize lp zap k=rec at key ⊢
  unfold zap zac
  simp only[zM hi,cond_true,zP,zk h,Option.bind_some,zO hi hl,key ()]
theorem zhy (s0:Int) (s1:(List (Int×(List Int)))) (hl:List.length s1≤maxLen):lp zap zr (s0,s1,((List.length s1:Nat):Int),0)=zac s0 s1 :=
 zhW s0 s1 hl s1 0 zr rfl (Nat.lt_of_le_of_lt hl (by decide))
def qF (s0:(List (Int×(List Int)))):List Int→(List Int)→Option (List Int)
 | [],s4=>some s4
 | e :: es,s4 =>
  (qh e).bind fun r11 =>
  (zfA s0 r11).bind fun r12 =>
  cond (decide (e ≥ 0))
  (cond (qt (List.length s4+List.length ([e]:List Int)) 8)
   (qF s0 es (s4++([e]:List Int)))
   (none))
  (cond (Option.isNone r12)
   (cond (qt (List.length s4+List.length ([e]:List Int)) 8)
    (qF s0 es (s4++([e]:List Int)))
    (none))
   (cond (qt (List.length s4+List.length (Option.getD r12 [])) 8)
    (qF s0 es (s4++(Option.getD r12 [])))
    (none)))
theorem zjF (s0:(List (Int×(List Int)))) (s1:(List Int)) (hl:List.length s1≤maxLen):∀ (es:List Int) (i:Nat) (k:Nat) (s4:(List Int)),s1.drop i=es→es.length < k→lp zbt k (s0,s1,((List.length s1:Nat):Int),(i:Int),s4)=qF s0 es s4:=by
 intro es
 induction es with
 | nil =>
  intro i k s4 h hk
  obtain⟨k,rfl⟩:∃ k',k=k'+1:=⟨k - 1,by omega⟩
  rw[zl]
  generalize lp zbt k=rec
  unfold zbt qF
  simp only[zy (zo h),cond_false]
 | cons e es ih =>
  intro i k s4 h hk
  obtain⟨k,rfl⟩:∃ k',k=k'+1:=⟨k - 1,by omega⟩
  rw[zl]
  have hi:=zn h
  have hk2:es.length < k:=Nat.lt_of_succ_lt_succ hk
  have key:=fun s4=>ih (i+1) k s4 (zj h) hk2
  generalize lp zbt k=rec at key ⊢
  unfold zbt qF
  simp only[zM hi,cond_true,zP,zk h,Option.bind_some,zO hi hl,key]
theorem ziN (s0:(List (Int×(List Int)))) (s1:(List Int)) (s4:(List Int)) (hl:List.length s1≤maxLen):lp zbt zr (s0,s1,((List.length s1:Nat):Int),0,s4)=qF s0 s1 s4 :=
 zjF s0 s1 hl s1 0 zr s4 rfl (Nat.lt_of_le_of_lt hl (by decide))
def qd (s3:(List (Int×(List Int)))) (s4:(List zd)) (s5:(List (List Int))):List zd→(List zd)→Option ((List zd)×(List (List Int))×(List zd))
 | [],s6=>some (s4,s5,s6)
 | e :: es,s6 =>
  (qZ e.2 s3).bind fun r20 =>
  cond (qt (List.length s6+List.length ([(e.1,r20)]:List zd)) 32)
  (qd s3 s4 s5 es (s6++([(e.1,r20)]:List zd)))
  (none)
theorem zgO (s0:(List zd)) (s3:(List (Int×(List Int)))) (s4:(List zd)) (s5:(List (List Int))) (hl:List.length s0≤maxLen):∀ (es:List zd) (i:Nat) (k:Nat) (s6:(List zd)),s0.drop i=es→es.length < k→lp qC k (s0,((List.length s0:Nat):Int),(i:Int),s3,s4,s5,s6)=qd s3 s4 s5 es s6:=by
 intro es
 induction es with
 | nil =>
  intro i k s6 h hk
  obtain⟨k,rfl⟩:∃ k',k=k'+1:=⟨k - 1,by omega⟩
  rw[zl]
  generalize lp qC k=rec
  unfold qC qd
  simp only[zy (zo h),cond_false]
 | cons e es ih =>
  intro i k s6 h hk
  obtain⟨k,rfl⟩:∃ k',k=k'+1:=⟨k - 1,by omega⟩
  rw[zl]
  have hi:=zn h
  have hk2:es.length < k:=Nat.lt_of_succ_lt_succ hk
  have key:=fun s6=>ih (i+1) k s6 (zj h) hk2
  generalize lp qC k=rec at key ⊢
  unfold qC qd
  simp only[zM hi,cond_true,zP,zk h,Option.bind_some,zO hi hl,key]
theorem zgc (s0:(List zd)) (s3:(List (Int×(List Int)))) (s4:(List zd)) (s5:(List (List Int))) (s6:(List zd)) (hl:List.length s0≤maxLen):lp qC zr (s0,((List.length s0:Nat):Int),0,s3,s4,s5,s6)=qd s3 s4 s5 s0 s6 :=
 zgO s0 s3 s4 s5 hl s0 0 zr s6 rfl (Nat.lt_of_le_of_lt hl (by decide))
def y9 (s3:(List (Int×(List Int)))) (s7:(List zd)):List (List Int)→(List (List Int))→Option ((List zd)×(List (List Int)))
 | [],s8=>some (s7,s8)
 | e :: es,s8 =>
  (qZ e s3).bind fun r13 =>
  cond (qt (List.length s8+List.length ([r13]:List (List Int))) 24)
  (y9 s3 s7 es (s8++([r13]:List (List Int))))
  (none)
theorem zgM (s0:(List (List Int))) (s3:(List (Int×(List Int)))) (s4:(List zd)) (s5:(List (List Int))) (s6:(List zd)) (s7:(List zd)) (hl:List.length s0≤maxLen):∀ (es:List (List Int)) (i:Nat) (k:Nat) (s8:(List (List Int))),s0.drop i=es→es.length < k→lp qI k (s0,((List.length s0:Nat):Int),(i:Int),s3,s4,s5,s6,s7,s8)=y9 s3 s7 es s8:=by
 intro es
 induction es with
 | nil =>
  intro i k s8 h hk
  obtain⟨k,rfl⟩:∃ k',k=k'+1:=⟨k - 1,by omega⟩
  rw[zl]
  generalize lp qI k=rec
  unfold qI y9
  simp only[zy (zo h),cond_false]
 | cons e es ih =>
  intro i k s8 h hk
  obtain⟨k,rfl⟩:∃ k',k=k'+1:=⟨k - 1,by omega⟩
  rw[zl]
  have hi:=zn h
  have hk2:es.length < k:=Nat.lt_of_succ_lt_succ hk
  have key:=fun s8=>ih (i+1) k s8 (zj h) hk2
  generalize lp qI k=rec at key ⊢
  unfold qI y9
  simp only[zM hi,cond_true,zP,zk h,Option.bind_some,zO hi hl,key]
theorem zf0 (s0:(List (List Int))) (s3:(List (Int×(List Int)))) (s4:(List zd)) (s5:(List (List Int))) (s6:(List zd)) (s7:(List zd)) (s8:(List (List Int))) (hl:List.length s0≤maxLen):lp qI zr (s0,((List.length s0:Nat):Int),0,s3,s4,s5,s6,s7,s8)=y9 s3 s7 s0 s8 :=
 zgM s0 s3 s4 s5 s6 s7 hl s0 0 zr s8 rfl (Nat.lt_of_le_of_lt hl (by decide))
def qa (s3:(List (Int×(List Int)))):List zd→(List zd)→Option (List zd)
 | [],s7=>some s7
 | e :: es,s7 =>
  (qZ e.2 s3).bind fun r6 =>
  cond (qt (List.length s7+List.length ([(e.1,r6)]:List zd)) 32)
  (qa s3 es (s7++([(e.1,r6)]:List zd)))
  (none)
theorem zgN (s0:(List zd)) (s3:(List (Int×(List Int)))) (s4:(List zd)) (s5:(List (List Int))) (s6:(List zd)) (hl:List.length s0≤maxLen):∀ (es:List zd) (i:Nat) (k:Nat) (s7:(List zd)),s0.drop i=es→es.length < k→lp qE k (s0,((List.length s0:Nat):Int),(i:Int),s3,s4,s5,s6,s7)=qa s3 es s7:=by
 intro es
 induction es with
 | nil =>
  intro i k s7 h hk
  obtain⟨k,rfl⟩:∃ k',k=k'+1:=⟨k - 1,by omega⟩
  rw[zl]
  generalize lp qE k=rec
  unfold qE qa
  simp only[zy (zo h),cond_false]
 | cons e es ih =>
  intro i k s7 h hk
  obtain⟨k,rfl⟩:∃ k',k=k'+1:=⟨k - 1,by omega⟩
  rw[zl]
  have hi:=zn h
  have hk2:es.length < k:=Nat.lt_of_succ_lt_succ hk
  have key:=fun s7=>ih (i+1) k s7 (zj h) hk2
  generalize lp qE k=rec at key ⊢
  unfold qE qa
  simp only[zM hi,cond_true,zP,zk h,Option.bind_some,zO hi hl,key]
theorem zfE (s0:(List zd)) (s3:(List (Int×(List Int)))) (s4:(List zd)) (s5:(List (List Int))) (s6:(List zd)) (s7:(List zd)) (hl:List.length s0≤maxLen):lp qE zr (s0,((List.length s0:Nat):Int),0,s3,s4,s5,s6,s7)=qa s3 s0 s7 :=
 zgN s0 s3 s4 s5 s6 hl s0 0 zr s7 rfl (Nat.lt_of_le_of_lt hl (by decide))
end Go.Abs.Q
namespace Go.Abs.Q
open Go Go.Abs
section
theorem zcM {xs:List Int} (h:xs.length≤1099511627776):zbo xs=some xs:=by
 unfold zbo zgm
 simp only[Option.isNone_some,cond_false,Option.getD_some,List.length_nil,Nat.zero_add,List.nil_append]
 rw[zT (show xs.length * 8≤140737488351232 by omega)]
 rfl
theorem zqW (ys:List Int):(es:List Int)→(i:Nat)→es.length=(ys.drop i).length→ql ys es i=some (cond (decide (es=ys.drop i)) (.inl ()) (.inr false))
 | [],i,h=>by
  have:ys.drop i=[]:=List.eq_nil_of_length_eq_zero h.symm
  rw[this]; rfl
 | e :: es,i,h=>by
  cases hd:ys.drop i with
  | nil=>rw[hd] at h; simp at h
  | cons y r =>
   have hn:=zj hd
   have:=zqW ys es (i+1) (by rw[hn]; rw[hd] at h; simpa using h)
   unfold ql
   simp only[zP,zk hd,Option.bind_some,this,hn]
   by_cases he:e=y
   ·subst he
    simp
   ·have h1:(e != y)=true:=by simpa using he
    simp [h1,he]
theorem zfR {xs ys:List Int} (h:xs.length≤maxLen):qo xs ys=some (decide (xs=ys)):=by
 unfold qo
 by_cases hl:xs.length=ys.length
 ·rw[show (((List.length xs:Nat):Int) != ((List.length ys:Nat):Int))=false from by simp [hl],cond_false,zfr _ _ h,zqW ys xs 0 hl,List.drop_zero]
  cases decide (xs=ys) <;> rfl
 ·rw[show (((List.length xs:Nat):Int) != ((List.length ys:Nat):Int))=true from by simp; omega,cond_true,decide_eq_false (by intro h; subst h; exact hl rfl)]
theorem zqv {a b:Bool} {xs ys:List Int} (h:xs.length≤maxLen):zjW a xs b ys=some (decide ((a,xs)=(b,ys))):=by
 unfold zjW
 cases hab:(a == b) with
 | false =>
  have:a ≠ b:=by simpa using hab
  simp [this]
 | true =>
  have:a=b:=by simpa using hab
  subst this
  rw[cond_true,zfR h]
  simp
theorem zrt (l:zd) (hl:l.2.length≤maxLen):(es:List zd)→(i:Nat)→∃ r,yl l.1 l.2 es i=some r∧(l∈es→∃ j:Nat,r = .inr (j:Int))∧(l ∉ es→r = .inl ())
 | [],i=>⟨.inl (),rfl,(fun h=>by cases h),fun _=>rfl⟩
 | e :: es,i=>by
  unfold yl zcp
  rw[zqv hl]
  simp only[Option.bind_some]
  by_cases he:(l.1,l.2)=(e.1,e.2)
  ·rw[decide_eq_true he,cond_true]
   have he':l=e:=he
   exact ⟨_,rfl,fun _=>⟨i,rfl⟩,fun h=>absurd (List.mem_cons.2 (.inl he')) h⟩
  ·rw[decide_eq_false he,cond_false]
   obtain⟨r,h1,h2,h3⟩:=zrt l hl es (i+1)
   have he':l ≠ e:=he
   refine ⟨r,h1,fun h=>h2 ?_,fun h=>h3 fun h'=>h (List.mem_cons_of_mem _ h')⟩
   rcases List.mem_cons.1 h with h | h
   ·exact absurd h he'
   ·exact h
theorem zfh {l:zd} {es:List zd} (hl:l.2.length≤maxLen) (h:es.length≤maxLen):zaf es l.1 l.2=some (decide (l∈es)):=by
 unfold zaf zcN
 rw[zdx _ _ _ h]
 obtain⟨r,h1,h2,h3⟩:=zrt l hl es 0
 rw[h1]
 by_cases hm:l∈es
 ·obtain⟨j,rfl⟩:=h2 hm
  simp [qH,hm]
 ·rw[h3 hm]
  simp [qH,hm]
def y7 {α:Type} [DecidableEq α]:List α→List α→List α
 | [],out=>out
 | e :: es,out=>cond (decide (e∈out)) (y7 es out) (y7 es (out++[e]))
theorem zbk {α:Type} [DecidableEq α]:(es out:List α)→(y7 es out).length≤out.length+es.length
 | [],out=>by simp [y7]
 | e :: es,out=>by
  unfold y7
  cases decide (e∈out) with
  | true=>have:=zbk es out; simp only[cond_true,List.length_cons]; omega
  | false=>have:=zbk es (out++[e]); simp only[cond_false,List.length_cons,List.length_append,List.length_nil] at this ⊢; omega
theorem zbf {α:Type} [DecidableEq α] {x:α}:(es out:List α)→(x∈y7 es out ↔ x∈out∨x∈es)
 | [],out=>by simp [y7]
 | e :: es,out=>by
  unfold y7
  by_cases h:e∈out
  ·rw[decide_eq_true h,cond_true,zbf es out,List.mem_cons]
   constructor
   ·rintro (h1 | h1)
    ·exact .inl h1
    ·exact .inr (.inr h1)
   ·rintro (h1 | rfl | h1)
    ·exact .inl h1
    ·exact .inl h
    ·exact .inr h1
  ·rw[decide_eq_false h,cond_false,zbf es (out++[e])]
   simp only[List.mem_append,List.mem_cons,List.not_mem_nil,or_false]
   constructor
   ·rintro ((h1 | h1) | h1)
    ·exact .inl h1
    ·exact .inr (.inl h1)
    ·exact .inr (.inr h1)
   ·rintro (h1 | h1 | h1)
    ·exact .inl (.inl h1)
    ·exact .inl (.inr h1)
    ·exact .inr h1
theorem zqJ:(es out:List zd)→(∀ e∈es,e.2.length≤maxLen)→out.length+es.length≤1000000→y0 es out=some (y7 es out)
 | [],out,_,_=>rfl
 | e :: es,out,h,hl=>by
  have h1:=h e (List.mem_cons_self ..)
  have hl':out.length+(es.length+1)≤1000000:=hl
  unfold y0 y7
  rw[zfh h1 (by unfold maxLen; omega),Option.bind_some]
  by_cases hm:e∈out
  ·simp only[hm,decide_true,Bool.not_true,cond_false,cond_true]
   exact zqJ es out (fun x hx=>h x (List.mem_cons_of_mem _ hx)) (by omega)
  ·simp only[hm,decide_false,Bool.not_false,cond_false,cond_true]
   rw[zT (show (out.length+([(e.1,e.2)]:List zd).length) * 32≤140737488351232 by simp; omega),cond_true]
   exact zqJ es (out++[e]) (fun x hx=>h x (List.mem_cons_of_mem _ hx)) (by simp; omega)
theorem zg0 {es:List zd} (h:∀ e∈es,e.2.length≤maxLen) (hl:es.length≤1000000):zdn es=some (y7 es []):=by
 unfold zdn
 rw[zfB _ _ (by unfold maxLen; omega),zqJ es [] h (by simpa using hl)]
 rfl
theorem zrj (l:List Int) (hl:l.length≤maxLen):(es:List (List Int))→(i:Nat)→∃ r,ya l es i=some r∧(l∈es→∃ j:Nat,r = .inr (j:Int))∧(l ∉ es→r = .inl ())
 | [],i=>⟨.inl (),rfl,(fun h=>by cases h),fun _=>rfl⟩
 | e :: es,i=>by
  unfold ya zcq
  rw[zfR hl]
  simp only[Option.bind_some]
  by_cases he:l=e
  ·rw[decide_eq_true he,cond_true]
   exact ⟨_,rfl,fun _=>⟨i,rfl⟩,fun h=>absurd (List.mem_cons.2 (.inl he)) h⟩
  ·rw[decide_eq_false he,cond_false]
   obtain⟨r,h1,h2,h3⟩:=zrj l hl es (i+1)
   refine ⟨r,h1,fun h=>h2 ?_,fun h=>h3 fun h'=>h (List.mem_cons_of_mem _ h')⟩
   rcases List.mem_cons.1 h with h | h
   ·exact absurd h he
   ·exact h
theorem zej {l:List Int} {es:List (List Int)} (hl:l.length≤maxLen) (h:es.length≤maxLen):qN es l=some (decide (l∈es)):=by
 unfold qN zbU
 rw[zc0 _ _ h]
 obtain⟨r,h1,h2,h3⟩:=zrj l hl es 0
 rw[h1]
 by_cases hm:l∈es
 ·obtain⟨j,rfl⟩:=h2 hm
  simp [qH,hm]
 ·rw[h3 hm]
  simp [qH,hm]
theorem zpH (s3 s4:List zd):(es out:List (List Int))→(∀ e∈es,e.length≤maxLen)→out.length+es.length≤1000000→qc s3 s4 es out=some (s3,s4,y7 es out)
 | [],out,_,_=>rfl
 | e :: es,out,h,hl=>by
  have h1:=h e (List.mem_cons_self ..)
  have hl':out.length+(es.length+1)≤1000000:=hl
  unfold qc y7
  rw[zej h1 (by unfold maxLen; omega),Option.bind_some]
  by_cases hm:e∈out
  ·simp only[hm,decide_true,Bool.not_true,cond_false,cond_true]
   exact zpH s3 s4 es out (fun x hx=>h x (List.mem_cons_of_mem _ hx)) (by omega)
  ·simp only[hm,decide_false,Bool.not_false,cond_false,cond_true]
   rw[zT (show (out.length+([e]:List (List Int)).length) * 24≤140737488351232 by simp; omega),cond_true]
   exact zpH s3 s4 es (out++[e]) (fun x hx=>h x (List.mem_cons_of_mem _ hx)) (by simp; omega)
def zjQ (s:List Int×Int) (c:Int):Int×(List Int×Int) :=
 cond (decide (c ≥ 0)) (c,s) (cond (s.1.getD (-1 - c).toNat 0 == 0) (-(s.2+1),(s.1.set (-1 - c).toNat (s.2+1),s.2+1)) (-(s.1.getD (-1 - c).toNat 0),s))
def zcH:List Int×Int→List Int→List Int×(List Int×Int)
 | s,[]=>([],s)
 | s,c :: cs=>((zjQ s c).1 :: (zcH (zjQ s c).2 cs).1,(zcH (zjQ s c).2 cs).2)
theorem znb:(s:List Int×Int)→(cs:List Int)→(zcH s cs).1.length=cs.length
 | _,[]=>rfl
 | s,c :: cs=>by simp [zcH,znb (zjQ s c).2 cs]
structure RenOk (s:List Int×Int) (b:Int):Prop where
 len:s.1.length=24
 lo:0≤s.2
 hi:s.2≤b
 all:∀ x∈s.1,0≤x∧x≤s.2
theorem RenOk.more {s:List Int×Int} {b b':Int} (h:RenOk s b) (hb:b≤b'):RenOk s b':=⟨h.len,h.lo,Int.le_trans h.hi hb,h.all⟩
theorem RenOk.get {s:List Int×Int} {b:Int} (h:RenOk s b) (v:Nat):0≤s.1.getD v 0∧s.1.getD v 0≤s.2:=by
 have h0:=h.lo
 rw[List.getD_eq_getElem?_getD]
 cases hv:s.1[v]? with
 | none=>exact ⟨Int.le_refl _,h0⟩
 | some x=>exact h.all x (List.mem_of_getElem? hv)
theorem zvn {s:List Int×Int} {b:Int} (h:RenOk s b) (c:Int):RenOk (zjQ s c).2 (b+1):=by
 unfold zjQ
 cases decide (c ≥ 0) with
 | true=>exact h.more (by omega)
 | false =>
  rw[cond_false]
  cases (s.1.getD (-1 - c).toNat 0 == 0) with
  | false=>exact h.more (by omega)
  | true =>
   refine ⟨by simpa using h.len,by have:=h.lo; simp; omega,by have:=h.hi; simp; omega,fun x hx => ?_⟩
   simp only[cond_true] at hx ⊢
   rcases List.mem_or_eq_of_mem_set hx with hx | rfl
   ·have:=h.all x hx; omega
   ·have:=h.lo; omega
theorem zg4:{s:List Int×Int}→{b:Int}→(cs:List Int)→RenOk s b→RenOk (zcH s cs).2 (b+cs.length)
 | s,b,[],h=>by simpa[zcH] using h
 | s,b,c :: cs,h=>by
  have:=zg4 cs (zvn h c)
  simp only[zcH,List.length_cons]
  exact this.more (by omega)
theorem ztA {α:Type} (done es:List α) (e x:α):(done++e :: es).set done.length x=done++x :: es:=by
 rw[List.set_append_right _ _ (Nat.le_refl _),Nat.sub_self]
 rfl
theorem zp1 {α:Type} (done es:List α) (e:α):(done++e :: es)[done.length]? = some e:=by
 rw[List.getElem?_append_right (Nat.le_refl _),Nat.sub_self]
 rfl
theorem zpv:(es done:List Int)→(s:List Int×Int)→(k:Nat)→es.length < k→done.length+es.length≤1000000→RenOk s 1000000→s.2+es.length≤1000000→(∀ c∈es,-24≤c) →
  lp yy k (((done.length+es.length:Nat):Int),(done.length:Int),s.1,s.2,done++es)=some ((zcH s es).2.1,(zcH s es).2.2,done++(zcH s es).1)
 | [],done,s,k,hk,hl,hs,hb,hc=>by
  obtain⟨k,rfl⟩:∃ k',k=k'+1:=⟨k - 1,by omega⟩
  rw[zl]
  generalize lp yy k=rec
  unfold yy
  simp [zcH]
 | e :: es,done,s,k,hk,hl,hs,hb,hc=>by
  obtain⟨k,rfl⟩:∃ k',k=k'+1:=⟨k - 1,by omega⟩
  rw[zl]
  have he:=hc e (List.mem_cons_self ..)
  have hl':done.length+(es.length+1)≤1000000:=hl
  have hb':s.2+((es.length+1:Nat):Int)≤1000000:=hb
  have key:=fun (e':Int) (s':List Int×Int) (hs':RenOk s' 1000000) (hb2:s'.2+es.length≤1000000)=>zpv es (done++[e']) s' k (Nat.lt_of_succ_lt_succ hk) (by simp; omega) hs' hb2 (fun c hx=>hc c (List.mem_cons_of_mem _ hx))
  generalize lp yy k=rec at key ⊢
  unfold yy
  have e1:decide (((done.length:Nat):Int) < ((done.length+(e :: es).length:Nat):Int))=true:=by rw[decide_eq_true_eq,List.length_cons]; omega
  have e2:inR ((done.length:Nat):Int) (List.length (done++e :: es))=some done.length:=zaJ (by simp)
  have e3:IntKind.wrap .i64 (((done.length:Nat):Int)+1)=((done.length+1:Nat):Int):=by rw[yk] <;> omega
  have key2:=fun (e':Int) (s':List Int×Int) (hs':RenOk s' 1000000) (hb2:s'.2+es.length≤1000000)=>by
   have:=key e' s' hs' hb2
   rw[List.append_assoc,List.length_append,List.length_singleton,Nat.add_assoc,Nat.add_comm 1 es.length] at this
   exact this
  simp only[e1,cond_true,e2,Option.bind_some,zp1,e3]
  by_cases h0:e ≥ 0
  ·have hr:zjQ s e=(e,s):=by unfold zjQ; rw[decide_eq_true h0]; rfl
   rw[decide_eq_true h0,cond_true]
   have:=key2 e s hs (by omega)
   simp only[zcH,hr]
   exact this.trans (by simp)
  ·rw[decide_eq_false h0,cond_false]
   have h24:(-1 - e).toNat < 24:=by omega
   have e4:inR (-1 - e) 24=some (-1 - e).toNat:=by
    have:=zaJ h24
    rwa [Int.toNat_of_nonneg (by omega)] at this
   have hget:∀ xs:List Int,xs.length=24→xs[(-1 - e).toNat]? = some (xs.getD (-1 - e).toNat 0):=fun xs hx=>by
    rw[List.getD_eq_getElem?_getD,List.getElem?_eq_getElem (by omega)]; rfl
   have hg:=hs.get (-1 - e).toNat
   have hs1:=hs.hi
   have hs0:=hs.lo
   simp only[zbA (x:=e) (by omega) (by omega),Option.bind_some,e4,hget s.1 hs.len]
   by_cases hz:s.1.getD (-1 - e).toNat 0=0
   ·have hr:zjQ s e=(-(s.2+1),(s.1.set (-1 - e).toNat (s.2+1),s.2+1)):=by unfold zjQ; rw[decide_eq_false h0,hz]; rfl
    have w1:IntKind.wrap .i64 (s.2+1)=s.2+1:=by rw[yk] <;> omega
    have hset:(List.set s.1 (-1 - e).toNat (s.2+1)).getD (-1 - e).toNat 0=s.2+1:=by
     rw[List.getD_eq_getElem?_getD,List.getElem?_set_self (by rw[hs.len]; exact h24)]; rfl
    have hn:zDG .i64 (s.2+1) = -(s.2+1):=by unfold zDG; rw[yk] <;> omega
    rw[hz]
    simp only[show (((0:Int) == 0))=true from rfl,cond_true,w1,hget (List.set s.1 (-1 - e).toNat (s.2+1)) (by simpa using hs.len),Option.bind_some,hset,hn,ztA]
    have hok:=zvn (b:=s.2) ⟨hs.len,hs.lo,Int.le_refl _,hs.all⟩ e
    rw[hr] at hok
    have:=key2 (-(s.2+1)) (s.1.set (-1 - e).toNat (s.2+1),s.2+1) (hok.more (by omega)) (by simp only; omega)
    simp only[zcH,hr]
    exact this.trans (by simp)
   ·have hr:zjQ s e=(-(s.1.getD (-1 - e).toNat 0),s):=by
     unfold zjQ
     rw[decide_eq_false h0,show (s.1.getD (-1 - e).toNat 0 == 0)=false from by simpa using hz]; rfl
    have hn:zDG .i64 (s.1.getD (-1 - e).toNat 0) = -(s.1.getD (-1 - e).toNat 0):=by unfold zDG; rw[yk] <;> omega
    rw[show (s.1.getD (-1 - e).toNat 0 == 0)=false from by simpa using hz,cond_false]
    simp only[hn,ztA]
    have:=key2 (-(s.1.getD (-1 - e).toNat 0)) s hs (by omega)
    simp only[zcH,hr]
    exact this.trans (by simp)
theorem zbD {r:List Int} {s:List Int×Int} (hl:r.length≤1000) (hs:RenOk s 900000) (hc:∀ c∈r,-24≤c):yW r s.1 s.2=some ((zcH s r).1,(zcH s r).2.1,(zcH s r).2.2):=by
 unfold yW
 rw[zcM (by omega),Option.bind_some]
 have h1:=hs.hi
 have:=zpv r [] s zr (by unfold zr; omega) (by simp; omega) (hs.more (by omega)) (by omega) hc
 simp only[List.length_nil,Nat.zero_add,List.nil_append] at this
 rw[show ((0:Nat):Int)=0 from rfl] at this
 rw[this,Option.bind_some]
 have hlen:=(zg4 r hs).len
 simp only[hs.len,hlen]
 rfl
def zaQ:List Int×Int→List zd→List zd×(List Int×Int)
 | s,[]=>([],s)
 | s,l :: ls=>((l.1,(zcH s l.2).1) :: (zaQ (zcH s l.2).2 ls).1,(zaQ (zcH s l.2).2 ls).2)
def zb8:List Int×Int→List (List Int)→List (List Int)×(List Int×Int)
 | s,[]=>([],s)
 | s,l :: ls=>((zcH s l).1 :: (zb8 (zcH s l).2 ls).1,(zb8 (zcH s l).2 ls).2)
def zcv (r:List Int):Prop:=r.length≤1000∧∀ c∈r,-24≤c
theorem zm5:{s:List Int×Int}→{b:Int}→(ls:List zd)→(∀ l∈ls,zcv l.2)→RenOk s b→RenOk (zaQ s ls).2 (b+1000 * ls.length)
 | s,b,[],_,h=>by simpa[zaQ] using h
 | s,b,l :: ls,hl,h=>by
  have h1:=hl l (List.mem_cons_self ..)
  have:=zm5 ls (fun x hx=>hl x (List.mem_cons_of_mem _ hx)) (zg4 l.2 h)
  have h2:=h1.1
  simp only[zaQ,List.length_cons]
  exact this.more (by omega)
theorem zq9:{s:List Int×Int}→{b:Int}→(ls:List (List Int))→(∀ l∈ls,zcv l)→RenOk s b→RenOk (zb8 s ls).2 (b+1000 * ls.length)
 | s,b,[],_,h=>by simpa[zb8] using h
 | s,b,l :: ls,hl,h=>by
  have h1:=hl l (List.mem_cons_self ..)
  have:=zq9 ls (fun x hx=>hl x (List.mem_cons_of_mem _ hx)) (zg4 l h)
  have h2:=h1.1
  simp only[zb8,List.length_cons]
  exact this.more (by omega)
theorem zme:(es:List zd)→(s:List Int×Int)→(out:List zd)→(b:Int)→RenOk s b→b+1000 * es.length≤900000→(∀ l∈es,zcv l.2)→out.length+es.length≤1000000 →
  yx es s.1 s.2 out=some ((zaQ s es).2.1,(zaQ s es).2.2,out++(zaQ s es).1)
 | [],s,out,b,_,_,_,_=>by simp [yx,zaQ]
 | e :: es,s,out,b,hs,hb,h,hl=>by
  have he:=h e (List.mem_cons_self ..)
  have h1:=he.1
  rw[List.length_cons] at hb hl
  unfold yx
  rw[zbD he.1 (hs.more (by omega)) he.2,Option.bind_some]
  rw[zT (show (out.length+([(e.1,(zcH s e.2).1)]:List zd).length) * 32≤140737488351232 by simp; omega),cond_true]
  have:=zme es (zcH s e.2).2 (out++[(e.1,(zcH s e.2).1)]) _ (zg4 e.2 hs) (by omega) (fun x hx=>h x (List.mem_cons_of_mem _ hx)) (by simp; omega)
  exact this.trans (by simp [zaQ])
theorem zlO (s8:List zd):(es:List (List Int))→(s:List Int×Int)→(out:List (List Int))→(b:Int)→RenOk s b→b+1000 * es.length≤900000→(∀ l∈es,zcv l)→out.length+es.length≤1000000 →
  yv s8 es s.1 s.2 out=some ((zb8 s es).2.1,(zb8 s es).2.2,s8,out++(zb8 s es).1)
 | [],s,out,b,_,_,_,_=>by simp [yv,zb8]
 | e :: es,s,out,b,hs,hb,h,hl=>by
  have he:=h e (List.mem_cons_self ..)
  have h1:=he.1
  rw[List.length_cons] at hb hl
  unfold yv
  rw[zbD he.1 (hs.more (by omega)) he.2,Option.bind_some]
  rw[zT (show (out.length+([(zcH s e).1]:List (List Int)).length) * 24≤140737488351232 by simp; omega),cond_true]
  have:=zlO s8 es (zcH s e).2 (out++[(zcH s e).1]) _ (zg4 e hs) (by omega) (fun x hx=>h x (List.mem_cons_of_mem _ hx)) (by simp; omega)
  exact this.trans (by simp [zb8])
theorem zlD (s5:List zd) (s6:List (List Int)):(es:List zd)→(s:List Int×Int)→(out:List zd)→(b:Int)→RenOk s b→b+1000 * es.length≤900000→(∀ l∈es,zcv l.2)→out.length+es.length≤1000000 →
  yB s5 s6 es s.1 s.2 out=some ((zaQ s es).2.1,(zaQ s es).2.2,s5,s6,out++(zaQ s es).1)
 | [],s,out,b,_,_,_,_=>by simp [yB,zaQ]
 | e :: es,s,out,b,hs,hb,h,hl=>by
  have he:=h e (List.mem_cons_self ..)
  have h1:=he.1
  rw[List.length_cons] at hb hl
  unfold yB
  rw[zbD he.1 (hs.more (by omega)) he.2,Option.bind_some]
  rw[zT (show (out.length+([(e.1,(zcH s e.2).1)]:List zd).length) * 32≤140737488351232 by simp; omega),cond_true]
  have:=zlD s5 s6 es (zcH s e.2).2 (out++[(e.1,(zcH s e.2).1)]) _ (zg4 e.2 hs) (by omega) (fun x hx=>h x (List.mem_cons_of_mem _ hx)) (by simp; omega)
  exact this.trans (by simp [zaQ])
def zJh (L:List zd) (T:List (List Int)) (C:List zd):List zd×List (List Int)×List zd :=
 ((zaQ (List.replicate 24 0,0) L).1,(zb8 (zaQ (List.replicate 24 0,0) L).2 T).1,(zaQ (zb8 (zaQ (List.replicate 24 0,0) L).2 T).2 C).1)
theorem ztZ:RenOk (List.replicate 24 (0:Int),0) 0:=⟨rfl,Int.le_refl _,Int.le_refl _,fun x hx=>by have:=List.eq_of_mem_replicate hx; omega⟩
def zfq (L:List zd) (T:List (List Int)) (C:List zd):List zd×List (List Int)×List zd:=zJh (y7 L []) (y7 T []) (y7 C [])
theorem zlB {L:List zd} {T:List (List Int)} {C:List zd} (hL:L.length≤100) (hT:T.length≤100) (hC:C.length≤100) (sL:∀ l∈L,zcv l.2) (sT:∀ l∈T,zcv l) (sC:∀ l∈C,zcv l.2) :
  zen L T C=some (zfq L T C):=by
 have big:∀ r:List Int,zcv r→r.length≤maxLen:=fun r h=>by have:=h.1; unfold maxLen; omega
 have lL:=zbk L []
 have lT:=zbk T []
 have lC:=zbk C []
 simp only[List.length_nil,Nat.zero_add] at lL lT lC
 have sL':∀ l∈y7 L [],zcv l.2:=fun l h=>sL l (by simpa using (zbf L []).1 h)
 have sT':∀ l∈y7 T [],zcv l:=fun l h=>sT l (by simpa using (zbf T []).1 h)
 have sC':∀ l∈y7 C [],zcv l.2:=fun l h=>sC l (by simpa using (zbf C []).1 h)
 unfold zen
 rw[zg0 (fun e he=>big _ (sL e he)) (by omega),Option.bind_some,zg0 (fun e he=>big _ (sC e he)) (by omega),Option.bind_some,
  zfv _ _ _ _ (by unfold maxLen; omega),zpH _ _ T [] (fun e he=>big _ (sT e he)) (by simp; omega),Option.bind_some]
 simp only
 generalize hL2:y7 L []=L2 at lL sL'
 generalize hT2:y7 T []=T2 at lT sT'
 generalize hC2:y7 C []=C2 at lC sC'
 have k0:=zm5 L2 sL' ztZ
 have k1:=zq9 T2 sT' k0
 have k2:=zm5 C2 sC' k1
 have e0:=zme L2 (List.replicate 24 0,0) [] 0 ztZ (by omega) sL' (by simp; omega)
 have e1:=zlO (zaQ (List.replicate 24 0,0) L2).1 T2 _ [] _ k0 (by omega) sT' (by simp; omega)
 have e2:=zlD (zaQ (List.replicate 24 0,0) L2).1 (zb8 (zaQ (List.replicate 24 0,0) L2).2 T2).1 C2 _ [] _ k1 (by omega) sC' (by simp; omega)
 simp only[List.nil_append] at e0 e1 e2
 unfold zeJ
 rw[zeY L2 L2 T2 C2 (List.replicate 24 0) 0 [] (by unfold maxLen; omega),e0,Option.bind_some]
 simp only
 rw[ze2 _ _ _ _ _ _ _ _ (by unfold maxLen; omega),e1,Option.bind_some]
 simp only
 rw[zey _ _ _ _ _ _ (by unfold maxLen; omega),e2,Option.bind_some]
 have hlen:=k2.len
 simp only[List.length_replicate,hlen]
 unfold zfq zJh
 rw[hL2,hT2,hC2]
 rfl
end
end Go.Abs.Q
namespace Go.Abs.Q
open Go Go.Abs
section
theorem zre {a0:List zm}:{xs:List Int}→{n k:Nat}→sk a0 n xs=some k→∀ c∈xs.take k,-24≤c
 | [],n,k,h,c,hc=>by simp at hc
 | x :: xs,0,k,h,c,hc=>by
  simp [sk] at h; subst h; simp at hc
 | x :: xs,n+1,k,h,c,hc=>by
  unfold sk at h
  cases ha:zbZ a0 x with
  | none=>rw[ha] at h; cases h
  | some m =>
   rw[ha] at h
   simp only[Option.map_eq_some_iff] at h
   obtain⟨j,hj,rfl⟩:=h
   rw[List.take_succ_cons] at hc
   rcases List.mem_cons.1 hc with rfl | hc
   ·by_cases h0:c < 0
    ·exact (zoQ ha h0).1
    ·omega
   ·exact zre hj c hc
theorem zi1 {a0:List zm} {xs:List Int} {ps:List (List Int)} (h:ziJ a0 xs=some ps):∀ c∈xs,-24≤c:=by
 obtain⟨h1,h2⟩:=zfz xs.length xs ps (Nat.le_refl _) h
 intro c hc
 rw[← h1] at hc
 obtain⟨p,hp,hcp⟩:=List.mem_flatten.1 hc
 have:=zre (h2 p hp).2 c
 rw[List.take_length] at this
 exact this hcp
theorem zpI {a0:List zm} {xs:List Int} (h:zfg a0 xs=true):zcv xs:=by
 obtain⟨x,r,e,ps,rfl,h0,-,-,-,-,hl,hc,-⟩:=zgC h
 refine ⟨by simp; omega,fun c hcm => ?_⟩
 rcases List.mem_cons.1 hcm with rfl | hcm
 ·omega
 ·exact zi1 hc c hcm
theorem zsz {a0:List zm} {r:List Int} {n:Nat} (h:zgW a0 r=some n):zcv r:=by
 obtain⟨ps,hc,-,hl,-⟩:=zpa h
 exact ⟨by omega,zi1 hc⟩
theorem zbH {a0:List zm} {ls:List zd} (h:zcL a0 ls=true):∀ l∈ls,zcv l.2:=fun l hl =>
 zpI (List.all_eq_true.1 h l hl)
theorem zht {a0:List zm} {rs:List (List Int)} (h:zgP a0 rs=true):∀ r∈rs,zcv r:=fun r hr=>by
 obtain⟨n,hn⟩:=zpr h
 exact zsz (hn r hr)
theorem zcK (a0:List zm) (L:List zd) (T:List (List Int)) (C:List zd):zb5 a0 L T C=some (cond (ziw a0 L T C) ((zfq L T C).1,(zfq L T C).2.1,0,(zfq L T C).2.2) ([],[],800,[])):=by
 unfold zb5
 rw[zc3,Option.bind_some]
 cases h:ziw a0 L T C with
 | false=>rfl
 | true =>
  obtain⟨-,h1,h2,h3,h4,h5,h6,-⟩:=zaI h
  rw[Bool.not_true,cond_false,zlB (by omega) (by omega) (by omega) (zbH h4) (zht h5) (zbH h6),Option.bind_some]
  rfl
theorem zj5:(s:List Int×Int)→(ls:List zd)→(zaQ s ls).1.length=ls.length
 | _,[]=>rfl
 | s,l :: ls=>by simp [zaQ,zj5 (zcH s l.2).2 ls]
theorem zn7:(s:List Int×Int)→(ls:List (List Int))→(zb8 s ls).1.length=ls.length
 | _,[]=>rfl
 | s,l :: ls=>by simp [zb8,zn7 (zcH s l).2 ls]
theorem ziR:(s:List Int×Int)→(ls:List zd)→(b:Nat)→(∀ l∈ls,l.2.length≤b)→∀ l∈(zaQ s ls).1,l.2.length≤b
 | _,[],_,_,l,hl=>by cases hl
 | s,e :: es,b,h,l,hl=>by
  simp only[zaQ] at hl
  rcases List.mem_cons.1 hl with rfl | hl
  ·rw[znb]; exact h e (List.mem_cons_self ..)
  ·exact ziR _ es b (fun x hx=>h x (List.mem_cons_of_mem _ hx)) l hl
theorem zmf:(s:List Int×Int)→(ls:List (List Int))→(b:Nat)→(∀ l∈ls,l.length≤b)→∀ l∈(zb8 s ls).1,l.length≤b
 | _,[],_,_,l,hl=>by cases hl
 | s,e :: es,b,h,l,hl=>by
  simp only[zb8] at hl
  rcases List.mem_cons.1 hl with rfl | hl
  ·rw[znb]; exact h e (List.mem_cons_self ..)
  ·exact zmf _ es b (fun x hx=>h x (List.mem_cons_of_mem _ hx)) l hl
theorem zlN {a0:List zm} {L:List zd} {T:List (List Int)} {C:List zd} (h:ziw a0 L T C=true) :
  yA (zfq L T C).1 (zfq L T C).2.1 (zfq L T C).2.2 (zfq L T C).1 (zfq L T C).2.1 (zfq L T C).2.2=some true:=by
 obtain⟨-,h1,h2,h3,h4,h5,h6,-⟩:=zaI h
 have lL:=zbk L []
 have lT:=zbk T []
 have lC:=zbk C []
 simp only[List.length_nil,Nat.zero_add] at lL lT lC
 have sL:∀ l∈y7 L [],l.2.length≤1000:=fun l h=>(zbH h4 l (by simpa using (zbf L []).1 h)).1
 have sT:∀ l∈y7 T [],l.length≤1000:=fun l h=>(zht h5 l (by simpa using (zbf T []).1 h)).1
 have sC:∀ l∈y7 C [],l.2.length≤1000:=fun l h=>(zbH h6 l (by simpa using (zbf C []).1 h)).1
 unfold zfq zJh
 apply zby
 ·simp only[zj5]; unfold maxLen; omega
 ·intro e he
  have:=ziR _ _ 1000 sL e he
  unfold maxLen; omega
 ·simp only[zn7]; unfold maxLen; omega
 ·intro e he
  have:=zmf _ _ 1000 sT e he
  unfold maxLen; omega
 ·simp only[zj5]; unfold maxLen; omega
 ·intro e he
  have:=ziR _ _ 1000 sC e he
  unfold maxLen; omega
def yr {α:Type} (s:Int):List α→Nat→List α
 | [],_=>[]
 | e :: es,i=>cond ((i:Int) != s) (e :: yr s es (i+1)) (yr s es (i+1))
theorem zex {α:Type} (s:Int):(es:List α)→(i:Nat)→(yr s es i).length≤es.length
 | [],_=>Nat.le_refl _
 | e :: es,i=>by
  unfold yr
  have:=zex s es (i+1)
  cases ((i:Int) != s) <;> simp <;> omega
theorem zqR (s0:Int) (s8:List (List Int)) (s10:List zd):(es:List zd)→(i:Nat)→(out:List zd)→out.length+es.length≤1000000→ym s0 s8 s10 es i out=some (s8,out++yr s0 es i,s10)
 | [],i,out,_=>by simp [ym,yr]
 | e :: es,i,out,h=>by
  rw[List.length_cons] at h
  unfold ym yr
  cases ((i:Int) != s0) with
  | true =>
   rw[cond_true,cond_true,zT (show (out.length+([(e.1,e.2)]:List zd).length) * 32≤140737488351232 by simp; omega),cond_true,zqR s0 s8 s10 es (i+1) _ (by simp; omega)]
   simp
  | false=>rw[cond_false,cond_false,zqR s0 s8 s10 es (i+1) out (by omega)]
theorem zpG (s0:Int) (s8:List (List Int)) (s10:List zd):(es:List zd)→(i:Nat)→(out:List zd)→out.length+es.length≤1000000→yn s0 s8 s10 es i out=some (s8,out++yr s0 es i,s10)
 | [],i,out,_=>by simp [yn,yr]
 | e :: es,i,out,h=>by
  rw[List.length_cons] at h
  unfold yn yr
  cases ((i:Int) != s0) with
  | true =>
   rw[cond_true,cond_true,zT (show (out.length+([(e.1,e.2)]:List zd).length) * 32≤140737488351232 by simp; omega),cond_true,zpG s0 s8 s10 es (i+1) _ (by simp; omega)]
   simp
  | false=>rw[cond_false,cond_false,zpG s0 s8 s10 es (i+1) out (by omega)]
theorem zln {n:Nat} (h:n≤1000000):zew (n:Int)=some []:=by
 unfold zew
 have e:IntKind.wrap .i64 ((n:Int) - 0)=(n:Int):=by rw[yk] <;> omega
 rw[e,decide_eq_false (show ¬ ((n:Int) < 0) by omega),cond_false]
 by_cases h0:n=0
 ·subst h0; rfl
 ·rw[decide_eq_true (show (n:Int) > 0 by omega),cond_true,show (eqI 0 0&&eqI 0 0)=true from rfl,cond_true,show zBE (n:Int)=true from decide_eq_true (by omega),cond_true,Int.toNat_natCast,zT (by omega),cond_true]
  have:zbS (List.replicate n ([]:List Int)) none (some 0)=some []:=by
   show slc (List.replicate n ([]:List Int)) 0 0=some []
   unfold slc
   rw[decide_eq_true (show (0:Int)≤0 by omega),decide_eq_true (show (0:Int)≤(((List.replicate n ([]:List Int)).length:Nat):Int) by omega)]
   rfl
  rw[this]; rfl
theorem zjy {n:Nat} (h:n≤1000000):zcS (n:Int)=some []:=by
 unfold zcS
 have e:IntKind.wrap .i64 ((n:Int) - 0)=(n:Int):=by rw[yk] <;> omega
 rw[e,decide_eq_false (show ¬ ((n:Int) < 0) by omega),cond_false]
 by_cases h0:n=0
 ·subst h0; rfl
 ·rw[decide_eq_true (show (n:Int) > 0 by omega),cond_true,show (eqI 0 0&&eqI 0 0)=true from rfl,cond_true,show zBE (n:Int)=true from decide_eq_true (by omega),cond_true,Int.toNat_natCast,zT (by omega),cond_true]
  have:∀ z:zd,zbS (List.replicate n z) none (some 0)=some []:=fun z=>by
   show slc (List.replicate n z) 0 0=some []
   unfold slc
   rw[decide_eq_true (show (0:Int)≤0 by omega),decide_eq_true (show (0:Int)≤(((List.replicate n z).length:Nat):Int) by omega)]
   rfl
  rw[this]; rfl
theorem ziz {a b:List (List Int)} (h:a.length+b.length≤1000000):zc2 [a,b]=some (a++b):=by
 have w0:IntKind.wrap .i64 ((0:Int)+((a.length:Nat):Int))=((a.length:Nat):Int):=by rw[yk] <;> omega
 have w1:IntKind.wrap .i64 (((a.length:Nat):Int)+((b.length:Nat):Int))=((a.length+b.length:Nat):Int):=by rw[yk] <;> omega
 have e0:yw [a,b] 0=some ((a.length+b.length:Nat):Int):=by
  unfold yw
  rw[w0,decide_eq_false (show ¬ (((a.length:Nat):Int) < 0) by omega),cond_false]
  unfold yw
  rw[w1,decide_eq_false (show ¬ (((a.length+b.length:Nat):Int) < 0) by omega),cond_false]
  rfl
 have e1:yC [a,b] []=some (a++b):=by
  unfold yC
  rw[zT (by simp; omega),cond_true,List.nil_append]
  unfold yC
  rw[zT (by omega),cond_true]
  rfl
 unfold zc2
 rw[zeZ _ _ _ (by unfold maxLen; simp),e0,Option.bind_some,zln h,Option.bind_some,zeT _ _ (by unfold maxLen; simp),e1]
 rfl
theorem ziu {a b:List zd} (h:a.length+b.length≤1000000):zb4 [a,b]=some (a++b):=by
 have w0:IntKind.wrap .i64 ((0:Int)+((a.length:Nat):Int))=((a.length:Nat):Int):=by rw[yk] <;> omega
 have w1:IntKind.wrap .i64 (((a.length:Nat):Int)+((b.length:Nat):Int))=((a.length+b.length:Nat):Int):=by rw[yk] <;> omega
 have e0:yb [a,b] 0=some ((a.length+b.length:Nat):Int):=by
  unfold yb
  rw[w0,decide_eq_false (show ¬ (((a.length:Nat):Int) < 0) by omega),cond_false]
  unfold yb
  rw[w1,decide_eq_false (show ¬ (((a.length+b.length:Nat):Int) < 0) by omega),cond_false]
  rfl
 have e1:yc [a,b] []=some (a++b):=by
  unfold yc
  rw[zT (by simp; omega),cond_true,List.nil_append]
  unfold yc
  rw[zT (by omega),cond_true]
  rfl
 unfold zb4
 rw[zdM _ _ _ (by unfold maxLen; simp),e0,Option.bind_some,zjy h,Option.bind_some,zdS _ _ (by unfold maxLen; simp),e1]
 rfl
theorem zdc {L:List zd} {T:List (List Int)} {C:List zd} {L':List zd} {T':List (List Int)} {C':List zd} (i j:Int) (h1:L.length≤1000) (h2:T.length≤1000) (h3:C.length≤1000) (h4:L'.length≤1000) (h5:T'.length≤1000) (h6:C'.length≤1000) :
  zcu L T C i L' T' C' j=some (T++T',yr i L 0++yr j L' 0,C++C'):=by
 have hw:=zex i L 0
 unfold zcu
 rw[ziz (by omega),Option.bind_some,ziu (by omega),Option.bind_some,
  zfe _ _ _ _ _ _ _ _ _ (by unfold maxLen; omega),zqR _ _ _ _ _ _ (by simp; omega),Option.bind_some]
 simp only[List.nil_append]
 rw[zfj _ _ _ _ _ (by unfold maxLen; omega),zpG _ _ _ _ _ _ (by omega),Option.bind_some]
theorem zBS {L:List zd} {i:Int} (h0:0≤i) (h:i < L.length):∃ l,gx L i=some l∧l∈L∧L[i.toNat]? = some l:=zrM h0 h
def zcb (L:List zd) (i:Int):Bool:=decide (0≤i)&&decide (i < L.length)
theorem za9 (L:List zd) (T:List (List Int)) (C:List zd) (i:Int):zbQ L T C i=some (zcb L i):=by
 unfold zbQ zcb
 by_cases h:0≤i
 ·rw[decide_eq_true h]; rfl
 ·rw[decide_eq_false h]; rfl
def ziy (L:List zd) (T:List (List Int)) (C:List zd) (i:Int):List zd×List (List Int)×List zd :=
 zfq (yr i L 0) T (C++[(!((L[i.toNat]?).getD (false,[])).1,((L[i.toNat]?).getD (false,[])).2)])
theorem zdt {α:Type} {s:Int} {x:α}:(es:List α)→(i:Nat)→x∈yr s es i→x∈es
 | [],_,h=>by cases h
 | e :: es,i,h=>by
  unfold yr at h
  cases hb:((i:Int) != s) with
  | true =>
   rw[hb,cond_true] at h
   rcases List.mem_cons.1 h with rfl | h
   ·exact List.mem_cons_self ..
   ·exact List.mem_cons_of_mem _ (zdt es (i+1) h)
  | false=>rw[hb,cond_false] at h; exact List.mem_cons_of_mem _ (zdt es (i+1) h)
theorem zlb {s:Int}:(es:List zd)→(i:Nat)→(l:zd)→(0≤s - i)→es[(s - i).toNat]? = some l→(yr s es i).length+1=es.length∧zJ ((yr s es i).map (·.2))+l.2.length=zJ (es.map (·.2))
 | [],i,l,_,h=>by simp at h
 | e :: es,i,l,h0,h=>by
  by_cases hs:s=(i:Int)
  ·subst hs
   simp only[Int.sub_self,Int.toNat_zero,List.getElem?_cons_zero] at h
   injection h with h; subst h
   have hw:∀ (xs:List zd) (j:Nat),i < j→yr (i:Int) xs j=xs:=by
    intro xs
    induction xs with
    | nil=>intro j _; rfl
    | cons x xs ih =>
     intro j hj
     unfold yr
     rw[show ((j:Int) != (i:Int))=true from by simp; omega,cond_true,ih (j+1) (by omega)]
   unfold yr
   rw[show ((i:Int) != (i:Int))=false from by simp,cond_false,hw es (i+1) (by omega)]
   refine ⟨by simp,?_⟩
   simp [zJ]; omega
  ·obtain⟨n,hn⟩:∃ n,(s - i).toNat=n+1:=⟨(s - i).toNat - 1,by omega⟩
   rw[hn,List.getElem?_cons_succ] at h
   obtain⟨k1,k2⟩:=zlb (s:=s) es (i+1) l (by omega) (by rw[show (s - ((i+1:Nat):Int)).toNat=n by omega]; exact h)
   unfold yr
   rw[show ((i:Int) != s)=true from by simp; omega,cond_true]
   refine ⟨by simp; omega,?_⟩
   simp only[zJ,List.map_cons,List.sum_cons] at k2 ⊢
   omega
theorem ziF {a0:List zm} {L:List zd} {T:List (List Int)} {C:List zd} {i:Int} {l:zd} (h:ziw a0 L T C=true) (h0:0≤i) (hl:L[i.toNat]? = some l) (hC:C.length < 3) :
  ziw a0 (yr i L 0) T (C++[(!l.1,l.2)])=true:=by
 obtain⟨h1,h2,h3,h4,h5,h6,h7,h8⟩:=zaI h
 obtain⟨k1,k2⟩:=zlb (s:=i) L 0 l (by omega) (by simpa using hl)
 have hm:l∈L:=List.mem_of_getElem? hl
 refine zFd h1 (by omega) h3 (by simp; omega) ?_ h6 ?_ ?_
 ·unfold zcL
  exact List.all_eq_true.2 fun x hx=>List.all_eq_true.1 h5 x (zdt L 0 hx)
 ·unfold zcL at h7 ⊢
  rw[List.all_append,h7]
  have:=List.all_eq_true.1 h5 l hm
  simpa using this
 ·simp only[zJ,List.map_append,List.sum_append,List.map_cons,List.map_nil,List.sum_cons,List.sum_nil] at k2 h8 ⊢
  omega
theorem ze6 (a0:List zm) (L:List zd) (T:List (List Int)) (C:List zd) (i:Int):zaT a0 L T C i=some (cond (ziw a0 L T C&&zcb L i)
  (cond (decide (C.length=3)) ([],[],1401,[]) ((ziy L T C i).1,(ziy L T C i).2.1,0,(ziy L T C i).2.2)) ([],[],1400,[])):=by
 unfold zaT
 rw[zc3,Option.bind_some]
 cases hm:ziw a0 L T C with
 | false=>rfl
 | true =>
  rw[Bool.not_true,cond_false,za9,Option.bind_some,Bool.true_and]
  cases hp:zcb L i with
  | false=>rfl
  | true =>
   obtain⟨h1,h2,h3,h4,h5,h6,h7,h8⟩:=zaI hm
   rw[Bool.not_true,cond_false,cond_true]
   by_cases hC:C.length=3
   ·rw[hC]; rfl
   ·rw[show (((List.length C:Nat):Int) == 3)=false from by simp; omega,cond_false,decide_eq_false hC,cond_false,zdc i (-1) (by omega) (by omega) (by omega) (by simp) (by simp) (by simp),Option.bind_some]
    unfold zcb at hp
    simp only[Bool.and_eq_true,decide_eq_true_eq] at hp
    obtain⟨l,g1,g2,g3⟩:=zBS hp.1 hp.2
    have hsm:=zbH h5 l g2
    have hls:=hsm.1
    rw[g1,Option.bind_some]
    unfold zfO
    rw[zcM (by omega),Option.bind_some,Option.bind_some]
    simp only[List.append_nil,yr]
    rw[zT (by simp; omega),cond_true,zcK,ziF hm hp.1 g3 (by omega),Option.bind_some]
    unfold ziy
    rw[g3]
    rfl
theorem zlv:zhc=some true:=by kernel_rfl
end
end Go.Abs.Q
