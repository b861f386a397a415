import Derived.Test.YtgjajclncfhidabGreatDoorFc
/-
  What the functions make of plain values, and what the law says of that.
-/
namespace Go.Abs.Q
open Go Go.Abs
abbrev QSym:=Str×Int×Int×Int
abbrev tSym:Tys:=.cons .str (.cons (.int .i64) (.cons (.int .i64) (.one (.int .i64))))
abbrev QLit:=Bool×List Int
abbrev tLit:Tys:=.cons .bool (.one (.sl (.one (.int .i64))))
def sign_small (a0:Int):Option Bool :=
 cond (decide (a0≥97))
 (some (decide (a0≤122)))
 (some false)
def sign_called_L0 (rec:(Str×Int×Int)→Option (Unit⊕Bool)) (x:(Str×Int×Int)):Option (Unit⊕Bool) :=
 cond (decide (x.2.2<x.2.1))
 ((gx x.1 x.2.2).bind fun c7 =>
  (sign_small ((UInt8.toNat c7:Nat):Int)).bind fun r8 =>
  cond (!r8)
  ((gx x.1 x.2.2).bind fun c9 =>
   cond (decide (((UInt8.toNat c9:Nat):Int)<48))
   (some (Sum.inr false))
   ((gx x.1 x.2.2).bind fun c10 =>
    cond (decide (((UInt8.toNat c10:Nat):Int)>57))
    (some (Sum.inr false))
    (rec (x.1,x.2.1,(IntKind.wrap .i64 (x.2.2+1))))))
  (rec (x.1,x.2.1,(IntKind.wrap .i64 (x.2.2+1)))))
 (some (Sum.inl ()))
def sign_called (a0:Str):Option Bool :=
 cond (a0==([]:Str))
 (some false)
 (cond (decide (((List.length a0:Nat):Int)>8))
  (some false)
  ((gx a0 0).bind fun c14 =>
   (sign_small ((UInt8.toNat c14:Nat):Int)).bind fun r15 =>
   cond (!r15)
   (some false)
   (((lp sign_called_L0 fuel) (a0,((List.length a0:Nat):Int),0)).bind fun r16 =>
    caseS r16
    (fun _z17=>some true)
    (fun z18=>some z18))))
def sign_SymMay (a0:Str) (a1:Int) (a2:Int) (a3:Int):Option Bool :=
 (sign_called a0).bind fun r2 =>
 cond r2
 (cond (decide (a1≥0))
  (cond (decide (a1≤2))
   (cond (decide (a2≥0))
    (cond (decide (a2≤3))
     (cond (decide (a3≥1))
      (some (decide (a3≤20)))
      (some false))
     (some false))
    (some false))
   (some false))
  (some false))
 (some false)
def sign_find_L0 (rec:((List QSym)×Str×Int×Int)→Option (Unit⊕Int)) (x:((List QSym)×Str×Int×Int)):Option (Unit⊕Int) :=
 cond (decide (x.2.2.2<x.2.2.1))
 ((gx x.1 x.2.2.2).bind fun e2 =>
  cond (e2.1==x.2.1)
  (some (Sum.inr x.2.2.2))
  (rec (x.1,x.2.1,x.2.2.1,(IntKind.wrap .i64 (x.2.2.2+1)))))
 (some (Sum.inl ()))
def sign_find (a0:(List QSym)) (a1:Str):Option Int :=
 ((lp sign_find_L0 fuel) (a0,a1,((List.length a0:Nat):Int),0)).bind fun r6 =>
 caseS r6
 (fun _z7=>some (-1))
 (fun z8=>some z8)
def sign_May_L0 (rec:((List QSym)×Int)→Option (Unit⊕Bool)) (x:((List QSym)×Int)):Option (Unit⊕Bool) :=
 cond (decide (x.2<((List.length x.1:Nat):Int)))
 ((gx x.1 x.2).bind fun e6 =>
  (sign_SymMay e6.1 e6.2.1 e6.2.2.1 e6.2.2.2).bind fun r7 =>
  cond (!r7)
  (some (Sum.inr false))
  ((gx x.1 x.2).bind fun e8 =>
   (sign_find x.1 e8.1).bind fun r9 =>
   cond (r9 != x.2)
   (some (Sum.inr false))
   (rec (x.1,(IntKind.wrap .i64 (x.2+1))))))
 (some (Sum.inl ()))
def sign_May (a0:(List QSym)):Option Bool :=
 cond (decide (((List.length a0:Nat):Int)<1))
 (some false)
 (cond (decide (((List.length a0:Nat):Int)>20))
  (some false)
  ((gx a0 0).bind fun e13 =>
   cond (!(cond (eqS e13.1 [61]) (cond (eqI e13.2.1 0) (cond (eqI e13.2.2.1 2) (cond (eqI e13.2.2.2 1) true false) false) false) false))
   (some false)
   (((lp sign_May_L0 fuel) (a0,1)).bind fun r14 =>
    caseS r14
    (fun _z15=>some true)
    (fun z16=>some z16))))
def slices_Clone (a0:(Option (List Int))):Option (List Int) :=
 cond (Option.isNone a0)
 (some ([]:(List Int)))
 (cond (room (List.length ([]:List Int)+List.length (Option.getD a0 [])) 8)
  (some (([]:List Int)++(Option.getD a0 [])))
  (none))
def slices_Clone_1:Option (List Int) :=
 some ([]:(List Int))
def slices_CloneN (a0:(List Int)):Option (List Int):=slices_Clone (some a0)
def term_Number (a0:Int):Option Int :=
 some (IntKind.wrap .i64 ((-1) - a0))
def term_args (a0:(List QSym)) (a1:Int):Option (Int×Bool) :=
 cond (decide (a1<0))
 ((term_Number 23).bind fun r4 =>
  some (0,(decide (a1≥r4))))
 (cond (decide (a1≥((List.length a0:Nat):Int)))
  (some (0,false))
  ((gx a0 a1).bind fun e5 =>
   cond (e5.2.1==0)
   (some (0,false))
   ((gx a0 a1).bind fun e6 =>
    some (e6.2.2.1,true))))
def term_Skip_L0 (rec:((List QSym)×(List Int)×Int×Int)→Option (Int×Bool)) (x:((List QSym)×(List Int)×Int×Int)):Option (Int×Bool) :=
 cond (decide (x.2.2.1≥((List.length x.2.1:Nat):Int)))
 (some (0,false))
 ((gx x.2.1 x.2.2.1).bind fun e5 =>
  (term_args x.1 e5).bind fun r6 =>
  cond (!r6.2)
  (some (0,false))
  (cond (decide ((IntKind.wrap .i64 (x.2.2.2+(IntKind.wrap .i64 (r6.1 - 1))))>0))
   (rec (x.1,x.2.1,(IntKind.wrap .i64 (x.2.2.1+1)),(IntKind.wrap .i64 (x.2.2.2+(IntKind.wrap .i64 (r6.1 - 1))))))
   (some ((IntKind.wrap .i64 (x.2.2.1+1)),true))))
def term_Skip (a0:(List QSym)) (a1:(List Int)) (a2:Int):Option (Int×Bool) :=
 cond (decide (a2≥((List.length a1:Nat):Int)))
 (some (0,false))
 ((gx a1 a2).bind fun e8 =>
  (term_args a0 e8).bind fun r9 =>
  cond (!r9.2)
  (some (0,false))
  (cond (decide ((IntKind.wrap .i64 (1+(IntKind.wrap .i64 (r9.1 - 1))))>0))
   ((((lp term_Skip_L0 fuel) (a0,a1,(IntKind.wrap .i64 (a2+1)),(IntKind.wrap .i64 (1+(IntKind.wrap .i64 (r9.1 - 1))))))).bind fun r10 =>
    some (r10.1,r10.2))
   (some ((IntKind.wrap .i64 (a2+1)),true))))
def term_begins_L0 (rec:((List QSym)×(List Int)×Int×(List Int))→Option QLit) (x:((List QSym)×(List Int)×Int×(List Int))):Option QLit :=
 cond (x.2.2.1==((List.length x.2.1:Nat):Int))
 (some (true,x.2.2.2))
 ((term_Skip x.1 x.2.1 x.2.2.1).bind fun r4 =>
  cond (!r4.2)
  (some (false,([]:(List Int))))
  (cond (room (List.length x.2.2.2+List.length ([x.2.2.1]:List Int)) 8)
   (rec (x.1,x.2.1,r4.1,(x.2.2.2++([x.2.2.1]:List Int))))
   (none)))
def term_begins (a0:(List QSym)) (a1:(List Int)):Option QLit :=
 (sign_May a0).bind fun r6 =>
 cond (!r6)
 (some (false,([]:(List Int))))
 (cond (decide (((List.length a1:Nat):Int)>48))
  (some (false,([]:(List Int))))
  (cond (0==((List.length a1:Nat):Int))
   (some (true,([]:(List Int))))
   ((term_Skip a0 a1 0).bind fun r7 =>
    cond (!r7.2)
    (some (false,([]:(List Int))))
    (cond (room (List.length ([0]:List Int)) 8)
     ((((lp term_begins_L0 fuel) (a0,a1,r7.1,([0]:List Int)))).bind fun r8 =>
      some (r8.1,r8.2))
     (none)))))
def term_IsAtom (a0:(List QSym)) (a1:(List Int)):Option Bool :=
 cond (((List.length a1:Nat):Int)==0)
 (some false)
 ((gx a1 0).bind fun e9 =>
  cond (decide (e9<0))
  (some false)
  ((gx a1 0).bind fun e10 =>
   cond (decide (e10≥((List.length a0:Nat):Int)))
   (some false)
   ((gx a1 0).bind fun e11 =>
    (gx a0 e11).bind fun e12 =>
    cond (e12.2.1 != 0)
    (some false)
    ((slc2 a1 (some 1) none).bind fun y13 =>
     (term_begins a0 y13).bind fun r14 =>
     cond r14.1
     ((gx a1 0).bind fun e15 =>
      (gx a0 e15).bind fun e16 =>
      some (((List.length r14.2:Nat):Int)==e16.2.2.1))
     (some false)))))
def lit_May (a0:(List QSym)) (_a1:Bool) (a2:(List Int)):Option Bool :=
 (term_IsAtom a0 a2).bind fun r2 =>
 some r2
def clause_litsMay_L0 (rec:((List QSym)×Int×(List QLit)×Int×Int)→Option (Int⊕(Int×Bool))) (x:((List QSym)×Int×(List QLit)×Int×Int)):Option (Int⊕(Int×Bool)) :=
 cond (decide (x.2.2.2.2<x.2.2.2.1))
 ((gx x.2.2.1 x.2.2.2.2).bind fun e3 =>
  (lit_May x.1 e3.1 e3.2).bind fun r4 =>
  cond (!r4)
  (some (Sum.inr (0,false)))
  (rec (x.1,(IntKind.wrap .i64 (x.2.1+((List.length e3.2:Nat):Int))),x.2.2.1,x.2.2.2.1,(IntKind.wrap .i64 (x.2.2.2.2+1)))))
 (some (Sum.inl x.2.1))
def clause_litsMay (a0:(List QSym)) (a1:(List QLit)):Option (Int×Bool) :=
 ((lp clause_litsMay_L0 fuel) (a0,0,a1,((List.length a1:Nat):Int),0)).bind fun r8 =>
 caseS r8
 (fun z9=>some (z9,true))
 (fun z10=>some (z10.1,z10.2))
def term_Row (a0:(List QSym)) (a1:(List Int)):Option (Int×Int) :=
 (term_begins a0 a1).bind fun r2 =>
 cond (!r2.1)
 (some (0,200))
 (some (((List.length r2.2:Nat):Int),0))
def clause_rowsMay_L0 (rec:((List QSym)×Int×Int×(List (List Int))×Int×Int)→Option (Int⊕(Int×Bool))) (x:((List QSym)×Int×Int×(List (List Int))×Int×Int)):Option (Int⊕(Int×Bool)) :=
 cond (decide (x.2.2.2.2.2<x.2.2.2.2.1))
 ((gx x.2.2.2.1 x.2.2.2.2.2).bind fun e3 =>
  (term_Row x.1 e3).bind fun r4 =>
  cond (x.2.2.2.2.2==0)
  (cond (r4.2 != 0)
   (some (Sum.inr (0,false)))
   (cond (r4.1 != r4.1)
    (some (Sum.inr (0,false)))
    (rec (x.1,(IntKind.wrap .i64 (x.2.1+((List.length e3:Nat):Int))),r4.1,x.2.2.2.1,x.2.2.2.2.1,(IntKind.wrap .i64 (x.2.2.2.2.2+1))))))
  (cond (r4.2 != 0)
   (some (Sum.inr (0,false)))
   (cond (r4.1 != x.2.2.1)
    (some (Sum.inr (0,false)))
    (rec (x.1,(IntKind.wrap .i64 (x.2.1+((List.length e3:Nat):Int))),x.2.2.1,x.2.2.2.1,x.2.2.2.2.1,(IntKind.wrap .i64 (x.2.2.2.2.2+1)))))))
 (some (Sum.inl x.2.1))
def clause_rowsMay (a0:(List QSym)) (a1:(List (List Int))):Option (Int×Bool) :=
 ((lp clause_rowsMay_L0 fuel) (a0,0,0,a1,((List.length a1:Nat):Int),0)).bind fun r8 =>
 caseS r8
 (fun z9=>some (z9,true))
 (fun z10=>some (z10.1,z10.2))
def clause_May (a0:(List QSym)) (a1:(List QLit)) (a2:(List (List Int))) (a3:(List QLit)):Option Bool :=
 (sign_May a0).bind fun r5 =>
 cond (!r5)
 (some false)
 (cond (decide (((List.length a1:Nat):Int)>5))
  (some false)
  (cond (decide (((List.length a2:Nat):Int)>3))
   (some false)
   (cond (decide (((List.length a3:Nat):Int)>3))
    (some false)
    ((clause_litsMay a0 a1).bind fun r6 =>
     (clause_rowsMay a0 a2).bind fun r7 =>
     (clause_litsMay a0 a3).bind fun r8 =>
     cond r6.2
     (cond r7.2
      (cond r8.2
       (some (decide ((IntKind.wrap .i64 ((IntKind.wrap .i64 (r6.1+r7.1))+r8.1))≤240)))
       (some false))
      (some false))
     (some false)))))
def slices_Equal_L0 (rec:((List Int)×(List Int)×Int×Int)→Option (Unit⊕Bool)) (x:((List Int)×(List Int)×Int×Int)):Option (Unit⊕Bool) :=
 cond (decide (x.2.2.2<x.2.2.1))
 ((gx x.1 x.2.2.2).bind fun e3 =>
  (gx x.2.1 x.2.2.2).bind fun e4 =>
  cond (e3 != e4)
  (some (Sum.inr false))
  (rec (x.1,x.2.1,x.2.2.1,(IntKind.wrap .i64 (x.2.2.2+1)))))
 (some (Sum.inl ()))
def slices_Equal (a0:(List Int)) (a1:(List Int)):Option Bool :=
 cond (((List.length a0:Nat):Int) != ((List.length a1:Nat):Int))
 (some false)
 (((lp slices_Equal_L0 fuel) (a0,a1,((List.length a0:Nat):Int),0)).bind fun r8 =>
  caseS r8
  (fun _z9=>some true)
  (fun z10=>some z10))
def lit_Same (a0:Bool) (a1:(List Int)) (a2:Bool) (a3:(List Int)):Option Bool :=
 cond (a0==a2)
 ((slices_Equal a1 a3).bind fun r2 =>
  some r2)
 (some false)
def clause_once_c1 (a0:Bool) (a1:(List Int)) (a2:Bool) (a3:(List Int)):Option Bool :=
 (lit_Same a2 a3 a0 a1).bind fun r2 =>
 some r2
def slices_IndexFunc_L0 (rec:((List QLit)×Int×Int×Bool×(List Int))→Option (Unit⊕Int)) (x:((List QLit)×Int×Int×Bool×(List Int))):Option (Unit⊕Int) :=
 cond (decide (x.2.2.1<x.2.1))
 ((gx x.1 x.2.2.1).bind fun e3 =>
  (clause_once_c1 e3.1 e3.2 x.2.2.2.1 x.2.2.2.2).bind fun r4 =>
  cond r4
  (some (Sum.inr x.2.2.1))
  (rec (x.1,x.2.1,(IntKind.wrap .i64 (x.2.2.1+1)),x.2.2.2.1,x.2.2.2.2)))
 (some (Sum.inl ()))
def slices_IndexFunc (a0:(List QLit)) (a1:Bool) (a2:(List Int)):Option Int :=
 ((lp slices_IndexFunc_L0 fuel) (a0,((List.length a0:Nat):Int),0,a1,a2)).bind fun r8 =>
 caseS r8
 (fun _z9=>some (-1))
 (fun z10=>some z10)
def slices_ContainsFunc (a0:(List QLit)) (a1:Bool) (a2:(List Int)):Option Bool :=
 (slices_IndexFunc a0 a1 a2).bind fun r2 =>
 some (decide (r2≥0))
def clause_once_L0 (rec:((List QLit)×Int×Int×(List QLit))→Option (List QLit)) (x:((List QLit)×Int×Int×(List QLit))):Option (List QLit) :=
 cond (decide (x.2.2.1<x.2.1))
 ((gx x.1 x.2.2.1).bind fun e5 =>
  (slices_ContainsFunc x.2.2.2 e5.1 e5.2).bind fun r6 =>
  cond (!r6)
  (cond (room (List.length x.2.2.2+List.length ([(e5.1,e5.2)]:List QLit)) 32)
   (rec (x.1,x.2.1,(IntKind.wrap .i64 (x.2.2.1+1)),(x.2.2.2++([(e5.1,e5.2)]:List QLit))))
   (none))
  (rec (x.1,x.2.1,(IntKind.wrap .i64 (x.2.2.1+1)),x.2.2.2)))
 (some x.2.2.2)
def clause_once (a0:(List QLit)):Option (List QLit) :=
 ((lp clause_once_L0 fuel) (a0,((List.length a0:Nat):Int),0,([]:(List QLit)))).bind fun r8 =>
 some r8
def clause_anew_c1 (a0:(List Int)) (a1:(List Int)):Option Bool :=
 (slices_Equal a1 a0).bind fun r2 =>
 some r2
def slices_IndexFunc_1_L0 (rec:((List (List Int))×Int×Int×(List Int))→Option (Unit⊕Int)) (x:((List (List Int))×Int×Int×(List Int))):Option (Unit⊕Int) :=
 cond (decide (x.2.2.1<x.2.1))
 ((gx x.1 x.2.2.1).bind fun e3 =>
  (clause_anew_c1 e3 x.2.2.2).bind fun r4 =>
  cond r4
  (some (Sum.inr x.2.2.1))
  (rec (x.1,x.2.1,(IntKind.wrap .i64 (x.2.2.1+1)),x.2.2.2)))
 (some (Sum.inl ()))
def slices_IndexFunc_1 (a0:(List (List Int))) (a1:(List Int)):Option Int :=
 ((lp slices_IndexFunc_1_L0 fuel) (a0,((List.length a0:Nat):Int),0,a1)).bind fun r8 =>
 caseS r8
 (fun _z9=>some (-1))
 (fun z10=>some z10)
def slices_ContainsFunc_1 (a0:(List (List Int))) (a1:(List Int)):Option Bool :=
 (slices_IndexFunc_1 a0 a1).bind fun r2 =>
 some (decide (r2≥0))
def clause_anew_c2_1_L0 (rec:(Int×Int×(List Int)×Int×(List Int))→Option ((List Int)×Int×(List Int))) (x:(Int×Int×(List Int)×Int×(List Int))):Option ((List Int)×Int×(List Int)) :=
 cond (decide (x.2.1<x.1))
 ((inR x.2.1 (List.length x.2.2.2.2)).bind fun k33 =>
  (x.2.2.2.2[k33]?).bind fun x34 =>
  cond (decide (x34≥0))
  (rec (x.1,(IntKind.wrap .i64 (x.2.1+1)),x.2.2.1,x.2.2.2.1,x.2.2.2.2))
  ((term_Number x34).bind fun r35 =>
   (inR r35 24).bind fun k36 =>
   (x.2.2.1[k36]?).bind fun x37 =>
   cond (x37==0)
   ((term_Number x34).bind fun r38 =>
    (inR r38 24).bind fun k39 =>
    (x.2.2.1[k39]?).bind fun _x40 =>
    (term_Number x34).bind fun r41 =>
    (inR r41 24).bind fun k42 =>
    ((List.set x.2.2.1 k39 (IntKind.wrap .i64 (x.2.2.2.1+1)))[k42]?).bind fun x43 =>
    (inR x.2.1 (List.length x.2.2.2.2)).bind fun k44 =>
    (x.2.2.2.2[k44]?).bind fun _x45 =>
    rec (x.1,(IntKind.wrap .i64 (x.2.1+1)),(List.set x.2.2.1 k39 (IntKind.wrap .i64 (x.2.2.2.1+1))),(IntKind.wrap .i64 (x.2.2.2.1+1)),(List.set x.2.2.2.2 k44 (negI .i64 x43))))
   ((term_Number x34).bind fun r46 =>
    (inR r46 24).bind fun k47 =>
    (x.2.2.1[k47]?).bind fun x48 =>
    (inR x.2.1 (List.length x.2.2.2.2)).bind fun k49 =>
    (x.2.2.2.2[k49]?).bind fun _x50 =>
    rec (x.1,(IntKind.wrap .i64 (x.2.1+1)),x.2.2.1,x.2.2.2.1,(List.set x.2.2.2.2 k49 (negI .i64 x48))))))
 (some (x.2.2.1,x.2.2.2.1,x.2.2.2.2))
def clause_anew_c2_1 (a0:(List Int)) (a1:(List Int)) (a2:Int):Option ((List Int)×(List Int)×Int) :=
 (slices_CloneN a0).bind fun r52 =>
 ((lp clause_anew_c2_1_L0 fuel) (((List.length r52:Nat):Int),0,a1,a2,r52)).bind fun r53 =>
 cond (Nat.beq (List.length a1) (List.length r53.1)&&true)
 (some (r53.2.2,r53.1,r53.2.1))
 (none)
def clause_each_1_L2 (rec:((List QLit)×Int×Int×(List Int)×Int×(List QLit)×(List (List Int))×(List QLit))→Option ((List Int)×Int×(List QLit)×(List (List Int))×(List QLit))) (x:((List QLit)×Int×Int×(List Int)×Int×(List QLit)×(List (List Int))×(List QLit))):Option ((List Int)×Int×(List QLit)×(List (List Int))×(List QLit)) :=
 cond (decide (x.2.2.1<x.2.1))
 ((gx x.1 x.2.2.1).bind fun e19 =>
  (clause_anew_c2_1 e19.2 x.2.2.2.1 x.2.2.2.2.1).bind fun r20 =>
  cond (room (List.length x.2.2.2.2.2.2.2+List.length ([(e19.1,r20.1)]:List QLit)) 32)
  (rec (x.1,x.2.1,(IntKind.wrap .i64 (x.2.2.1+1)),r20.2.1,r20.2.2,x.2.2.2.2.2.1,x.2.2.2.2.2.2.1,(x.2.2.2.2.2.2.2++([(e19.1,r20.1)]:List QLit))))
  (none))
 (some (x.2.2.2.1,x.2.2.2.2.1,x.2.2.2.2.2.1,x.2.2.2.2.2.2.1,x.2.2.2.2.2.2.2))
def clause_each_1_L1 (rec:((List (List Int))×Int×Int×(List Int)×Int×(List QLit)×(List (List Int))×(List QLit)×(List QLit)×(List (List Int)))→Option ((List Int)×Int×(List QLit)×(List (List Int)))) (x:((List (List Int))×Int×Int×(List Int)×Int×(List QLit)×(List (List Int))×(List QLit)×(List QLit)×(List (List Int)))):Option ((List Int)×Int×(List QLit)×(List (List Int))) :=
 cond (decide (x.2.2.1<x.2.1))
 ((gx x.1 x.2.2.1).bind fun e12 =>
  (clause_anew_c2_1 e12 x.2.2.2.1 x.2.2.2.2.1).bind fun r13 =>
  cond (room (List.length x.2.2.2.2.2.2.2.2.2+List.length ([r13.1]:List (List Int))) 24)
  (rec (x.1,x.2.1,(IntKind.wrap .i64 (x.2.2.1+1)),r13.2.1,r13.2.2,x.2.2.2.2.2.1,x.2.2.2.2.2.2.1,x.2.2.2.2.2.2.2.1,x.2.2.2.2.2.2.2.2.1,(x.2.2.2.2.2.2.2.2.2++([r13.1]:List (List Int)))))
  (none))
 (some (x.2.2.2.1,x.2.2.2.2.1,x.2.2.2.2.2.2.2.2.1,x.2.2.2.2.2.2.2.2.2))
def clause_each_1_L0 (rec:((List QLit)×Int×Int×(List Int)×Int×(List QLit)×(List (List Int))×(List QLit)×(List QLit))→Option ((List Int)×Int×(List QLit))) (x:((List QLit)×Int×Int×(List Int)×Int×(List QLit)×(List (List Int))×(List QLit)×(List QLit))):Option ((List Int)×Int×(List QLit)) :=
 cond (decide (x.2.2.1<x.2.1))
 ((gx x.1 x.2.2.1).bind fun e5 =>
  (clause_anew_c2_1 e5.2 x.2.2.2.1 x.2.2.2.2.1).bind fun r6 =>
  cond (room (List.length x.2.2.2.2.2.2.2.2+List.length ([(e5.1,r6.1)]:List QLit)) 32)
  (rec (x.1,x.2.1,(IntKind.wrap .i64 (x.2.2.1+1)),r6.2.1,r6.2.2,x.2.2.2.2.2.1,x.2.2.2.2.2.2.1,x.2.2.2.2.2.2.2.1,(x.2.2.2.2.2.2.2.2++([(e5.1,r6.1)]:List QLit))))
  (none))
 (some (x.2.2.2.1,x.2.2.2.2.1,x.2.2.2.2.2.2.2.2))
def clause_each_1 (a0:(List QLit)) (a1:(List (List Int))) (a2:(List QLit)) (a3:(List Int)) (a4:Int):Option ((List QLit)×(List (List Int))×(List QLit)×(List Int)×Int) :=
 ((lp clause_each_1_L0 fuel) (a0,((List.length a0:Nat):Int),0,a3,a4,a0,a1,a2,([]:(List QLit)))).bind fun r22 =>
 ((lp clause_each_1_L1 fuel) (a1,((List.length a1:Nat):Int),0,r22.1,r22.2.1,a0,a1,a2,r22.2.2,([]:(List (List Int))))).bind fun r23 =>
 ((lp clause_each_1_L2 fuel) (a2,((List.length a2:Nat):Int),0,r23.1,r23.2.1,r23.2.2.1,r23.2.2.2,([]:(List QLit)))).bind fun r24 =>
 cond (Nat.beq (List.length a3) (List.length r24.1)&&true)
 (some (r24.2.2.1,r24.2.2.2.1,r24.2.2.2.2,r24.1,r24.2.1))
 (none)
def clause_anew_L0 (rec:((List (List Int))×Int×Int×(List QLit)×(List QLit)×(List (List Int)))→Option ((List QLit)×(List QLit)×(List (List Int)))) (x:((List (List Int))×Int×Int×(List QLit)×(List QLit)×(List (List Int)))):Option ((List QLit)×(List QLit)×(List (List Int))) :=
 cond (decide (x.2.2.1<x.2.1))
 ((gx x.1 x.2.2.1).bind fun e7 =>
  (slices_ContainsFunc_1 x.2.2.2.2.2 e7).bind fun r8 =>
  cond (!r8)
  (cond (room (List.length x.2.2.2.2.2+List.length ([e7]:List (List Int))) 24)
   (rec (x.1,x.2.1,(IntKind.wrap .i64 (x.2.2.1+1)),x.2.2.2.1,x.2.2.2.2.1,(x.2.2.2.2.2++([e7]:List (List Int)))))
   (none))
  (rec (x.1,x.2.1,(IntKind.wrap .i64 (x.2.2.1+1)),x.2.2.2.1,x.2.2.2.2.1,x.2.2.2.2.2)))
 (some (x.2.2.2.1,x.2.2.2.2.1,x.2.2.2.2.2))
def clause_anew (a0:(List QLit)) (a1:(List (List Int))) (a2:(List QLit)):Option ((List QLit)×(List (List Int))×(List QLit)) :=
 (clause_once a0).bind fun r11 =>
 (clause_once a2).bind fun r12 =>
 ((lp clause_anew_L0 fuel) (a1,((List.length a1:Nat):Int),0,r11,r12,([]:(List (List Int))))).bind fun r13 =>
 (clause_each_1 r13.1 r13.2.2 r13.2.1 (List.replicate 24 (0:Int)) 0).bind fun r14 =>
 some (r14.1,r14.2.1,r14.2.2.1)
def clause_Normal (a0:(List QSym)) (a1:(List QLit)) (a2:(List (List Int))) (a3:(List QLit)):Option ((List QLit)×(List (List Int))×Int×(List QLit)) :=
 (clause_May a0 a1 a2 a3).bind fun r3 =>
 cond (!r3)
 (some (([]:(List QLit)),([]:(List (List Int))),800,([]:(List QLit))))
 ((clause_anew a1 a2 a3).bind fun r4 =>
  some (r4.1,r4.2.1,0,r4.2.2))
def term_Pieces_L0 (rec:((List QSym)×(List Int)×Int×(List (List Int)))→Option ((List (List Int))⊕(List (List Int)))) (x:((List QSym)×(List Int)×Int×(List (List Int)))):Option ((List (List Int))⊕(List (List Int))) :=
 cond (decide (x.2.2.1<((List.length x.2.1:Nat):Int)))
 ((term_Skip x.1 x.2.1 x.2.2.1).bind fun r5 =>
  cond (!r5.2)
  (some (Sum.inr x.2.2.2))
  ((slc2 x.2.1 (some x.2.2.1) (some r5.1)).bind fun y6 =>
   cond (room (List.length x.2.2.2+List.length ([y6]:List (List Int))) 24)
   (rec (x.1,x.2.1,r5.1,(x.2.2.2++([y6]:List (List Int)))))
   (none)))
 (some (Sum.inl x.2.2.2))
def term_Pieces (a0:(List QSym)) (a1:(List Int)):Option (List (List Int)) :=
 ((lp term_Pieces_L0 fuel) (a0,a1,0,([]:(List (List Int))))).bind fun r10 =>
 caseS r10
 (fun z11=>some z11)
 (fun z12=>some z12)
def strconv_Itoa (a0:Int):Option Str:=itoaF a0
def law0_Num (a0:Int):Option Int :=
 some a0
def law0_SameInts_L0 (rec:((List Int)×(List Int)×Int)→Option (Unit⊕Bool)) (x:((List Int)×(List Int)×Int)):Option (Unit⊕Bool) :=
 cond (decide (x.2.2<((List.length x.1:Nat):Int)))
 ((gx x.1 x.2.2).bind fun e3 =>
  (gx x.2.1 x.2.2).bind fun e4 =>
  cond (e3 != e4)
  (some (Sum.inr false))
  (rec (x.1,x.2.1,(IntKind.wrap .i64 (x.2.2+1)))))
 (some (Sum.inl ()))
def law0_SameInts (a0:(List Int)) (a1:(List Int)):Option Bool :=
 cond (((List.length a0:Nat):Int) != ((List.length a1:Nat):Int))
 (some false)
 (((lp law0_SameInts_L0 fuel) (a0,a1,0)).bind fun r8 =>
  caseS r8
  (fun _z9=>some true)
  (fun z10=>some z10))
def law0_SameLits_L0 (rec:((List QLit)×(List QLit)×Int)→Option (Unit⊕Bool)) (x:((List QLit)×(List QLit)×Int)):Option (Unit⊕Bool) :=
 cond (decide (x.2.2<((List.length x.1:Nat):Int)))
 ((gx x.1 x.2.2).bind fun e6 =>
  (gx x.2.1 x.2.2).bind fun e7 =>
  cond (!(e6.1==e7.1))
  (some (Sum.inr false))
  ((gx x.1 x.2.2).bind fun e8 =>
   (gx x.2.1 x.2.2).bind fun e9 =>
   (law0_SameInts e8.2 e9.2).bind fun r10 =>
   cond (!r10)
   (some (Sum.inr false))
   (rec (x.1,x.2.1,(IntKind.wrap .i64 (x.2.2+1))))))
 (some (Sum.inl ()))
def law0_SameLits (a0:(List QLit)) (a1:(List QLit)):Option Bool :=
 cond (((List.length a0:Nat):Int) != ((List.length a1:Nat):Int))
 (some false)
 (((lp law0_SameLits_L0 fuel) (a0,a1,0)).bind fun r14 =>
  caseS r14
  (fun _z15=>some true)
  (fun z16=>some z16))
def law0_SameRows_L0 (rec:((List (List Int))×(List (List Int))×Int)→Option (Unit⊕Bool)) (x:((List (List Int))×(List (List Int))×Int)):Option (Unit⊕Bool) :=
 cond (decide (x.2.2<((List.length x.1:Nat):Int)))
 ((gx x.1 x.2.2).bind fun e4 =>
  (gx x.2.1 x.2.2).bind fun e5 =>
  (law0_SameInts e4 e5).bind fun r6 =>
  cond (!r6)
  (some (Sum.inr false))
  (rec (x.1,x.2.1,(IntKind.wrap .i64 (x.2.2+1)))))
 (some (Sum.inl ()))
def law0_SameRows (a0:(List (List Int))) (a1:(List (List Int))):Option Bool :=
 cond (((List.length a0:Nat):Int) != ((List.length a1:Nat):Int))
 (some false)
 (((lp law0_SameRows_L0 fuel) (a0,a1,0)).bind fun r10 =>
  caseS r10
  (fun _z11=>some true)
  (fun z12=>some z12))
def law0_SameClause (a0:(List QLit)) (a1:(List (List Int))) (a2:(List QLit)) (a3:(List QLit)) (a4:(List (List Int))) (a5:(List QLit)):Option Bool :=
 (law0_SameLits a0 a3).bind fun r4 =>
 cond r4
 ((law0_SameRows a1 a4).bind fun r5 =>
  cond r5
  ((law0_SameLits a2 a5).bind fun r6 =>
   some r6)
  (some false))
 (some false)
end Go.Abs.Q
namespace Go.Abs.Q
open Go Go.Abs
section
theorem lp_succ {X Y:Type} (s:(X→Option Y)→X→Option Y) (k:Nat):lp s (k+1)=s (lp s k):=rfl
theorem gx_nat {α:Type} (xs:List α) (i:Nat):gx xs (i:Int)=xs[i]? := by
 unfold gx
 rw[show decide ((0:Int)≤(i:Int))=true from by simp]
 rfl
theorem gx_zero {α:Type} (xs:List α):gx xs 0=xs[0]? := gx_nat xs 0
theorem gx_at {α:Type} {xs:List α} {i:Int} (h0:0≤i) (h:i<xs.length):∃ x,gx xs i=some x∧x∈xs∧xs[i.toNat]? = some x:=by
 have hi:i.toNat<xs.length:=by omega
 refine ⟨xs[i.toNat],?_,List.getElem_mem hi,List.getElem?_eq_getElem hi⟩
 unfold gx
 rw[show decide ((0:Int)≤i)=true from by simp; omega,cond_true,List.getElem?_eq_getElem hi]
theorem inR_nat {i l:Nat} (h:i<l):inR (i:Int) l=some i:=by
 unfold inR
 simp [h]
theorem wrap64 {n:Int} (h1 : -9223372036854775808≤n) (h2:n≤9223372036854775807):IntKind.wrap .i64 n=n:=by
 simp [IntKind.wrap,IntKind.signed,IntKind.bits]
 omega
theorem wrap_i1 {i l:Nat} (h:i<l) (hl:l≤maxLen):IntKind.wrap .i64 ((i:Int)+1)=((i+1:Nat):Int):=by
 unfold maxLen at hl
 rw[wrap64]<;>omega
theorem lt_true {i l:Nat} (h:i<l):decide ((i:Int)<(l:Int))=true:=by simp [h]
theorem lt_false {i l:Nat} (h:l≤i):decide ((i:Int)<(l:Int))=false:=by simp; omega
theorem drop_nil_le {α:Type} {xs:List α} {i:Nat} (h:xs.drop i=[]):xs.length≤i:=by simpa using h
theorem drop_cons_lt {α:Type} {xs es:List α} {e:α} {i:Nat} (h:xs.drop i=e::es):i<xs.length:=by
 rw[← Nat.not_le]
 intro hn
 rw[List.drop_eq_nil_iff.2 hn] at h
 cases h
theorem drop_cons_get {α:Type} {xs es:List α} {e:α} {i:Nat} (h:xs.drop i=e::es):xs[i]? = some e:=by
 have:=congrArg (·[0]?) h
 simpa using this
theorem drop_cons_next {α:Type} {xs es:List α} {e:α} {i:Nat} (h:xs.drop i=e::es):xs.drop (i+1)=es:=by
 rw[← List.drop_drop,h]
 rfl
end
end Go.Abs.Q
namespace Go.Abs.Q
open Go Go.Abs
theorem rngl0 {A R T:Type} {xs:List A} (f:(T→Option R)→T→Option R) (mk:Int→T) (go:List A→Nat→Option R) (hl:List.length xs≤maxLen)
  (h0:∀(r:T→Option R) (i:Nat),decide ((i:Int)<((List.length xs:Nat):Int))=false→f r (mk (i:Int))=go [] i)
  (h1:∀(r:T→Option R) (i:Nat) e es,decide ((i:Int)<((List.length xs:Nat):Int))=true→gx xs (i:Int)=some e→IntKind.wrap .i64 ((i:Int)+1)=((i+1:Nat):Int)→(r (mk ((i+1:Nat):Int))=go es (i+1))→f r (mk (i:Int))=go (e::es) i)
   : lp f fuel (mk 0)=go xs 0:=by
 have key:∀(es:List A) (i k:Nat),xs.drop i=es→es.length<k→lp f k (mk (i:Int))=go es i:=by
  intro es
  induction es with
  | nil =>
   intro i k h hk
   obtain⟨k,rfl⟩:∃ k',k=k'+1:=⟨k - 1,by omega⟩
   exact h0 _ i (lt_false (drop_nil_le h))
  | cons e es ih =>
   intro i k h hk
   obtain⟨k,rfl⟩:∃ k',k=k'+1:=⟨k - 1,by omega⟩
   have hi:=drop_cons_lt h
   exact h1 _ i e es (lt_true hi) ((gx_nat xs i).trans (drop_cons_get h)) (wrap_i1 hi hl) (ih (i+1) k (drop_cons_next h) (Nat.lt_of_succ_lt_succ hk))
 exact key xs 0 fuel rfl (Nat.lt_of_le_of_lt hl (by decide))
theorem rngl1 {A S0 R T:Type} {xs:List A} (f:(T→Option R)→T→Option R) (mk:Int→S0→T) (go:List A→Nat→S0→Option R) (hl:List.length xs≤maxLen)
  (h0:∀(r:T→Option R) (i:Nat) s0,decide ((i:Int)<((List.length xs:Nat):Int))=false→f r (mk (i:Int) s0)=go [] i s0)
  (h1:∀(r:T→Option R) (i:Nat) s0 e es,decide ((i:Int)<((List.length xs:Nat):Int))=true→gx xs (i:Int)=some e→IntKind.wrap .i64 ((i:Int)+1)=((i+1:Nat):Int)→(∀ s0,r (mk ((i+1:Nat):Int) s0)=go es (i+1) s0)→f r (mk (i:Int) s0)=go (e::es) i s0)
  (s0:S0):lp f fuel (mk 0 s0)=go xs 0 s0:=by
 have key:∀(es:List A) (i k:Nat) s0,xs.drop i=es→es.length<k→lp f k (mk (i:Int) s0)=go es i s0:=by
  intro es
  induction es with
  | nil =>
   intro i k s0 h hk
   obtain⟨k,rfl⟩:∃ k',k=k'+1:=⟨k - 1,by omega⟩
   exact h0 _ i s0 (lt_false (drop_nil_le h))
  | cons e es ih =>
   intro i k s0 h hk
   obtain⟨k,rfl⟩:∃ k',k=k'+1:=⟨k - 1,by omega⟩
   have hi:=drop_cons_lt h
   exact h1 _ i s0 e es (lt_true hi) ((gx_nat xs i).trans (drop_cons_get h)) (wrap_i1 hi hl) (fun s0=>ih (i+1) k s0 (drop_cons_next h) (Nat.lt_of_succ_lt_succ hk))
 exact key xs 0 fuel s0 rfl (Nat.lt_of_le_of_lt hl (by decide))
theorem rngl2 {A S0 S1 R T:Type} {xs:List A} (f:(T→Option R)→T→Option R) (mk:Int→S0→S1→T) (go:List A→Nat→S0→S1→Option R) (hl:List.length xs≤maxLen)
  (h0:∀(r:T→Option R) (i:Nat) s0 s1,decide ((i:Int)<((List.length xs:Nat):Int))=false→f r (mk (i:Int) s0 s1)=go [] i s0 s1)
  (h1:∀(r:T→Option R) (i:Nat) s0 s1 e es,decide ((i:Int)<((List.length xs:Nat):Int))=true→gx xs (i:Int)=some e→IntKind.wrap .i64 ((i:Int)+1)=((i+1:Nat):Int)→(∀ s0 s1,r (mk ((i+1:Nat):Int) s0 s1)=go es (i+1) s0 s1)→f r (mk (i:Int) s0 s1)=go (e::es) i s0 s1)
  (s0:S0) (s1:S1):lp f fuel (mk 0 s0 s1)=go xs 0 s0 s1:=by
 have key:∀(es:List A) (i k:Nat) s0 s1,xs.drop i=es→es.length<k→lp f k (mk (i:Int) s0 s1)=go es i s0 s1:=by
  intro es
  induction es with
  | nil =>
   intro i k s0 s1 h hk
   obtain⟨k,rfl⟩:∃ k',k=k'+1:=⟨k - 1,by omega⟩
   exact h0 _ i s0 s1 (lt_false (drop_nil_le h))
  | cons e es ih =>
   intro i k s0 s1 h hk
   obtain⟨k,rfl⟩:∃ k',k=k'+1:=⟨k - 1,by omega⟩
   have hi:=drop_cons_lt h
   exact h1 _ i s0 s1 e es (lt_true hi) ((gx_nat xs i).trans (drop_cons_get h)) (wrap_i1 hi hl) (fun s0 s1=>ih (i+1) k s0 s1 (drop_cons_next h) (Nat.lt_of_succ_lt_succ hk))
 exact key xs 0 fuel s0 s1 rfl (Nat.lt_of_le_of_lt hl (by decide))
theorem rngl3 {A S0 S1 S2 R T:Type} {xs:List A} (f:(T→Option R)→T→Option R) (mk:Int→S0→S1→S2→T) (go:List A→Nat→S0→S1→S2→Option R) (hl:List.length xs≤maxLen)
  (h0:∀(r:T→Option R) (i:Nat) s0 s1 s2,decide ((i:Int)<((List.length xs:Nat):Int))=false→f r (mk (i:Int) s0 s1 s2)=go [] i s0 s1 s2)
  (h1:∀(r:T→Option R) (i:Nat) s0 s1 s2 e es,decide ((i:Int)<((List.length xs:Nat):Int))=true→gx xs (i:Int)=some e→IntKind.wrap .i64 ((i:Int)+1)=((i+1:Nat):Int)→(∀ s0 s1 s2,r (mk ((i+1:Nat):Int) s0 s1 s2)=go es (i+1) s0 s1 s2)→f r (mk (i:Int) s0 s1 s2)=go (e::es) i s0 s1 s2)
  (s0:S0) (s1:S1) (s2:S2):lp f fuel (mk 0 s0 s1 s2)=go xs 0 s0 s1 s2:=by
 have key:∀(es:List A) (i k:Nat) s0 s1 s2,xs.drop i=es→es.length<k→lp f k (mk (i:Int) s0 s1 s2)=go es i s0 s1 s2:=by
  intro es
  induction es with
  | nil =>
   intro i k s0 s1 s2 h hk
   obtain⟨k,rfl⟩:∃ k',k=k'+1:=⟨k - 1,by omega⟩
   exact h0 _ i s0 s1 s2 (lt_false (drop_nil_le h))
  | cons e es ih =>
   intro i k s0 s1 s2 h hk
   obtain⟨k,rfl⟩:∃ k',k=k'+1:=⟨k - 1,by omega⟩
   have hi:=drop_cons_lt h
   exact h1 _ i s0 s1 s2 e es (lt_true hi) ((gx_nat xs i).trans (drop_cons_get h)) (wrap_i1 hi hl) (fun s0 s1 s2=>ih (i+1) k s0 s1 s2 (drop_cons_next h) (Nat.lt_of_succ_lt_succ hk))
 exact key xs 0 fuel s0 s1 s2 rfl (Nat.lt_of_le_of_lt hl (by decide))
theorem rngl4 {A S0 S1 S2 S3 R T:Type} {xs:List A} (f:(T→Option R)→T→Option R) (mk:Int→S0→S1→S2→S3→T) (go:List A→Nat→S0→S1→S2→S3→Option R) (hl:List.length xs≤maxLen)
  (h0:∀(r:T→Option R) (i:Nat) s0 s1 s2 s3,decide ((i:Int)<((List.length xs:Nat):Int))=false→f r (mk (i:Int) s0 s1 s2 s3)=go [] i s0 s1 s2 s3)
  (h1:∀(r:T→Option R) (i:Nat) s0 s1 s2 s3 e es,decide ((i:Int)<((List.length xs:Nat):Int))=true→gx xs (i:Int)=some e→IntKind.wrap .i64 ((i:Int)+1)=((i+1:Nat):Int)→(∀ s0 s1 s2 s3,r (mk ((i+1:Nat):Int) s0 s1 s2 s3)=go es (i+1) s0 s1 s2 s3)→f r (mk (i:Int) s0 s1 s2 s3)=go (e::es) i s0 s1 s2 s3)
  (s0:S0) (s1:S1) (s2:S2) (s3:S3):lp f fuel (mk 0 s0 s1 s2 s3)=go xs 0 s0 s1 s2 s3:=by
 have key:∀(es:List A) (i k:Nat) s0 s1 s2 s3,xs.drop i=es→es.length<k→lp f k (mk (i:Int) s0 s1 s2 s3)=go es i s0 s1 s2 s3:=by
  intro es
  induction es with
  | nil =>
   intro i k s0 s1 s2 s3 h hk
   obtain⟨k,rfl⟩:∃ k',k=k'+1:=⟨k - 1,by omega⟩
   exact h0 _ i s0 s1 s2 s3 (lt_false (drop_nil_le h))
  | cons e es ih =>
   intro i k s0 s1 s2 s3 h hk
   obtain⟨k,rfl⟩:∃ k',k=k'+1:=⟨k - 1,by omega⟩
   have hi:=drop_cons_lt h
   exact h1 _ i s0 s1 s2 s3 e es (lt_true hi) ((gx_nat xs i).trans (drop_cons_get h)) (wrap_i1 hi hl) (fun s0 s1 s2 s3=>ih (i+1) k s0 s1 s2 s3 (drop_cons_next h) (Nat.lt_of_succ_lt_succ hk))
 exact key xs 0 fuel s0 s1 s2 s3 rfl (Nat.lt_of_le_of_lt hl (by decide))
theorem rngl5 {A S0 S1 S2 S3 S4 R T:Type} {xs:List A} (f:(T→Option R)→T→Option R) (mk:Int→S0→S1→S2→S3→S4→T) (go:List A→Nat→S0→S1→S2→S3→S4→Option R) (hl:List.length xs≤maxLen)
  (h0:∀(r:T→Option R) (i:Nat) s0 s1 s2 s3 s4,decide ((i:Int)<((List.length xs:Nat):Int))=false→f r (mk (i:Int) s0 s1 s2 s3 s4)=go [] i s0 s1 s2 s3 s4)
  (h1:∀(r:T→Option R) (i:Nat) s0 s1 s2 s3 s4 e es,decide ((i:Int)<((List.length xs:Nat):Int))=true→gx xs (i:Int)=some e→IntKind.wrap .i64 ((i:Int)+1)=((i+1:Nat):Int)→(∀ s0 s1 s2 s3 s4,r (mk ((i+1:Nat):Int) s0 s1 s2 s3 s4)=go es (i+1) s0 s1 s2 s3 s4)→f r (mk (i:Int) s0 s1 s2 s3 s4)=go (e::es) i s0 s1 s2 s3 s4)
  (s0:S0) (s1:S1) (s2:S2) (s3:S3) (s4:S4):lp f fuel (mk 0 s0 s1 s2 s3 s4)=go xs 0 s0 s1 s2 s3 s4:=by
 have key:∀(es:List A) (i k:Nat) s0 s1 s2 s3 s4,xs.drop i=es→es.length<k→lp f k (mk (i:Int) s0 s1 s2 s3 s4)=go es i s0 s1 s2 s3 s4:=by
  intro es
  induction es with
  | nil =>
   intro i k s0 s1 s2 s3 s4 h hk
   obtain⟨k,rfl⟩:∃ k',k=k'+1:=⟨k - 1,by omega⟩
   exact h0 _ i s0 s1 s2 s3 s4 (lt_false (drop_nil_le h))
  | cons e es ih =>
   intro i k s0 s1 s2 s3 s4 h hk
   obtain⟨k,rfl⟩:∃ k',k=k'+1:=⟨k - 1,by omega⟩
   have hi:=drop_cons_lt h
   exact h1 _ i s0 s1 s2 s3 s4 e es (lt_true hi) ((gx_nat xs i).trans (drop_cons_get h)) (wrap_i1 hi hl) (fun s0 s1 s2 s3 s4=>ih (i+1) k s0 s1 s2 s3 s4 (drop_cons_next h) (Nat.lt_of_succ_lt_succ hk))
 exact key xs 0 fuel s0 s1 s2 s3 s4 rfl (Nat.lt_of_le_of_lt hl (by decide))
end Go.Abs.Q
namespace Go.Abs.Q
open Go Go.Abs
def sign_called_L0_go:List UInt8→Option (Unit⊕Bool)
 | []=>some (Sum.inl ())
 | e::es =>
  (sign_small ((UInt8.toNat e:Nat):Int)).bind fun r8 =>
  cond (!r8)
  (cond (decide (((UInt8.toNat e:Nat):Int)<48))
   (some (Sum.inr false))
   (cond (decide (((UInt8.toNat e:Nat):Int)>57))
    (some (Sum.inr false))
    (sign_called_L0_go es)))
  (sign_called_L0_go es)
theorem sign_called_L0_go_at0 (s0:Str) (hl:List.length s0≤maxLen):lp sign_called_L0 fuel (s0,((List.length s0:Nat):Int),0)=sign_called_L0_go s0:=rngl0 sign_called_L0 (fun i=>(s0,((List.length s0:Nat):Int),i)) (fun es i=>sign_called_L0_go es) hl (fun r i h=>by unfold sign_called_L0 sign_called_L0_go; simp only[h,cond_false]) (fun r i e es h g w k=>by unfold sign_called_L0 sign_called_L0_go; simp only[h,cond_true,g,Option.bind_some,w,k])
def sign_find_L0_go (s1:Str):List QSym→Nat→Option (Unit⊕Int)
 | [],_i=>some (Sum.inl ())
 | e::es,i =>
  cond (e.1==s1)
  (some (Sum.inr (i:Int)))
  (sign_find_L0_go s1 es (i+1))
theorem sign_find_L0_go_at0 (s0:(List QSym)) (s1:Str) (hl:List.length s0≤maxLen):lp sign_find_L0 fuel (s0,s1,((List.length s0:Nat):Int),0)=sign_find_L0_go s1 s0 0:=rngl0 sign_find_L0 (fun i=>(s0,s1,((List.length s0:Nat):Int),i)) (fun es i=>sign_find_L0_go s1 es i) hl (fun r i h=>by unfold sign_find_L0 sign_find_L0_go; simp only[h,cond_false]) (fun r i e es h g w k=>by unfold sign_find_L0 sign_find_L0_go; simp only[h,cond_true,g,Option.bind_some,w,k])
def sign_May_L0_go (s0:(List QSym)):List QSym→Nat→Option (Unit⊕Bool)
 | [],_i=>some (Sum.inl ())
 | e::es,i =>
  (sign_SymMay e.1 e.2.1 e.2.2.1 e.2.2.2).bind fun r7 =>
  cond (!r7)
  (some (Sum.inr false))
  ((sign_find s0 e.1).bind fun r9 =>
   cond (r9 != (i:Int))
   (some (Sum.inr false))
   (sign_May_L0_go s0 es (i+1)))
theorem sign_May_L0_go_eq (s0:(List QSym)) (hl:List.length s0≤maxLen):∀(es:List QSym) (i:Nat) (k:Nat),s0.drop i=es→es.length<k→lp sign_May_L0 k (s0,(i:Int))=sign_May_L0_go s0 es i:=by
 intro es
 induction es with
 | nil =>
  intro i k h hk
  obtain⟨k,rfl⟩:∃ k',k=k'+1:=⟨k - 1,by omega⟩
  rw[lp_succ]
  generalize lp sign_May_L0 k=rec
  unfold sign_May_L0 sign_May_L0_go
  simp only[lt_false (drop_nil_le h),cond_false]
 | cons e es ih =>
  intro i k h hk
  obtain⟨k,rfl⟩:∃ k',k=k'+1:=⟨k - 1,by omega⟩
  rw[lp_succ]
  have hi:=drop_cons_lt h
  have hk2:es.length<k:=Nat.lt_of_succ_lt_succ hk
  have key:=fun (_:Unit)=>ih (i+1) k (drop_cons_next h) hk2
  generalize lp sign_May_L0 k=rec at key ⊢
  unfold sign_May_L0 sign_May_L0_go
  simp only[lt_true hi,cond_true,gx_nat,drop_cons_get h,Option.bind_some,wrap_i1 hi hl,key ()]
def clause_litsMay_L0_go (s0:(List QSym)):List QLit→Int→Option (Int⊕(Int×Bool))
 | [],s1=>some (Sum.inl s1)
 | e::es,s1 =>
  (lit_May s0 e.1 e.2).bind fun r4 =>
  cond (!r4)
  (some (Sum.inr (0,false)))
  (clause_litsMay_L0_go s0 es (IntKind.wrap .i64 (s1+((List.length e.2:Nat):Int))))
theorem clause_litsMay_L0_go_at0 (s0:(List QSym)) (s2:(List QLit)) (s1:Int) (hl:List.length s2≤maxLen):lp clause_litsMay_L0 fuel (s0,s1,s2,((List.length s2:Nat):Int),0)=clause_litsMay_L0_go s0 s2 s1:=rngl1 clause_litsMay_L0 (fun i s1=>(s0,s1,s2,((List.length s2:Nat):Int),i)) (fun es i s1=>clause_litsMay_L0_go s0 es s1) hl (fun r i s1 h=>by unfold clause_litsMay_L0 clause_litsMay_L0_go; simp only[h,cond_false]) (fun r i s1 e es h g w k=>by unfold clause_litsMay_L0 clause_litsMay_L0_go; simp only[h,cond_true,g,Option.bind_some,w,k]) s1
def clause_rowsMay_L0_go (s0:(List QSym)):List (List Int)→Nat→Int→Int→Option (Int⊕(Int×Bool))
 | [],_i,s1,_s2=>some (Sum.inl s1)
 | e::es,i,s1,s2 =>
  (term_Row s0 e).bind fun r4 =>
  cond ((i:Int)==0)
  (cond (r4.2 != 0)
   (some (Sum.inr (0,false)))
   (cond (r4.1 != r4.1)
    (some (Sum.inr (0,false)))
    (clause_rowsMay_L0_go s0 es (i+1) (IntKind.wrap .i64 (s1+((List.length e:Nat):Int))) r4.1)))
  (cond (r4.2 != 0)
   (some (Sum.inr (0,false)))
   (cond (r4.1 != s2)
    (some (Sum.inr (0,false)))
    (clause_rowsMay_L0_go s0 es (i+1) (IntKind.wrap .i64 (s1+((List.length e:Nat):Int))) s2)))
theorem clause_rowsMay_L0_go_at0 (s0:(List QSym)) (s3:(List (List Int))) (s1:Int) (s2:Int) (hl:List.length s3≤maxLen):lp clause_rowsMay_L0 fuel (s0,s1,s2,s3,((List.length s3:Nat):Int),0)=clause_rowsMay_L0_go s0 s3 0 s1 s2:=rngl2 clause_rowsMay_L0 (fun i s1 s2=>(s0,s1,s2,s3,((List.length s3:Nat):Int),i)) (fun es i s1 s2=>clause_rowsMay_L0_go s0 es i s1 s2) hl (fun r i s1 s2 h=>by unfold clause_rowsMay_L0 clause_rowsMay_L0_go; simp only[h,cond_false]) (fun r i s1 s2 e es h g w k=>by unfold clause_rowsMay_L0 clause_rowsMay_L0_go; simp only[h,cond_true,g,Option.bind_some,w,k]) s1 s2
def slices_Equal_L0_go (s1:(List Int)):List Int→Nat→Option (Unit⊕Bool)
 | [],_i=>some (Sum.inl ())
 | e::es,i =>
  (gx s1 (i:Int)).bind fun e4 =>
  cond (e != e4)
  (some (Sum.inr false))
  (slices_Equal_L0_go s1 es (i+1))
theorem slices_Equal_L0_go_at0 (s0:(List Int)) (s1:(List Int)) (hl:List.length s0≤maxLen):lp slices_Equal_L0 fuel (s0,s1,((List.length s0:Nat):Int),0)=slices_Equal_L0_go s1 s0 0:=rngl0 slices_Equal_L0 (fun i=>(s0,s1,((List.length s0:Nat):Int),i)) (fun es i=>slices_Equal_L0_go s1 es i) hl (fun r i h=>by unfold slices_Equal_L0 slices_Equal_L0_go; simp only[h,cond_false]) (fun r i e es h g w k=>by unfold slices_Equal_L0 slices_Equal_L0_go; simp only[h,cond_true,g,Option.bind_some,w,k])
def slices_IndexFunc_L0_go (s3:Bool) (s4:(List Int)):List QLit→Nat→Option (Unit⊕Int)
 | [],_i=>some (Sum.inl ())
 | e::es,i =>
  (clause_once_c1 e.1 e.2 s3 s4).bind fun r4 =>
  cond r4
  (some (Sum.inr (i:Int)))
  (slices_IndexFunc_L0_go s3 s4 es (i+1))
theorem slices_IndexFunc_L0_go_at0 (s0:(List QLit)) (s3:Bool) (s4:(List Int)) (hl:List.length s0≤maxLen):lp slices_IndexFunc_L0 fuel (s0,((List.length s0:Nat):Int),0,s3,s4)=slices_IndexFunc_L0_go s3 s4 s0 0:=rngl0 slices_IndexFunc_L0 (fun i=>(s0,((List.length s0:Nat):Int),i,s3,s4)) (fun es i=>slices_IndexFunc_L0_go s3 s4 es i) hl (fun r i h=>by unfold slices_IndexFunc_L0 slices_IndexFunc_L0_go; simp only[h,cond_false]) (fun r i e es h g w k=>by unfold slices_IndexFunc_L0 slices_IndexFunc_L0_go; simp only[h,cond_true,g,Option.bind_some,w,k])
def clause_once_L0_go:List QLit→(List QLit)→Option (List QLit)
 | [],s3=>some s3
 | e::es,s3 =>
  (slices_ContainsFunc s3 e.1 e.2).bind fun r6 =>
  cond (!r6)
  (cond (room (List.length s3+List.length ([(e.1,e.2)]:List QLit)) 32)
   (clause_once_L0_go es (s3++([(e.1,e.2)]:List QLit)))
   (none))
  (clause_once_L0_go es s3)
theorem clause_once_L0_go_at0 (s0:(List QLit)) (s3:(List QLit)) (hl:List.length s0≤maxLen):lp clause_once_L0 fuel (s0,((List.length s0:Nat):Int),0,s3)=clause_once_L0_go s0 s3:=rngl1 clause_once_L0 (fun i s3=>(s0,((List.length s0:Nat):Int),i,s3)) (fun es i s3=>clause_once_L0_go es s3) hl (fun r i s3 h=>by unfold clause_once_L0 clause_once_L0_go; simp only[h,cond_false]) (fun r i s3 e es h g w k=>by unfold clause_once_L0 clause_once_L0_go; simp only[h,cond_true,g,Option.bind_some,w,k]) s3
def slices_IndexFunc_1_L0_go (s3:(List Int)):List (List Int)→Nat→Option (Unit⊕Int)
 | [],_i=>some (Sum.inl ())
 | e::es,i =>
  (clause_anew_c1 e s3).bind fun r4 =>
  cond r4
  (some (Sum.inr (i:Int)))
  (slices_IndexFunc_1_L0_go s3 es (i+1))
theorem slices_IndexFunc_1_L0_go_at0 (s0:(List (List Int))) (s3:(List Int)) (hl:List.length s0≤maxLen):lp slices_IndexFunc_1_L0 fuel (s0,((List.length s0:Nat):Int),0,s3)=slices_IndexFunc_1_L0_go s3 s0 0:=rngl0 slices_IndexFunc_1_L0 (fun i=>(s0,((List.length s0:Nat):Int),i,s3)) (fun es i=>slices_IndexFunc_1_L0_go s3 es i) hl (fun r i h=>by unfold slices_IndexFunc_1_L0 slices_IndexFunc_1_L0_go; simp only[h,cond_false]) (fun r i e es h g w k=>by unfold slices_IndexFunc_1_L0 slices_IndexFunc_1_L0_go; simp only[h,cond_true,g,Option.bind_some,w,k])
def clause_each_1_L2_go (s5:(List QLit)) (s6:(List (List Int))):List QLit→(List Int)→Int→(List QLit)→Option ((List Int)×Int×(List QLit)×(List (List Int))×(List QLit))
 | [],s3,s4,s7=>some (s3,s4,s5,s6,s7)
 | e::es,s3,s4,s7 =>
  (clause_anew_c2_1 e.2 s3 s4).bind fun r20 =>
  cond (room (List.length s7+List.length ([(e.1,r20.1)]:List QLit)) 32)
  (clause_each_1_L2_go s5 s6 es r20.2.1 r20.2.2 (s7++([(e.1,r20.1)]:List QLit)))
  (none)
theorem clause_each_1_L2_go_at0 (s0:(List QLit)) (s5:(List QLit)) (s6:(List (List Int))) (s3:(List Int)) (s4:Int) (s7:(List QLit)) (hl:List.length s0≤maxLen):lp clause_each_1_L2 fuel (s0,((List.length s0:Nat):Int),0,s3,s4,s5,s6,s7)=clause_each_1_L2_go s5 s6 s0 s3 s4 s7:=rngl3 clause_each_1_L2 (fun i s3 s4 s7=>(s0,((List.length s0:Nat):Int),i,s3,s4,s5,s6,s7)) (fun es i s3 s4 s7=>clause_each_1_L2_go s5 s6 es s3 s4 s7) hl (fun r i s3 s4 s7 h=>by unfold clause_each_1_L2 clause_each_1_L2_go; simp only[h,cond_false]) (fun r i s3 s4 s7 e es h g w k=>by unfold clause_each_1_L2 clause_each_1_L2_go; simp only[h,cond_true,g,Option.bind_some,w,k]) s3 s4 s7
def clause_each_1_L1_go (s8:(List QLit)):List (List Int)→(List Int)→Int→(List (List Int))→Option ((List Int)×Int×(List QLit)×(List (List Int)))
 | [],s3,s4,s9=>some (s3,s4,s8,s9)
 | e::es,s3,s4,s9 =>
  (clause_anew_c2_1 e s3 s4).bind fun r13 =>
  cond (room (List.length s9+List.length ([r13.1]:List (List Int))) 24)
  (clause_each_1_L1_go s8 es r13.2.1 r13.2.2 (s9++([r13.1]:List (List Int))))
  (none)
theorem clause_each_1_L1_go_at0 (s0:(List (List Int))) (s5:(List QLit)) (s6:(List (List Int))) (s7:(List QLit)) (s8:(List QLit)) (s3:(List Int)) (s4:Int) (s9:(List (List Int))) (hl:List.length s0≤maxLen):lp clause_each_1_L1 fuel (s0,((List.length s0:Nat):Int),0,s3,s4,s5,s6,s7,s8,s9)=clause_each_1_L1_go s8 s0 s3 s4 s9:=rngl3 clause_each_1_L1 (fun i s3 s4 s9=>(s0,((List.length s0:Nat):Int),i,s3,s4,s5,s6,s7,s8,s9)) (fun es i s3 s4 s9=>clause_each_1_L1_go s8 es s3 s4 s9) hl (fun r i s3 s4 s9 h=>by unfold clause_each_1_L1 clause_each_1_L1_go; simp only[h,cond_false]) (fun r i s3 s4 s9 e es h g w k=>by unfold clause_each_1_L1 clause_each_1_L1_go; simp only[h,cond_true,g,Option.bind_some,w,k]) s3 s4 s9
def clause_each_1_L0_go:List QLit→(List Int)→Int→(List QLit)→Option ((List Int)×Int×(List QLit))
 | [],s3,s4,s8=>some (s3,s4,s8)
 | e::es,s3,s4,s8 =>
  (clause_anew_c2_1 e.2 s3 s4).bind fun r6 =>
  cond (room (List.length s8+List.length ([(e.1,r6.1)]:List QLit)) 32)
  (clause_each_1_L0_go es r6.2.1 r6.2.2 (s8++([(e.1,r6.1)]:List QLit)))
  (none)
theorem clause_each_1_L0_go_at0 (s0:(List QLit)) (s5:(List QLit)) (s6:(List (List Int))) (s7:(List QLit)) (s3:(List Int)) (s4:Int) (s8:(List QLit)) (hl:List.length s0≤maxLen):lp clause_each_1_L0 fuel (s0,((List.length s0:Nat):Int),0,s3,s4,s5,s6,s7,s8)=clause_each_1_L0_go s0 s3 s4 s8:=rngl3 clause_each_1_L0 (fun i s3 s4 s8=>(s0,((List.length s0:Nat):Int),i,s3,s4,s5,s6,s7,s8)) (fun es i s3 s4 s8=>clause_each_1_L0_go es s3 s4 s8) hl (fun r i s3 s4 s8 h=>by unfold clause_each_1_L0 clause_each_1_L0_go; simp only[h,cond_false]) (fun r i s3 s4 s8 e es h g w k=>by unfold clause_each_1_L0 clause_each_1_L0_go; simp only[h,cond_true,g,Option.bind_some,w,k]) s3 s4 s8
def clause_anew_L0_go (s3:(List QLit)) (s4:(List QLit)):List (List Int)→(List (List Int))→Option ((List QLit)×(List QLit)×(List (List Int)))
 | [],s5=>some (s3,s4,s5)
 | e::es,s5 =>
  (slices_ContainsFunc_1 s5 e).bind fun r8 =>
  cond (!r8)
  (cond (room (List.length s5+List.length ([e]:List (List Int))) 24)
   (clause_anew_L0_go s3 s4 es (s5++([e]:List (List Int))))
   (none))
  (clause_anew_L0_go s3 s4 es s5)
theorem clause_anew_L0_go_at0 (s0:(List (List Int))) (s3:(List QLit)) (s4:(List QLit)) (s5:(List (List Int))) (hl:List.length s0≤maxLen):lp clause_anew_L0 fuel (s0,((List.length s0:Nat):Int),0,s3,s4,s5)=clause_anew_L0_go s3 s4 s0 s5:=rngl1 clause_anew_L0 (fun i s5=>(s0,((List.length s0:Nat):Int),i,s3,s4,s5)) (fun es i s5=>clause_anew_L0_go s3 s4 es s5) hl (fun r i s5 h=>by unfold clause_anew_L0 clause_anew_L0_go; simp only[h,cond_false]) (fun r i s5 e es h g w k=>by unfold clause_anew_L0 clause_anew_L0_go; simp only[h,cond_true,g,Option.bind_some,w,k]) s5
def law0_SameInts_L0_go (s1:(List Int)):List Int→Nat→Option (Unit⊕Bool)
 | [],_i=>some (Sum.inl ())
 | e::es,i =>
  (gx s1 (i:Int)).bind fun e4 =>
  cond (e != e4)
  (some (Sum.inr false))
  (law0_SameInts_L0_go s1 es (i+1))
theorem law0_SameInts_L0_go_at0 (s0:(List Int)) (s1:(List Int)) (hl:List.length s0≤maxLen):lp law0_SameInts_L0 fuel (s0,s1,0)=law0_SameInts_L0_go s1 s0 0:=rngl0 law0_SameInts_L0 (fun i=>(s0,s1,i)) (fun es i=>law0_SameInts_L0_go s1 es i) hl (fun r i h=>by unfold law0_SameInts_L0 law0_SameInts_L0_go; simp only[h,cond_false]) (fun r i e es h g w k=>by unfold law0_SameInts_L0 law0_SameInts_L0_go; simp only[h,cond_true,g,Option.bind_some,w,k])
def law0_SameLits_L0_go (s1:(List QLit)):List QLit→Nat→Option (Unit⊕Bool)
 | [],_i=>some (Sum.inl ())
 | e::es,i =>
  (gx s1 (i:Int)).bind fun e7 =>
  cond (!(e.1==e7.1))
  (some (Sum.inr false))
  ((gx s1 (i:Int)).bind fun e9 =>
   (law0_SameInts e.2 e9.2).bind fun r10 =>
   cond (!r10)
   (some (Sum.inr false))
   (law0_SameLits_L0_go s1 es (i+1)))
theorem law0_SameLits_L0_go_at0 (s0:(List QLit)) (s1:(List QLit)) (hl:List.length s0≤maxLen):lp law0_SameLits_L0 fuel (s0,s1,0)=law0_SameLits_L0_go s1 s0 0:=rngl0 law0_SameLits_L0 (fun i=>(s0,s1,i)) (fun es i=>law0_SameLits_L0_go s1 es i) hl (fun r i h=>by unfold law0_SameLits_L0 law0_SameLits_L0_go; simp only[h,cond_false]) (fun r i e es h g w k=>by unfold law0_SameLits_L0 law0_SameLits_L0_go; simp only[h,cond_true,g,Option.bind_some,w,k])
def law0_SameRows_L0_go (s1:(List (List Int))):List (List Int)→Nat→Option (Unit⊕Bool)
 | [],_i=>some (Sum.inl ())
 | e::es,i =>
  (gx s1 (i:Int)).bind fun e5 =>
  (law0_SameInts e e5).bind fun r6 =>
  cond (!r6)
  (some (Sum.inr false))
  (law0_SameRows_L0_go s1 es (i+1))
theorem law0_SameRows_L0_go_at0 (s0:(List (List Int))) (s1:(List (List Int))) (hl:List.length s0≤maxLen):lp law0_SameRows_L0 fuel (s0,s1,0)=law0_SameRows_L0_go s1 s0 0:=rngl0 law0_SameRows_L0 (fun i=>(s0,s1,i)) (fun es i=>law0_SameRows_L0_go s1 es i) hl (fun r i h=>by unfold law0_SameRows_L0 law0_SameRows_L0_go; simp only[h,cond_false]) (fun r i e es h g w k=>by unfold law0_SameRows_L0 law0_SameRows_L0_go; simp only[h,cond_true,g,Option.bind_some,w,k])
end Go.Abs.Q
namespace Go.Abs.Q
open Go Go.Abs
section
def smallB (n:Int):Bool:=decide (97≤n)&&decide (n≤122)
theorem sign_small_eq (n:Int):sign_small n=some (smallB n):=by
 unfold sign_small smallB
 by_cases h:n≥97<;>simp [h]
def nameB (e:UInt8):Bool:=smallB ((UInt8.toNat e:Nat):Int)||(decide (48≤((UInt8.toNat e:Nat):Int))&&decide (((UInt8.toNat e:Nat):Int)≤57))
theorem called_go (es:List UInt8):sign_called_L0_go es=some (cond (es.all nameB) (.inl ()) (.inr false)):=by
 induction es with
 | nil=>rfl
 | cons e es ih =>
  unfold sign_called_L0_go
  rw[sign_small_eq,Option.bind_some,ih,List.all_cons]
  unfold nameB
  cases h:smallB ((UInt8.toNat e:Nat):Int) with
  | true=>simp
  | false =>
   by_cases h1:((UInt8.toNat e:Nat):Int)<48
   ·have:¬(48≤((UInt8.toNat e:Nat):Int)):=by omega
    simp only[Bool.not_false,cond_true,decide_eq_true h1,decide_eq_false this,Bool.false_and,Bool.or_false,cond_false]
   ·have h3:48≤((UInt8.toNat e:Nat):Int):=by omega
    by_cases h2:((UInt8.toNat e:Nat):Int)>57
    ·have:¬(((UInt8.toNat e:Nat):Int)≤57):=by omega
     simp only[Bool.not_false,cond_true,decide_eq_false h1,decide_eq_true h2,decide_eq_false this,Bool.and_false,Bool.false_and,Bool.or_false,cond_false]
    ·have h4:((UInt8.toNat e:Nat):Int)≤57:=by omega
     simp only[Bool.not_false,cond_true,decide_eq_false h1,decide_eq_false h2,decide_eq_true h3,decide_eq_true h4,Bool.and_true,Bool.true_and,Bool.or_true,cond_false]
def calledB (s:Str):Bool:=match s with
 | []=>false
 | c::_=>decide (s.length≤8)&&smallB ((UInt8.toNat c:Nat):Int)&&s.all nameB
theorem sign_called_eq (s:Str):sign_called s=some (calledB s):=by
 unfold sign_called calledB
 cases s with
 | nil=>rfl
 | cons c r =>
  rw[show ((c::r:Str)==([]:Str))=false from rfl,cond_false]
  by_cases h:(c::r).length≤8
  ·have h1:¬(((List.length (c::r):Nat):Int)>8):=by omega
   rw[decide_eq_false h1,cond_false,gx_zero,List.getElem?_cons_zero,Option.bind_some,sign_small_eq,Option.bind_some,sign_called_L0_go_at0 _ (by unfold maxLen; omega),called_go,decide_eq_true h]
   dsimp only
   cases smallB ((UInt8.toNat c:Nat):Int) with
   | false=>rfl
   | true=>cases (c::r).all nameB<;>rfl
  ·have h1:((List.length (c::r):Nat):Int)>8:=by omega
   rw[decide_eq_true h1,decide_eq_false h]
   rfl
def symB (e:QSym):Bool:=calledB e.1&&decide (0≤e.2.1)&&decide (e.2.1≤2)&&decide (0≤e.2.2.1)&&decide (e.2.2.1≤3)&&decide (1≤e.2.2.2)&&decide (e.2.2.2≤20)
theorem sign_SymMay_eq (e:QSym):sign_SymMay e.1 e.2.1 e.2.2.1 e.2.2.2=some (symB e):=by
 unfold sign_SymMay symB
 rw[sign_called_eq,Option.bind_some]
 cases calledB e.1<;>simp only[cond_true,cond_false,Bool.true_and,Bool.false_and,ge_iff_le]
 cases decide (0≤e.2.1)<;>simp only[cond_true,cond_false,Bool.true_and,Bool.false_and]
 cases decide (e.2.1≤2)<;>simp only[cond_true,cond_false,Bool.true_and,Bool.false_and]
 cases decide (0≤e.2.2.1)<;>simp only[cond_true,cond_false,Bool.true_and,Bool.false_and]
 cases decide (e.2.2.1≤3)<;>simp only[cond_true,cond_false,Bool.true_and,Bool.false_and]
 cases decide (1≤e.2.2.2)<;>simp only[cond_true,cond_false,Bool.true_and,Bool.false_and]
def idxI (o:Option Nat):Int:=match o with
 | some i=>(i:Int)
 | none => -1
theorem find_go (nm:Str) (es:List QSym) (i:Nat):sign_find_L0_go nm es i=some (match es.findIdx? (fun e=>e.1==nm) with
  | some j=>.inr ((i+j:Nat):Int)
  | none=>.inl ()):=by
 induction es generalizing i with
 | nil=>rfl
 | cons e es ih =>
  unfold sign_find_L0_go
  rw[List.findIdx?_cons]
  cases h:(e.1==nm) with
  | true=>simp
  | false =>
   rw[cond_false,ih]
   cases es.findIdx? (fun e=>e.1==nm) with
   | none=>rfl
   | some j=>simp; omega
theorem sign_find_eq (a0:List QSym) (nm:Str) (h:a0.length≤maxLen):sign_find a0 nm=some (idxI (a0.findIdx? (fun e=>e.1==nm))):=by
 unfold sign_find
 rw[sign_find_L0_go_at0 _ _ h,find_go]
 cases a0.findIdx? (fun e=>e.1==nm) with
 | none=>rfl
 | some j=>simp [caseS,idxI]
def mayGo (a0:List QSym):List QSym→Nat→Bool
 | [],_=>true
 | e::es,i=>symB e&&(idxI (a0.findIdx? (fun d=>d.1==e.1))==(i:Int))&&mayGo a0 es (i+1)
theorem may_go (a0:List QSym) (h:a0.length≤maxLen) (es:List QSym) (i:Nat):sign_May_L0_go a0 es i=some (cond (mayGo a0 es i) (.inl ()) (.inr false)):=by
 induction es generalizing i with
 | nil=>rfl
 | cons e es ih =>
  unfold sign_May_L0_go mayGo
  rw[sign_SymMay_eq,Option.bind_some,sign_find_eq _ _ h,Option.bind_some,ih,bne]
  cases symB e with
  | false=>rfl
  | true =>
   cases (idxI (a0.findIdx? (fun d=>d.1==e.1))==(i:Int)) with
   | false=>rfl
   | true=>simp
def equalsQ:QSym:=([61],0,2,1)
def eqQ (e:QSym):Bool:=cond (eqS e.1 [61]) (cond (eqI e.2.1 0) (cond (eqI e.2.2.1 2) (cond (eqI e.2.2.2 1) true false) false) false) false
theorem eqQ_iff (e:QSym):eqQ e=true↔e=equalsQ:=by
 obtain⟨a,b,c,d⟩:=e
 unfold eqQ equalsQ eqS eqI
 cases h1:(a==([61]:List UInt8))<;>cases h2:(b==0)<;>cases h3:(c==2)<;>cases h4:(d==1)<;>simp_all
def signB (a0:List QSym):Bool:=match a0 with
 | []=>false
 | e::es=>decide (a0.length≤20)&&eqQ e&&mayGo a0 es 1
theorem sign_May_eq (a0:List QSym):sign_May a0=some (signB a0):=by
 unfold sign_May signB
 cases a0 with
 | nil=>rfl
 | cons e es =>
  rw[decide_eq_false (show ¬(((List.length (e::es):Nat):Int)<1) by rw[List.length_cons]; omega),cond_false]
  by_cases h:(e::es).length≤20
  ·have h1:¬(((List.length (e::es):Nat):Int)>20):=by omega
   have hm:(e::es).length≤maxLen:=by unfold maxLen; omega
   rw[decide_eq_false h1,cond_false,gx_zero,List.getElem?_cons_zero,Option.bind_some,decide_eq_true h]
   show cond (!(eqQ e)) _ _=some (true&&eqQ e&&mayGo (e::es) es 1)
   cases eqQ e with
   | false=>rfl
   | true =>
    have:=sign_May_L0_go_eq (e::es) hm es 1 fuel rfl (by simp [fuel]; simp at h; omega)
    simp only[Bool.not_true,cond_false]
    rw[show ((1:Int))=((1:Nat):Int) from rfl,this,may_go _ hm]
    cases mayGo (e::es) es 1<;>rfl
  ·have h1:((List.length (e::es):Nat):Int)>20:=by omega
   rw[decide_eq_true h1,decide_eq_false h]
   rfl
theorem mayGo_at {a0:List QSym}:{es:List QSym}→{i:Nat}→mayGo a0 es i=true→∀(j:Nat) e,es[j]? = some e→symB e=true∧idxI (a0.findIdx? (fun d=>d.1==e.1))=((i+j:Nat):Int)
 | [],_,_,j,e,he=>by simp at he
 | d::es,i,h,0,e,he=>by
  injection he with he; subst he
  simp only[mayGo,Bool.and_eq_true] at h
  exact ⟨h.1.1,by simpa using h.1.2⟩
 | d::es,i,h,j+1,e,he=>by
  simp only[mayGo,Bool.and_eq_true] at h
  have:=mayGo_at h.2 j e (by simpa using he)
  exact ⟨this.1,by rw[this.2]; omega⟩
structure SignOk (a0:List QSym):Prop where
 pos:1≤a0.length
 len:a0.length≤20
 eq:a0[0]? = some equalsQ
 sym:∀(i:Nat) e,a0[i+1]? = some e→symB e=true∧idxI (a0.findIdx? (fun d=>d.1==e.1))=((i+1:Nat):Int)
theorem signB_ok {a0:List QSym} (h:signB a0=true):SignOk a0:=by
 unfold signB at h
 cases a0 with
 | nil=>cases h
 | cons e es =>
  simp only[Bool.and_eq_true,decide_eq_true_eq] at h
  exact ⟨by simp,h.1.1,by rw[List.getElem?_cons_zero,(eqQ_iff e).1 h.1.2],fun i d hd=>by
   have:=mayGo_at h.2 i d (by simpa using hd)
   exact ⟨this.1,by rw[this.2]; omega⟩⟩
theorem SignOk.max {a0:List QSym} (h:SignOk a0):a0.length≤maxLen:=Nat.le_trans h.len (by unfold maxLen; omega)
theorem symB_spec {e:QSym} (h:symB e=true):calledB e.1=true∧0≤e.2.1∧e.2.1≤2∧0≤e.2.2.1∧e.2.2.1≤3∧1≤e.2.2.2∧e.2.2.2≤20:=by
 unfold symB at h
 simp only[Bool.and_eq_true,decide_eq_true_eq] at h
 exact ⟨h.1.1.1.1.1.1,h.1.1.1.1.1.2,h.1.1.1.1.2,h.1.1.1.2,h.1.1.2,h.1.2,h.2⟩
theorem calledB_len {s:Str} (h:calledB s=true):1≤s.length∧s.length≤8:=by
 unfold calledB at h
 cases s with
 | nil=>cases h
 | cons c r =>
  simp only[Bool.and_eq_true,decide_eq_true_eq] at h
  exact ⟨by simp,h.1.1⟩
theorem SignOk.at {a0:List QSym} (h:SignOk a0) {i:Nat} {e:QSym} (he:a0[i]? = some e):1≤e.1.length∧e.1.length≤8∧0≤e.2.1∧e.2.1≤2∧0≤e.2.2.1∧e.2.2.1≤3:=by
 cases i with
 | zero =>
  rw[h.eq] at he
  injection he with he; subst he
  decide
 | succ i =>
  obtain⟨h1,h2,h3,h4,h5,_⟩:=symB_spec (h.sym i e he).1
  have:=calledB_len h1
  exact ⟨this.1,this.2,h2,h3,h4,h5⟩
def arity (a0:List QSym) (x:Int):Option Nat :=
 cond (decide (x<0)) (cond (decide (-24≤x)) (some 0) none) (match a0[x.toNat]? with
  | some e=>cond (e.2.1==0) none (some e.2.2.1.toNat)
  | none=>none)
def nOk (o:Option Nat):Int×Bool:=match o with
 | some k=>((k:Int),true)
 | none=>(0,false)
theorem term_Number_eq {x:Int} (h1 : -9223372036854775808≤x) (h2:x≤9223372036854775807):term_Number x=some (-1 - x):=by
 unfold term_Number
 rw[wrap64]<;>omega
theorem term_args_eq {a0:List QSym} (h:SignOk a0) (x:Int):term_args a0 x=some (nOk (arity a0 x)):=by
 unfold term_args arity
 by_cases h0:x<0
 ·rw[decide_eq_true h0,cond_true,cond_true,term_Number_eq (by omega) (by omega),Option.bind_some]
  by_cases h1 : -24≤x
  ·rw[decide_eq_true h1,decide_eq_true (show x ≥ -1 - 23 by omega)]; rfl
  ·rw[decide_eq_false h1,decide_eq_false (show ¬(x ≥ -1 - 23) by omega)]; rfl
 ·rw[decide_eq_false h0,cond_false,cond_false]
  by_cases h1:x≥((List.length a0:Nat):Int)
  ·rw[decide_eq_true h1,cond_true,List.getElem?_eq_none (by omega)]; rfl
  ·obtain⟨e,he1,he2,he3⟩:=gx_at (xs:=a0) (i:=x) (by omega) (by omega)
   have:=h.at he3
   rw[decide_eq_false h1,cond_false,he1,Option.bind_some,he3]
   cases he:(e.2.1==0) with
   | true=>simp only[he,cond_true]; rfl
   | false =>
    simp only[he,cond_false,Option.bind_some]
    unfold nOk
    simp only[Option.some.injEq,Prod.mk.injEq,and_true]
    omega
theorem arity_le {a0:List QSym} (h:SignOk a0) {x:Int} {k:Nat} (hk:arity a0 x=some k):k≤3:=by
 unfold arity at hk
 by_cases h0:x<0
 ·rw[decide_eq_true h0,cond_true] at hk
  by_cases h1 : -24≤x
  ·rw[decide_eq_true h1] at hk; injection hk with hk; omega
  ·rw[decide_eq_false h1] at hk; cases hk
 ·rw[decide_eq_false h0,cond_false] at hk
  cases he:a0[x.toNat]? with
  | none=>rw[he] at hk; cases hk
  | some e =>
   rw[he] at hk
   have:=h.at he
   simp only at hk
   cases hz:(e.2.1==0) with
   | true=>rw[hz] at hk; cases hk
   | false=>rw[hz] at hk; injection hk with hk; omega
def sk (a0:List QSym):Nat→List Int→Option Nat
 | 0,_=>some 0
 | _+1,[]=>none
 | n+1,x::xs=>match arity a0 x with
  | none=>none
  | some k=>(sk a0 (n+k) xs).map (· + 1)
theorem sk_le {a0:List QSym}:{xs:List Int}→{n k:Nat}→sk a0 n xs=some k→k≤xs.length∧(0<n→0<k)∧n≤k
 | [],0,k,h=>by simp [sk] at h; omega
 | [],n+1,k,h=>by simp [sk] at h
 | x::xs,0,k,h=>by simp [sk] at h; omega
 | x::xs,n+1,k,h=>by
  unfold sk at h
  cases ha:arity a0 x with
  | none=>rw[ha] at h; cases h
  | some m =>
   rw[ha] at h
   simp only[Option.map_eq_some_iff] at h
   obtain⟨j,hj,rfl⟩:=h
   have:=sk_le hj
   rw[List.length_cons]
   omega
theorem skip_round {a0:List QSym} (h:SignOk a0) (a1:List Int) (hl:a1.length≤1099511627776):∀(m i n:Nat) (k:Nat),a1.length - i=m→0<n→n≤1+3*i→m<k →
  lp term_Skip_L0 k (a0,a1,(i:Int),(n:Int))=some (match sk a0 n (a1.drop i) with
   | some j=>(((i+j:Nat):Int),true)
   | none=>(0,false)):=by
 intro m
 induction m with
 | zero =>
  intro i n k hm hn hni hk
  obtain⟨k,rfl⟩:∃ k',k=k'+1:=⟨k - 1,by omega⟩
  rw[lp_succ]
  generalize lp term_Skip_L0 k=rec
  unfold term_Skip_L0
  simp only[decide_eq_true (show ((i:Int)≥((List.length a1:Nat):Int)) by omega),cond_true,List.drop_eq_nil_iff.2 (show a1.length≤i by omega)]
  obtain⟨n,rfl⟩:∃ n',n=n'+1:=⟨n - 1,by omega⟩
  rfl
 | succ m ih =>
  intro i n k hm hn hni hk
  obtain⟨k,rfl⟩:∃ k',k=k'+1:=⟨k - 1,by omega⟩
  have hi:i<a1.length:=by omega
  rw[lp_succ]
  have key:=fun n' h1 h2=>ih (i+1) n' k (by omega) h1 h2 (by omega)
  generalize lp term_Skip_L0 k=rec at key ⊢
  unfold term_Skip_L0
  obtain⟨n,rfl⟩:∃ n',n=n'+1:=⟨n - 1,by omega⟩
  simp only[decide_eq_false (show ¬((i:Int)≥((List.length a1:Nat):Int)) by omega),cond_false,gx_nat,List.getElem?_eq_getElem hi,Option.bind_some,term_args_eq h,List.drop_eq_getElem_cons hi,sk]
  cases ha:arity a0 a1[i] with
  | none=>simp [nOk]
  | some q =>
   have hq:=arity_le h ha
   have e1:IntKind.wrap .i64 ((q:Int) - 1)=(q:Int) - 1:=wrap64 (by omega) (by omega)
   have e2:IntKind.wrap .i64 (((n+1:Nat):Int)+((q:Int) - 1))=((n+q:Nat):Int):=by rw[wrap64]<;>omega
   have e3:IntKind.wrap .i64 ((i:Int)+1)=((i+1:Nat):Int):=by rw[wrap64]<;>omega
   simp only[nOk,Bool.not_true,cond_false,e1,e2,e3]
   by_cases hp:0<n+q
   ·rw[decide_eq_true (show ((n+q:Nat):Int)>0 by omega),cond_true,key _ hp (by omega)]
    cases sk a0 (n+q) (a1.drop (i+1)) with
    | none=>rfl
    | some j=>simp only[Option.map_some]; rw[show i+1+j=i+(j+1) from by omega]
   ·rw[decide_eq_false (show ¬(((n+q:Nat):Int)>0) by omega),cond_false]
    have:n+q=0:=by omega
    rw[this]
    simp [sk]
theorem term_Skip_eq {a0:List QSym} (h:SignOk a0) (a1:List Int) (hl:a1.length≤1099511627776) (i:Nat):term_Skip a0 a1 (i:Int)=some (match sk a0 1 (a1.drop i) with
   | some j=>(((i+j:Nat):Int),true)
   | none=>(0,false)):=by
 unfold term_Skip
 by_cases hi:i<a1.length
 ·simp only[decide_eq_false (show ¬((i:Int)≥((List.length a1:Nat):Int)) by omega),cond_false,gx_nat,List.getElem?_eq_getElem hi,Option.bind_some,term_args_eq h,List.drop_eq_getElem_cons hi,sk]
  cases ha:arity a0 a1[i] with
  | none=>simp [nOk]
  | some q =>
   have hq:=arity_le h ha
   have e1:IntKind.wrap .i64 ((q:Int) - 1)=(q:Int) - 1:=wrap64 (by omega) (by omega)
   have e2:IntKind.wrap .i64 (1+((q:Int) - 1))=((q:Nat):Int):=by rw[wrap64]<;>omega
   have e3:IntKind.wrap .i64 ((i:Int)+1)=((i+1:Nat):Int):=by rw[wrap64]<;>omega
   simp only[nOk,Bool.not_true,cond_false,e1,e2,e3]
   by_cases hp:0<q
   ·rw[decide_eq_true (show (q:Int)>0 by omega),cond_true,skip_round h a1 hl (a1.length - (i+1)) (i+1) q fuel rfl hp (by omega) (by unfold fuel; omega),Nat.zero_add]
    cases sk a0 q (a1.drop (i+1)) with
    | none=>rfl
    | some j=>simp only[Option.map_some,Option.bind_some]; rw[show i+1+j=i+(j+1) from by omega]
   ·rw[decide_eq_false (show ¬((q:Int)>0) by omega),cond_false]
    have:q=0:=by omega
    subst this
    simp [sk]
 ·simp only[decide_eq_true (show ((i:Int)≥((List.length a1:Nat):Int)) by omega),cond_true,List.drop_eq_nil_iff.2 (show a1.length≤i by omega)]
  rfl
end
end Go.Abs.Q
namespace Go.Abs.Q
open Go Go.Abs
section
def cutsN (a0:List QSym):Nat→List Int→Option (List (List Int))
 | _,[]=>some []
 | 0,_::_=>none
 | n+1,x::xs=>match sk a0 1 (x::xs) with
  | none=>none
  | some k=>(cutsN a0 n ((x::xs).drop k)).map ((x::xs).take k :: ·)
def cuts (a0:List QSym) (xs:List Int):Option (List (List Int)):=cutsN a0 xs.length xs
theorem cutsN_more {a0:List QSym}:{n m:Nat}→{xs:List Int}→xs.length≤n→n≤m→cutsN a0 m xs=cutsN a0 n xs
 | n,m,[],_,_=>by cases n<;>cases m<;>rfl
 | 0,_,_::_,h,_=>by simp at h
 | n+1,0,_::_,_,h=>by omega
 | n+1,m+1,x::xs,h,hm=>by
  unfold cutsN
  cases hk:sk a0 1 (x::xs) with
  | none=>rfl
  | some k =>
   have:=sk_le hk
   simp only
   rw[cutsN_more (n:=n) (m:=m) (by simp at h ⊢; omega) (by omega)]
theorem cuts_nil (a0:List QSym):cuts a0 []=some []:=rfl
theorem cuts_step {a0:List QSym} {xs:List Int} (h:xs≠[]):cuts a0 xs=match sk a0 1 xs with
  | none=>none
  | some k=>(cuts a0 (xs.drop k)).map (xs.take k :: ·):=by
 cases xs with
 | nil=>exact absurd rfl h
 | cons x xs =>
  show cutsN a0 (xs.length+1) (x::xs)=_
  unfold cutsN
  cases hk:sk a0 1 (x::xs) with
  | none=>rfl
  | some k =>
   have:=sk_le hk
   simp only
   unfold cuts
   rw[cutsN_more (n:=((x::xs).drop k).length) (m:=xs.length) (Nat.le_refl _) (by simp; omega)]
theorem sk_take {a0:List QSym}:{xs:List Int}→{n k:Nat}→sk a0 n xs=some k→sk a0 n (xs.take k)=some k
 | [],0,k,h=>by simp [sk] at h; subst h; rfl
 | [],n+1,k,h=>by simp [sk] at h
 | x::xs,0,k,h=>by simp [sk] at h; subst h; rfl
 | x::xs,n+1,k,h=>by
  unfold sk at h
  cases ha:arity a0 x with
  | none=>rw[ha] at h; cases h
  | some m =>
   rw[ha] at h
   simp only[Option.map_eq_some_iff] at h
   obtain⟨j,hj,rfl⟩:=h
   rw[List.take_succ_cons]
   unfold sk
   rw[ha]
   simp only[sk_take hj,Option.map_some]
theorem cuts_flat {a0:List QSym}:∀(n:Nat) (xs:List Int) (ps:List (List Int)),xs.length≤n→cuts a0 xs=some ps→ps.flatten=xs∧∀ p∈ps,p≠[]∧sk a0 1 p=some p.length:=by
 intro n
 induction n with
 | zero =>
  intro xs ps h hc
  obtain rfl:xs=[]:=List.length_eq_zero_iff.1 (by omega)
  injection hc with hc; subst hc
  exact ⟨rfl,fun p hp=>by cases hp⟩
 | succ n ih =>
  intro xs ps h hc
  by_cases hx:xs=[]
  ·subst hx
   injection hc with hc; subst hc
   exact ⟨rfl,fun p hp=>by cases hp⟩
  ·rw[cuts_step hx] at hc
   cases hk:sk a0 1 xs with
   | none=>rw[hk] at hc; cases hc
   | some k =>
    rw[hk] at hc
    simp only[Option.map_eq_some_iff] at hc
    obtain⟨qs,hq,rfl⟩:=hc
    have hle:=sk_le hk
    obtain⟨h1,h2⟩:=ih _ qs (by simp; omega) hq
    refine ⟨by rw[List.flatten_cons,h1,List.take_append_drop],fun p hp => ?_⟩
    rcases List.mem_cons.1 hp with rfl | hp
    ·have hl:(xs.take k).length=k:=by simp; omega
     exact ⟨fun e=>by rw[e] at hl; simp at hl; omega,by rw[hl]; exact sk_take hk⟩
    ·exact h2 p hp
def startsOf:Nat→List (List Int)→List Int
 | _,[]=>[]
 | i,p::ps=>(i:Int)::startsOf (i+p.length) ps
theorem startsOf_len:(i:Nat)→(ps:List (List Int))→(startsOf i ps).length=ps.length
 | _,[]=>rfl
 | i,p::ps=>by simp [startsOf,startsOf_len (i+p.length) ps]
theorem room_ok {n b:Nat} (h:n*b≤140737488351232):room n b=true:=by simpa[room] using h
theorem begins_round {a0:List QSym} (h:SignOk a0) (a1:List Int) (hl:a1.length≤1099511627776):∀(m i:Nat) (acc:List Int) (k:Nat),a1.length - i=m→i≤a1.length→acc.length≤i→m<k →
  lp term_begins_L0 k (a0,a1,(i:Int),acc)=some (match cuts a0 (a1.drop i) with
   | some ps=>(true,acc++startsOf i ps)
   | none=>(false,[])):=by
 intro m
 induction m using Nat.strongRecOn with
 | _ m ih =>
  intro i acc k hm hi hacc hk
  obtain⟨k,rfl⟩:∃ k',k=k'+1:=⟨k - 1,by omega⟩
  rw[lp_succ]
  have key:=fun j acc' (h1:i<j) h2 h3=>ih (a1.length - j) (by omega) j acc' k rfl h2 h3 (by omega)
  generalize lp term_begins_L0 k=rec at key ⊢
  unfold term_begins_L0
  by_cases he:i=a1.length
  ·subst he
   simp [cuts_nil,startsOf]
  ·have hlt:i<a1.length:=by omega
   have hne:a1.drop i≠[]:=by simp; omega
   simp only[show (((i:Int))==((List.length a1:Nat):Int))=false from by simp; omega,cond_false,term_Skip_eq h a1 hl,Option.bind_some,cuts_step hne]
   cases hs:sk a0 1 (a1.drop i) with
   | none=>rfl
   | some j =>
    have hj:=sk_le hs
    rw[List.length_drop] at hj
    simp only[Bool.not_true,cond_false,List.length_singleton,room_ok (show (acc.length+1)*8≤140737488351232 by omega),cond_true]
    rw[key (i+j) _ (by omega) (by omega) (by simp; omega),List.drop_drop]
    cases cuts a0 (a1.drop (i+j)) with
    | none=>rfl
    | some ps =>
     simp only[Option.map_some,startsOf]
     rw[List.length_take,List.length_drop,Nat.min_eq_left (by omega)]
     simp
def beginsB (a0:List QSym) (a1:List Int):Option (List (List Int)):=cond (signB a0&&decide (a1.length≤48)) (cuts a0 a1) none
theorem term_begins_eq (a0:List QSym) (a1:List Int):term_begins a0 a1=some (match beginsB a0 a1 with
  | some ps=>(true,startsOf 0 ps)
  | none=>(false,[])):=by
 unfold term_begins beginsB
 rw[sign_May_eq,Option.bind_some]
 cases hs:signB a0 with
 | false=>rfl
 | true =>
  have h:=signB_ok hs
  by_cases hl:a1.length≤48
  ·simp only[Bool.not_true,cond_false,decide_eq_false (show ¬(((List.length a1:Nat):Int)>48) by omega),decide_eq_true hl,Bool.and_true,cond_true]
   by_cases h0:a1=[]
   ·subst h0; rfl
   ·have hpos:0<a1.length:=List.length_pos_iff.2 h0
    simp only[show ((0:Int)==((List.length a1:Nat):Int))=false from by simp; omega,cond_false]
    have e:=term_Skip_eq h a1 (by omega) 0
    rw[show ((0:Nat):Int)=0 from rfl] at e
    rw[e,Option.bind_some,List.drop_zero,cuts_step h0]
    cases hk:sk a0 1 a1 with
    | none=>rfl
    | some j =>
     have hj:=sk_le hk
     simp only[Bool.not_true,cond_false,Nat.zero_add,List.length_singleton,room_ok (show 1*8≤140737488351232 by omega),cond_true]
     rw[begins_round h a1 (by omega) (a1.length - j) j [0] fuel rfl (by omega) (by simp; omega) (by unfold fuel; omega)]
     cases cuts a0 (a1.drop j) with
     | none=>rfl
     | some ps=>simp [startsOf,Nat.min_eq_left hj.1]
  ·simp only[Bool.not_true,cond_false,decide_eq_true (show (((List.length a1:Nat):Int)>48) by omega),decide_eq_false hl,Bool.and_false,cond_true]
def atomB (a0:List QSym) (xs:List Int):Bool:=match xs with
 | []=>false
 | x::r=>decide (0≤x)&&(match a0[x.toNat]? with
  | none=>false
  | some e=>(e.2.1==0)&&(match beginsB a0 r with
   | none=>false
   | some ps=>((ps.length:Nat):Int)==e.2.2.1))
theorem slc_tail {α:Type} (x:α) (r:List α):slc2 (x::r) (some 1) none=some r:=by
 show slc (x::r) 1 ((x::r).length:Int)=some r
 unfold slc
 simp only[List.length_cons]
 rw[decide_eq_true (show (0:Int)≤1 by omega),decide_eq_true (show (1:Int)≤((r.length+1:Nat):Int) by omega),decide_eq_true (show ((r.length+1:Nat):Int)≤((r.length+1:Nat):Int) by omega)]
 simp
theorem term_IsAtom_eq (a0:List QSym) (xs:List Int):term_IsAtom a0 xs=some (atomB a0 xs):=by
 unfold term_IsAtom atomB
 cases xs with
 | nil=>rfl
 | cons x r =>
  simp only[show ((((x::r).length:Nat):Int)==0)=false from by simp; omega,cond_false,gx_zero,List.getElem?_cons_zero,Option.bind_some]
  by_cases h0:x<0
  ·rw[decide_eq_true h0,decide_eq_false (show ¬(0≤x) by omega)]; rfl
  ·rw[decide_eq_false h0,decide_eq_true (show 0≤x by omega),cond_false,Bool.true_and]
   by_cases h1:x≥((List.length a0:Nat):Int)
   ·rw[decide_eq_true h1,List.getElem?_eq_none (by omega)]; rfl
   ·obtain⟨e,he1,he2,he3⟩:=gx_at (xs:=a0) (i:=x) (by omega) (by omega)
    simp only[decide_eq_false h1,cond_false,he1,he3,Option.bind_some,bne]
    cases hk:(e.2.1==0) with
    | false=>rfl
    | true =>
     simp only[Bool.not_true,cond_false,slc_tail,Option.bind_some,term_begins_eq,Bool.true_and]
     cases beginsB a0 r with
     | none=>rfl
     | some ps=>simp [startsOf_len]
def sumLen (xs:List (List Int)):Nat:=(xs.map List.length).sum
def litsB (a0:List QSym) (ls:List QLit):Bool:=ls.all fun l=>atomB a0 l.2
theorem atomB_len {a0:List QSym} {xs:List Int} (h:atomB a0 xs=true):xs.length≤49:=by
 unfold atomB at h
 cases xs with
 | nil=>cases h
 | cons x r =>
  simp only[Bool.and_eq_true] at h
  cases he:a0[x.toNat]? with
  | none=>rw[he] at h; simp at h
  | some e =>
   rw[he] at h
   simp only[Bool.and_eq_true] at h
   cases hb:beginsB a0 r with
   | none=>rw[hb] at h; simp at h
   | some ps =>
    unfold beginsB at hb
    cases hl:decide (r.length≤48) with
    | false=>rw[hl,Bool.and_false] at hb; cases hb
    | true=>rw[decide_eq_true_eq] at hl; simp; omega
theorem lits_go (a0:List QSym):(es:List QLit)→(t:Nat)→t+49*es.length≤1099511627776→clause_litsMay_L0_go a0 es (t:Int)=some (cond (litsB a0 es) (.inl ((t+sumLen (es.map (·.2)):Nat):Int)) (.inr (0,false)))
 | [],t,_=>by simp [clause_litsMay_L0_go,litsB,sumLen]
 | e::es,t,h=>by
  unfold clause_litsMay_L0_go lit_May litsB
  rw[term_IsAtom_eq,Option.bind_some,Option.bind_some,List.all_cons]
  cases ha:atomB a0 e.2 with
  | false=>rfl
  | true =>
   have hl:=atomB_len ha
   rw[List.length_cons] at h
   have e1:IntKind.wrap .i64 ((t:Int)+((List.length e.2:Nat):Int))=((t+e.2.length:Nat):Int):=by rw[wrap64]<;>omega
   rw[e1]
   have:=lits_go a0 es (t+e.2.length) (by omega)
   unfold litsB at this
   simp only[Bool.not_true,cond_false,Bool.true_and,this]
   rw[show t+e.2.length+sumLen (es.map (·.2))=t+sumLen ((e::es).map (·.2)) from by simp [sumLen]; omega]
theorem clause_litsMay_eq (a0:List QSym) (ls:List QLit) (h:ls.length≤1000000000):clause_litsMay a0 ls=some (cond (litsB a0 ls) (((sumLen (ls.map (·.2)):Nat):Int),true) (0,false)):=by
 unfold clause_litsMay
 rw[clause_litsMay_L0_go_at0 _ _ _ (by unfold maxLen; omega),show ((0:Int))=((0:Nat):Int) from rfl,lits_go a0 ls 0 (by omega)]
 cases litsB a0 ls with
 | false=>rfl
 | true=>simp [caseS]
def rowW (a0:List QSym) (xs:List Int):Option Nat:=(beginsB a0 xs).map List.length
theorem term_Row_eq (a0:List QSym) (xs:List Int):term_Row a0 xs=some (match rowW a0 xs with
  | some n=>((n:Int),0)
  | none=>(0,200)):=by
 unfold term_Row rowW
 rw[term_begins_eq,Option.bind_some]
 cases beginsB a0 xs with
 | none=>rfl
 | some ps=>simp [startsOf_len]
theorem rowW_len {a0:List QSym} {xs:List Int} {n:Nat} (h:rowW a0 xs=some n):xs.length≤48:=by
 unfold rowW beginsB at h
 cases hl:decide (xs.length≤48) with
 | false=>rw[hl,Bool.and_false] at h; cases h
 | true=>rw[decide_eq_true_eq] at hl; exact hl
def rowsB (a0:List QSym) (rs:List (List Int)):Bool:=match rs with
 | []=>true
 | r::rs=>match rowW a0 r with
  | none=>false
  | some n=>rs.all fun q=>rowW a0 q==some n
theorem rows_go (a0:List QSym) (w:Nat):(es:List (List Int))→(i t:Nat)→t+49*es.length≤1099511627776→clause_rowsMay_L0_go a0 es (i+1) (t:Int) (w:Int)=some (cond (es.all fun q=>rowW a0 q==some w) (.inl ((t+sumLen es:Nat):Int)) (.inr (0,false)))
 | [],i,t,_=>by simp [clause_rowsMay_L0_go,sumLen]
 | e::es,i,t,h=>by
  unfold clause_rowsMay_L0_go
  rw[term_Row_eq,Option.bind_some,List.all_cons]
  rw[show ((((i+1:Nat):Int))==0)=false from by simp; omega,cond_false]
  cases hr:rowW a0 e with
  | none=>rfl
  | some n =>
   have hl:=rowW_len hr
   rw[List.length_cons] at h
   have e1:IntKind.wrap .i64 ((t:Int)+((List.length e:Nat):Int))=((t+e.length:Nat):Int):=by rw[wrap64]<;>omega
   have:=rows_go a0 w es (i+1) (t+e.length) (by omega)
   simp only[e1,this]
   by_cases hn:n=w
   ·subst hn
    simp [sumLen,Nat.add_assoc]
   ·have h1:((n:Int) != (w:Int))=true:=by simp; omega
    have h2:(some n==some w)=false:=by simpa using hn
    simp [h1,h2]
theorem clause_rowsMay_eq (a0:List QSym) (rs:List (List Int)) (h:rs.length≤1000000000):clause_rowsMay a0 rs=some (cond (rowsB a0 rs) (((sumLen rs:Nat):Int),true) (0,false)):=by
 unfold clause_rowsMay
 rw[clause_rowsMay_L0_go_at0 _ _ _ _ (by unfold maxLen; omega)]
 cases rs with
 | nil=>rfl
 | cons r rs =>
  unfold clause_rowsMay_L0_go rowsB
  rw[term_Row_eq,Option.bind_some]
  rw[show ((((0:Nat):Int))==0)=true from rfl,cond_true]
  dsimp only
  cases hr:rowW a0 r with
  | none=>rfl
  | some n =>
   have hl:=rowW_len hr
   rw[List.length_cons] at h
   have e1:IntKind.wrap .i64 (0+((List.length r:Nat):Int))=((r.length:Nat):Int):=by rw[wrap64]<;>omega
   have:=rows_go a0 n rs 0 r.length (by omega)
   simp only[e1,this]
   cases hb:rs.all fun q=>rowW a0 q==some n with
   | false=>simp [caseS]
   | true=>simp [caseS,sumLen]
def mayB (a0:List QSym) (a1:List QLit) (a2:List (List Int)) (a3:List QLit):Bool :=
 signB a0&&decide (a1.length≤5)&&decide (a2.length≤3)&&decide (a3.length≤3)&&litsB a0 a1&&rowsB a0 a2&&litsB a0 a3&&decide (sumLen (a1.map (·.2))+sumLen a2+sumLen (a3.map (·.2))≤240)
theorem lits_sum {a0:List QSym}:(ls:List QLit)→litsB a0 ls=true→sumLen (ls.map (·.2))≤49*ls.length
 | [],_=>by simp [sumLen]
 | l::ls,h=>by
  unfold litsB at h
  rw[List.all_cons,Bool.and_eq_true] at h
  have h1:=atomB_len h.1
  have h2:=lits_sum ls h.2
  unfold sumLen at h2 ⊢
  simp only[List.map_cons,List.sum_cons,List.length_cons]
  omega
theorem rows_sum {a0:List QSym} (rs:List (List Int)) (h:rowsB a0 rs=true):sumLen rs≤49*rs.length:=by
 cases rs with
 | nil=>simp [sumLen]
 | cons r rs =>
  unfold rowsB at h
  dsimp only at h
  cases hr:rowW a0 r with
  | none=>rw[hr] at h; cases h
  | some n =>
   rw[hr] at h
   have h1:=rowW_len hr
   have h2:∀ qs:List (List Int),(qs.all fun q=>rowW a0 q==some n)=true→sumLen qs≤49*qs.length:=by
    intro qs
    induction qs with
    | nil=>intro _; simp [sumLen]
    | cons q qs ih =>
     intro hq
     rw[List.all_cons,Bool.and_eq_true] at hq
     have h3:=ih hq.2
     have h4:=rowW_len (by simpa using hq.1)
     unfold sumLen at h3 ⊢
     simp only[List.map_cons,List.sum_cons,List.length_cons]
     omega
   have h5:=h2 rs h
   unfold sumLen at h5 ⊢
   simp only[List.map_cons,List.sum_cons,List.length_cons]
   omega
theorem clause_May_eq (a0:List QSym) (a1:List QLit) (a2:List (List Int)) (a3:List QLit):clause_May a0 a1 a2 a3=some (mayB a0 a1 a2 a3):=by
 unfold clause_May mayB
 rw[sign_May_eq,Option.bind_some]
 cases signB a0 with
 | false=>rfl
 | true =>
  by_cases h1:a1.length≤5
  ·by_cases h2:a2.length≤3
   ·by_cases h3:a3.length≤3
    ·simp only[Bool.not_true,cond_false,decide_eq_false (show ¬(((List.length a1:Nat):Int)>5) by omega),decide_eq_false (show ¬(((List.length a2:Nat):Int)>3) by omega),decide_eq_false (show ¬(((List.length a3:Nat):Int)>3) by omega),
      decide_eq_true h1,decide_eq_true h2,decide_eq_true h3,clause_litsMay_eq a0 a1 (by omega),clause_rowsMay_eq a0 a2 (by omega),clause_litsMay_eq a0 a3 (by omega),Option.bind_some,Bool.true_and]
     cases hb1:litsB a0 a1 with
     | false=>rfl
     | true =>
      cases hb2:rowsB a0 a2 with
      | false=>rfl
      | true =>
       cases hb3:litsB a0 a3 with
       | false=>rfl
       | true =>
        have s1:=lits_sum a1 hb1
        have s2:=rows_sum a2 hb2
        have s3:=lits_sum a3 hb3
        simp only[cond_true,Bool.true_and]
        have e1:IntKind.wrap .i64 (((sumLen (a1.map (·.2)):Nat):Int)+((sumLen a2:Nat):Int))=((sumLen (a1.map (·.2))+sumLen a2:Nat):Int):=by rw[wrap64]<;>omega
        have e2:IntKind.wrap .i64 (((sumLen (a1.map (·.2))+sumLen a2:Nat):Int)+((sumLen (a3.map (·.2)):Nat):Int))=((sumLen (a1.map (·.2))+sumLen a2+sumLen (a3.map (·.2)):Nat):Int):=by rw[wrap64]<;>omega
        simp only[e1,e2,Option.some.injEq,decide_eq_decide]
        omega
    ·simp only[Bool.not_true,cond_false,decide_eq_false (show ¬(((List.length a1:Nat):Int)>5) by omega),decide_eq_false (show ¬(((List.length a2:Nat):Int)>3) by omega),decide_eq_true (show (((List.length a3:Nat):Int)>3) by omega),decide_eq_false h3,cond_true,Bool.and_false,Bool.false_and]
   ·simp only[Bool.not_true,cond_false,decide_eq_false (show ¬(((List.length a1:Nat):Int)>5) by omega),decide_eq_true (show (((List.length a2:Nat):Int)>3) by omega),decide_eq_false h2,cond_true,Bool.and_false,Bool.false_and]
  ·simp only[Bool.not_true,cond_false,decide_eq_true (show (((List.length a1:Nat):Int)>5) by omega),decide_eq_false h1,cond_true,Bool.and_false,Bool.false_and]
end
end Go.Abs.Q
namespace Go.Abs.Q
open Go Go.Abs
section
theorem sk_add {a0:List QSym}:{xs:List Int}→{n m k:Nat}→sk a0 (n+m) xs=some k→∃ j,sk a0 n xs=some j∧j≤k∧sk a0 m (xs.drop j)=some (k - j)
 | xs,0,m,k,h=>⟨0,by cases xs<;>rfl,Nat.zero_le _,by simpa using h⟩
 | [],n+1,m,k,h=>by rw[show n+1+m=n+m+1 from by omega] at h; simp [sk] at h
 | x::xs,n+1,m,k,h=>by
  rw[show n+1+m=n+m+1 from by omega] at h
  unfold sk at h
  cases ha:arity a0 x with
  | none=>rw[ha] at h; cases h
  | some q =>
   rw[ha] at h
   simp only[Option.map_eq_some_iff] at h
   obtain⟨j,hj,rfl⟩:=h
   rw[show n+m+q=(n+q)+m from by omega] at hj
   obtain⟨i,h1,h2,h3⟩:=sk_add hj
   refine ⟨i+1,?_,by omega,?_⟩
   ·unfold sk; rw[ha]; simp only[h1,Option.map_some]
   ·rw[List.drop_succ_cons,h3]; congr 1; omega
theorem cuts_sk {a0:List QSym}:∀(n:Nat) (xs:List Int),sk a0 n xs=some xs.length→∃ ps,cuts a0 xs=some ps∧ps.length=n:=by
 intro n
 induction n with
 | zero =>
  intro xs h
  have:xs.length=0:=by cases xs<;>simp [sk] at h ⊢
  obtain rfl:=List.length_eq_zero_iff.1 this
  exact ⟨[],rfl,rfl⟩
 | succ n ih =>
  intro xs h
  rw[Nat.add_comm] at h
  obtain⟨j,h1,h2,h3⟩:=sk_add h
  have hj:=sk_le h1
  have hne:xs≠[]:=fun e=>by subst e; simp at hj; omega
  obtain⟨ps,h4,h5⟩:=ih (xs.drop j) (by rw[h3,List.length_drop])
  refine ⟨xs.take j::ps,?_,by simp [h5]⟩
  rw[cuts_step hne,h1]
  dsimp only
  rw[h4]; rfl
theorem piece_cases {a0:List QSym} {p:List Int} (h:sk a0 1 p=some p.length):∃ x r q,p=x::r∧arity a0 x=some q∧sk a0 q r=some r.length:=by
 cases p with
 | nil=>simp [sk] at h
 | cons x r =>
  unfold sk at h
  cases ha:arity a0 x with
  | none=>rw[ha] at h; cases h
  | some q =>
   rw[ha] at h
   simp only[Option.map_eq_some_iff,Nat.zero_add] at h
   obtain⟨j,hj,he⟩:=h
   rw[List.length_cons] at he
   exact ⟨x,r,q,rfl,ha,by rw[hj]; congr 1; omega⟩
theorem pieces_round {a0:List QSym} (h:SignOk a0) (a1:List Int) (hl:a1.length≤1099511627776):∀(m i:Nat) (acc ps:List (List Int)) (k:Nat),a1.length - i=m→i≤a1.length→acc.length≤i→cuts a0 (a1.drop i)=some ps→m<k →
  lp term_Pieces_L0 k (a0,a1,(i:Int),acc)=some (.inl (acc++ps)):=by
 intro m
 induction m using Nat.strongRecOn with
 | _ m ih =>
  intro i acc ps k hm hi hacc hc hk
  obtain⟨k,rfl⟩:∃ k',k=k'+1:=⟨k - 1,by omega⟩
  rw[lp_succ]
  have key:=fun j acc' ps' (h1:i<j) h2 h3 h4=>ih (a1.length - j) (by omega) j acc' ps' k rfl h2 h3 h4 (by omega)
  generalize lp term_Pieces_L0 k=rec at key ⊢
  unfold term_Pieces_L0
  by_cases he:i=a1.length
  ·subst he
   rw[List.drop_length,cuts_nil] at hc
   injection hc with hc; subst hc
   simp
  ·have hlt:i<a1.length:=by omega
   have hne:a1.drop i≠[]:=by simp; omega
   rw[cuts_step hne] at hc
   simp only[decide_eq_true (show (i:Int)<((List.length a1:Nat):Int) by omega),cond_true,term_Skip_eq h a1 hl,Option.bind_some]
   cases hs:sk a0 1 (a1.drop i) with
   | none=>rw[hs] at hc; cases hc
   | some j =>
    rw[hs] at hc
    simp only[Option.map_eq_some_iff] at hc
    obtain⟨qs,hq,rfl⟩:=hc
    have hj:=sk_le hs
    rw[List.length_drop] at hj
    have e1:slc2 a1 (some (i:Int)) (some ((i+j:Nat):Int))=some ((a1.drop i).take j):=by
     show slc a1 _ _=_
     unfold slc
     rw[decide_eq_true (show (0:Int)≤(i:Int) by omega),decide_eq_true (show (i:Int)≤((i+j:Nat):Int) by omega),decide_eq_true (show ((i+j:Nat):Int)≤((a1.length:Nat):Int) by omega)]
     simp only[cond_true,Int.toNat_natCast,Option.some.injEq]
     rw[List.drop_take]; congr 1; omega
    simp only[Bool.not_true,cond_false,e1,Option.bind_some,List.length_singleton,room_ok (show (acc.length+1)*24≤140737488351232 by omega),cond_true]
    rw[List.drop_drop] at hq
    rw[key (i+j) _ qs (by omega) (by omega) (by simp; omega) hq]
    simp
theorem term_Pieces_eq {a0:List QSym} (h:SignOk a0) {a1:List Int} (hl:a1.length≤1099511627776) {ps:List (List Int)} (hc:cuts a0 a1=some ps):term_Pieces a0 a1=some ps:=by
 unfold term_Pieces
 have:=pieces_round h a1 hl a1.length 0 [] ps fuel rfl (Nat.zero_le _) (Nat.zero_le _) hc (by unfold fuel; omega)
 rw[show ((0:Nat):Int)=0 from rfl] at this
 rw[this]
 rfl
def nameOf (a0:List QSym) (x:Int):Str:=match a0[x.toNat]? with
 | some e=>e.1
 | none=>[]
theorem dig2_len (n:Nat):1≤(dig2 n).length∧(dig2 n).length≤2:=by
 unfold dig2
 cases decide (n<10)<;>simp
theorem itoaF_eq {n:Int} (h0:0≤n) (h1:n<100):itoaF n=some (dig2 n.toNat):=by
 unfold itoaF
 rw[decide_eq_true h0,decide_eq_true h1]; rfl
theorem arity_neg {a0:List QSym} {x:Int} {q:Nat} (h:arity a0 x=some q) (hx:x<0) : -24≤x∧q=0:=by
 unfold arity at h
 rw[decide_eq_true hx,cond_true] at h
 cases hd:decide (-24≤x) with
 | false=>rw[hd] at h; cases h
 | true=>rw[hd] at h; injection h with h; exact ⟨of_decide_eq_true hd,h.symm⟩
theorem arity_pos {a0:List QSym} {x:Int} {q:Nat} (h:arity a0 x=some q) (hx:¬ x<0):∃ e,gx a0 x=some e∧a0[x.toNat]? = some e∧e.2.1≠0∧q=e.2.2.1.toNat:=by
 unfold arity at h
 rw[decide_eq_false hx,cond_false] at h
 cases he:a0[x.toNat]? with
 | none=>rw[he] at h; cases h
 | some e =>
  rw[he] at h
  have hg:gx a0 x=some e:=by
   unfold gx
   rw[decide_eq_true (show 0≤x by omega),cond_true,he]
  dsimp only at h
  cases hz:(e.2.1==0) with
  | true=>rw[hz] at h; cases h
  | false=>rw[hz] at h; injection h with h; exact ⟨e,hg,rfl,by simpa using hz,h.symm⟩
end
end Go.Abs.Q
namespace Go.Abs.Q
open Go Go.Abs
section
theorem atomB_spec {a0:List QSym} {xs:List Int} (h:atomB a0 xs=true):∃ x r e ps,xs=x::r∧0≤x∧a0[x.toNat]? = some e∧gx a0 x=some e∧e.2.1=0∧signB a0=true∧r.length≤48∧cuts a0 r=some ps∧((ps.length:Nat):Int)=e.2.2.1:=by
 unfold atomB at h
 cases xs with
 | nil=>cases h
 | cons x r =>
  simp only[Bool.and_eq_true,decide_eq_true_eq] at h
  obtain⟨h0,h⟩:=h
  cases he:a0[x.toNat]? with
  | none=>rw[he] at h; cases h
  | some e =>
   rw[he] at h
   simp only[Bool.and_eq_true] at h
   obtain⟨h1,h⟩:=h
   cases hb:beginsB a0 r with
   | none=>rw[hb] at h; cases h
   | some ps =>
    rw[hb] at h
    unfold beginsB at hb
    cases hs:signB a0 with
    | false=>rw[hs] at hb; cases hb
    | true =>
     cases hl:decide (r.length≤48) with
     | false=>rw[hs,hl] at hb; cases hb
     | true =>
      rw[hs,hl] at hb
      refine ⟨x,r,e,ps,rfl,h0,he,?_,by simpa using h1,rfl,of_decide_eq_true hl,hb,by simpa using h⟩
      unfold gx
      rw[decide_eq_true h0,cond_true,he]
theorem rowW_spec {a0:List QSym} {r:List Int} {n:Nat} (h:rowW a0 r=some n):∃ ps,cuts a0 r=some ps∧ps.length=n∧r.length≤48∧signB a0=true:=by
 have hl:=rowW_len h
 unfold rowW beginsB at h
 cases hs:signB a0 with
 | false=>rw[hs] at h; cases h
 | true =>
  rw[hs,decide_eq_true hl] at h
  simp only[Bool.and_true,cond_true,Option.map_eq_some_iff] at h
  obtain⟨ps,h1,h2⟩:=h
  exact ⟨ps,h1,h2,hl,rfl⟩
theorem rowsB_all {a0:List QSym} {rs:List (List Int)} (h:rowsB a0 rs=true):∃ n,∀ r∈rs,rowW a0 r=some n:=by
 cases rs with
 | nil=>exact ⟨0,fun r hr=>by cases hr⟩
 | cons r rs =>
  unfold rowsB at h
  dsimp only at h
  cases hr:rowW a0 r with
  | none=>rw[hr] at h; cases h
  | some n =>
   rw[hr] at h
   refine ⟨n,fun q hq => ?_⟩
   rcases List.mem_cons.1 hq with rfl | hq
   ·exact hr
   ·simpa using List.all_eq_true.1 h q hq
theorem mayB_spec {a0:List QSym} {a1:List QLit} {a2:List (List Int)} {a3:List QLit} (h:mayB a0 a1 a2 a3=true):signB a0=true∧a1.length≤5∧a2.length≤3∧a3.length≤3∧litsB a0 a1=true∧rowsB a0 a2=true∧litsB a0 a3=true∧sumLen (a1.map (·.2))+sumLen a2+sumLen (a3.map (·.2))≤240:=by
 unfold mayB at h
 simp only[Bool.and_eq_true,decide_eq_true_eq] at h
 exact ⟨h.1.1.1.1.1.1.1,h.1.1.1.1.1.1.2,h.1.1.1.1.1.2,h.1.1.1.1.2,h.1.1.1.2,h.1.1.2,h.1.2,h.2⟩
theorem mayB_mk {a0:List QSym} {a1:List QLit} {a2:List (List Int)} {a3:List QLit} (h1:signB a0=true) (h2:a1.length≤5) (h3:a2.length≤3) (h4:a3.length≤3) (h5:litsB a0 a1=true) (h6:rowsB a0 a2=true) (h7:litsB a0 a3=true)
  (h8:sumLen (a1.map (·.2))+sumLen a2+sumLen (a3.map (·.2))≤240):mayB a0 a1 a2 a3=true:=by
 unfold mayB
 simp only[h1,decide_eq_true h2,decide_eq_true h3,decide_eq_true h4,h5,h6,h7,decide_eq_true h8,Bool.and_self]
end
end Go.Abs.Q
namespace Go.Abs.Q
open Go Go.Abs
section
def hit (p s:Str):Nat:=cond (List.isPrefixOf p s&&decide (4≤s.length)) 1 0
end
end Go.Abs.Q
namespace Go.Abs.Q
open Go Go.Abs
section
theorem slc_at {α:Type} (s:List α) {i j:Nat} (hij:i≤j) (h:j≤s.length):slc2 s (some (i:Int)) (some (j:Int))=some ((s.drop i).take (j - i)):=by
 show slc s _ _=_
 unfold slc
 rw[decide_eq_true (show (0:Int)≤(i:Int) by omega),decide_eq_true (show (i:Int)≤(j:Int) by omega),decide_eq_true (show (j:Int)≤((s.length:Nat):Int) by omega)]
 simp only[cond_true,Int.toNat_natCast,Option.some.injEq]
 rw[List.drop_take]
end
end Go.Abs.Q
namespace Go.Abs.Q
open Go Go.Abs
def law0_CopyInts (a0:(List Int)):Option (List Int) :=
 cond (room (List.length ([]:List Int)+List.length a0) 8)
 (some (([]:List Int)++a0))
 (none)
def law0_CopyLits_L0 (rec:((List QLit)×Int×(List QLit))→Option (List QLit)) (x:((List QLit)×Int×(List QLit))):Option (List QLit) :=
 cond (decide (x.2.1<((List.length x.1:Nat):Int)))
 ((gx x.1 x.2.1).bind fun e7 =>
  (gx x.1 x.2.1).bind fun e8 =>
  (law0_CopyInts e8.2).bind fun r9 =>
  cond (room (List.length x.2.2+List.length ([(e7.1,r9)]:List QLit)) 32)
  (rec (x.1,(IntKind.wrap .i64 (x.2.1+1)),(x.2.2++([(e7.1,r9)]:List QLit))))
  (none))
 (some x.2.2)
def law0_CopyLits (a0:(List QLit)):Option (List QLit) :=
 ((lp law0_CopyLits_L0 fuel) (a0,0,([]:(List QLit)))).bind fun r11 =>
 some r11
def law0_CopyRows_L0 (rec:((List (List Int))×Int×(List (List Int)))→Option (List (List Int))) (x:((List (List Int))×Int×(List (List Int)))):Option (List (List Int)) :=
 cond (decide (x.2.1<((List.length x.1:Nat):Int)))
 ((gx x.1 x.2.1).bind fun e5 =>
  (law0_CopyInts e5).bind fun r6 =>
  cond (room (List.length x.2.2+List.length ([r6]:List (List Int))) 24)
  (rec (x.1,(IntKind.wrap .i64 (x.2.1+1)),(x.2.2++([r6]:List (List Int)))))
  (none))
 (some x.2.2)
def law0_CopyRows (a0:(List (List Int))):Option (List (List Int)) :=
 ((lp law0_CopyRows_L0 fuel) (a0,0,([]:(List (List Int))))).bind fun r8 =>
 some r8
def law0_CopyClause (a0:(List QLit)) (a1:(List (List Int))) (a2:(List QLit)):Option ((List QLit)×(List (List Int))×(List QLit)) :=
 (law0_CopyLits a0).bind fun r4 =>
 (law0_CopyRows a1).bind fun r5 =>
 (law0_CopyLits a2).bind fun r6 =>
 some (r4,r5,r6)
def ref1_behind_L0 (rec:((List QSym)×(List Int)×Int×Int)→Option Int) (x:((List QSym)×(List Int)×Int×Int)):Option Int :=
 cond (decide (x.2.2.1>0))
 ((gx x.2.1 x.2.2.2).bind fun e4 =>
  cond (decide (e4≥0))
  ((gx x.2.1 x.2.2.2).bind fun e5 =>
   (gx x.1 e5).bind fun e6 =>
   rec (x.1,x.2.1,(IntKind.wrap .i64 ((IntKind.wrap .i64 (x.2.2.1 - 1))+e6.2.2.1)),(IntKind.wrap .i64 (x.2.2.2+1))))
  (rec (x.1,x.2.1,(IntKind.wrap .i64 (x.2.2.1 - 1)),(IntKind.wrap .i64 (x.2.2.2+1)))))
 (some x.2.2.2)
def ref1_behind (a0:(List QSym)) (a1:(List Int)) (a2:Int):Option Int :=
 ((lp ref1_behind_L0 fuel) (a0,a1,1,a2)).bind fun r8 =>
 some r8
def ref1_Parts_L0 (rec:((List QSym)×(List Int)×Int×(List (List Int)))→Option (List (List Int))) (x:((List QSym)×(List Int)×Int×(List (List Int)))):Option (List (List Int)) :=
 cond (decide (x.2.2.1<((List.length x.2.1:Nat):Int)))
 ((ref1_behind x.1 x.2.1 x.2.2.1).bind fun r5 =>
  (slc2 x.2.1 (some x.2.2.1) (some r5)).bind fun y6 =>
  cond (room (List.length x.2.2.2+List.length ([y6]:List (List Int))) 24)
  (rec (x.1,x.2.1,r5,(x.2.2.2++([y6]:List (List Int)))))
  (none))
 (some x.2.2.2)
def ref1_Parts (a0:(List QSym)) (a1:(List Int)):Option (List (List Int)) :=
 ((lp ref1_Parts_L0 fuel) (a0,a1,0,([]:(List (List Int))))).bind fun r8 =>
 some r8
end Go.Abs.Q
namespace Go.Abs.Q
open Go Go.Abs
def law0_CopyLits_L0_go:List QLit→(List QLit)→Option (List QLit)
 | [],s2=>some s2
 | e::es,s2 =>
  (law0_CopyInts e.2).bind fun r9 =>
  cond (room (List.length s2+List.length ([(e.1,r9)]:List QLit)) 32)
  (law0_CopyLits_L0_go es (s2++([(e.1,r9)]:List QLit)))
  (none)
theorem law0_CopyLits_L0_go_at0 (s0:(List QLit)) (s2:(List QLit)) (hl:List.length s0≤maxLen):lp law0_CopyLits_L0 fuel (s0,0,s2)=law0_CopyLits_L0_go s0 s2:=rngl1 law0_CopyLits_L0 (fun i s2=>(s0,i,s2)) (fun es i s2=>law0_CopyLits_L0_go es s2) hl (fun r i s2 h=>by unfold law0_CopyLits_L0 law0_CopyLits_L0_go; simp only[h,cond_false]) (fun r i s2 e es h g w k=>by unfold law0_CopyLits_L0 law0_CopyLits_L0_go; simp only[h,cond_true,g,Option.bind_some,w,k]) s2
def law0_CopyRows_L0_go:List (List Int)→(List (List Int))→Option (List (List Int))
 | [],s2=>some s2
 | e::es,s2 =>
  (law0_CopyInts e).bind fun r6 =>
  cond (room (List.length s2+List.length ([r6]:List (List Int))) 24)
  (law0_CopyRows_L0_go es (s2++([r6]:List (List Int))))
  (none)
theorem law0_CopyRows_L0_go_at0 (s0:(List (List Int))) (s2:(List (List Int))) (hl:List.length s0≤maxLen):lp law0_CopyRows_L0 fuel (s0,0,s2)=law0_CopyRows_L0_go s0 s2:=rngl1 law0_CopyRows_L0 (fun i s2=>(s0,i,s2)) (fun es i s2=>law0_CopyRows_L0_go es s2) hl (fun r i s2 h=>by unfold law0_CopyRows_L0 law0_CopyRows_L0_go; simp only[h,cond_false]) (fun r i s2 e es h g w k=>by unfold law0_CopyRows_L0 law0_CopyRows_L0_go; simp only[h,cond_true,g,Option.bind_some,w,k]) s2
end Go.Abs.Q
namespace Go.Abs.Q
open Go Go.Abs
section
theorem atomB_sign {a0:List QSym} {xs:List Int} (h:atomB a0 xs=true):signB a0=true:=by
 obtain⟨_,_,_,_,_,_,_,_,_,hs,_⟩:=atomB_spec h
 exact hs
end
end Go.Abs.Q
namespace Go.Abs.Q
open Go Go.Abs
section
theorem behind_round {a0:List QSym} (h:SignOk a0) (a1:List Int) (hl:a1.length≤1099511627776):∀(m i n j k:Nat),a1.length - i=m→i≤a1.length→n≤1+3*i→sk a0 n (a1.drop i)=some j→m+1<k →
  lp ref1_behind_L0 k (a0,a1,(n:Int),(i:Int))=some ((i+j:Nat):Int):=by
 intro m
 induction m with
 | zero =>
  intro i n j k hm hi hni hs hk
  obtain⟨k,rfl⟩:∃ k',k=k'+1:=⟨k - 1,by omega⟩
  rw[lp_succ]
  generalize lp ref1_behind_L0 k=rec
  unfold ref1_behind_L0
  rw[List.drop_eq_nil_iff.2 (show a1.length≤i by omega)] at hs
  cases n with
  | zero =>
   simp [sk] at hs
   subst hs
   simp
  | succ n=>simp [sk] at hs
 | succ m ih =>
  intro i n j k hm hi hni hs hk
  obtain⟨k,rfl⟩:∃ k',k=k'+1:=⟨k - 1,by omega⟩
  have hi:i<a1.length:=by omega
  rw[lp_succ]
  have key:=fun n' j' h1 h2=>ih (i+1) n' j' k (by omega) (by omega) h1 h2 (by omega)
  generalize lp ref1_behind_L0 k=rec at key ⊢
  unfold ref1_behind_L0
  cases n with
  | zero =>
   simp [sk] at hs
   subst hs
   simp
  | succ n =>
   have e1:IntKind.wrap .i64 (((n+1:Nat):Int) - 1)=(n:Int):=by rw[wrap64]<;>omega
   have e3:IntKind.wrap .i64 ((i:Int)+1)=((i+1:Nat):Int):=by rw[wrap64]<;>omega
   rw[List.drop_eq_getElem_cons hi] at hs
   simp only[sk] at hs
   simp only[decide_eq_true (show ((n+1:Nat):Int)>0 by omega),cond_true,gx_nat,List.getElem?_eq_getElem hi,Option.bind_some,e1,e3]
   generalize a1[i]=x at hs
   cases ha:arity a0 x with
   | none=>rw[ha] at hs; cases hs
   | some q =>
    rw[ha] at hs
    simp only[Option.map_eq_some_iff] at hs
    obtain⟨j',hj',rfl⟩:=hs
    by_cases h0:x<0
    ·obtain⟨_,rfl⟩:=arity_neg ha h0
     rw[decide_eq_false (show ¬(x≥0) by omega),cond_false,key n j' (by omega) hj']
     rw[show i+1+j'=i+(j'+1) from by omega]
    ·obtain⟨e,he1,he2,he3,rfl⟩:=arity_pos ha h0
     have hat:=h.at he2
     have e2:IntKind.wrap .i64 ((n:Int)+e.2.2.1)=((n+e.2.2.1.toNat:Nat):Int):=by rw[wrap64]<;>omega
     rw[decide_eq_true (show x≥0 by omega),cond_true,he1,Option.bind_some,e2,key _ j' (by omega) hj']
     rw[show i+1+j'=i+(j'+1) from by omega]
theorem ref1_behind_eq {a0:List QSym} (h:SignOk a0) (a1:List Int) (hl:a1.length≤1099511627776) (i j:Nat) (hi:i≤a1.length) (hs:sk a0 1 (a1.drop i)=some j):ref1_behind a0 a1 (i:Int)=some ((i+j:Nat):Int):=by
 unfold ref1_behind
 rw[show (1:Int)=((1:Nat):Int) from rfl,behind_round h a1 hl (a1.length - i) i 1 j fuel rfl hi (by omega) hs (by unfold fuel; omega)]
 rfl
theorem parts_round {a0:List QSym} (h:SignOk a0) (a1:List Int) (hl:a1.length≤1099511627776):∀(m i:Nat) (acc ps:List (List Int)) (k:Nat),a1.length - i=m→i≤a1.length→acc.length≤i→cuts a0 (a1.drop i)=some ps→m<k →
  lp ref1_Parts_L0 k (a0,a1,(i:Int),acc)=some (acc++ps):=by
 intro m
 induction m using Nat.strongRecOn with
 | _ m ih =>
  intro i acc ps k hm hi hacc hc hk
  obtain⟨k,rfl⟩:∃ k',k=k'+1:=⟨k - 1,by omega⟩
  rw[lp_succ]
  have key:=fun j acc' ps' (h1:i<j) h2 h3 h4=>ih (a1.length - j) (by omega) j acc' ps' k rfl h2 h3 h4 (by omega)
  generalize lp ref1_Parts_L0 k=rec at key ⊢
  unfold ref1_Parts_L0
  by_cases he:i=a1.length
  ·subst he
   rw[List.drop_length,cuts_nil] at hc
   injection hc with hc; subst hc
   simp
  ·have hlt:i<a1.length:=by omega
   have hne:a1.drop i≠[]:=by simp; omega
   rw[cuts_step hne] at hc
   cases hs:sk a0 1 (a1.drop i) with
   | none=>rw[hs] at hc; cases hc
   | some j =>
    rw[hs] at hc
    simp only[Option.map_eq_some_iff] at hc
    obtain⟨qs,hq,rfl⟩:=hc
    have hj:=sk_le hs
    rw[List.length_drop] at hj
    have e1:slc2 a1 (some (i:Int)) (some ((i+j:Nat):Int))=some ((a1.drop i).take j):=by
     rw[slc_at a1 (by omega) (by omega),show i+j - i=j from by omega]
    simp only[decide_eq_true (show (i:Int)<((List.length a1:Nat):Int) by omega),cond_true,ref1_behind_eq h a1 hl i j hi hs,Option.bind_some,e1,List.length_singleton,room_ok (show (acc.length+1)*24≤140737488351232 by omega)]
    rw[List.drop_drop] at hq
    rw[key (i+j) _ qs (by omega) (by omega) (by simp; omega) hq]
    simp
theorem ref1_Parts_eq {a0:List QSym} (h:SignOk a0) {a1:List Int} (hl:a1.length≤1099511627776) {ps:List (List Int)} (hc:cuts a0 a1=some ps):ref1_Parts a0 a1=some ps:=by
 unfold ref1_Parts
 have:=parts_round h a1 hl a1.length 0 [] ps fuel rfl (Nat.zero_le _) (Nat.zero_le _) hc (by unfold fuel; omega)
 rw[show ((0:Nat):Int)=0 from rfl] at this
 rw[this]
 rfl
end
end Go.Abs.Q
namespace Go.Abs.Q
open Go Go.Abs
section
theorem law0_CopyInts_eq {xs:List Int} (h:xs.length≤1000000000):law0_CopyInts xs=some xs:=by
 unfold law0_CopyInts
 rw[room_ok (by simp only[List.length_nil]; omega)]; rfl
theorem copyLits_go:(es acc:List QLit)→(∀ l∈es,l.2.length≤1000000000)→acc.length+es.length≤1000000000→law0_CopyLits_L0_go es acc=some (acc++es)
 | [],acc,_,_=>by simp [law0_CopyLits_L0_go]
 | e::es,acc,h,hl=>by
  rw[List.length_cons] at hl
  unfold law0_CopyLits_L0_go
  rw[law0_CopyInts_eq (h e (by simp)),Option.bind_some,room_ok (by simp only[List.length_cons,List.length_nil]; omega),cond_true,copyLits_go es _ (fun l hl=>h l (by simp [hl])) (by simp; omega)]
  simp
theorem law0_CopyLits_eq {ls:List QLit} (h:∀ l∈ls,l.2.length≤1000000000) (hl:ls.length≤1000000000):law0_CopyLits ls=some ls:=by
 unfold law0_CopyLits
 rw[law0_CopyLits_L0_go_at0 _ _ (by unfold maxLen; omega),copyLits_go ls [] h (by simp; omega)]
 rfl
theorem copyRows_go:(es acc:List (List Int))→(∀ l∈es,l.length≤1000000000)→acc.length+es.length≤1000000000→law0_CopyRows_L0_go es acc=some (acc++es)
 | [],acc,_,_=>by simp [law0_CopyRows_L0_go]
 | e::es,acc,h,hl=>by
  rw[List.length_cons] at hl
  unfold law0_CopyRows_L0_go
  rw[law0_CopyInts_eq (h e (by simp)),Option.bind_some,room_ok (by simp only[List.length_cons,List.length_nil]; omega),cond_true,copyRows_go es _ (fun l hl=>h l (by simp [hl])) (by simp; omega)]
  simp
theorem law0_CopyRows_eq {ls:List (List Int)} (h:∀ l∈ls,l.length≤1000000000) (hl:ls.length≤1000000000):law0_CopyRows ls=some ls:=by
 unfold law0_CopyRows
 rw[law0_CopyRows_L0_go_at0 _ _ (by unfold maxLen; omega),copyRows_go ls [] h (by simp; omega)]
 rfl
end
end Go.Abs.Q
namespace Go.Abs.Q
open Go Go.Abs
section
theorem sameInts_go (ys:List Int):(es:List Int)→(i:Nat)→es.length=(ys.drop i).length→law0_SameInts_L0_go ys es i=some (cond (decide (es=ys.drop i)) (.inl ()) (.inr false))
 | [],i,h=>by
  have:ys.drop i=[]:=List.length_eq_zero_iff.1 h.symm
  rw[this]; rfl
 | e::es,i,h=>by
  unfold law0_SameInts_L0_go
  rw[List.length_cons,List.length_drop] at h
  have hi:i<ys.length:=by omega
  rw[gx_nat,List.getElem?_eq_getElem hi,Option.bind_some,List.drop_eq_getElem_cons hi,sameInts_go ys es (i+1) (by rw[List.length_drop]; omega)]
  generalize ys[i]=y
  by_cases he:e=y
  ·subst he
   rw[show (e != e)=false from by simp,cond_false]
   simp
  ·rw[show (e != y)=true from by simpa using he,cond_true]
   rw[decide_eq_false (by intro h; injection h with h1 h2; exact he h1)]
   rfl
theorem law0_SameInts_eq {xs ys:List Int} (h:xs.length≤maxLen):law0_SameInts xs ys=some (decide (xs=ys)):=by
 unfold law0_SameInts
 by_cases hl:xs.length=ys.length
 ·rw[show (((List.length xs:Nat):Int) != ((List.length ys:Nat):Int))=false from by simp [hl],cond_false,law0_SameInts_L0_go_at0 _ _ h,sameInts_go ys xs 0 hl,List.drop_zero]
  cases decide (xs=ys)<;>rfl
 ·rw[show (((List.length xs:Nat):Int) != ((List.length ys:Nat):Int))=true from by simp; omega,cond_true,decide_eq_false (by intro h; subst h; exact hl rfl)]
theorem sameLits_go (ys:List QLit):(es:List QLit)→(i:Nat)→es.length=(ys.drop i).length→(∀ e∈es,e.2.length≤maxLen)→law0_SameLits_L0_go ys es i=some (cond (decide (es=ys.drop i)) (.inl ()) (.inr false))
 | [],i,h,_=>by
  have:ys.drop i=[]:=List.length_eq_zero_iff.1 h.symm
  rw[this]; rfl
 | e::es,i,h,hm=>by
  unfold law0_SameLits_L0_go
  rw[List.length_cons,List.length_drop] at h
  have hi:i<ys.length:=by omega
  rw[gx_nat,List.getElem?_eq_getElem hi,Option.bind_some,List.drop_eq_getElem_cons hi,sameLits_go ys es (i+1) (by rw[List.length_drop]; omega) (fun x hx=>hm x (by simp [hx]))]
  generalize ys[i]=y
  obtain⟨a,b⟩:=e
  obtain⟨c,d⟩:=y
  have hb:b.length≤maxLen:=hm (a,b) (by simp)
  simp only[Option.bind_some,law0_SameInts_eq hb]
  by_cases h1:a=c
  ·subst h1
   by_cases h2:b=d
   ·subst h2
    simp
   ·have:¬((a,b)::es=(a,d)::ys.drop (i+1)):=fun h=>by injection h with h _; injection h with _ h; exact h2 h
    simp [h2,this]
  ·have:¬((a,b)::es=(c,d)::ys.drop (i+1)):=fun h=>by injection h with h _; injection h with h _; exact h1 h
   have h3:(a==c)=false:=by simpa using h1
   rw[h3,decide_eq_false this]; rfl
theorem law0_SameLits_eq {xs ys:List QLit} (h:xs.length≤maxLen) (hm:∀ e∈xs,e.2.length≤maxLen):law0_SameLits xs ys=some (decide (xs=ys)):=by
 unfold law0_SameLits
 by_cases hl:xs.length=ys.length
 ·rw[show (((List.length xs:Nat):Int) != ((List.length ys:Nat):Int))=false from by simp [hl],cond_false,law0_SameLits_L0_go_at0 _ _ h,sameLits_go ys xs 0 hl hm,List.drop_zero]
  cases decide (xs=ys)<;>rfl
 ·rw[show (((List.length xs:Nat):Int) != ((List.length ys:Nat):Int))=true from by simp; omega,cond_true,decide_eq_false (by intro h; subst h; exact hl rfl)]
theorem sameRows_go (ys:List (List Int)):(es:List (List Int))→(i:Nat)→es.length=(ys.drop i).length→(∀ e∈es,e.length≤maxLen)→law0_SameRows_L0_go ys es i=some (cond (decide (es=ys.drop i)) (.inl ()) (.inr false))
 | [],i,h,_=>by
  have:ys.drop i=[]:=List.length_eq_zero_iff.1 h.symm
  rw[this]; rfl
 | e::es,i,h,hm=>by
  unfold law0_SameRows_L0_go
  rw[List.length_cons,List.length_drop] at h
  have hi:i<ys.length:=by omega
  rw[gx_nat,List.getElem?_eq_getElem hi,Option.bind_some,List.drop_eq_getElem_cons hi,law0_SameInts_eq (hm e (by simp)),Option.bind_some,sameRows_go ys es (i+1) (by rw[List.length_drop]; omega) (fun x hx=>hm x (by simp [hx]))]
  generalize ys[i]=y
  by_cases h1:e=y
  ·subst h1
   simp
  ·have:¬(e::es=y::ys.drop (i+1)):=fun h=>by injection h with h _; exact h1 h
   rw[decide_eq_false h1,decide_eq_false this]; rfl
theorem law0_SameRows_eq {xs ys:List (List Int)} (h:xs.length≤maxLen) (hm:∀ e∈xs,e.length≤maxLen):law0_SameRows xs ys=some (decide (xs=ys)):=by
 unfold law0_SameRows
 by_cases hl:xs.length=ys.length
 ·rw[show (((List.length xs:Nat):Int) != ((List.length ys:Nat):Int))=false from by simp [hl],cond_false,law0_SameRows_L0_go_at0 _ _ h,sameRows_go ys xs 0 hl hm,List.drop_zero]
  cases decide (xs=ys)<;>rfl
 ·rw[show (((List.length xs:Nat):Int) != ((List.length ys:Nat):Int))=true from by simp; omega,cond_true,decide_eq_false (by intro h; subst h; exact hl rfl)]
theorem law0_SameClause_refl {a0:List QLit} {a1:List (List Int)} {a2:List QLit} (h0:a0.length≤maxLen) (h0m:∀ e∈a0,e.2.length≤maxLen) (h1:a1.length≤maxLen) (h1m:∀ e∈a1,e.length≤maxLen) (h2:a2.length≤maxLen) (h2m:∀ e∈a2,e.2.length≤maxLen) :
  law0_SameClause a0 a1 a2 a0 a1 a2=some true:=by
 unfold law0_SameClause
 rw[law0_SameLits_eq h0 h0m,law0_SameRows_eq h1 h1m,law0_SameLits_eq h2 h2m]
 simp
end
end Go.Abs.Q
namespace Go.Abs.Q
open Go Go.Abs
def formula_SigMay_c1 (a0:Str) (_a1:Int) (_a2:Int) (_a3:Int):Option Bool :=
 cond (a0==([97,108,108]:Str))
 (some true)
 (some (a0==([101,120]:Str)))
def slices_IndexFunc_5_L0 (rec:((List QSym)×Int×Int)→Option (Unit⊕Int)) (x:((List QSym)×Int×Int)):Option (Unit⊕Int) :=
 cond (decide (x.2.2<x.2.1))
 ((gx x.1 x.2.2).bind fun e3 =>
  (formula_SigMay_c1 e3.1 e3.2.1 e3.2.2.1 e3.2.2.2).bind fun r4 =>
  cond r4
  (some (Sum.inr x.2.2))
  (rec (x.1,x.2.1,(IntKind.wrap .i64 (x.2.2+1)))))
 (some (Sum.inl ()))
def slices_IndexFunc_5 (a0:(List QSym)):Option Int :=
 ((lp slices_IndexFunc_5_L0 fuel) (a0,((List.length a0:Nat):Int),0)).bind fun r8 =>
 caseS r8
 (fun _z9=>some (-1))
 (fun z10=>some z10)
def slices_ContainsFunc_5 (a0:(List QSym)):Option Bool :=
 (slices_IndexFunc_5 a0).bind fun r2 =>
 some (decide (r2≥0))
def formula_SigMay (a0:(List QSym)):Option Bool :=
 (sign_May a0).bind fun r3 =>
 cond r3
 ((slices_ContainsFunc_5 a0).bind fun r4 =>
  some (!r4))
 (some false)
def formula_parts (a0:Int):Option Int :=
 cond (a0==0)
 (some 0)
 (cond (a0==1)
  (cond (a0==1)
   (some 1)
   (cond (a0==2)
    (cond (a0==2)
     (some 2)
     (some (-1)))
    (cond (a0==3)
     (cond (a0==3)
      (some 2)
      (some (-1)))
     (cond (a0==4)
      (some 2)
      (some (-1))))))
  (cond (a0==5)
   (cond (a0==5)
    (some 1)
    (cond (a0==2)
     (cond (a0==2)
      (some 2)
      (some (-1)))
     (cond (a0==3)
      (cond (a0==3)
       (some 2)
       (some (-1)))
      (cond (a0==4)
       (some 2)
       (some (-1))))))
   (cond (a0==6)
    (some 1)
    (cond (a0==2)
     (cond (a0==2)
      (some 2)
      (some (-1)))
     (cond (a0==3)
      (cond (a0==3)
       (some 2)
       (some (-1)))
      (cond (a0==4)
       (some 2)
       (some (-1))))))))
def formula_nodeMay (a0:(List QSym)) (a1:Int) (a2:Int) (a3:(List Int)):Option Bool :=
 cond (a1==0)
 (cond (a2==0)
  ((term_IsAtom a0 a3).bind fun r2 =>
   some r2)
  (some false))
 (cond (a1==5)
  (cond (a1==5)
   (cond (decide (a2≥0))
    (cond (decide (a2≤23))
     (some (((List.length a3:Nat):Int)==0))
     (some false))
    (some false))
   (cond (a2==0)
    (some (((List.length a3:Nat):Int)==0))
    (some false)))
  (cond (a1==6)
   (cond (decide (a2≥0))
    (cond (decide (a2≤23))
     (some (((List.length a3:Nat):Int)==0))
     (some false))
    (some false))
   (cond (a2==0)
    (some (((List.length a3:Nat):Int)==0))
    (some false))))
def formula_May_L0 (rec:((List QSym)×Int×(List (Int×Int×(List Int)))×Int×Int)→Option (Int⊕Bool)) (x:((List QSym)×Int×(List (Int×Int×(List Int)))×Int×Int)):Option (Int⊕Bool) :=
 cond (decide (x.2.2.2.2<x.2.2.2.1))
 ((gx x.2.2.1 x.2.2.2.2).bind fun e5 =>
  (formula_parts e5.1).bind fun r6 =>
  cond (x.2.1==0)
  (some (Sum.inr false))
  (cond (decide (r6<0))
   (some (Sum.inr false))
   ((formula_nodeMay x.1 e5.1 e5.2.1 e5.2.2).bind fun r7 =>
    cond (!r7)
    (some (Sum.inr false))
    (rec (x.1,(IntKind.wrap .i64 (x.2.1+(IntKind.wrap .i64 (r6 - 1)))),x.2.2.1,x.2.2.2.1,(IntKind.wrap .i64 (x.2.2.2.2+1)))))))
 (some (Sum.inl x.2.1))
def formula_May (a0:(List QSym)) (a1:(List (Int×Int×(List Int)))):Option Bool :=
 (formula_SigMay a0).bind fun r11 =>
 cond (!r11)
 (some false)
 (cond (((List.length a1:Nat):Int)==0)
  (some false)
  (cond (decide (((List.length a1:Nat):Int)>40))
   (some false)
   (((lp formula_May_L0 fuel) (a0,1,a1,((List.length a1:Nat):Int),0)).bind fun r12 =>
    caseS r12
    (fun z13=>some (z13==0))
    (fun z14=>some z14))))
end Go.Abs.Q
namespace Go.Abs.Q
open Go Go.Abs
def slices_IndexFunc_5_L0_go:List QSym→Nat→Option (Unit⊕Int)
 | [],_i=>some (Sum.inl ())
 | e::es,i =>
  (formula_SigMay_c1 e.1 e.2.1 e.2.2.1 e.2.2.2).bind fun r4 =>
  cond r4
  (some (Sum.inr (i:Int)))
  (slices_IndexFunc_5_L0_go es (i+1))
theorem slices_IndexFunc_5_L0_go_at0 (s0:(List QSym)) (hl:List.length s0≤maxLen):lp slices_IndexFunc_5_L0 fuel (s0,((List.length s0:Nat):Int),0)=slices_IndexFunc_5_L0_go s0 0:=rngl0 slices_IndexFunc_5_L0 (fun i=>(s0,((List.length s0:Nat):Int),i)) (fun es i=>slices_IndexFunc_5_L0_go es i) hl (fun r i h=>by unfold slices_IndexFunc_5_L0 slices_IndexFunc_5_L0_go; simp only[h,cond_false]) (fun r i e es h g w k=>by unfold slices_IndexFunc_5_L0 slices_IndexFunc_5_L0_go; simp only[h,cond_true,g,Option.bind_some,w,k])
def formula_May_L0_go (s0:(List QSym)):List (Int×Int×(List Int))→Int→Option (Int⊕Bool)
 | [],s1=>some (Sum.inl s1)
 | e::es,s1 =>
  (formula_parts e.1).bind fun r6 =>
  cond (s1==0)
  (some (Sum.inr false))
  (cond (decide (r6<0))
   (some (Sum.inr false))
   ((formula_nodeMay s0 e.1 e.2.1 e.2.2).bind fun r7 =>
    cond (!r7)
    (some (Sum.inr false))
    (formula_May_L0_go s0 es (IntKind.wrap .i64 (s1+(IntKind.wrap .i64 (r6 - 1)))))))
theorem formula_May_L0_go_at0 (s0:(List QSym)) (s2:(List (Int×Int×(List Int)))) (s1:Int) (hl:List.length s2≤maxLen):lp formula_May_L0 fuel (s0,s1,s2,((List.length s2:Nat):Int),0)=formula_May_L0_go s0 s2 s1:=rngl1 formula_May_L0 (fun i s1=>(s0,s1,s2,((List.length s2:Nat):Int),i)) (fun es i s1=>formula_May_L0_go s0 es s1) hl (fun r i s1 h=>by unfold formula_May_L0 formula_May_L0_go; simp only[h,cond_false]) (fun r i s1 e es h g w k=>by unfold formula_May_L0 formula_May_L0_go; simp only[h,cond_true,g,Option.bind_some,w,k]) s1
end Go.Abs.Q
namespace Go.Abs.Q
open Go Go.Abs
section
def bindName (s:Str):Bool:=s==[97,108,108]||s==[101,120]
def sigB (a0:List QSym):Bool:=signB a0 && !(a0.any fun e=>bindName e.1)
theorem sig_go:(es:List QSym)→(i:Nat)→((es.any fun e=>bindName e.1)=true→∃ j:Nat,slices_IndexFunc_5_L0_go es i=some (.inr (j:Int)))∧((es.any fun e=>bindName e.1)=false→slices_IndexFunc_5_L0_go es i=some (.inl ()))
 | [],_=>⟨fun h=>(by cases h),fun _=>rfl⟩
 | e::es,i=>by
  have hr:=sig_go es (i+1)
  have hc:formula_SigMay_c1 e.1 e.2.1 e.2.2.1 e.2.2.2=some (bindName e.1):=by
   unfold formula_SigMay_c1 bindName
   cases (e.1==([97,108,108]:Str))<;>rfl
  unfold slices_IndexFunc_5_L0_go
  rw[List.any_cons,hc,Option.bind_some]
  cases bindName e.1 with
  | true=>exact ⟨fun _=>⟨i,rfl⟩,fun h=>(by cases h)⟩
  | false=>exact hr
theorem formula_SigMay_eq (a0:List QSym):formula_SigMay a0=some (sigB a0):=by
 unfold formula_SigMay sigB
 rw[sign_May_eq,Option.bind_some]
 cases hs:signB a0 with
 | false=>rfl
 | true =>
  have hS:=signB_ok hs
  obtain⟨h1,h2⟩:=sig_go a0 0
  have hc:slices_ContainsFunc_5 a0=some (a0.any fun e=>bindName e.1):=by
   unfold slices_ContainsFunc_5 slices_IndexFunc_5
   rw[slices_IndexFunc_5_L0_go_at0 _ hS.max]
   cases hb:a0.any fun e=>bindName e.1 with
   | true =>
    obtain⟨j,hj⟩:=h1 hb
    rw[hj]
    show some (decide ((j:Int)≥0))=some true
    rw[decide_eq_true (by omega)]
   | false=>rw[h2 hb]; rfl
  rw[cond_true,hc]; rfl
end
end Go.Abs.Q
namespace Go.Abs.Q
open Go Go.Abs
def unify_run_pairs_1_L0 (rec:((List (List Int))×(List (List Int))×Int×Int×(List ((List Int)×Int×(List Int)×Int))×(List Int)×Int×(List Int)×Int)→Option (List ((List Int)×Int×(List Int)×Int))) (x:((List (List Int))×(List (List Int))×Int×Int×(List ((List Int)×Int×(List Int)×Int))×(List Int)×Int×(List Int)×Int)):Option (List ((List Int)×Int×(List Int)×Int)) :=
 cond (decide (x.2.2.2.1<x.2.2.1))
 ((gx x.1 x.2.2.2.1).bind fun e7 =>
  (gx x.2.1 x.2.2.2.1).bind fun e8 =>
  cond (room (List.length x.2.2.2.2.1+List.length ([(e7,x.2.2.2.2.2.2.1,e8,x.2.2.2.2.2.2.2.2)]:List ((List Int)×Int×(List Int)×Int))) 64)
  (rec (x.1,x.2.1,x.2.2.1,(IntKind.wrap .i64 (x.2.2.2.1+1)),(x.2.2.2.2.1++([(e7,x.2.2.2.2.2.2.1,e8,x.2.2.2.2.2.2.2.2)]:List ((List Int)×Int×(List Int)×Int))),x.2.2.2.2.2.1,x.2.2.2.2.2.2.1,x.2.2.2.2.2.2.2.1,x.2.2.2.2.2.2.2.2))
  (none))
 (some x.2.2.2.2.1)
def unify_run_pairs_1 (a0:(List Int)) (a1:Int) (a2:(List Int)) (a3:Int) (a4:(List QSym)) (_a5:(List ((Option (List Int))×Int))) (a6:(List ((List Int)×Int×(List Int)×Int))):Option (List ((List Int)×Int×(List Int)×Int)) :=
 (term_Pieces a4 a0).bind fun r10 =>
 (term_Pieces a4 a2).bind fun r11 =>
 ((lp unify_run_pairs_1_L0 fuel) (r10,r11,((List.length r10:Nat):Int),0,a6,a0,a1,a2,a3)).bind fun r12 =>
 some r12
def unify_piece_number (_a0:(List Int)) (a1:Int) (a2:Int):Option Int :=
 (term_Number a2).bind fun r2 =>
 some (IntKind.wrap .i64 (r2+a1))
def unify_run_what_L0 (rec:((List QSym)×(List ((Option (List Int))×Int))×(List Int)×Int×Int)→Option ((List Int)×Int)) (x:((List QSym)×(List ((Option (List Int))×Int))×(List Int)×Int×Int)):Option ((List Int)×Int) :=
 (gx x.2.2.1 0).bind fun e6 =>
 cond (decide (e6<0))
 ((gx x.2.2.1 0).bind fun e7 =>
  (unify_piece_number x.2.2.1 x.2.2.2.1 e7).bind fun r8 =>
  (inR r8 48).bind fun k9 =>
  (x.2.1[k9]?).bind fun x10 =>
  cond (Option.isNone x10.1)
  (some (x.2.2.1,x.2.2.2.1))
  (rec (x.1,x.2.1,(Option.getD x10.1 []),x10.2,x.2.2.2.2)))
 (some (x.2.2.1,x.2.2.2.1))
def unify_run_what (a0:(List Int)) (a1:Int) (a2:(List QSym)) (a3:(List ((Option (List Int))×Int))):Option ((List Int)×Int) :=
 ((lp unify_run_what_L0 fuel) (a2,a3,a0,a1,0)).bind fun r12 =>
 some (r12.1,r12.2)
def unify_run_within_L0 (rec:(Int×(List Int)×Int×Int×(List QSym)×(List ((Option (List Int))×Int))×(List Int)×Int×(List Bool)×(List ((List Int)×Int)))→Option (((List Bool)×(List ((List Int)×Int)))⊕Bool)) (x:(Int×(List Int)×Int×Int×(List QSym)×(List ((Option (List Int))×Int))×(List Int)×Int×(List Bool)×(List ((List Int)×Int)))):Option (((List Bool)×(List ((List Int)×Int)))⊕Bool) :=
 cond (decide (x.2.2.2.1<x.2.2.1))
 ((gx x.2.1 x.2.2.2.1).bind fun e14 =>
  cond (decide (e14≥0))
  (rec (x.1,x.2.1,x.2.2.1,(IntKind.wrap .i64 (x.2.2.2.1+1)),x.2.2.2.2.1,x.2.2.2.2.2.1,x.2.2.2.2.2.2.1,x.2.2.2.2.2.2.2.1,x.2.2.2.2.2.2.2.2.1,x.2.2.2.2.2.2.2.2.2))
  ((unify_piece_number x.2.2.2.2.2.2.1 x.2.2.2.2.2.2.2.1 e14).bind fun r15 =>
   cond (r15==x.1)
   (some (Sum.inr true))
   ((inR r15 48).bind fun k16 =>
    (x.2.2.2.2.2.2.2.2.1[k16]?).bind fun x17 =>
    cond (!x17)
    ((inR r15 48).bind fun k18 =>
     (x.2.2.2.2.2.1[k18]?).bind fun x19 =>
     cond (!(Option.isNone x19.1))
     ((inR r15 48).bind fun k20 =>
      (x.2.2.2.2.2.2.2.2.1[k20]?).bind fun _x21 =>
      (inR r15 48).bind fun k22 =>
      (x.2.2.2.2.2.1[k22]?).bind fun x23 =>
      cond (room (List.length x.2.2.2.2.2.2.2.2.2+List.length ([((Option.getD x23.1 []),x23.2)]:List ((List Int)×Int))) 32)
      (rec (x.1,x.2.1,x.2.2.1,(IntKind.wrap .i64 (x.2.2.2.1+1)),x.2.2.2.2.1,x.2.2.2.2.2.1,x.2.2.2.2.2.2.1,x.2.2.2.2.2.2.2.1,(List.set x.2.2.2.2.2.2.2.2.1 k20 true),(x.2.2.2.2.2.2.2.2.2++([((Option.getD x23.1 []),x23.2)]:List ((List Int)×Int)))))
      (none))
     (rec (x.1,x.2.1,x.2.2.1,(IntKind.wrap .i64 (x.2.2.2.1+1)),x.2.2.2.2.1,x.2.2.2.2.2.1,x.2.2.2.2.2.2.1,x.2.2.2.2.2.2.2.1,x.2.2.2.2.2.2.2.2.1,x.2.2.2.2.2.2.2.2.2)))
    (rec (x.1,x.2.1,x.2.2.1,(IntKind.wrap .i64 (x.2.2.2.1+1)),x.2.2.2.2.1,x.2.2.2.2.2.1,x.2.2.2.2.2.2.1,x.2.2.2.2.2.2.2.1,x.2.2.2.2.2.2.2.2.1,x.2.2.2.2.2.2.2.2.2)))))
 (some (Sum.inl (x.2.2.2.2.2.2.2.2.1,x.2.2.2.2.2.2.2.2.2)))
def unify_run_within_L1 (rec:(Int×(List QSym)×(List ((Option (List Int))×Int))×(List Int)×Int×(List Bool)×(List ((List Int)×Int)))→Option (Unit⊕Bool)) (x:(Int×(List QSym)×(List ((Option (List Int))×Int))×(List Int)×Int×(List Bool)×(List ((List Int)×Int)))):Option (Unit⊕Bool) :=
 cond (decide (((List.length x.2.2.2.2.2.2:Nat):Int)>0))
 ((inR (IntKind.wrap .i64 (((List.length x.2.2.2.2.2.2:Nat):Int) - 1)) (List.length x.2.2.2.2.2.2)).bind fun k32 =>
  (x.2.2.2.2.2.2[k32]?).bind fun x33 =>
  (slc2 x.2.2.2.2.2.2 none (some (IntKind.wrap .i64 (((List.length x.2.2.2.2.2.2:Nat):Int) - 1)))).bind fun y34 =>
  ((lp unify_run_within_L0 fuel) (x.1,x33.1,((List.length x33.1:Nat):Int),0,x.2.1,x.2.2.1,x33.1,x33.2,x.2.2.2.2.2.1,y34)).bind fun r35 =>
  caseS r35
  (fun z36=>rec (x.1,x.2.1,x.2.2.1,x33.1,x33.2,z36.1,z36.2))
  (fun z37=>some (Sum.inr z37)))
 (some (Sum.inl ()))
def unify_run_within (a0:Int) (a1:(List Int)) (a2:Int) (a3:(List QSym)) (a4:(List ((Option (List Int))×Int))):Option Bool :=
 ((lp unify_run_within_L1 fuel) (a0,a3,a4,a1,a2,(List.replicate 48 false),([(a1,a2)]:List ((List Int)×Int)))).bind fun r41 =>
 caseS r41
 (fun _z42=>some false)
 (fun z43=>some z43)
def unify_run_put_1 (a0:(List Int)) (a1:Int) (a2:(List Int)) (a3:Int) (a4:(List QSym)) (a5:(List ((Option (List Int))×Int))):Option (Bool×(List QSym)×(List ((Option (List Int))×Int))) :=
 (gx a0 0).bind fun e16 =>
 (unify_piece_number a0 a1 e16).bind fun r17 =>
 (gx a2 0).bind fun e18 =>
 cond (decide (e18≥0))
 ((unify_run_within r17 a2 a3 a4 a5).bind fun r19 =>
  cond r19
  (some (false,a4,a5))
  ((inR r17 48).bind fun k20 =>
   (a5[k20]?).bind fun _x21 =>
   (nn a2).bind fun p22 =>
   some (true,a4,(List.set a5 k20 ((some p22),a3)))))
 ((gx a2 0).bind fun e23 =>
  (unify_piece_number a2 a3 e23).bind fun r24 =>
  cond (decide (r24>r17))
  ((inR r24 48).bind fun k25 =>
   (a5[k25]?).bind fun _x26 =>
   (nn a0).bind fun p27 =>
   some (true,a4,(List.set a5 k25 ((some p27),a1))))
  (cond (decide (r24<r17))
   ((inR r17 48).bind fun k28 =>
    (a5[k28]?).bind fun _x29 =>
    (nn a2).bind fun p30 =>
    some (true,a4,(List.set a5 k28 ((some p30),a3))))
   (some (true,a4,a5))))
def unify_run_same_1_L0 (rec:((List QSym)×(List ((Option (List Int))×Int))×(List ((List Int)×Int×(List Int)×Int)))→Option (Bool×(List QSym)×(List ((Option (List Int))×Int)))) (x:((List QSym)×(List ((Option (List Int))×Int))×(List ((List Int)×Int×(List Int)×Int)))):Option (Bool×(List QSym)×(List ((Option (List Int))×Int))) :=
 cond (((List.length x.2.2:Nat):Int)==0)
 (some (true,x.1,x.2.1))
 ((inR (IntKind.wrap .i64 (((List.length x.2.2:Nat):Int) - 1)) (List.length x.2.2)).bind fun k27 =>
  (x.2.2[k27]?).bind fun x28 =>
  (unify_run_what x28.1 x28.2.1 x.1 x.2.1).bind fun r29 =>
  (inR (IntKind.wrap .i64 (((List.length x.2.2:Nat):Int) - 1)) (List.length x.2.2)).bind fun k30 =>
  (x.2.2[k30]?).bind fun x31 =>
  (unify_run_what x31.2.2.1 x31.2.2.2 x.1 x.2.1).bind fun r32 =>
  (slc2 x.2.2 none (some (IntKind.wrap .i64 (((List.length x.2.2:Nat):Int) - 1)))).bind fun y33 =>
  (gx r29.1 0).bind fun e34 =>
  cond (decide (e34<0))
  ((unify_run_put_1 r29.1 r29.2 r32.1 r32.2 x.1 x.2.1).bind fun r35 =>
   cond r35.1
   (rec (r35.2.1,r35.2.2,y33))
   (some (false,r35.2.1,r35.2.2)))
  ((gx r32.1 0).bind fun e36 =>
   cond (decide (e36<0))
   ((unify_run_put_1 r32.1 r32.2 r29.1 r29.2 x.1 x.2.1).bind fun r37 =>
    cond r37.1
    (rec (r37.2.1,r37.2.2,y33))
    (some (false,r37.2.1,r37.2.2)))
   ((gx r29.1 0).bind fun e38 =>
    (gx r32.1 0).bind fun e39 =>
    cond (e38 != e39)
    (some (false,x.1,x.2.1))
    ((slc2 r29.1 (some 1) none).bind fun y40 =>
     (slc2 r32.1 (some 1) none).bind fun y41 =>
     (unify_run_pairs_1 y40 r29.2 y41 r32.2 x.1 x.2.1 y33).bind fun r42 =>
     rec (x.1,x.2.1,r42)))))
def unify_run_same_1 (a0:(List Int)) (a1:Int) (a2:(List Int)) (a3:Int) (a4:(List QSym)) (a5:(List ((Option (List Int))×Int))):Option (Bool×(List QSym)×(List ((Option (List Int))×Int))) :=
 (unify_run_pairs_1 a0 a1 a2 a3 a4 a5 ([]:(List ((List Int)×Int×(List Int)×Int)))).bind fun r53 =>
 cond (((List.length r53:Nat):Int)==0)
 (some (true,a4,a5))
 ((inR (IntKind.wrap .i64 (((List.length r53:Nat):Int) - 1)) (List.length r53)).bind fun k54 =>
  (r53[k54]?).bind fun x55 =>
  (unify_run_what x55.1 x55.2.1 a4 a5).bind fun r56 =>
  (inR (IntKind.wrap .i64 (((List.length r53:Nat):Int) - 1)) (List.length r53)).bind fun k57 =>
  (r53[k57]?).bind fun x58 =>
  (unify_run_what x58.2.2.1 x58.2.2.2 a4 a5).bind fun r59 =>
  (slc2 r53 none (some (IntKind.wrap .i64 (((List.length r53:Nat):Int) - 1)))).bind fun y60 =>
  (gx r56.1 0).bind fun e61 =>
  cond (decide (e61<0))
  ((unify_run_put_1 r56.1 r56.2 r59.1 r59.2 a4 a5).bind fun r62 =>
   cond r62.1
   ((((lp unify_run_same_1_L0 fuel) (r62.2.1,r62.2.2,y60))).bind fun r63 =>
    some (r63.1,r63.2.1,r63.2.2))
   (some (false,r62.2.1,r62.2.2)))
  ((gx r59.1 0).bind fun e64 =>
   cond (decide (e64<0))
   ((unify_run_put_1 r59.1 r59.2 r56.1 r56.2 a4 a5).bind fun r65 =>
    cond r65.1
    ((((lp unify_run_same_1_L0 fuel) (r65.2.1,r65.2.2,y60))).bind fun r66 =>
     some (r66.1,r66.2.1,r66.2.2))
    (some (false,r65.2.1,r65.2.2)))
   ((gx r56.1 0).bind fun e67 =>
    (gx r59.1 0).bind fun e68 =>
    cond (e67 != e68)
    (some (false,a4,a5))
    ((slc2 r56.1 (some 1) none).bind fun y69 =>
     (slc2 r59.1 (some 1) none).bind fun y70 =>
     (unify_run_pairs_1 y69 r56.2 y70 r59.2 a4 a5 y60).bind fun r71 =>
     (((lp unify_run_same_1_L0 fuel) (a4,a5,r71))).bind fun r72 =>
     some (r72.1,r72.2.1,r72.2.2)))))
def unify_piece_number_1 (_a0:(Option (List Int))) (a1:Int) (a2:Int):Option Int :=
 (term_Number a2).bind fun r2 =>
 some (IntKind.wrap .i64 (r2+a1))
def unify_run_whole_L0 (rf:(((Option (List Int))×Int×(List QSym)×(List ((Option (List Int))×Int)))→Option (Option (List Int)))) (rec:((Option (List Int))×Int×Int×(List QSym)×(List ((Option (List Int))×Int))×(Option (List Int))×Int×(List Int))→Option ((List Int)⊕Unit)) (x:((Option (List Int))×Int×Int×(List QSym)×(List ((Option (List Int))×Int))×(Option (List Int))×Int×(List Int))):Option ((List Int)⊕Unit) :=
 cond (decide (x.2.2.1<x.2.1))
 ((gx (Option.getD x.1 []) x.2.2.1).bind fun e27 =>
  cond (decide (e27<0))
  ((unify_piece_number_1 x.2.2.2.2.2.1 x.2.2.2.2.2.2.1 e27).bind fun r28 =>
   (inR r28 48).bind fun k29 =>
   (x.2.2.2.2.1[k29]?).bind fun x30 =>
   cond (!(Option.isNone x30.1))
   ((unify_piece_number_1 x.2.2.2.2.2.1 x.2.2.2.2.2.2.1 e27).bind fun r31 =>
    (inR r31 48).bind fun k32 =>
    (x.2.2.2.2.1[k32]?).bind fun x33 =>
    (rf (x33.1,x33.2,x.2.2.2.1,x.2.2.2.2.1)).bind fun r34 =>
    cond (Option.isNone r34)
    (some (Sum.inr ()))
    (cond (decide ((IntKind.wrap .i64 (((List.length x.2.2.2.2.2.2.2:Nat):Int)+((List.length (Option.getD r34 []):Nat):Int)))>48))
     (some (Sum.inr ()))
     (cond (room (List.length x.2.2.2.2.2.2.2+List.length (Option.getD r34 [])) 8)
      (rec (x.1,x.2.1,(IntKind.wrap .i64 (x.2.2.1+1)),x.2.2.2.1,x.2.2.2.2.1,x.2.2.2.2.2.1,x.2.2.2.2.2.2.1,(x.2.2.2.2.2.2.2++(Option.getD r34 []))))
      (none))))
   ((((nn ([e27]:List Int)).bind fun _ =>
     some false)).bind fun z35 =>
    cond z35
    (some (Sum.inr ()))
    (cond (decide ((IntKind.wrap .i64 (((List.length x.2.2.2.2.2.2.2:Nat):Int)+((List.length ([e27]:List Int):Nat):Int)))>48))
     (some (Sum.inr ()))
     (cond (room (List.length x.2.2.2.2.2.2.2+List.length ([e27]:List Int)) 8)
      (rec (x.1,x.2.1,(IntKind.wrap .i64 (x.2.2.1+1)),x.2.2.2.1,x.2.2.2.2.1,x.2.2.2.2.2.1,x.2.2.2.2.2.2.1,(x.2.2.2.2.2.2.2++([e27]:List Int))))
      (none)))))
  ((((nn ([e27]:List Int)).bind fun _ =>
    some false)).bind fun z36 =>
   cond z36
   (some (Sum.inr ()))
   (cond (decide ((IntKind.wrap .i64 (((List.length x.2.2.2.2.2.2.2:Nat):Int)+((List.length ([e27]:List Int):Nat):Int)))>48))
    (some (Sum.inr ()))
    (cond (room (List.length x.2.2.2.2.2.2.2+List.length ([e27]:List Int)) 8)
     (rec (x.1,x.2.1,(IntKind.wrap .i64 (x.2.2.1+1)),x.2.2.2.1,x.2.2.2.2.1,x.2.2.2.2.2.1,x.2.2.2.2.2.2.1,(x.2.2.2.2.2.2.2++([e27]:List Int))))
     (none)))))
 (some (Sum.inl x.2.2.2.2.2.2.2))
def unify_run_whole_S (rf:(((Option (List Int))×Int×(List QSym)×(List ((Option (List Int))×Int)))→Option (Option (List Int)))) (a0:(Option (List Int))) (a1:Int) (a2:(List QSym)) (a3:(List ((Option (List Int))×Int))):Option (Option (List Int)) :=
 ((lp (unify_run_whole_L0 rf) fuel) (a0,((List.length (Option.getD a0 []):Nat):Int),0,a2,a3,a0,a1,([]:(List Int)))).bind fun r40 =>
 caseS r40
 (fun z41=>((nn z41).bind fun z=>some ((2:Nat),some z)).bind fun p42 =>
  some p42.2)
 (fun _z43=>some (none:(Option (List Int))))
def unify_run_whole_R_step (rf:(((Option (List Int))×Int×(List QSym)×(List ((Option (List Int))×Int)))→Option (Option (List Int)))):(((Option (List Int))×Int×(List QSym)×(List ((Option (List Int))×Int)))→Option (Option (List Int))) :=
 fun (x:((Option (List Int))×Int×(List QSym)×(List ((Option (List Int))×Int))))=>unify_run_whole_S rf x.1 x.2.1 x.2.2.1 x.2.2.2
def unify_run_whole_R_base:(((Option (List Int))×Int×(List QSym)×(List ((Option (List Int))×Int)))→Option (Option (List Int))):=fun _=>none
def unify_run_whole_R (k:Nat):(((Option (List Int))×Int×(List QSym)×(List ((Option (List Int))×Int)))→Option (Option (List Int))):=lpR unify_run_whole_R_base unify_run_whole_R_step k
def unify_run_whole (a0:(Option (List Int))) (a1:Int) (a2:(List QSym)) (a3:(List ((Option (List Int))×Int))):Option (Option (List Int)):=(unify_run_whole_R fuel) (a0,a1,a2,a3)
def unify_Unify_L0 (rec:(Int×(List QSym)×(List ((Option (List Int))×Int))×(List (Int×(List Int))))→Option ((List (Int×(List Int)))⊕(Bool×Int))) (x:(Int×(List QSym)×(List ((Option (List Int))×Int))×(List (Int×(List Int))))):Option ((List (Int×(List Int)))⊕(Bool×Int)) :=
 cond (decide (x.1<24))
 ((inR x.1 48).bind fun k16 =>
  (x.2.2.1[k16]?).bind fun x17 =>
  cond (Option.isNone x17.1)
  (rec ((IntKind.wrap .i64 (x.1+1)),x.2.1,x.2.2.1,x.2.2.2))
  ((inR x.1 48).bind fun k18 =>
   (x.2.2.1[k18]?).bind fun x19 =>
   (unify_run_whole x19.1 x19.2 x.2.1 x.2.2.1).bind fun r20 =>
   cond (Option.isNone r20)
   (some (Sum.inr (false,401)))
   ((slices_CloneN (Option.getD r20 [])).bind fun r21 =>
    cond (room (List.length x.2.2.2+List.length ([(x.1,r21)]:List (Int×(List Int)))) 32)
    (rec ((IntKind.wrap .i64 (x.1+1)),x.2.1,x.2.2.1,(x.2.2.2++([(x.1,r21)]:List (Int×(List Int))))))
    (none))))
 (some (Sum.inl x.2.2.2))
def unify_Unify (a0:(List QSym)) (a1:(List Int)) (a2:(List Int)):Option (Bool×Int×(List (Int×(List Int)))) :=
 (term_Row a0 a1).bind fun r25 =>
 (term_Row a0 a2).bind fun r26 =>
 cond (r25.2 != 0)
 (some (false,400,([]:(List (Int×(List Int))))))
 (cond (r26.2 != 0)
  (some (false,400,([]:(List (Int×(List Int))))))
  (cond (r25.1 != r26.1)
   (some (false,0,([]:(List (Int×(List Int))))))
   ((unify_run_same_1 a1 0 a2 0 a0 (List.replicate 48 ((none:(Option (List Int))),(0:Int)))).bind fun r27 =>
    cond (!r27.1)
    (some (false,0,([]:(List (Int×(List Int))))))
    (((lp unify_Unify_L0 fuel) (0,r27.2.1,r27.2.2,([]:(List (Int×(List Int)))))).bind fun r28 =>
     caseS r28
     (fun z29=>some (true,0,z29))
     (fun z30=>some (z30.1,z30.2,([]:(List (Int×(List Int))))))))))
def slices_Grow (a0:Int):Option (List (List Int)) :=
 cond (decide (a0<0))
 (none)
 (cond (decide ((IntKind.wrap .i64 (a0 - 0))>0))
  (cond (eqI 0 0&&eqI 0 0)
   (cond (posI (IntKind.wrap .i64 (a0 - 0)))
    (cond (room (Int.toNat (IntKind.wrap .i64 (a0 - 0))) 24)
     ((slc2 (List.replicate (Int.toNat (IntKind.wrap .i64 (a0 - 0))) ([]:(List Int))) none (some 0)).bind fun y2 =>
      some y2)
     (none))
    (none))
   (none))
  (some ([]:(List (List Int)))))
def slices_Concat_L1 (rec:((List (List (List Int)))×Int×Int×(List (List Int)))→Option (List (List Int))) (x:((List (List (List Int)))×Int×Int×(List (List Int)))):Option (List (List Int)) :=
 cond (decide (x.2.2.1<x.2.1))
 ((gx x.1 x.2.2.1).bind fun e7 =>
  cond (room (List.length x.2.2.2+List.length e7) 24)
  (rec (x.1,x.2.1,(IntKind.wrap .i64 (x.2.2.1+1)),(x.2.2.2++e7)))
  (none))
 (some x.2.2.2)
def slices_Concat_L0 (rec:((List (List (List Int)))×Int×(List (List (List Int)))×Int×Int)→Option Int) (x:((List (List (List Int)))×Int×(List (List (List Int)))×Int×Int)):Option Int :=
 cond (decide (x.2.2.2.2<x.2.2.2.1))
 ((gx x.2.2.1 x.2.2.2.2).bind fun e2 =>
  cond (decide ((IntKind.wrap .i64 (x.2.1+((List.length e2:Nat):Int)))<0))
  (none)
  (rec (x.1,(IntKind.wrap .i64 (x.2.1+((List.length e2:Nat):Int))),x.2.2.1,x.2.2.2.1,(IntKind.wrap .i64 (x.2.2.2.2+1)))))
 (some x.2.1)
def slices_Concat (a0:(List (List (List Int)))):Option (List (List Int)) :=
 ((lp slices_Concat_L0 fuel) (a0,0,a0,((List.length a0:Nat):Int),0)).bind fun r9 =>
 (slices_Grow r9).bind fun r10 =>
 ((lp slices_Concat_L1 fuel) (a0,((List.length a0:Nat):Int),0,r10)).bind fun r11 =>
 some r11
def slices_Grow_1 (a0:Int):Option (List QLit) :=
 cond (decide (a0<0))
 (none)
 (cond (decide ((IntKind.wrap .i64 (a0 - 0))>0))
  (cond (eqI 0 0&&eqI 0 0)
   (cond (posI (IntKind.wrap .i64 (a0 - 0)))
    (cond (room (Int.toNat (IntKind.wrap .i64 (a0 - 0))) 32)
     ((slc2 (List.replicate (Int.toNat (IntKind.wrap .i64 (a0 - 0))) (false,([]:(List Int)))) none (some 0)).bind fun y2 =>
      some y2)
     (none))
    (none))
   (none))
  (some ([]:(List QLit))))
def slices_Concat_1_L1 (rec:((List (List QLit))×Int×Int×(List QLit))→Option (List QLit)) (x:((List (List QLit))×Int×Int×(List QLit))):Option (List QLit) :=
 cond (decide (x.2.2.1<x.2.1))
 ((gx x.1 x.2.2.1).bind fun e7 =>
  cond (room (List.length x.2.2.2+List.length e7) 32)
  (rec (x.1,x.2.1,(IntKind.wrap .i64 (x.2.2.1+1)),(x.2.2.2++e7)))
  (none))
 (some x.2.2.2)
def slices_Concat_1_L0 (rec:((List (List QLit))×Int×(List (List QLit))×Int×Int)→Option Int) (x:((List (List QLit))×Int×(List (List QLit))×Int×Int)):Option Int :=
 cond (decide (x.2.2.2.2<x.2.2.2.1))
 ((gx x.2.2.1 x.2.2.2.2).bind fun e2 =>
  cond (decide ((IntKind.wrap .i64 (x.2.1+((List.length e2:Nat):Int)))<0))
  (none)
  (rec (x.1,(IntKind.wrap .i64 (x.2.1+((List.length e2:Nat):Int))),x.2.2.1,x.2.2.2.1,(IntKind.wrap .i64 (x.2.2.2.2+1)))))
 (some x.2.1)
def slices_Concat_1 (a0:(List (List QLit))):Option (List QLit) :=
 ((lp slices_Concat_1_L0 fuel) (a0,0,a0,((List.length a0:Nat):Int),0)).bind fun r9 =>
 (slices_Grow_1 r9).bind fun r10 =>
 ((lp slices_Concat_1_L1 fuel) (a0,((List.length a0:Nat):Int),0,r10)).bind fun r11 =>
 some r11
def resolve_Both_L1 (rec:(Int×(List QLit)×Int×Int×(List (List Int))×(List QLit)×(List QLit))→Option ((List (List Int))×(List QLit)×(List QLit))) (x:(Int×(List QLit)×Int×Int×(List (List Int))×(List QLit)×(List QLit))):Option ((List (List Int))×(List QLit)×(List QLit)) :=
 cond (decide (x.2.2.2.1<x.2.2.1))
 ((gx x.2.1 x.2.2.2.1).bind fun e8 =>
  cond (x.2.2.2.1 != x.1)
  (cond (room (List.length x.2.2.2.2.2.1+List.length ([(e8.1,e8.2)]:List QLit)) 32)
   (rec (x.1,x.2.1,x.2.2.1,(IntKind.wrap .i64 (x.2.2.2.1+1)),x.2.2.2.2.1,(x.2.2.2.2.2.1++([(e8.1,e8.2)]:List QLit)),x.2.2.2.2.2.2))
   (none))
  (rec (x.1,x.2.1,x.2.2.1,(IntKind.wrap .i64 (x.2.2.2.1+1)),x.2.2.2.2.1,x.2.2.2.2.2.1,x.2.2.2.2.2.2)))
 (some (x.2.2.2.2.1,x.2.2.2.2.2.1,x.2.2.2.2.2.2))
def resolve_Both_L0 (rec:(Int×Int×(List QLit)×Int×Int×(List QLit)×(List (List Int))×(List QLit)×(List (List Int))×(List QLit)×(List QLit))→Option ((List (List Int))×(List QLit)×(List QLit))) (x:(Int×Int×(List QLit)×Int×Int×(List QLit)×(List (List Int))×(List QLit)×(List (List Int))×(List QLit)×(List QLit))):Option ((List (List Int))×(List QLit)×(List QLit)) :=
 cond (decide (x.2.2.2.2.1<x.2.2.2.1))
 ((gx x.2.2.1 x.2.2.2.2.1).bind fun e5 =>
  cond (x.2.2.2.2.1 != x.1)
  (cond (room (List.length x.2.2.2.2.2.2.2.2.2.1+List.length ([(e5.1,e5.2)]:List QLit)) 32)
   (rec (x.1,x.2.1,x.2.2.1,x.2.2.2.1,(IntKind.wrap .i64 (x.2.2.2.2.1+1)),x.2.2.2.2.2.1,x.2.2.2.2.2.2.1,x.2.2.2.2.2.2.2.1,x.2.2.2.2.2.2.2.2.1,(x.2.2.2.2.2.2.2.2.2.1++([(e5.1,e5.2)]:List QLit)),x.2.2.2.2.2.2.2.2.2.2))
   (none))
  (rec (x.1,x.2.1,x.2.2.1,x.2.2.2.1,(IntKind.wrap .i64 (x.2.2.2.2.1+1)),x.2.2.2.2.2.1,x.2.2.2.2.2.2.1,x.2.2.2.2.2.2.2.1,x.2.2.2.2.2.2.2.2.1,x.2.2.2.2.2.2.2.2.2.1,x.2.2.2.2.2.2.2.2.2.2)))
 (some (x.2.2.2.2.2.2.2.2.1,x.2.2.2.2.2.2.2.2.2.1,x.2.2.2.2.2.2.2.2.2.2))
def resolve_Both (a0:(List QLit)) (a1:(List (List Int))) (a2:(List QLit)) (a3:Int) (a4:(List QLit)) (a5:(List (List Int))) (a6:(List QLit)) (a7:Int):Option ((List (List Int))×(List QLit)×(List QLit)) :=
 (slices_Concat ([a1,a5]:List (List (List Int)))).bind fun r10 =>
 (slices_Concat_1 ([a2,a6]:List (List QLit))).bind fun r11 =>
 ((lp resolve_Both_L0 fuel) (a3,a7,a0,((List.length a0:Nat):Int),0,a4,a5,a6,r10,([]:(List QLit)),r11)).bind fun r12 =>
 ((lp resolve_Both_L1 fuel) (a7,a4,((List.length a4:Nat):Int),0,r12.1,r12.2.1,r12.2.2)).bind fun r13 =>
 some (r13.1,r13.2.1,r13.2.2)
def bind_find_L0 (rec:(Int×(List (Int×(List Int)))×Int×Int)→Option (Unit⊕(List Int))) (x:(Int×(List (Int×(List Int)))×Int×Int)):Option (Unit⊕(List Int)) :=
 cond (decide (x.2.2.2<x.2.2.1))
 ((gx x.2.1 x.2.2.2).bind fun e2 =>
  cond (e2.1==x.1)
  (some (Sum.inr e2.2))
  (rec (x.1,x.2.1,x.2.2.1,(IntKind.wrap .i64 (x.2.2.2+1)))))
 (some (Sum.inl ()))
def bind_find (a0:(List (Int×(List Int)))) (a1:Int):Option (Option (List Int)) :=
 ((lp bind_find_L0 fuel) (a1,a0,((List.length a0:Nat):Int),0)).bind fun r6 =>
 caseS r6
 (fun _z7=>some (none:(Option (List Int))))
 (fun z8=>(nn z8).bind fun p9 =>
  some (some p9))
def bind_On_L0 (rec:((List (Int×(List Int)))×(List Int)×Int×Int×(List Int))→Option (List Int)) (x:((List (Int×(List Int)))×(List Int)×Int×Int×(List Int))):Option (List Int) :=
 cond (decide (x.2.2.2.1<x.2.2.1))
 ((gx x.2.1 x.2.2.2.1).bind fun e10 =>
  (term_Number e10).bind fun r11 =>
  (bind_find x.1 r11).bind fun r12 =>
  cond (decide (e10≥0))
  (cond (room (List.length x.2.2.2.2+List.length ([e10]:List Int)) 8)
   (rec (x.1,x.2.1,x.2.2.1,(IntKind.wrap .i64 (x.2.2.2.1+1)),(x.2.2.2.2++([e10]:List Int))))
   (none))
  (cond (Option.isNone r12)
   (cond (room (List.length x.2.2.2.2+List.length ([e10]:List Int)) 8)
    (rec (x.1,x.2.1,x.2.2.1,(IntKind.wrap .i64 (x.2.2.2.1+1)),(x.2.2.2.2++([e10]:List Int))))
    (none))
   (cond (room (List.length x.2.2.2.2+List.length (Option.getD r12 [])) 8)
    (rec (x.1,x.2.1,x.2.2.1,(IntKind.wrap .i64 (x.2.2.2.1+1)),(x.2.2.2.2++(Option.getD r12 []))))
    (none))))
 (some x.2.2.2.2)
def bind_On (a0:(List (Int×(List Int)))) (a1:(List Int)):Option (List Int) :=
 ((lp bind_On_L0 fuel) (a0,a1,((List.length a1:Nat):Int),0,([]:(List Int)))).bind fun r14 =>
 some r14
def clause_On_c1 (a0:(List Int)) (a1:(List (Int×(List Int)))):Option (List Int) :=
 (bind_On a1 a0).bind fun r2 =>
 some r2
def clause_each_L2 (rec:((List QLit)×Int×Int×(List (Int×(List Int)))×(List QLit)×(List (List Int))×(List QLit))→Option ((List QLit)×(List (List Int))×(List QLit))) (x:((List QLit)×Int×Int×(List (Int×(List Int)))×(List QLit)×(List (List Int))×(List QLit))):Option ((List QLit)×(List (List Int))×(List QLit)) :=
 cond (decide (x.2.2.1<x.2.1))
 ((gx x.1 x.2.2.1).bind fun e19 =>
  (clause_On_c1 e19.2 x.2.2.2.1).bind fun r20 =>
  cond (room (List.length x.2.2.2.2.2.2+List.length ([(e19.1,r20)]:List QLit)) 32)
  (rec (x.1,x.2.1,(IntKind.wrap .i64 (x.2.2.1+1)),x.2.2.2.1,x.2.2.2.2.1,x.2.2.2.2.2.1,(x.2.2.2.2.2.2++([(e19.1,r20)]:List QLit))))
  (none))
 (some (x.2.2.2.2.1,x.2.2.2.2.2.1,x.2.2.2.2.2.2))
def clause_each_L1 (rec:((List (List Int))×Int×Int×(List (Int×(List Int)))×(List QLit)×(List (List Int))×(List QLit)×(List QLit)×(List (List Int)))→Option ((List QLit)×(List (List Int)))) (x:((List (List Int))×Int×Int×(List (Int×(List Int)))×(List QLit)×(List (List Int))×(List QLit)×(List QLit)×(List (List Int)))):Option ((List QLit)×(List (List Int))) :=
 cond (decide (x.2.2.1<x.2.1))
 ((gx x.1 x.2.2.1).bind fun e12 =>
  (clause_On_c1 e12 x.2.2.2.1).bind fun r13 =>
  cond (room (List.length x.2.2.2.2.2.2.2.2+List.length ([r13]:List (List Int))) 24)
  (rec (x.1,x.2.1,(IntKind.wrap .i64 (x.2.2.1+1)),x.2.2.2.1,x.2.2.2.2.1,x.2.2.2.2.2.1,x.2.2.2.2.2.2.1,x.2.2.2.2.2.2.2.1,(x.2.2.2.2.2.2.2.2++([r13]:List (List Int)))))
  (none))
 (some (x.2.2.2.2.2.2.2.1,x.2.2.2.2.2.2.2.2))
def clause_each_L0 (rec:((List QLit)×Int×Int×(List (Int×(List Int)))×(List QLit)×(List (List Int))×(List QLit)×(List QLit))→Option (List QLit)) (x:((List QLit)×Int×Int×(List (Int×(List Int)))×(List QLit)×(List (List Int))×(List QLit)×(List QLit))):Option (List QLit) :=
 cond (decide (x.2.2.1<x.2.1))
 ((gx x.1 x.2.2.1).bind fun e5 =>
  (clause_On_c1 e5.2 x.2.2.2.1).bind fun r6 =>
  cond (room (List.length x.2.2.2.2.2.2.2+List.length ([(e5.1,r6)]:List QLit)) 32)
  (rec (x.1,x.2.1,(IntKind.wrap .i64 (x.2.2.1+1)),x.2.2.2.1,x.2.2.2.2.1,x.2.2.2.2.2.1,x.2.2.2.2.2.2.1,(x.2.2.2.2.2.2.2++([(e5.1,r6)]:List QLit))))
  (none))
 (some x.2.2.2.2.2.2.2)
def clause_each (a0:(List QLit)) (a1:(List (List Int))) (a2:(List QLit)) (a3:(List (Int×(List Int)))):Option ((List QLit)×(List (List Int))×(List QLit)) :=
 ((lp clause_each_L0 fuel) (a0,((List.length a0:Nat):Int),0,a3,a0,a1,a2,([]:(List QLit)))).bind fun r22 =>
 ((lp clause_each_L1 fuel) (a1,((List.length a1:Nat):Int),0,a3,a0,a1,a2,r22,([]:(List (List Int))))).bind fun r23 =>
 ((lp clause_each_L2 fuel) (a2,((List.length a2:Nat):Int),0,a3,r23.1,r23.2,([]:(List QLit)))).bind fun r24 =>
 some (r24.1,r24.2.1,r24.2.2)
def clause_On (a0:(List (Int×(List Int)))) (a1:(List QLit)) (a2:(List (List Int))) (a3:(List QLit)):Option ((List QLit)×(List (List Int))×(List QLit)) :=
 (clause_each a1 a2 a3 a0).bind fun r2 =>
 some (r2.1,r2.2.1,r2.2.2)
def term_IsTerm (a0:(List QSym)) (a1:(List Int)):Option Bool :=
 (term_begins a0 a1).bind fun r2 =>
 cond r2.1
 (some (((List.length r2.2:Nat):Int)==1))
 (some false)
def order_often_L0 (rec:((List Int)×Int×Int×(List Int))→Option (List Int)) (x:((List Int)×Int×Int×(List Int))):Option (List Int) :=
 cond (decide (x.2.2.1<x.2.1))
 ((gx x.1 x.2.2.1).bind fun e7 =>
  cond (decide (e7<0))
  ((term_Number e7).bind fun r8 =>
   (inR r8 24).bind fun k9 =>
   (x.2.2.2[k9]?).bind fun x10 =>
   (inR r8 24).bind fun k11 =>
   (x.2.2.2[k11]?).bind fun _x12 =>
   rec (x.1,x.2.1,(IntKind.wrap .i64 (x.2.2.1+1)),(List.set x.2.2.2 k11 (IntKind.wrap .i64 (x10+1)))))
  (rec (x.1,x.2.1,(IntKind.wrap .i64 (x.2.2.1+1)),x.2.2.2)))
 (some x.2.2.2)
def order_often (a0:(List Int)):Option (List Int) :=
 ((lp order_often_L0 fuel) (a0,((List.length a0:Nat):Int),0,(List.replicate 24 (0:Int)))).bind fun r14 =>
 cond (Nat.beq (List.length r14) 24)
 (cond (Nat.beq (List.length r14) 24)
  (cond (Nat.beq (List.length r14) 24)
   (some r14)
   (none))
  (none))
 (none)
def order_covers_L0 (rec:(Int×(List Int)×(List Int))→Option (Unit⊕Bool)) (x:(Int×(List Int)×(List Int))):Option (Unit⊕Bool) :=
 cond (decide (x.1<24))
 ((inR x.1 24).bind fun k11 =>
  (x.2.1[k11]?).bind fun x12 =>
  (inR x.1 24).bind fun k13 =>
  (x.2.2[k13]?).bind fun x14 =>
  cond (decide (x12<x14))
  (some (Sum.inr false))
  (rec ((IntKind.wrap .i64 (x.1+1)),x.2.1,x.2.2)))
 (some (Sum.inl ()))
def order_covers (a0:(List Int)) (a1:(List Int)):Option Bool :=
 (order_often a0).bind fun r18 =>
 (order_often a1).bind fun r19 =>
 cond (Nat.beq (List.length (List.replicate 24 (0:Int))) 24)
 (cond (Nat.beq (List.length (List.replicate 24 (0:Int))) 24)
  (((lp order_covers_L0 fuel) (0,r18,r19)).bind fun r20 =>
   caseS r20
   (fun _z21=>some true)
   (fun z22=>some z22))
  (none))
 (none)
def term_Sum_L0 (rec:((List QSym)×Int×(List Int)×Int×Int)→Option Int) (x:((List QSym)×Int×(List Int)×Int×Int)):Option Int :=
 cond (decide (x.2.2.2.2<x.2.2.2.1))
 ((gx x.2.2.1 x.2.2.2.2).bind fun e3 =>
  cond (decide (e3<0))
  (rec (x.1,(IntKind.wrap .i64 (x.2.1+1)),x.2.2.1,x.2.2.2.1,(IntKind.wrap .i64 (x.2.2.2.2+1))))
  ((gx x.1 e3).bind fun e4 =>
   rec (x.1,(IntKind.wrap .i64 (x.2.1+e4.2.2.2)),x.2.2.1,x.2.2.2.1,(IntKind.wrap .i64 (x.2.2.2.2+1)))))
 (some x.2.1)
def term_Sum (a0:(List QSym)) (a1:(List Int)):Option Int :=
 ((lp term_Sum_L0 fuel) (a0,0,a1,((List.length a1:Nat):Int),0)).bind fun r6 =>
 some r6
def order_unlike_L0 (rec:((List (List Int))×(List (List Int))×Int×Int)→Option (Unit⊕((List Int)×(List Int)))) (x:((List (List Int))×(List (List Int))×Int×Int)):Option (Unit⊕((List Int)×(List Int))) :=
 cond (decide (x.2.2.2<x.2.2.1))
 ((gx x.2.1 x.2.2.2).bind fun e7 =>
  cond (decide (x.2.2.2<((List.length x.1:Nat):Int)))
  ((gx x.1 x.2.2.2).bind fun e8 =>
   (slices_Equal e7 e8).bind fun r9 =>
   cond (!r9)
   ((gx x.1 x.2.2.2).bind fun e10 =>
    some (Sum.inr (e7,e10)))
   (rec (x.1,x.2.1,x.2.2.1,(IntKind.wrap .i64 (x.2.2.2+1)))))
  (rec (x.1,x.2.1,x.2.2.1,(IntKind.wrap .i64 (x.2.2.2+1)))))
 (some (Sum.inl ()))
def order_unlike (a0:(List QSym)) (a1:(List Int)) (a2:(List Int)):Option ((List Int)×(List Int)) :=
 (term_Pieces a0 a2).bind fun r14 =>
 (term_Pieces a0 a1).bind fun r15 =>
 ((lp order_unlike_L0 fuel) (r14,r15,((List.length r15:Nat):Int),0)).bind fun r16 =>
 caseS r16
 (fun _z17=>some (([]:(List Int)),([]:(List Int))))
 (fun z18=>some (z18.1,z18.2))
def order_more_L0 (rec:((List QSym)×(List Int)×(List Int))→Option (Unit⊕Bool)) (x:((List QSym)×(List Int)×(List Int))):Option (Unit⊕Bool) :=
 (((nn x.2.1).bind fun _ =>
  some false)).bind fun z23 =>
 cond (!z23)
 ((order_covers x.2.1 x.2.2).bind fun r24 =>
  cond r24
  ((term_Sum x.1 x.2.1).bind fun r25 =>
   (term_Sum x.1 x.2.2).bind fun r26 =>
   cond (r25 != r26)
   (some (Sum.inr (decide (r25>r26))))
   ((gx x.2.1 0).bind fun e27 =>
    (gx x.2.2 0).bind fun e28 =>
    cond (e27 != e28)
    ((gx x.2.1 0).bind fun e29 =>
     (gx x.2.2 0).bind fun e30 =>
     some (Sum.inr (decide (e29>e30))))
    ((slc2 x.2.1 (some 1) none).bind fun y31 =>
     (slc2 x.2.2 (some 1) none).bind fun y32 =>
     (order_unlike x.1 y31 y32).bind fun r33 =>
     rec (x.1,r33.1,r33.2))))
  (some (Sum.inl ())))
 (some (Sum.inl ()))
def order_more (a0:(List QSym)) (a1:(List Int)) (a2:(List Int)):Option Bool :=
 ((lp order_more_L0 fuel) (a0,a1,a2)).bind fun r37 =>
 caseS r37
 (fun _z38=>some false)
 (fun z39=>some z39)
def order_Compare (a0:(List QSym)) (a1:(List Int)) (a2:(List Int)):Option (Int×Int) :=
 (term_IsTerm a0 a1).bind fun r19 =>
 cond r19
 ((term_IsTerm a0 a2).bind fun r20 =>
  (term_IsAtom a0 a1).bind fun r21 =>
  cond r21
  ((term_IsAtom a0 a2).bind fun r22 =>
   cond (!r20)
   (cond (!r22)
    (some (0,600))
    ((slices_Equal a1 a2).bind fun r23 =>
     cond r23
     (some (1,0))
     ((order_more a0 a1 a2).bind fun r24 =>
      cond r24
      (some (2,0))
      ((order_more a0 a2 a1).bind fun r25 =>
       cond r25
       (some (0,0))
       (some (3,0))))))
   ((slices_Equal a1 a2).bind fun r26 =>
    cond r26
    (some (1,0))
    ((order_more a0 a1 a2).bind fun r27 =>
     cond r27
     (some (2,0))
     ((order_more a0 a2 a1).bind fun r28 =>
      cond r28
      (some (0,0))
      (some (3,0))))))
  (cond (!r20)
   (some (0,600))
   ((slices_Equal a1 a2).bind fun r29 =>
    cond r29
    (some (1,0))
    ((order_more a0 a1 a2).bind fun r30 =>
     cond r30
     (some (2,0))
     ((order_more a0 a2 a1).bind fun r31 =>
      cond r31
      (some (0,0))
      (some (3,0)))))))
 ((term_IsAtom a0 a1).bind fun r32 =>
  cond r32
  ((term_IsAtom a0 a2).bind fun r33 =>
   cond (!r33)
   (some (0,600))
   ((slices_Equal a1 a2).bind fun r34 =>
    cond r34
    (some (1,0))
    ((order_more a0 a1 a2).bind fun r35 =>
     cond r35
     (some (2,0))
     ((order_more a0 a2 a1).bind fun r36 =>
      cond r36
      (some (0,0))
      (some (3,0))))))
  (some (0,600)))
def clause_selfSame (a0:(List QSym)) (a1:Bool) (a2:(List Int)):Option Bool :=
 cond a1
 (some false)
 ((gx a2 0).bind fun e9 =>
  cond (e9 != 0)
  (some false)
  ((slc2 a2 (some 1) none).bind fun y10 =>
   (term_Pieces a0 y10).bind fun r11 =>
   (inR 0 (List.length r11)).bind fun k12 =>
   (r11[k12]?).bind fun x13 =>
   (inR 1 (List.length r11)).bind fun k14 =>
   (r11[k14]?).bind fun x15 =>
   (slices_Equal x13 x15).bind fun r16 =>
   some r16))
def clause_Trivial_c1 (a0:Bool) (a1:(List Int)) (a2:Bool) (a3:(List Int)):Option Bool :=
 cond (!(a2==a0))
 ((slices_Equal a3 a1).bind fun r2 =>
  some r2)
 (some false)
def slices_IndexFunc_8_L0 (rec:((List QLit)×Int×Int×Bool×(List Int))→Option (Unit⊕Int)) (x:((List QLit)×Int×Int×Bool×(List Int))):Option (Unit⊕Int) :=
 cond (decide (x.2.2.1<x.2.1))
 ((gx x.1 x.2.2.1).bind fun e3 =>
  (clause_Trivial_c1 e3.1 e3.2 x.2.2.2.1 x.2.2.2.2).bind fun r4 =>
  cond r4
  (some (Sum.inr x.2.2.1))
  (rec (x.1,x.2.1,(IntKind.wrap .i64 (x.2.2.1+1)),x.2.2.2.1,x.2.2.2.2)))
 (some (Sum.inl ()))
def slices_IndexFunc_8 (a0:(List QLit)) (a1:Bool) (a2:(List Int)):Option Int :=
 ((lp slices_IndexFunc_8_L0 fuel) (a0,((List.length a0:Nat):Int),0,a1,a2)).bind fun r8 =>
 caseS r8
 (fun _z9=>some (-1))
 (fun z10=>some z10)
def slices_ContainsFunc_8 (a0:(List QLit)) (a1:Bool) (a2:(List Int)):Option Bool :=
 (slices_IndexFunc_8 a0 a1 a2).bind fun r2 =>
 some (decide (r2≥0))
def clause_Trivial_L0 (rec:((List QSym)×(List QLit)×Int×Int×(List QLit)×(List (List Int))×(List QLit))→Option (Unit⊕(Bool×Int))) (x:((List QSym)×(List QLit)×Int×Int×(List QLit)×(List (List Int))×(List QLit))):Option (Unit⊕(Bool×Int)) :=
 cond (decide (x.2.2.2.1<x.2.2.1))
 ((gx x.2.1 x.2.2.2.1).bind fun e5 =>
  (clause_selfSame x.1 e5.1 e5.2).bind fun r6 =>
  cond r6
  (some (Sum.inr (true,0)))
  ((slices_ContainsFunc_8 x.2.2.2.2.1 e5.1 e5.2).bind fun r7 =>
   cond r7
   (some (Sum.inr (true,0)))
   (rec (x.1,x.2.1,x.2.2.1,(IntKind.wrap .i64 (x.2.2.2.1+1)),x.2.2.2.2.1,x.2.2.2.2.2.1,x.2.2.2.2.2.2))))
 (some (Sum.inl ()))
def clause_Trivial (a0:(List QSym)) (a1:(List QLit)) (a2:(List (List Int))) (a3:(List QLit)):Option (Bool×Int) :=
 (clause_May a0 a1 a2 a3).bind fun r11 =>
 cond (!r11)
 (some (false,800))
 (((lp clause_Trivial_L0 fuel) (a0,a1,((List.length a1:Nat):Int),0,a1,a2,a3)).bind fun r12 =>
  caseS r12
  (fun _z13=>some (false,0))
  (fun z14=>some (z14.1,z14.2)))
end Go.Abs.Q
namespace Go.Abs.Q
open Go Go.Abs
def slices_Concat_1_L1_go:List (List QLit)→(List QLit)→Option (List QLit)
 | [],s3=>some s3
 | e::es,s3 =>
  cond (room (List.length s3+List.length e) 32)
  (slices_Concat_1_L1_go es (s3++e))
  (none)
theorem slices_Concat_1_L1_go_at0 (s0:(List (List QLit))) (s3:(List QLit)) (hl:List.length s0≤maxLen):lp slices_Concat_1_L1 fuel (s0,((List.length s0:Nat):Int),0,s3)=slices_Concat_1_L1_go s0 s3:=rngl1 slices_Concat_1_L1 (fun i s3=>(s0,((List.length s0:Nat):Int),i,s3)) (fun es i s3=>slices_Concat_1_L1_go es s3) hl (fun r i s3 h=>by unfold slices_Concat_1_L1 slices_Concat_1_L1_go; simp only[h,cond_false]) (fun r i s3 e es h g w k=>by unfold slices_Concat_1_L1 slices_Concat_1_L1_go; simp only[h,cond_true,g,Option.bind_some,w,k]) s3
def slices_Concat_1_L0_go:List (List QLit)→Int→Option Int
 | [],s1=>some s1
 | e::es,s1 =>
  cond (decide ((IntKind.wrap .i64 (s1+((List.length e:Nat):Int)))<0))
  (none)
  (slices_Concat_1_L0_go es (IntKind.wrap .i64 (s1+((List.length e:Nat):Int))))
theorem slices_Concat_1_L0_go_at0 (s0:(List (List QLit))) (s2:(List (List QLit))) (s1:Int) (hl:List.length s2≤maxLen):lp slices_Concat_1_L0 fuel (s0,s1,s2,((List.length s2:Nat):Int),0)=slices_Concat_1_L0_go s2 s1:=rngl1 slices_Concat_1_L0 (fun i s1=>(s0,s1,s2,((List.length s2:Nat):Int),i)) (fun es i s1=>slices_Concat_1_L0_go es s1) hl (fun r i s1 h=>by unfold slices_Concat_1_L0 slices_Concat_1_L0_go; simp only[h,cond_false]) (fun r i s1 e es h g w k=>by unfold slices_Concat_1_L0 slices_Concat_1_L0_go; simp only[h,cond_true,g,Option.bind_some,w,k]) s1
def slices_IndexFunc_8_L0_go (s3:Bool) (s4:(List Int)):List QLit→Nat→Option (Unit⊕Int)
 | [],_i=>some (Sum.inl ())
 | e::es,i =>
  (clause_Trivial_c1 e.1 e.2 s3 s4).bind fun r4 =>
  cond r4
  (some (Sum.inr (i:Int)))
  (slices_IndexFunc_8_L0_go s3 s4 es (i+1))
theorem slices_IndexFunc_8_L0_go_at0 (s0:(List QLit)) (s3:Bool) (s4:(List Int)) (hl:List.length s0≤maxLen):lp slices_IndexFunc_8_L0 fuel (s0,((List.length s0:Nat):Int),0,s3,s4)=slices_IndexFunc_8_L0_go s3 s4 s0 0:=rngl0 slices_IndexFunc_8_L0 (fun i=>(s0,((List.length s0:Nat):Int),i,s3,s4)) (fun es i=>slices_IndexFunc_8_L0_go s3 s4 es i) hl (fun r i h=>by unfold slices_IndexFunc_8_L0 slices_IndexFunc_8_L0_go; simp only[h,cond_false]) (fun r i e es h g w k=>by unfold slices_IndexFunc_8_L0 slices_IndexFunc_8_L0_go; simp only[h,cond_true,g,Option.bind_some,w,k])
def clause_Trivial_L0_go (s0:(List QSym)) (s4:(List QLit)):List QLit→Option (Unit⊕(Bool×Int))
 | []=>some (Sum.inl ())
 | e::es =>
  (clause_selfSame s0 e.1 e.2).bind fun r6 =>
  cond r6
  (some (Sum.inr (true,0)))
  ((slices_ContainsFunc_8 s4 e.1 e.2).bind fun r7 =>
   cond r7
   (some (Sum.inr (true,0)))
   (clause_Trivial_L0_go s0 s4 es))
theorem clause_Trivial_L0_go_at0 (s0:(List QSym)) (s1:(List QLit)) (s4:(List QLit)) (s5:(List (List Int))) (s6:(List QLit)) (hl:List.length s1≤maxLen):lp clause_Trivial_L0 fuel (s0,s1,((List.length s1:Nat):Int),0,s4,s5,s6)=clause_Trivial_L0_go s0 s4 s1:=rngl0 clause_Trivial_L0 (fun i=>(s0,s1,((List.length s1:Nat):Int),i,s4,s5,s6)) (fun es i=>clause_Trivial_L0_go s0 s4 es) hl (fun r i h=>by unfold clause_Trivial_L0 clause_Trivial_L0_go; simp only[h,cond_false]) (fun r i e es h g w k=>by unfold clause_Trivial_L0 clause_Trivial_L0_go; simp only[h,cond_true,g,Option.bind_some,w,k])
end Go.Abs.Q
namespace Go.Abs.Q
open Go Go.Abs
section
theorem slices_CloneN_eq {xs:List Int} (h:xs.length≤1099511627776):slices_CloneN xs=some xs:=by
 unfold slices_CloneN slices_Clone
 simp only[Option.isNone_some,cond_false,Option.getD_some,List.length_nil,Nat.zero_add,List.nil_append]
 rw[room_ok (show xs.length*8≤140737488351232 by omega)]
 rfl
theorem equal_go (ys:List Int):(es:List Int)→(i:Nat)→es.length=(ys.drop i).length→slices_Equal_L0_go ys es i=some (cond (decide (es=ys.drop i)) (.inl ()) (.inr false))
 | [],i,h=>by
  have:ys.drop i=[]:=List.eq_nil_of_length_eq_zero h.symm
  rw[this]; rfl
 | e::es,i,h=>by
  cases hd:ys.drop i with
  | nil=>rw[hd] at h; simp at h
  | cons y r =>
   have hn:=drop_cons_next hd
   have:=equal_go ys es (i+1) (by rw[hn]; rw[hd] at h; simpa using h)
   unfold slices_Equal_L0_go
   simp only[gx_nat,drop_cons_get hd,Option.bind_some,this,hn]
   by_cases he:e=y
   ·subst he
    simp
   ·have h1:(e != y)=true:=by simpa using he
    simp [h1,he]
theorem slices_Equal_eq {xs ys:List Int} (h:xs.length≤maxLen):slices_Equal xs ys=some (decide (xs=ys)):=by
 unfold slices_Equal
 by_cases hl:xs.length=ys.length
 ·rw[show (((List.length xs:Nat):Int) != ((List.length ys:Nat):Int))=false from by simp [hl],cond_false,slices_Equal_L0_go_at0 _ _ h,equal_go ys xs 0 hl,List.drop_zero]
  cases decide (xs=ys)<;>rfl
 ·rw[show (((List.length xs:Nat):Int) != ((List.length ys:Nat):Int))=true from by simp; omega,cond_true,decide_eq_false (by intro h; subst h; exact hl rfl)]
theorem lit_Same_eq {a b:Bool} {xs ys:List Int} (h:xs.length≤maxLen):lit_Same a xs b ys=some (decide ((a,xs)=(b,ys))):=by
 unfold lit_Same
 cases hab:(a==b) with
 | false =>
  have:a≠b:=by simpa using hab
  simp [this]
 | true =>
  have:a=b:=by simpa using hab
  subst this
  rw[cond_true,slices_Equal_eq h]
  simp
theorem once_idx (l:QLit) (hl:l.2.length≤maxLen):(es:List QLit)→(i:Nat)→∃ r,slices_IndexFunc_L0_go l.1 l.2 es i=some r∧(l∈es→∃ j:Nat,r = .inr (j:Int))∧(l∉es→r = .inl ())
 | [],i=>⟨.inl (),rfl,(fun h=>by cases h),fun _=>rfl⟩
 | e::es,i=>by
  unfold slices_IndexFunc_L0_go clause_once_c1
  rw[lit_Same_eq hl]
  simp only[Option.bind_some]
  by_cases he:(l.1,l.2)=(e.1,e.2)
  ·rw[decide_eq_true he,cond_true]
   have he':l=e:=he
   exact ⟨_,rfl,fun _=>⟨i,rfl⟩,fun h=>absurd (List.mem_cons.2 (.inl he')) h⟩
  ·rw[decide_eq_false he,cond_false]
   obtain⟨r,h1,h2,h3⟩:=once_idx l hl es (i+1)
   have he':l≠e:=he
   refine ⟨r,h1,fun h=>h2 ?_,fun h=>h3 fun h'=>h (List.mem_cons_of_mem _ h')⟩
   rcases List.mem_cons.1 h with h | h
   ·exact absurd h he'
   ·exact h
theorem slices_ContainsFunc_eq {l:QLit} {es:List QLit} (hl:l.2.length≤maxLen) (h:es.length≤maxLen):slices_ContainsFunc es l.1 l.2=some (decide (l∈es)):=by
 unfold slices_ContainsFunc slices_IndexFunc
 rw[slices_IndexFunc_L0_go_at0 _ _ _ h]
 obtain⟨r,h1,h2,h3⟩:=once_idx l hl es 0
 rw[h1]
 by_cases hm:l∈es
 ·obtain⟨j,rfl⟩:=h2 hm
  simp [caseS,hm]
 ·rw[h3 hm]
  simp [caseS,hm]
def onceL {α:Type} [DecidableEq α]:List α→List α→List α
 | [],out=>out
 | e::es,out=>cond (decide (e∈out)) (onceL es out) (onceL es (out++[e]))
theorem onceL_len {α:Type} [DecidableEq α]:(es out:List α)→(onceL es out).length≤out.length+es.length
 | [],out=>by simp [onceL]
 | e::es,out=>by
  unfold onceL
  cases decide (e∈out) with
  | true=>have:=onceL_len es out; simp only[cond_true,List.length_cons]; omega
  | false=>have:=onceL_len es (out++[e]); simp only[cond_false,List.length_cons,List.length_append,List.length_nil] at this ⊢; omega
theorem onceL_mem {α:Type} [DecidableEq α] {x:α}:(es out:List α)→(x∈onceL es out↔x∈out∨x∈es)
 | [],out=>by simp [onceL]
 | e::es,out=>by
  unfold onceL
  by_cases h:e∈out
  ·rw[decide_eq_true h,cond_true,onceL_mem es out,List.mem_cons]
   constructor
   ·rintro (h1 | h1)
    ·exact .inl h1
    ·exact .inr (.inr h1)
   ·rintro (h1 | rfl | h1)
    ·exact .inl h1
    ·exact .inl h
    ·exact .inr h1
  ·rw[decide_eq_false h,cond_false,onceL_mem es (out++[e])]
   simp only[List.mem_append,List.mem_cons,List.not_mem_nil,or_false]
   constructor
   ·rintro ((h1 | h1) | h1)
    ·exact .inl h1
    ·exact .inr (.inl h1)
    ·exact .inr (.inr h1)
   ·rintro (h1 | h1 | h1)
    ·exact .inl (.inl h1)
    ·exact .inl (.inr h1)
    ·exact .inr h1
theorem once_go:(es out:List QLit)→(∀ e∈es,e.2.length≤maxLen)→out.length+es.length≤1000000→clause_once_L0_go es out=some (onceL es out)
 | [],out,_,_=>rfl
 | e::es,out,h,hl=>by
  have h1:=h e (List.mem_cons_self ..)
  have hl':out.length+(es.length+1)≤1000000:=hl
  unfold clause_once_L0_go onceL
  rw[slices_ContainsFunc_eq h1 (by unfold maxLen; omega),Option.bind_some]
  by_cases hm:e∈out
  ·simp only[hm,decide_true,Bool.not_true,cond_false,cond_true]
   exact once_go es out (fun x hx=>h x (List.mem_cons_of_mem _ hx)) (by omega)
  ·simp only[hm,decide_false,Bool.not_false,cond_false,cond_true]
   rw[room_ok (show (out.length+([(e.1,e.2)]:List QLit).length)*32≤140737488351232 by simp; omega),cond_true]
   exact once_go es (out++[e]) (fun x hx=>h x (List.mem_cons_of_mem _ hx)) (by simp; omega)
theorem clause_once_eq {es:List QLit} (h:∀ e∈es,e.2.length≤maxLen) (hl:es.length≤1000000):clause_once es=some (onceL es []):=by
 unfold clause_once
 rw[clause_once_L0_go_at0 _ _ (by unfold maxLen; omega),once_go es [] h (by simpa using hl)]
 rfl
theorem rows_idx (l:List Int) (hl:l.length≤maxLen):(es:List (List Int))→(i:Nat)→∃ r,slices_IndexFunc_1_L0_go l es i=some r∧(l∈es→∃ j:Nat,r = .inr (j:Int))∧(l∉es→r = .inl ())
 | [],i=>⟨.inl (),rfl,(fun h=>by cases h),fun _=>rfl⟩
 | e::es,i=>by
  unfold slices_IndexFunc_1_L0_go clause_anew_c1
  rw[slices_Equal_eq hl]
  simp only[Option.bind_some]
  by_cases he:l=e
  ·rw[decide_eq_true he,cond_true]
   exact ⟨_,rfl,fun _=>⟨i,rfl⟩,fun h=>absurd (List.mem_cons.2 (.inl he)) h⟩
  ·rw[decide_eq_false he,cond_false]
   obtain⟨r,h1,h2,h3⟩:=rows_idx l hl es (i+1)
   refine ⟨r,h1,fun h=>h2 ?_,fun h=>h3 fun h'=>h (List.mem_cons_of_mem _ h')⟩
   rcases List.mem_cons.1 h with h | h
   ·exact absurd h he
   ·exact h
theorem slices_ContainsFunc_1_eq {l:List Int} {es:List (List Int)} (hl:l.length≤maxLen) (h:es.length≤maxLen):slices_ContainsFunc_1 es l=some (decide (l∈es)):=by
 unfold slices_ContainsFunc_1 slices_IndexFunc_1
 rw[slices_IndexFunc_1_L0_go_at0 _ _ h]
 obtain⟨r,h1,h2,h3⟩:=rows_idx l hl es 0
 rw[h1]
 by_cases hm:l∈es
 ·obtain⟨j,rfl⟩:=h2 hm
  simp [caseS,hm]
 ·rw[h3 hm]
  simp [caseS,hm]
theorem anew_go (s3 s4:List QLit):(es out:List (List Int))→(∀ e∈es,e.length≤maxLen)→out.length+es.length≤1000000→clause_anew_L0_go s3 s4 es out=some (s3,s4,onceL es out)
 | [],out,_,_=>rfl
 | e::es,out,h,hl=>by
  have h1:=h e (List.mem_cons_self ..)
  have hl':out.length+(es.length+1)≤1000000:=hl
  unfold clause_anew_L0_go onceL
  rw[slices_ContainsFunc_1_eq h1 (by unfold maxLen; omega),Option.bind_some]
  by_cases hm:e∈out
  ·simp only[hm,decide_true,Bool.not_true,cond_false,cond_true]
   exact anew_go s3 s4 es out (fun x hx=>h x (List.mem_cons_of_mem _ hx)) (by omega)
  ·simp only[hm,decide_false,Bool.not_false,cond_false,cond_true]
   rw[room_ok (show (out.length+([e]:List (List Int)).length)*24≤140737488351232 by simp; omega),cond_true]
   exact anew_go s3 s4 es (out++[e]) (fun x hx=>h x (List.mem_cons_of_mem _ hx)) (by simp; omega)
def ren1 (s:List Int×Int) (c:Int):Int×(List Int×Int) :=
 cond (decide (c≥0)) (c,s) (cond (s.1.getD (-1 - c).toNat 0==0) (-(s.2+1),(s.1.set (-1 - c).toNat (s.2+1),s.2+1)) (-(s.1.getD (-1 - c).toNat 0),s))
def renR:List Int×Int→List Int→List Int×(List Int×Int)
 | s,[]=>([],s)
 | s,c::cs=>((ren1 s c).1::(renR (ren1 s c).2 cs).1,(renR (ren1 s c).2 cs).2)
theorem renR_len:(s:List Int×Int)→(cs:List Int)→(renR s cs).1.length=cs.length
 | _,[]=>rfl
 | s,c::cs=>by simp [renR,renR_len (ren1 s c).2 cs]
structure RenOk (s:List Int×Int) (b:Int):Prop where
 len:s.1.length=24
 lo:0≤s.2
 hi:s.2≤b
 all:∀ x∈s.1,0≤x∧x≤s.2
theorem RenOk.more {s:List Int×Int} {b b':Int} (h:RenOk s b) (hb:b≤b'):RenOk s b':=⟨h.len,h.lo,Int.le_trans h.hi hb,h.all⟩
theorem RenOk.get {s:List Int×Int} {b:Int} (h:RenOk s b) (v:Nat):0≤s.1.getD v 0∧s.1.getD v 0≤s.2:=by
 have h0:=h.lo
 rw[List.getD_eq_getElem?_getD]
 cases hv:s.1[v]? with
 | none=>exact ⟨Int.le_refl _,h0⟩
 | some x=>exact h.all x (List.mem_of_getElem? hv)
theorem ren1_ok {s:List Int×Int} {b:Int} (h:RenOk s b) (c:Int):RenOk (ren1 s c).2 (b+1):=by
 unfold ren1
 cases decide (c≥0) with
 | true=>exact h.more (by omega)
 | false =>
  rw[cond_false]
  cases (s.1.getD (-1 - c).toNat 0==0) with
  | false=>exact h.more (by omega)
  | true =>
   refine ⟨by simpa using h.len,by have:=h.lo; simp; omega,by have:=h.hi; simp; omega,fun x hx => ?_⟩
   simp only[cond_true] at hx ⊢
   rcases List.mem_or_eq_of_mem_set hx with hx | rfl
   ·have:=h.all x hx; omega
   ·have:=h.lo; omega
theorem renR_ok:{s:List Int×Int}→{b:Int}→(cs:List Int)→RenOk s b→RenOk (renR s cs).2 (b+cs.length)
 | s,b,[],h=>by simpa[renR] using h
 | s,b,c::cs,h=>by
  have:=renR_ok cs (ren1_ok h c)
  simp only[renR,List.length_cons]
  exact this.more (by omega)
theorem set_mid {α:Type} (done es:List α) (e x:α):(done++e::es).set done.length x=done++x::es:=by
 rw[List.set_append_right _ _ (Nat.le_refl _),Nat.sub_self]
 rfl
theorem get_mid {α:Type} (done es:List α) (e:α):(done++e::es)[done.length]? = some e:=by
 rw[List.getElem?_append_right (Nat.le_refl _),Nat.sub_self]
 rfl
theorem ren_round:(es done:List Int)→(s:List Int×Int)→(k:Nat)→es.length<k→done.length+es.length≤1000000→RenOk s 1000000→s.2+es.length≤1000000→(∀ c∈es,-24≤c) →
  lp clause_anew_c2_1_L0 k (((done.length+es.length:Nat):Int),(done.length:Int),s.1,s.2,done++es)=some ((renR s es).2.1,(renR s es).2.2,done++(renR s es).1)
 | [],done,s,k,hk,hl,hs,hb,hc=>by
  obtain⟨k,rfl⟩:∃ k',k=k'+1:=⟨k - 1,by omega⟩
  rw[lp_succ]
  generalize lp clause_anew_c2_1_L0 k=rec
  unfold clause_anew_c2_1_L0
  simp [renR]
 | e::es,done,s,k,hk,hl,hs,hb,hc=>by
  obtain⟨k,rfl⟩:∃ k',k=k'+1:=⟨k - 1,by omega⟩
  rw[lp_succ]
  have he:=hc e (List.mem_cons_self ..)
  have hl':done.length+(es.length+1)≤1000000:=hl
  have hb':s.2+((es.length+1:Nat):Int)≤1000000:=hb
  have key:=fun (e':Int) (s':List Int×Int) (hs':RenOk s' 1000000) (hb2:s'.2+es.length≤1000000)=>ren_round es (done++[e']) s' k (Nat.lt_of_succ_lt_succ hk) (by simp; omega) hs' hb2 (fun c hx=>hc c (List.mem_cons_of_mem _ hx))
  generalize lp clause_anew_c2_1_L0 k=rec at key ⊢
  unfold clause_anew_c2_1_L0
  have e1:decide (((done.length:Nat):Int)<((done.length+(e::es).length:Nat):Int))=true:=by rw[decide_eq_true_eq,List.length_cons]; omega
  have e2:inR ((done.length:Nat):Int) (List.length (done++e::es))=some done.length:=inR_nat (by simp)
  have e3:IntKind.wrap .i64 (((done.length:Nat):Int)+1)=((done.length+1:Nat):Int):=by rw[wrap64]<;>omega
  have key2:=fun (e':Int) (s':List Int×Int) (hs':RenOk s' 1000000) (hb2:s'.2+es.length≤1000000)=>by
   have:=key e' s' hs' hb2
   rw[List.append_assoc,List.length_append,List.length_singleton,Nat.add_assoc,Nat.add_comm 1 es.length] at this
   exact this
  simp only[e1,cond_true,e2,Option.bind_some,get_mid,e3]
  by_cases h0:e≥0
  ·have hr:ren1 s e=(e,s):=by unfold ren1; rw[decide_eq_true h0]; rfl
   rw[decide_eq_true h0,cond_true]
   have:=key2 e s hs (by omega)
   simp only[renR,hr]
   exact this.trans (by simp)
  ·rw[decide_eq_false h0,cond_false]
   have h24:(-1 - e).toNat<24:=by omega
   have e4:inR (-1 - e) 24=some (-1 - e).toNat:=by
    have:=inR_nat h24
    rwa [Int.toNat_of_nonneg (by omega)] at this
   have hget:∀ xs:List Int,xs.length=24→xs[(-1 - e).toNat]? = some (xs.getD (-1 - e).toNat 0):=fun xs hx=>by
    rw[List.getD_eq_getElem?_getD,List.getElem?_eq_getElem (by omega)]; rfl
   have hg:=hs.get (-1 - e).toNat
   have hs1:=hs.hi
   have hs0:=hs.lo
   simp only[term_Number_eq (x:=e) (by omega) (by omega),Option.bind_some,e4,hget s.1 hs.len]
   by_cases hz:s.1.getD (-1 - e).toNat 0=0
   ·have hr:ren1 s e=(-(s.2+1),(s.1.set (-1 - e).toNat (s.2+1),s.2+1)):=by unfold ren1; rw[decide_eq_false h0,hz]; rfl
    have w1:IntKind.wrap .i64 (s.2+1)=s.2+1:=by rw[wrap64]<;>omega
    have hset:(List.set s.1 (-1 - e).toNat (s.2+1)).getD (-1 - e).toNat 0=s.2+1:=by
     rw[List.getD_eq_getElem?_getD,List.getElem?_set_self (by rw[hs.len]; exact h24)]; rfl
    have hn:negI .i64 (s.2+1) = -(s.2+1):=by unfold negI; rw[wrap64]<;>omega
    rw[hz]
    simp only[show (((0:Int)==0))=true from rfl,cond_true,w1,hget (List.set s.1 (-1 - e).toNat (s.2+1)) (by simpa using hs.len),Option.bind_some,hset,hn,set_mid]
    have hok:=ren1_ok (b:=s.2) ⟨hs.len,hs.lo,Int.le_refl _,hs.all⟩ e
    rw[hr] at hok
    have:=key2 (-(s.2+1)) (s.1.set (-1 - e).toNat (s.2+1),s.2+1) (hok.more (by omega)) (by simp only; omega)
    simp only[renR,hr]
    exact this.trans (by simp)
   ·have hr:ren1 s e=(-(s.1.getD (-1 - e).toNat 0),s):=by
     unfold ren1
     rw[decide_eq_false h0,show (s.1.getD (-1 - e).toNat 0==0)=false from by simpa using hz]; rfl
    have hn:negI .i64 (s.1.getD (-1 - e).toNat 0) = -(s.1.getD (-1 - e).toNat 0):=by unfold negI; rw[wrap64]<;>omega
    rw[show (s.1.getD (-1 - e).toNat 0==0)=false from by simpa using hz,cond_false]
    simp only[hn,set_mid]
    have:=key2 (-(s.1.getD (-1 - e).toNat 0)) s hs (by omega)
    simp only[renR,hr]
    exact this.trans (by simp)
theorem clause_anew_c2_1_eq {r:List Int} {s:List Int×Int} (hl:r.length≤1000) (hs:RenOk s 900000) (hc:∀ c∈r,-24≤c):clause_anew_c2_1 r s.1 s.2=some ((renR s r).1,(renR s r).2.1,(renR s r).2.2):=by
 unfold clause_anew_c2_1
 rw[slices_CloneN_eq (by omega),Option.bind_some]
 have h1:=hs.hi
 have:=ren_round r [] s fuel (by unfold fuel; omega) (by simp; omega) (hs.more (by omega)) (by omega) hc
 simp only[List.length_nil,Nat.zero_add,List.nil_append] at this
 rw[show ((0:Nat):Int)=0 from rfl] at this
 rw[this,Option.bind_some]
 have hlen:=(renR_ok r hs).len
 simp only[hs.len,hlen]
 rfl
def renLs:List Int×Int→List QLit→List QLit×(List Int×Int)
 | s,[]=>([],s)
 | s,l::ls=>((l.1,(renR s l.2).1)::(renLs (renR s l.2).2 ls).1,(renLs (renR s l.2).2 ls).2)
def renRs:List Int×Int→List (List Int)→List (List Int)×(List Int×Int)
 | s,[]=>([],s)
 | s,l::ls=>((renR s l).1::(renRs (renR s l).2 ls).1,(renRs (renR s l).2 ls).2)
def SmallR (r:List Int):Prop:=r.length≤1000∧∀ c∈r,-24≤c
theorem renLs_ok:{s:List Int×Int}→{b:Int}→(ls:List QLit)→(∀ l∈ls,SmallR l.2)→RenOk s b→RenOk (renLs s ls).2 (b+1000*ls.length)
 | s,b,[],_,h=>by simpa[renLs] using h
 | s,b,l::ls,hl,h=>by
  have h1:=hl l (List.mem_cons_self ..)
  have:=renLs_ok ls (fun x hx=>hl x (List.mem_cons_of_mem _ hx)) (renR_ok l.2 h)
  have h2:=h1.1
  simp only[renLs,List.length_cons]
  exact this.more (by omega)
theorem renRs_ok:{s:List Int×Int}→{b:Int}→(ls:List (List Int))→(∀ l∈ls,SmallR l)→RenOk s b→RenOk (renRs s ls).2 (b+1000*ls.length)
 | s,b,[],_,h=>by simpa[renRs] using h
 | s,b,l::ls,hl,h=>by
  have h1:=hl l (List.mem_cons_self ..)
  have:=renRs_ok ls (fun x hx=>hl x (List.mem_cons_of_mem _ hx)) (renR_ok l h)
  have h2:=h1.1
  simp only[renRs,List.length_cons]
  exact this.more (by omega)
theorem each_L0_go:(es:List QLit)→(s:List Int×Int)→(out:List QLit)→(b:Int)→RenOk s b→b+1000*es.length≤900000→(∀ l∈es,SmallR l.2)→out.length+es.length≤1000000 →
  clause_each_1_L0_go es s.1 s.2 out=some ((renLs s es).2.1,(renLs s es).2.2,out++(renLs s es).1)
 | [],s,out,b,_,_,_,_=>by simp [clause_each_1_L0_go,renLs]
 | e::es,s,out,b,hs,hb,h,hl=>by
  have he:=h e (List.mem_cons_self ..)
  have h1:=he.1
  rw[List.length_cons] at hb hl
  unfold clause_each_1_L0_go
  rw[clause_anew_c2_1_eq he.1 (hs.more (by omega)) he.2,Option.bind_some]
  rw[room_ok (show (out.length+([(e.1,(renR s e.2).1)]:List QLit).length)*32≤140737488351232 by simp; omega),cond_true]
  have:=each_L0_go es (renR s e.2).2 (out++[(e.1,(renR s e.2).1)]) _ (renR_ok e.2 hs) (by omega) (fun x hx=>h x (List.mem_cons_of_mem _ hx)) (by simp; omega)
  exact this.trans (by simp [renLs])
theorem each_L1_go (s8:List QLit):(es:List (List Int))→(s:List Int×Int)→(out:List (List Int))→(b:Int)→RenOk s b→b+1000*es.length≤900000→(∀ l∈es,SmallR l)→out.length+es.length≤1000000 →
  clause_each_1_L1_go s8 es s.1 s.2 out=some ((renRs s es).2.1,(renRs s es).2.2,s8,out++(renRs s es).1)
 | [],s,out,b,_,_,_,_=>by simp [clause_each_1_L1_go,renRs]
 | e::es,s,out,b,hs,hb,h,hl=>by
  have he:=h e (List.mem_cons_self ..)
  have h1:=he.1
  rw[List.length_cons] at hb hl
  unfold clause_each_1_L1_go
  rw[clause_anew_c2_1_eq he.1 (hs.more (by omega)) he.2,Option.bind_some]
  rw[room_ok (show (out.length+([(renR s e).1]:List (List Int)).length)*24≤140737488351232 by simp; omega),cond_true]
  have:=each_L1_go s8 es (renR s e).2 (out++[(renR s e).1]) _ (renR_ok e hs) (by omega) (fun x hx=>h x (List.mem_cons_of_mem _ hx)) (by simp; omega)
  exact this.trans (by simp [renRs])
theorem each_L2_go (s5:List QLit) (s6:List (List Int)):(es:List QLit)→(s:List Int×Int)→(out:List QLit)→(b:Int)→RenOk s b→b+1000*es.length≤900000→(∀ l∈es,SmallR l.2)→out.length+es.length≤1000000 →
  clause_each_1_L2_go s5 s6 es s.1 s.2 out=some ((renLs s es).2.1,(renLs s es).2.2,s5,s6,out++(renLs s es).1)
 | [],s,out,b,_,_,_,_=>by simp [clause_each_1_L2_go,renLs]
 | e::es,s,out,b,hs,hb,h,hl=>by
  have he:=h e (List.mem_cons_self ..)
  have h1:=he.1
  rw[List.length_cons] at hb hl
  unfold clause_each_1_L2_go
  rw[clause_anew_c2_1_eq he.1 (hs.more (by omega)) he.2,Option.bind_some]
  rw[room_ok (show (out.length+([(e.1,(renR s e.2).1)]:List QLit).length)*32≤140737488351232 by simp; omega),cond_true]
  have:=each_L2_go s5 s6 es (renR s e.2).2 (out++[(e.1,(renR s e.2).1)]) _ (renR_ok e.2 hs) (by omega) (fun x hx=>h x (List.mem_cons_of_mem _ hx)) (by simp; omega)
  exact this.trans (by simp [renLs])
def renC (L:List QLit) (T:List (List Int)) (C:List QLit):List QLit×List (List Int)×List QLit :=
 ((renLs (List.replicate 24 0,0) L).1,(renRs (renLs (List.replicate 24 0,0) L).2 T).1,(renLs (renRs (renLs (List.replicate 24 0,0) L).2 T).2 C).1)
theorem ren0_ok:RenOk (List.replicate 24 (0:Int),0) 0:=⟨rfl,Int.le_refl _,Int.le_refl _,fun x hx=>by have:=List.eq_of_mem_replicate hx; omega⟩
def normC (L:List QLit) (T:List (List Int)) (C:List QLit):List QLit×List (List Int)×List QLit:=renC (onceL L []) (onceL T []) (onceL C [])
theorem clause_anew_eq {L:List QLit} {T:List (List Int)} {C:List QLit} (hL:L.length≤100) (hT:T.length≤100) (hC:C.length≤100) (sL:∀ l∈L,SmallR l.2) (sT:∀ l∈T,SmallR l) (sC:∀ l∈C,SmallR l.2) :
  clause_anew L T C=some (normC L T C):=by
 have big:∀ r:List Int,SmallR r→r.length≤maxLen:=fun r h=>by have:=h.1; unfold maxLen; omega
 have lL:=onceL_len L []
 have lT:=onceL_len T []
 have lC:=onceL_len C []
 simp only[List.length_nil,Nat.zero_add] at lL lT lC
 have sL':∀ l∈onceL L [],SmallR l.2:=fun l h=>sL l (by simpa using (onceL_mem L []).1 h)
 have sT':∀ l∈onceL T [],SmallR l:=fun l h=>sT l (by simpa using (onceL_mem T []).1 h)
 have sC':∀ l∈onceL C [],SmallR l.2:=fun l h=>sC l (by simpa using (onceL_mem C []).1 h)
 unfold clause_anew
 rw[clause_once_eq (fun e he=>big _ (sL e he)) (by omega),Option.bind_some,clause_once_eq (fun e he=>big _ (sC e he)) (by omega),Option.bind_some,
  clause_anew_L0_go_at0 _ _ _ _ (by unfold maxLen; omega),anew_go _ _ T [] (fun e he=>big _ (sT e he)) (by simp; omega),Option.bind_some]
 simp only
 generalize hL2:onceL L []=L2 at lL sL'
 generalize hT2:onceL T []=T2 at lT sT'
 generalize hC2:onceL C []=C2 at lC sC'
 have k0:=renLs_ok L2 sL' ren0_ok
 have k1:=renRs_ok T2 sT' k0
 have k2:=renLs_ok C2 sC' k1
 have e0:=each_L0_go L2 (List.replicate 24 0,0) [] 0 ren0_ok (by omega) sL' (by simp; omega)
 have e1:=each_L1_go (renLs (List.replicate 24 0,0) L2).1 T2 _ [] _ k0 (by omega) sT' (by simp; omega)
 have e2:=each_L2_go (renLs (List.replicate 24 0,0) L2).1 (renRs (renLs (List.replicate 24 0,0) L2).2 T2).1 C2 _ [] _ k1 (by omega) sC' (by simp; omega)
 simp only[List.nil_append] at e0 e1 e2
 unfold clause_each_1
 rw[clause_each_1_L0_go_at0 L2 L2 T2 C2 (List.replicate 24 0) 0 [] (by unfold maxLen; omega),e0,Option.bind_some]
 simp only
 rw[clause_each_1_L1_go_at0 _ _ _ _ _ _ _ _ (by unfold maxLen; omega),e1,Option.bind_some]
 simp only
 rw[clause_each_1_L2_go_at0 _ _ _ _ _ _ (by unfold maxLen; omega),e2,Option.bind_some]
 have hlen:=k2.len
 simp only[List.length_replicate,hlen]
 unfold normC renC
 rw[hL2,hT2,hC2]
 rfl
end
end Go.Abs.Q
namespace Go.Abs.Q
open Go Go.Abs
section
theorem sk_small {a0:List QSym}:{xs:List Int}→{n k:Nat}→sk a0 n xs=some k→∀ c∈xs.take k,-24≤c
 | [],n,k,h,c,hc=>by simp at hc
 | x::xs,0,k,h,c,hc=>by
  simp [sk] at h; subst h; simp at hc
 | x::xs,n+1,k,h,c,hc=>by
  unfold sk at h
  cases ha:arity a0 x with
  | none=>rw[ha] at h; cases h
  | some m =>
   rw[ha] at h
   simp only[Option.map_eq_some_iff] at h
   obtain⟨j,hj,rfl⟩:=h
   rw[List.take_succ_cons] at hc
   rcases List.mem_cons.1 hc with rfl | hc
   ·by_cases h0:c<0
    ·exact (arity_neg ha h0).1
    ·omega
   ·exact sk_small hj c hc
theorem cuts_small {a0:List QSym} {xs:List Int} {ps:List (List Int)} (h:cuts a0 xs=some ps):∀ c∈xs,-24≤c:=by
 obtain⟨h1,h2⟩:=cuts_flat xs.length xs ps (Nat.le_refl _) h
 intro c hc
 rw[← h1] at hc
 obtain⟨p,hp,hcp⟩:=List.mem_flatten.1 hc
 have:=sk_small (h2 p hp).2 c
 rw[List.take_length] at this
 exact this hcp
theorem atomB_small {a0:List QSym} {xs:List Int} (h:atomB a0 xs=true):SmallR xs:=by
 obtain⟨x,r,e,ps,rfl,h0,-,-,-,-,hl,hc,-⟩:=atomB_spec h
 refine ⟨by simp; omega,fun c hcm => ?_⟩
 rcases List.mem_cons.1 hcm with rfl | hcm
 ·omega
 ·exact cuts_small hc c hcm
theorem rowW_small {a0:List QSym} {r:List Int} {n:Nat} (h:rowW a0 r=some n):SmallR r:=by
 obtain⟨ps,hc,-,hl,-⟩:=rowW_spec h
 exact ⟨by omega,cuts_small hc⟩
theorem litsB_small {a0:List QSym} {ls:List QLit} (h:litsB a0 ls=true):∀ l∈ls,SmallR l.2:=fun l hl =>
 atomB_small (List.all_eq_true.1 h l hl)
theorem rowsB_small {a0:List QSym} {rs:List (List Int)} (h:rowsB a0 rs=true):∀ r∈rs,SmallR r:=fun r hr=>by
 obtain⟨n,hn⟩:=rowsB_all h
 exact rowW_small (hn r hr)
theorem clause_Normal_eq (a0:List QSym) (L:List QLit) (T:List (List Int)) (C:List QLit):clause_Normal a0 L T C=some (cond (mayB a0 L T C) ((normC L T C).1,(normC L T C).2.1,0,(normC L T C).2.2) ([],[],800,[])):=by
 unfold clause_Normal
 rw[clause_May_eq,Option.bind_some]
 cases h:mayB a0 L T C with
 | false=>rfl
 | true =>
  obtain⟨-,h1,h2,h3,h4,h5,h6,-⟩:=mayB_spec h
  rw[Bool.not_true,cond_false,clause_anew_eq (by omega) (by omega) (by omega) (litsB_small h4) (rowsB_small h5) (litsB_small h6),Option.bind_some]
  rfl
theorem renLs_len:(s:List Int×Int)→(ls:List QLit)→(renLs s ls).1.length=ls.length
 | _,[]=>rfl
 | s,l::ls=>by simp [renLs,renLs_len (renR s l.2).2 ls]
theorem renRs_len:(s:List Int×Int)→(ls:List (List Int))→(renRs s ls).1.length=ls.length
 | _,[]=>rfl
 | s,l::ls=>by simp [renRs,renRs_len (renR s l).2 ls]
theorem renLs_rows:(s:List Int×Int)→(ls:List QLit)→(b:Nat)→(∀ l∈ls,l.2.length≤b)→∀ l∈(renLs s ls).1,l.2.length≤b
 | _,[],_,_,l,hl=>by cases hl
 | s,e::es,b,h,l,hl=>by
  simp only[renLs] at hl
  rcases List.mem_cons.1 hl with rfl | hl
  ·rw[renR_len]; exact h e (List.mem_cons_self ..)
  ·exact renLs_rows _ es b (fun x hx=>h x (List.mem_cons_of_mem _ hx)) l hl
theorem renRs_rows:(s:List Int×Int)→(ls:List (List Int))→(b:Nat)→(∀ l∈ls,l.length≤b)→∀ l∈(renRs s ls).1,l.length≤b
 | _,[],_,_,l,hl=>by cases hl
 | s,e::es,b,h,l,hl=>by
  simp only[renRs] at hl
  rcases List.mem_cons.1 hl with rfl | hl
  ·rw[renR_len]; exact h e (List.mem_cons_self ..)
  ·exact renRs_rows _ es b (fun x hx=>h x (List.mem_cons_of_mem _ hx)) l hl
theorem normC_same {a0:List QSym} {L:List QLit} {T:List (List Int)} {C:List QLit} (h:mayB a0 L T C=true) :
  law0_SameClause (normC L T C).1 (normC L T C).2.1 (normC L T C).2.2 (normC L T C).1 (normC L T C).2.1 (normC L T C).2.2=some true:=by
 obtain⟨-,h1,h2,h3,h4,h5,h6,-⟩:=mayB_spec h
 have lL:=onceL_len L []
 have lT:=onceL_len T []
 have lC:=onceL_len C []
 simp only[List.length_nil,Nat.zero_add] at lL lT lC
 have sL:∀ l∈onceL L [],l.2.length≤1000:=fun l h=>(litsB_small h4 l (by simpa using (onceL_mem L []).1 h)).1
 have sT:∀ l∈onceL T [],l.length≤1000:=fun l h=>(rowsB_small h5 l (by simpa using (onceL_mem T []).1 h)).1
 have sC:∀ l∈onceL C [],l.2.length≤1000:=fun l h=>(litsB_small h6 l (by simpa using (onceL_mem C []).1 h)).1
 unfold normC renC
 apply law0_SameClause_refl
 ·simp only[renLs_len]; unfold maxLen; omega
 ·intro e he
  have:=renLs_rows _ _ 1000 sL e he
  unfold maxLen; omega
 ·simp only[renRs_len]; unfold maxLen; omega
 ·intro e he
  have:=renRs_rows _ _ 1000 sT e he
  unfold maxLen; omega
 ·simp only[renLs_len]; unfold maxLen; omega
 ·intro e he
  have:=renLs_rows _ _ 1000 sC e he
  unfold maxLen; omega
theorem slices_Grow_1_eq {n:Nat} (h:n≤1000000):slices_Grow_1 (n:Int)=some []:=by
 unfold slices_Grow_1
 have e:IntKind.wrap .i64 ((n:Int) - 0)=(n:Int):=by rw[wrap64]<;>omega
 rw[e,decide_eq_false (show ¬((n:Int)<0) by omega),cond_false]
 by_cases h0:n=0
 ·subst h0; rfl
 ·rw[decide_eq_true (show (n:Int)>0 by omega),cond_true,show (eqI 0 0&&eqI 0 0)=true from rfl,cond_true,show posI (n:Int)=true from decide_eq_true (by omega),cond_true,Int.toNat_natCast,room_ok (by omega),cond_true]
  have:∀ z:QLit,slc2 (List.replicate n z) none (some 0)=some []:=fun z=>by
   show slc (List.replicate n z) 0 0=some []
   unfold slc
   rw[decide_eq_true (show (0:Int)≤0 by omega),decide_eq_true (show (0:Int)≤(((List.replicate n z).length:Nat):Int) by omega)]
   rfl
  rw[this]; rfl
theorem slices_Concat2L_eq {a b:List QLit} (h:a.length+b.length≤1000000):slices_Concat_1 [a,b]=some (a++b):=by
 have w0:IntKind.wrap .i64 ((0:Int)+((a.length:Nat):Int))=((a.length:Nat):Int):=by rw[wrap64]<;>omega
 have w1:IntKind.wrap .i64 (((a.length:Nat):Int)+((b.length:Nat):Int))=((a.length+b.length:Nat):Int):=by rw[wrap64]<;>omega
 have e0:slices_Concat_1_L0_go [a,b] 0=some ((a.length+b.length:Nat):Int):=by
  unfold slices_Concat_1_L0_go
  rw[w0,decide_eq_false (show ¬(((a.length:Nat):Int)<0) by omega),cond_false]
  unfold slices_Concat_1_L0_go
  rw[w1,decide_eq_false (show ¬(((a.length+b.length:Nat):Int)<0) by omega),cond_false]
  rfl
 have e1:slices_Concat_1_L1_go [a,b] []=some (a++b):=by
  unfold slices_Concat_1_L1_go
  rw[room_ok (by simp; omega),cond_true,List.nil_append]
  unfold slices_Concat_1_L1_go
  rw[room_ok (by omega),cond_true]
  rfl
 unfold slices_Concat_1
 rw[slices_Concat_1_L0_go_at0 _ _ _ (by unfold maxLen; simp),e0,Option.bind_some,slices_Grow_1_eq h,Option.bind_some,slices_Concat_1_L1_go_at0 _ _ (by unfold maxLen; simp),e1]
 rfl
def placeB (L:List QLit) (i:Int):Bool:=decide (0≤i)&&decide (i<L.length)
end
end Go.Abs.Q
namespace Go.Abs.Q
open Go Go.Abs
section
theorem nn_some {α:Type} {xs:List α} (h:xs≠[]):nn xs=some xs:=by
 cases xs with
 | nil=>exact absurd rfl h
 | cons x xs=>rfl
def NearR (r:List Int):Prop:=r.length≤1000∧∀ c∈r,-1000000≤c∧c≤1000000
end
end Go.Abs.Q
namespace Go.Abs.Q
open Go Go.Abs
def lex_small (a0:Int):Option Bool :=
 cond (decide (a0≥97))
 (some (decide (a0≤122)))
 (some false)
def lex_digit (a0:Int):Option Bool :=
 cond (decide (a0≥48))
 (some (decide (a0≤57)))
 (some false)
def lex_run_L0 (rec:(Str×Int×Bool)→Option Int) (x:(Str×Int×Bool)):Option Int :=
 cond (decide (x.2.1<((List.length x.1:Nat):Int)))
 ((gx x.1 x.2.1).bind fun c5 =>
  (lex_digit ((UInt8.toNat c5:Nat):Int)).bind fun r6 =>
  cond r6
  (rec (x.1,(IntKind.wrap .i64 (x.2.1+1)),x.2.2))
  (cond x.2.2
   ((gx x.1 x.2.1).bind fun c7 =>
    (lex_small ((UInt8.toNat c7:Nat):Int)).bind fun r8 =>
    cond r8
    (rec (x.1,(IntKind.wrap .i64 (x.2.1+1)),x.2.2))
    (some x.2.1))
   (some x.2.1)))
 (some x.2.1)
def lex_run (a0:Str) (a1:Int) (a2:Bool):Option Int :=
 ((lp lex_run_L0 fuel) (a0,a1,a2)).bind fun r10 =>
 some r10
def internal_stringslite_HasPrefix (a0:Str) (a1:Str):Option Bool :=
 cond (decide (((List.length a0:Nat):Int)≥((List.length a1:Nat):Int)))
 ((slc2 a0 none (some ((List.length a1:Nat):Int))).bind fun y2 =>
  some (y2==a1))
 (some false)
def strings_HasPrefix (a0:Str) (a1:Str):Option Bool :=
 (internal_stringslite_HasPrefix a0 a1).bind fun r2 =>
 some r2
def strings_Contains (a0:Str) (a1:Str):Option Bool:=containsF a0 a1
def lex_number (a0:Str) (a1:Int):Option Bool :=
 cond (!(a0==([]:Str)))
 (cond (decide (((List.length a0:Nat):Int)≤a1))
  ((gx a0 0).bind fun c2 =>
   cond (((UInt8.toNat c2:Nat):Int) != 48)
   (some true)
   (some (((List.length a0:Nat):Int)==1)))
  (some false))
 (some false)
def lex_Number_L0 (rec:QSym→Option Int) (x:QSym):Option Int :=
 cond (decide (x.2.2.2<x.2.2.1))
 ((gx x.1 x.2.2.2).bind fun c2 =>
  rec (x.1,(IntKind.wrap .i64 ((IntKind.wrap .i64 (10*x.2.1))+(IntKind.wrap .i64 (IntKind.wrap .u8 (((UInt8.toNat c2:Nat):Int) - 48))))),x.2.2.1,(IntKind.wrap .i64 (x.2.2.2+1))))
 (some x.2.1)
def lex_Number (a0:Str):Option Int :=
 ((lp lex_Number_L0 fuel) (a0,0,((List.length a0:Nat):Int),0)).bind fun r4 =>
 some r4
def lex_Lex_L2 (rec:(Str×Int)→Option Int) (x:(Str×Int)):Option Int :=
 cond (decide (x.2<((List.length x.1:Nat):Int)))
 ((gx x.1 x.2).bind fun c11 =>
  cond (((UInt8.toNat c11:Nat):Int)==32)
  (rec (x.1,(IntKind.wrap .i64 (x.2+1))))
  (some x.2))
 (some x.2)
def lex_Lex_L1 (rec:(Str×Int)→Option Int) (x:(Str×Int)):Option Int :=
 cond (decide (x.2<((List.length x.1:Nat):Int)))
 ((gx x.1 x.2).bind fun c3 =>
  cond (((UInt8.toNat c3:Nat):Int)==32)
  (rec (x.1,(IntKind.wrap .i64 (x.2+1))))
  (some x.2))
 (some x.2)
def lex_Lex_L0 (rec:(Unit⊕((Str×Int×(List (Int×Str)))⊕((Str×Int×(List (Int×Str)))⊕((Str×Int×(List (Int×Str)))⊕((Str×Int×(List (Int×Str)))⊕(Str×Int×Int×Int×(List (Int×Str))))))))→Option (Int×(List (Int×Str)))) (y:(Unit⊕((Str×Int×(List (Int×Str)))⊕((Str×Int×(List (Int×Str)))⊕((Str×Int×(List (Int×Str)))⊕((Str×Int×(List (Int×Str)))⊕(Str×Int×Int×Int×(List (Int×Str))))))))):Option (Int×(List (Int×Str))) :=
 caseS y
 (fun _x=>some (2100,([]:(List (Int×Str)))))
 (fun q1=>caseS q1
  (fun x=>((lp lex_Lex_L2 fuel) (x.1,x.2.1)).bind fun r33 =>
   cond (r33==((List.length x.1:Nat):Int))
   (some (0,x.2.2))
   ((gx x.1 r33).bind fun c34 =>
    (lex_small ((UInt8.toNat c34:Nat):Int)).bind fun r35 =>
    cond r35
    (rec (Sum.inr (Sum.inr (Sum.inl (x.1,r33,x.2.2)))))
    ((gx x.1 r33).bind fun c36 =>
     cond (((UInt8.toNat c36:Nat):Int)==88)
     (rec (Sum.inr (Sum.inr (Sum.inr (Sum.inl (x.1,r33,x.2.2))))))
     ((gx x.1 r33).bind fun c37 =>
      (lex_digit ((UInt8.toNat c37:Nat):Int)).bind fun r38 =>
      cond r38
      (rec (Sum.inr (Sum.inr (Sum.inr (Sum.inr (Sum.inl (x.1,r33,x.2.2)))))))
      ((slc2 x.1 (some r33) none).bind fun y39 =>
       (strings_HasPrefix y39 ([45,62]:Str)).bind fun r40 =>
       cond r40
       (rec (Sum.inr (Sum.inr (Sum.inr (Sum.inr (Sum.inr (x.1,r33,(IntKind.wrap .i64 ((IntKind.wrap .i64 (r33+1))+1)),3,x.2.2)))))))
       ((slc2 x.1 (some r33) (some (IntKind.wrap .i64 (r33+1)))).bind fun y41 =>
        (strings_Contains ([40,41,44,61,126,38,124,58]:Str) y41).bind fun r42 =>
        cond (!r42)
        (rec (Sum.inl ()))
        (rec (Sum.inr (Sum.inr (Sum.inr (Sum.inr (Sum.inr (x.1,r33,(IntKind.wrap .i64 (r33+1)),3,x.2.2)))))))))))))
  (fun q2=>caseS q2
   (fun x=>(lex_run x.1 x.2.1 true).bind fun r43 =>
    cond (decide ((IntKind.wrap .i64 (r43 - x.2.1))>8))
    (rec (Sum.inl ()))
    (rec (Sum.inr (Sum.inr (Sum.inr (Sum.inr (Sum.inr (x.1,x.2.1,r43,0,x.2.2))))))))
   (fun q3=>caseS q3
    (fun x=>(lex_run x.1 (IntKind.wrap .i64 (x.2.1+1)) false).bind fun r44 =>
     (slc2 x.1 (some (IntKind.wrap .i64 (x.2.1+1))) (some r44)).bind fun y45 =>
     (lex_number y45 2).bind fun r46 =>
     cond (!r46)
     (rec (Sum.inl ()))
     ((slc2 x.1 (some (IntKind.wrap .i64 (x.2.1+1))) (some r44)).bind fun y47 =>
      (lex_Number y47).bind fun r48 =>
      cond (decide (r48>23))
      (rec (Sum.inl ()))
      (rec (Sum.inr (Sum.inr (Sum.inr (Sum.inr (Sum.inr (x.1,x.2.1,r44,1,x.2.2)))))))))
    (fun q4=>caseS q4
     (fun x=>(lex_run x.1 x.2.1 false).bind fun r49 =>
      (slc2 x.1 (some x.2.1) (some r49)).bind fun y50 =>
      (lex_number y50 4).bind fun r51 =>
      cond (!r51)
      (rec (Sum.inl ()))
      ((slc2 x.1 (some x.2.1) (some r49)).bind fun y52 =>
       cond (room (List.length x.2.2+List.length ([(2,y52)]:List (Int×Str))) 24)
       (rec (Sum.inr (Sum.inl (x.1,r49,(x.2.2++([(2,y52)]:List (Int×Str)))))))
       (none)))
     (fun x=>(slc2 x.1 (some x.2.1) (some x.2.2.1)).bind fun y53 =>
      cond (room (List.length x.2.2.2.2+List.length ([(x.2.2.2.1,y53)]:List (Int×Str))) 24)
      (rec (Sum.inr (Sum.inl (x.1,x.2.2.1,(x.2.2.2.2++([(x.2.2.2.1,y53)]:List (Int×Str)))))))
      (none))))))
def lex_Lex (a0:Str):Option (Int×(List (Int×Str))) :=
 cond (decide (((List.length a0:Nat):Int)>2048))
 ((((lp lex_Lex_L0 fuel) (Sum.inl ()))).bind fun r67 =>
  some (r67.1,r67.2))
 (((lp lex_Lex_L1 fuel) (a0,0)).bind fun r68 =>
  cond (r68==((List.length a0:Nat):Int))
  (some (0,([]:(List (Int×Str)))))
  ((gx a0 r68).bind fun c69 =>
   (lex_small ((UInt8.toNat c69:Nat):Int)).bind fun r70 =>
   cond r70
   ((((lp lex_Lex_L0 fuel) (Sum.inr (Sum.inr (Sum.inl (a0,r68,([]:(List (Int×Str))))))))).bind fun r71 =>
    some (r71.1,r71.2))
   ((gx a0 r68).bind fun c72 =>
    cond (((UInt8.toNat c72:Nat):Int)==88)
    ((((lp lex_Lex_L0 fuel) (Sum.inr (Sum.inr (Sum.inr (Sum.inl (a0,r68,([]:(List (Int×Str)))))))))).bind fun r73 =>
     some (r73.1,r73.2))
    ((gx a0 r68).bind fun c74 =>
     (lex_digit ((UInt8.toNat c74:Nat):Int)).bind fun r75 =>
     cond r75
     ((((lp lex_Lex_L0 fuel) (Sum.inr (Sum.inr (Sum.inr (Sum.inr (Sum.inl (a0,r68,([]:(List (Int×Str))))))))))).bind fun r76 =>
      some (r76.1,r76.2))
     ((slc2 a0 (some r68) none).bind fun y77 =>
      (strings_HasPrefix y77 ([45,62]:Str)).bind fun r78 =>
      cond r78
      ((((lp lex_Lex_L0 fuel) (Sum.inr (Sum.inr (Sum.inr (Sum.inr (Sum.inr (a0,r68,(IntKind.wrap .i64 ((IntKind.wrap .i64 (r68+1))+1)),3,([]:(List (Int×Str))))))))))).bind fun r79 =>
       some (r79.1,r79.2))
      ((slc2 a0 (some r68) (some (IntKind.wrap .i64 (r68+1)))).bind fun y80 =>
       (strings_Contains ([40,41,44,61,126,38,124,58]:Str) y80).bind fun r81 =>
       cond (!r81)
       ((((lp lex_Lex_L0 fuel) (Sum.inl ()))).bind fun r82 =>
        some (r82.1,r82.2))
       ((((lp lex_Lex_L0 fuel) (Sum.inr (Sum.inr (Sum.inr (Sum.inr (Sum.inr (a0,r68,(IntKind.wrap .i64 (r68+1)),3,([]:(List (Int×Str))))))))))).bind fun r83 =>
        some (r83.1,r83.2))))))))
def formula_Reader_Is_1 (a0:Str) (a1:(List QSym)) (a2:(List (Int×Str))) (a3:Bool):Option (Bool×(List QSym)×(List (Int×Str))×Bool) :=
 cond (((List.length a2:Nat):Int)==0)
 (some (false,a1,a2,a3))
 ((gx a2 0).bind fun e4 =>
  cond (e4.1 != 3)
  (some (false,a1,a2,a3))
  ((gx a2 0).bind fun e5 =>
   cond (!(e5.2==a0))
   (some (false,a1,a2,a3))
   ((slc2 a2 (some 1) none).bind fun y6 =>
    some (true,a1,y6,a3))))
def formula_Reader_binder_1 (a0:(List QSym)) (a1:(List (Int×Str))) (a2:Bool):Option (Int×Int×Bool×(List QSym)×(List (Int×Str))×Bool) :=
 cond (decide (((List.length a1:Nat):Int)<2))
 (some (0,0,false,a0,a1,a2))
 ((gx a1 0).bind fun e9 =>
  cond (e9.1 != 0)
  (some (0,0,false,a0,a1,a2))
  ((gx a1 1).bind fun e10 =>
   cond (e10.1 != 1)
   (some (0,0,false,a0,a1,a2))
   ((gx a1 1).bind fun e11 =>
    (slc2 e11.2 (some 1) none).bind fun y12 =>
    (lex_Number y12).bind fun r13 =>
    (gx a1 0).bind fun e14 =>
    cond (e14.2==([101,120]:Str))
    ((slc2 a1 (some 2) none).bind fun y15 =>
     some (6,r13,true,a0,y15,a2))
    (cond (e14.2==([97,108,108]:Str))
     ((slc2 a1 (some 2) none).bind fun y16 =>
      some (5,r13,true,a0,y16,a2))
     (some (0,0,false,a0,a1,a2))))))
def sign_Find (a0:(List QSym)) (a1:Str):Option (Int×Int) :=
 (sign_May a0).bind fun r3 =>
 cond (!r3)
 (some (0,100))
 ((sign_find a0 a1).bind fun r4 =>
  some (r4,0))
def formula_Reader_symbol_1 (a0:(List QSym)) (a1:(List (Int×Str))) (a2:Bool):Option (Int×Bool×(List QSym)×(List (Int×Str))×Bool) :=
 cond (((List.length a1:Nat):Int)==0)
 (some (0,false,a0,a1,a2))
 ((gx a1 0).bind fun e5 =>
  cond (e5.1 != 0)
  (some (0,false,a0,a1,a2))
  ((gx a1 0).bind fun e6 =>
   (sign_Find a0 e6.2).bind fun r7 =>
   cond (decide (r7.1<0))
   (some (0,false,a0,a1,a2))
   ((slc2 a1 (some 1) none).bind fun y8 =>
    some (r7.1,true,a0,y8,a2))))
def formula_Reader_Var_1 (a0:(List QSym)) (a1:(List (Int×Str))) (a2:Bool):Option (Int×Bool×(List QSym)×(List (Int×Str))×Bool) :=
 cond (((List.length a1:Nat):Int)==0)
 (some (0,false,a0,a1,a2))
 ((gx a1 0).bind fun e6 =>
  cond (e6.1 != 1)
  (some (0,false,a0,a1,a2))
  ((gx a1 0).bind fun e7 =>
   (slc2 e7.2 (some 1) none).bind fun y8 =>
   (lex_Number y8).bind fun r9 =>
   (slc2 a1 (some 1) none).bind fun y10 =>
   some (r9,true,a0,y10,a2)))
def formula_Reader_term_1_S (rf:((((List QSym)×(List (Int×Str))×Bool)→Option (Bool×(List Int)×(List QSym)×(List (Int×Str))×Bool))×((Int×(List QSym)×(List (Int×Str))×Bool)→Option (Bool×(List Int)×(List QSym)×(List (Int×Str))×Bool)))) (a0:(List QSym)) (a1:(List (Int×Str))) (a2:Bool):Option (Bool×(List Int)×(List QSym)×(List (Int×Str))×Bool) :=
 (formula_Reader_Var_1 a0 a1 a2).bind fun r6 =>
 cond r6.2.1
 ((term_Number r6.1).bind fun r7 =>
  some (true,([r7]:List Int),r6.2.2.1,r6.2.2.2.1,r6.2.2.2.2))
 ((formula_Reader_symbol_1 r6.2.2.1 r6.2.2.2.1 r6.2.2.2.2).bind fun r8 =>
  cond (!r8.2.1)
  (some (false,([]:(List Int)),r8.2.2.1,r8.2.2.2.1,r8.2.2.2.2))
  ((gx r8.2.2.1 r8.1).bind fun e9 =>
   cond (e9.2.1==0)
   (some (false,([]:(List Int)),r8.2.2.1,r8.2.2.2.1,r8.2.2.2.2))
   ((rf.2 (r8.1,r8.2.2.1,r8.2.2.2.1,r8.2.2.2.2)).bind fun r10 =>
    some (r10.1,r10.2.1,r10.2.2.1,r10.2.2.2.1,r10.2.2.2.2))))
def formula_Reader_behind_1_L0 (rf:((((List QSym)×(List (Int×Str))×Bool)→Option (Bool×(List Int)×(List QSym)×(List (Int×Str))×Bool))×((Int×(List QSym)×(List (Int×Str))×Bool)→Option (Bool×(List Int)×(List QSym)×(List (Int×Str))×Bool)))) (rec:(Int×Int×Int×(List QSym)×(List (Int×Str))×Bool×(List Int))→Option (((List QSym)×(List (Int×Str))×Bool×(List Int))⊕(Bool×(List QSym)×(List (Int×Str))×Bool))) (x:(Int×Int×Int×(List QSym)×(List (Int×Str))×Bool×(List Int))):Option (((List QSym)×(List (Int×Str))×Bool×(List Int))⊕(Bool×(List QSym)×(List (Int×Str))×Bool)) :=
 cond (decide (x.2.2.1<x.2.1))
 (cond (x.2.2.1==0)
  ((formula_Reader_Is_1 ([40]:Str) x.2.2.2.1 x.2.2.2.2.1 x.2.2.2.2.2.1).bind fun r8 =>
   cond (!r8.1)
   (some (Sum.inr (false,r8.2.1,r8.2.2.1,r8.2.2.2)))
   ((rf.1 (r8.2.1,r8.2.2.1,r8.2.2.2)).bind fun r9 =>
    cond (!r9.1)
    (some (Sum.inr (false,r9.2.2.1,r9.2.2.2.1,r9.2.2.2.2)))
    (cond (room (List.length x.2.2.2.2.2.2+List.length r9.2.1) 8)
     (rec (x.1,x.2.1,(IntKind.wrap .i64 (x.2.2.1+1)),r9.2.2.1,r9.2.2.2.1,r9.2.2.2.2,(x.2.2.2.2.2.2++r9.2.1)))
     (none))))
  ((formula_Reader_Is_1 ([44]:Str) x.2.2.2.1 x.2.2.2.2.1 x.2.2.2.2.2.1).bind fun r10 =>
   cond (!r10.1)
   (some (Sum.inr (false,r10.2.1,r10.2.2.1,r10.2.2.2)))
   ((rf.1 (r10.2.1,r10.2.2.1,r10.2.2.2)).bind fun r11 =>
    cond (!r11.1)
    (some (Sum.inr (false,r11.2.2.1,r11.2.2.2.1,r11.2.2.2.2)))
    (cond (room (List.length x.2.2.2.2.2.2+List.length r11.2.1) 8)
     (rec (x.1,x.2.1,(IntKind.wrap .i64 (x.2.2.1+1)),r11.2.2.1,r11.2.2.2.1,r11.2.2.2.2,(x.2.2.2.2.2.2++r11.2.1)))
     (none)))))
 (some (Sum.inl (x.2.2.2.1,x.2.2.2.2.1,x.2.2.2.2.2.1,x.2.2.2.2.2.2)))
def formula_Reader_behind_1_S (rf:((((List QSym)×(List (Int×Str))×Bool)→Option (Bool×(List Int)×(List QSym)×(List (Int×Str))×Bool))×((Int×(List QSym)×(List (Int×Str))×Bool)→Option (Bool×(List Int)×(List QSym)×(List (Int×Str))×Bool)))) (a0:Int) (a1:(List QSym)) (a2:(List (Int×Str))) (a3:Bool):Option (Bool×(List Int)×(List QSym)×(List (Int×Str))×Bool) :=
 (gx a1 a0).bind fun e17 =>
 ((lp (formula_Reader_behind_1_L0 rf) fuel) (a0,e17.2.2.1,0,a1,a2,a3,([a0]:List Int))).bind fun r18 =>
 caseS r18
 (fun z19=>(gx z19.1 a0).bind fun e20 =>
  cond (e20.2.2.1==0)
  (some (true,z19.2.2.2,z19.1,z19.2.1,z19.2.2.1))
  ((formula_Reader_Is_1 ([41]:Str) z19.1 z19.2.1 z19.2.2.1).bind fun r21 =>
   some (r21.1,z19.2.2.2,r21.2.1,r21.2.2.1,r21.2.2.2)))
 (fun z22=>some (z22.1,([]:(List Int)),z22.2.1,z22.2.2.1,z22.2.2.2))
def formula_Reader_behind_1_R_step (rf:((((List QSym)×(List (Int×Str))×Bool)→Option (Bool×(List Int)×(List QSym)×(List (Int×Str))×Bool))×((Int×(List QSym)×(List (Int×Str))×Bool)→Option (Bool×(List Int)×(List QSym)×(List (Int×Str))×Bool)))):((((List QSym)×(List (Int×Str))×Bool)→Option (Bool×(List Int)×(List QSym)×(List (Int×Str))×Bool))×((Int×(List QSym)×(List (Int×Str))×Bool)→Option (Bool×(List Int)×(List QSym)×(List (Int×Str))×Bool))) :=
 (fun (x:((List QSym)×(List (Int×Str))×Bool))=>formula_Reader_term_1_S rf x.1 x.2.1 x.2.2,fun (x:(Int×(List QSym)×(List (Int×Str))×Bool))=>formula_Reader_behind_1_S rf x.1 x.2.1 x.2.2.1 x.2.2.2)
def formula_Reader_behind_1_R_base:((((List QSym)×(List (Int×Str))×Bool)→Option (Bool×(List Int)×(List QSym)×(List (Int×Str))×Bool))×((Int×(List QSym)×(List (Int×Str))×Bool)→Option (Bool×(List Int)×(List QSym)×(List (Int×Str))×Bool))):=(fun _=>none,fun _=>none)
def formula_Reader_behind_1_R (k:Nat):((((List QSym)×(List (Int×Str))×Bool)→Option (Bool×(List Int)×(List QSym)×(List (Int×Str))×Bool))×((Int×(List QSym)×(List (Int×Str))×Bool)→Option (Bool×(List Int)×(List QSym)×(List (Int×Str))×Bool))):=lpR formula_Reader_behind_1_R_base formula_Reader_behind_1_R_step k
def formula_Reader_term_1 (a0:(List QSym)) (a1:(List (Int×Str))) (a2:Bool):Option (Bool×(List Int)×(List QSym)×(List (Int×Str))×Bool):=(formula_Reader_behind_1_R fuel).1 (a0,a1,a2)
def formula_Reader_behind_1 (a0:Int) (a1:(List QSym)) (a2:(List (Int×Str))) (a3:Bool):Option (Bool×(List Int)×(List QSym)×(List (Int×Str))×Bool):=(formula_Reader_behind_1_R fuel).2 (a0,a1,a2,a3)
def slices_Grow_2 (a0:Int):Option (List Int) :=
 cond (decide (a0<0))
 (none)
 (cond (decide ((IntKind.wrap .i64 (a0 - 0))>0))
  (cond (eqI 0 0&&eqI 0 0)
   (cond (posI (IntKind.wrap .i64 (a0 - 0)))
    (cond (room (Int.toNat (IntKind.wrap .i64 (a0 - 0))) 8)
     ((slc2 (List.replicate (Int.toNat (IntKind.wrap .i64 (a0 - 0))) (0:Int)) none (some 0)).bind fun y2 =>
      some y2)
     (none))
    (none))
   (none))
  (some ([]:(List Int))))
def slices_Concat_2_L1 (rec:((List (List Int))×Int×Int×(List Int))→Option (List Int)) (x:((List (List Int))×Int×Int×(List Int))):Option (List Int) :=
 cond (decide (x.2.2.1<x.2.1))
 ((gx x.1 x.2.2.1).bind fun e7 =>
  cond (room (List.length x.2.2.2+List.length e7) 8)
  (rec (x.1,x.2.1,(IntKind.wrap .i64 (x.2.2.1+1)),(x.2.2.2++e7)))
  (none))
 (some x.2.2.2)
def slices_Concat_2_L0 (rec:((List (List Int))×Int×(List (List Int))×Int×Int)→Option Int) (x:((List (List Int))×Int×(List (List Int))×Int×Int)):Option Int :=
 cond (decide (x.2.2.2.2<x.2.2.2.1))
 ((gx x.2.2.1 x.2.2.2.2).bind fun e2 =>
  cond (decide ((IntKind.wrap .i64 (x.2.1+((List.length e2:Nat):Int)))<0))
  (none)
  (rec (x.1,(IntKind.wrap .i64 (x.2.1+((List.length e2:Nat):Int))),x.2.2.1,x.2.2.2.1,(IntKind.wrap .i64 (x.2.2.2.2+1)))))
 (some x.2.1)
def slices_Concat_2 (a0:(List (List Int))):Option (List Int) :=
 ((lp slices_Concat_2_L0 fuel) (a0,0,a0,((List.length a0:Nat):Int),0)).bind fun r9 =>
 (slices_Grow_2 r9).bind fun r10 =>
 ((lp slices_Concat_2_L1 fuel) (a0,((List.length a0:Nat):Int),0,r10)).bind fun r11 =>
 some r11
def formula_Reader_Atom_1 (a0:(List QSym)) (a1:(List (Int×Str))) (a2:Bool):Option (Bool×(List Int)×(List QSym)×(List (Int×Str))×Bool) :=
 (formula_Reader_symbol_1 a0 a1 a2).bind fun r12 =>
 cond r12.2.1
 ((gx r12.2.2.1 r12.1).bind fun e13 =>
  cond (e13.2.1==0)
  ((formula_Reader_behind_1 r12.1 r12.2.2.1 r12.2.2.2.1 r12.2.2.2.2).bind fun r14 =>
   cond r14.2.2.2.2
   (some (r14.1,r14.2.1,r14.2.2.1,r14.2.2.2.1,true))
   (some (r14.1,r14.2.1,r14.2.2.1,r14.2.2.2.1,(decide (((List.length r14.2.1:Nat):Int)>49)))))
  ((formula_Reader_term_1 r12.2.2.1 a1 r12.2.2.2.2).bind fun r15 =>
   cond (!r15.1)
   (some (false,([]:(List Int)),r15.2.2.1,r15.2.2.2.1,r15.2.2.2.2))
   ((formula_Reader_Is_1 ([61]:Str) r15.2.2.1 r15.2.2.2.1 r15.2.2.2.2).bind fun r16 =>
    cond (!r16.1)
    (some (false,([]:(List Int)),r16.2.1,r16.2.2.1,r16.2.2.2))
    ((formula_Reader_term_1 r16.2.1 r16.2.2.1 r16.2.2.2).bind fun r17 =>
     (slices_Concat_2 ([([0]:List Int),r15.2.1,r17.2.1]:List (List Int))).bind fun r18 =>
     cond r17.2.2.2.2
     (some (r17.1,r18,r17.2.2.1,r17.2.2.2.1,true))
     (some (r17.1,r18,r17.2.2.1,r17.2.2.2.1,(decide (((List.length r18:Nat):Int)>49))))))))
 ((formula_Reader_term_1 r12.2.2.1 a1 r12.2.2.2.2).bind fun r19 =>
  cond (!r19.1)
  (some (false,([]:(List Int)),r19.2.2.1,r19.2.2.2.1,r19.2.2.2.2))
  ((formula_Reader_Is_1 ([61]:Str) r19.2.2.1 r19.2.2.2.1 r19.2.2.2.2).bind fun r20 =>
   cond (!r20.1)
   (some (false,([]:(List Int)),r20.2.1,r20.2.2.1,r20.2.2.2))
   ((formula_Reader_term_1 r20.2.1 r20.2.2.1 r20.2.2.2).bind fun r21 =>
    (slices_Concat_2 ([([0]:List Int),r19.2.1,r21.2.1]:List (List Int))).bind fun r22 =>
    cond r21.2.2.2.2
    (some (r21.1,r22,r21.2.2.1,r21.2.2.2.1,true))
    (some (r21.1,r22,r21.2.2.1,r21.2.2.2.1,(decide (((List.length r22:Nat):Int)>49)))))))
def formula_Reader_joint_1_L0 (rec:((List Str)×Int×Int×(List QSym)×(List (Int×Str))×Bool)→Option (((List QSym)×(List (Int×Str))×Bool)⊕(Int×Bool×(List QSym)×(List (Int×Str))×Bool))) (x:((List Str)×Int×Int×(List QSym)×(List (Int×Str))×Bool)):Option (((List QSym)×(List (Int×Str))×Bool)⊕(Int×Bool×(List QSym)×(List (Int×Str))×Bool)) :=
 cond (decide (x.2.2.1<x.2.1))
 ((gx x.1 x.2.2.1).bind fun e5 =>
  (formula_Reader_Is_1 e5 x.2.2.2.1 x.2.2.2.2.1 x.2.2.2.2.2).bind fun r6 =>
  cond r6.1
  (some (Sum.inr ((IntKind.wrap .i64 (2+x.2.2.1)),true,r6.2.1,r6.2.2.1,r6.2.2.2)))
  (rec (x.1,x.2.1,(IntKind.wrap .i64 (x.2.2.1+1)),r6.2.1,r6.2.2.1,r6.2.2.2)))
 (some (Sum.inl (x.2.2.2.1,x.2.2.2.2.1,x.2.2.2.2.2)))
def formula_Reader_joint_1 (a0:(List QSym)) (a1:(List (Int×Str))) (a2:Bool):Option (Int×Bool×(List QSym)×(List (Int×Str))×Bool) :=
 ((lp formula_Reader_joint_1_L0 fuel) (([([38]:Str),([124]:Str),([45,62]:Str)]:List Str),((List.length ([([38]:Str),([124]:Str),([45,62]:Str)]:List Str):Nat):Int),0,a0,a1,a2)).bind fun r10 =>
 caseS r10
 (fun z11=>some (0,false,z11.1,z11.2.1,z11.2.2))
 (fun z12=>some (z12.1,z12.2.1,z12.2.2.1,z12.2.2.2.1,z12.2.2.2.2))
def formula_Reader_formula_1_L0 (rec:(((List QSym)×(List (Int×Str))×Bool×(List (Int×Int×(List Int)))×(List (Int×Bool)))⊕((List QSym)×(List (Int×Str))×Bool×(List (Int×Int×(List Int)))×(List (Int×Bool))))→Option (Bool×(List QSym)×(List (Int×Str))×Bool×(List (Int×Int×(List Int))))) (y:(((List QSym)×(List (Int×Str))×Bool×(List (Int×Int×(List Int)))×(List (Int×Bool)))⊕((List QSym)×(List (Int×Str))×Bool×(List (Int×Int×(List Int)))×(List (Int×Bool))))):Option (Bool×(List QSym)×(List (Int×Str))×Bool×(List (Int×Int×(List Int)))) :=
 caseS y
 (fun x=>(formula_Reader_Is_1 ([126]:Str) x.1 x.2.1 x.2.2.1).bind fun r26 =>
  cond r26.1
  (cond (room (List.length x.2.2.2.1+List.length ([(1,0,([]:(List Int)))]:List (Int×Int×(List Int)))) 40)
   (rec (Sum.inl (r26.2.1,r26.2.2.1,r26.2.2.2,(x.2.2.2.1++([(1,0,([]:(List Int)))]:List (Int×Int×(List Int)))),x.2.2.2.2)))
   (none))
  ((formula_Reader_binder_1 r26.2.1 r26.2.2.1 r26.2.2.2).bind fun r27 =>
   cond r27.2.2.1
   (cond (room (List.length x.2.2.2.1+List.length ([(r27.1,r27.2.1,([]:(List Int)))]:List (Int×Int×(List Int)))) 40)
    (rec (Sum.inl (r27.2.2.2.1,r27.2.2.2.2.1,r27.2.2.2.2.2,(x.2.2.2.1++([(r27.1,r27.2.1,([]:(List Int)))]:List (Int×Int×(List Int)))),x.2.2.2.2)))
    (none))
   ((formula_Reader_Is_1 ([40]:Str) r27.2.2.2.1 r27.2.2.2.2.1 r27.2.2.2.2.2).bind fun r28 =>
    cond r28.1
    (cond (room (List.length x.2.2.2.2+List.length ([(((List.length x.2.2.2.1:Nat):Int),false)]:List (Int×Bool))) 16)
     (cond (room (List.length x.2.2.2.1+List.length ([(0,0,([]:(List Int)))]:List (Int×Int×(List Int)))) 40)
      (rec (Sum.inl (r28.2.1,r28.2.2.1,r28.2.2.2,(x.2.2.2.1++([(0,0,([]:(List Int)))]:List (Int×Int×(List Int)))),(x.2.2.2.2++([(((List.length x.2.2.2.1:Nat):Int),false)]:List (Int×Bool))))))
      (none))
     (none))
    ((formula_Reader_Atom_1 r28.2.1 r28.2.2.1 r28.2.2.2).bind fun r29 =>
     cond r29.1
     (cond (room (List.length x.2.2.2.1+List.length ([(0,0,r29.2.1)]:List (Int×Int×(List Int)))) 40)
      (rec (Sum.inr (r29.2.2.1,r29.2.2.2.1,r29.2.2.2.2,(x.2.2.2.1++([(0,0,r29.2.1)]:List (Int×Int×(List Int)))),x.2.2.2.2)))
      (none))
     (some (false,r29.2.2.1,r29.2.2.2.1,r29.2.2.2.2,([]:(List (Int×Int×(List Int))))))))))
 (fun x=>cond (((List.length x.2.2.2.2:Nat):Int)==0)
  (some (true,x.1,x.2.1,x.2.2.1,x.2.2.2.1))
  ((inR (IntKind.wrap .i64 (((List.length x.2.2.2.2:Nat):Int) - 1)) (List.length x.2.2.2.2)).bind fun k30 =>
   (formula_Reader_joint_1 x.1 x.2.1 x.2.2.1).bind fun r31 =>
   cond r31.2.1
   ((x.2.2.2.2[k30]?).bind fun x32 =>
    cond (!x32.2)
    ((x.2.2.2.2[k30]?).bind fun x33 =>
     (inR x33.1 (List.length x.2.2.2.1)).bind fun k34 =>
     (x.2.2.2.1[k34]?).bind fun x35 =>
     (x.2.2.2.2[k30]?).bind fun x36 =>
     rec (Sum.inl (r31.2.2.1,r31.2.2.2.1,r31.2.2.2.2,(List.set x.2.2.2.1 k34 (r31.1,x35.2)),(List.set x.2.2.2.2 k30 (x36.1,true)))))
    (cond r31.2.1
     (some (false,r31.2.2.1,r31.2.2.2.1,r31.2.2.2.2,([]:(List (Int×Int×(List Int))))))
     ((x.2.2.2.2[k30]?).bind fun x37 =>
      cond (!x37.2)
      (some (false,r31.2.2.1,r31.2.2.2.1,r31.2.2.2.2,([]:(List (Int×Int×(List Int))))))
      ((formula_Reader_Is_1 ([41]:Str) r31.2.2.1 r31.2.2.2.1 r31.2.2.2.2).bind fun r38 =>
       cond (!r38.1)
       (some (false,r38.2.1,r38.2.2.1,r38.2.2.2,([]:(List (Int×Int×(List Int))))))
       ((slc2 x.2.2.2.2 none (some (IntKind.wrap .i64 (((List.length x.2.2.2.2:Nat):Int) - 1)))).bind fun y39 =>
        rec (Sum.inr (r38.2.1,r38.2.2.1,r38.2.2.2,x.2.2.2.1,y39)))))))
   (cond r31.2.1
    (some (false,r31.2.2.1,r31.2.2.2.1,r31.2.2.2.2,([]:(List (Int×Int×(List Int))))))
    ((x.2.2.2.2[k30]?).bind fun x40 =>
     cond (!x40.2)
     (some (false,r31.2.2.1,r31.2.2.2.1,r31.2.2.2.2,([]:(List (Int×Int×(List Int))))))
     ((formula_Reader_Is_1 ([41]:Str) r31.2.2.1 r31.2.2.2.1 r31.2.2.2.2).bind fun r41 =>
      cond (!r41.1)
      (some (false,r41.2.1,r41.2.2.1,r41.2.2.2,([]:(List (Int×Int×(List Int))))))
      ((slc2 x.2.2.2.2 none (some (IntKind.wrap .i64 (((List.length x.2.2.2.2:Nat):Int) - 1)))).bind fun y42 =>
       rec (Sum.inr (r41.2.1,r41.2.2.1,r41.2.2.2,x.2.2.2.1,y42))))))))
def formula_Reader_formula_1 (a0:(List QSym)) (a1:(List (Int×Str))) (a2:Bool):Option (Bool×(List (Int×Int×(List Int)))×(List QSym)×(List (Int×Str))×Bool) :=
 (formula_Reader_Is_1 ([126]:Str) a0 a1 a2).bind fun r50 =>
 cond r50.1
 (cond (room (List.length ([(1,0,([]:(List Int)))]:List (Int×Int×(List Int)))) 40)
  ((((lp formula_Reader_formula_1_L0 fuel) (Sum.inl (r50.2.1,r50.2.2.1,r50.2.2.2,([(1,0,([]:(List Int)))]:List (Int×Int×(List Int))),([]:(List (Int×Bool))))))).bind fun r51 =>
   some (r51.1,r51.2.2.2.2,r51.2.1,r51.2.2.1,r51.2.2.2.1))
  (none))
 ((formula_Reader_binder_1 r50.2.1 r50.2.2.1 r50.2.2.2).bind fun r52 =>
  cond r52.2.2.1
  (cond (room (List.length ([(r52.1,r52.2.1,([]:(List Int)))]:List (Int×Int×(List Int)))) 40)
   ((((lp formula_Reader_formula_1_L0 fuel) (Sum.inl (r52.2.2.2.1,r52.2.2.2.2.1,r52.2.2.2.2.2,([(r52.1,r52.2.1,([]:(List Int)))]:List (Int×Int×(List Int))),([]:(List (Int×Bool))))))).bind fun r53 =>
    some (r53.1,r53.2.2.2.2,r53.2.1,r53.2.2.1,r53.2.2.2.1))
   (none))
  ((formula_Reader_Is_1 ([40]:Str) r52.2.2.2.1 r52.2.2.2.2.1 r52.2.2.2.2.2).bind fun r54 =>
   cond r54.1
   (cond (room (List.length ([(0,false)]:List (Int×Bool))) 16)
    (cond (room (List.length ([(0,0,([]:(List Int)))]:List (Int×Int×(List Int)))) 40)
     ((((lp formula_Reader_formula_1_L0 fuel) (Sum.inl (r54.2.1,r54.2.2.1,r54.2.2.2,([(0,0,([]:(List Int)))]:List (Int×Int×(List Int))),([(0,false)]:List (Int×Bool)))))).bind fun r55 =>
      some (r55.1,r55.2.2.2.2,r55.2.1,r55.2.2.1,r55.2.2.2.1))
     (none))
    (none))
   ((formula_Reader_Atom_1 r54.2.1 r54.2.2.1 r54.2.2.2).bind fun r56 =>
    cond r56.1
    (cond (room (List.length ([(0,0,r56.2.1)]:List (Int×Int×(List Int)))) 40)
     ((((lp formula_Reader_formula_1_L0 fuel) (Sum.inr (r56.2.2.1,r56.2.2.2.1,r56.2.2.2.2,([(0,0,r56.2.1)]:List (Int×Int×(List Int))),([]:(List (Int×Bool))))))).bind fun r57 =>
      some (r57.1,r57.2.2.2.2,r57.2.1,r57.2.2.1,r57.2.2.2.1))
     (none))
    (some (false,([]:(List (Int×Int×(List Int)))),r56.2.2.1,r56.2.2.2.1,r56.2.2.2.2)))))
def formula_Read (a0:(List QSym)) (a1:(List (Int×Str))):Option (Int×(List (Int×Int×(List Int)))) :=
 (formula_SigMay a0).bind fun r3 =>
 cond (!r3)
 (some (2200,([]:(List (Int×Int×(List Int))))))
 ((formula_Reader_formula_1 a0 a1 false).bind fun r4 =>
  cond (!r4.1)
  (some (2200,([]:(List (Int×Int×(List Int))))))
  (cond (decide (((List.length r4.2.2.2.1:Nat):Int)>0))
   (some (2200,([]:(List (Int×Int×(List Int))))))
   (cond r4.2.2.2.2
    (some (2201,([]:(List (Int×Int×(List Int))))))
    (cond (decide (((List.length r4.2.1:Nat):Int)>40))
     (some (2201,([]:(List (Int×Int×(List Int))))))
     (some (0,r4.2.1))))))
def formula_Parse (a0:(List QSym)) (a1:Str):Option (Int×(List (Int×Int×(List Int)))) :=
 (lex_Lex a1).bind fun r3 =>
 cond (r3.1 != 0)
 (some (2200,([]:(List (Int×Int×(List Int))))))
 ((formula_Read a0 r3.2).bind fun r4 =>
  some (r4.1,r4.2))
end Go.Abs.Q
namespace Go.Abs.Q
open Go Go.Abs
end Go.Abs.Q
namespace Go.Abs.Q
open Go Go.Abs
section
end
end Go.Abs.Q
namespace Go.Abs.Q
open Go Go.Abs
end Go.Abs.Q
namespace Go.Abs.Q
open Go Go.Abs
end Go.Abs.Q
namespace Go.Abs.Q
open Go Go.Abs
section
abbrev QNode:=Int×Int×List Int
inductive Fm where
 | atom (a:List Int)
 | not (f:Fm)
 | qu (k v:Int) (f:Fm)
 | bin (k:Int) (f g:Fm)
def Fm.flat:Fm→List QNode
 | .atom a=>[(0,0,a)]
 | .not f=>(1,0,[])::f.flat
 | .qu k v f=>(k,v,[])::f.flat
 | .bin k f g=>(k,0,[])::(f.flat++g.flat)
def Fm.ok (a0:List QSym):Fm→Bool
 | .atom a=>atomB a0 a
 | .not f=>f.ok a0
 | .qu k v f=>(k==5||k==6)&&decide (0≤v)&&decide (v≤23)&&f.ok a0
 | .bin k f g=>(k==2||k==3||k==4)&&f.ok a0&&g.ok a0
def bindT (k:Int):Str:=cond (k==5) [97,108,108] [101,120]
def partN (k:Int):Int:=cond (k==0) 0 (cond (k==1||k==5||k==6) 1 (cond (k==2||k==3||k==4) 2 (-1)))
theorem formula_parts_eq (k:Int):formula_parts k=some (partN k):=by
 by_cases h0:k=0
 ·subst h0; rfl
 by_cases h1:k=1
 ·subst h1; rfl
 by_cases h2:k=2
 ·subst h2; rfl
 by_cases h3:k=3
 ·subst h3; rfl
 by_cases h4:k=4
 ·subst h4; rfl
 by_cases h5:k=5
 ·subst h5; rfl
 by_cases h6:k=6
 ·subst h6; rfl
 have e0:(k==0)=false:=by rw[beq_eq_false_iff_ne]; exact h0
 have e1:(k==1)=false:=by rw[beq_eq_false_iff_ne]; exact h1
 have e2:(k==2)=false:=by rw[beq_eq_false_iff_ne]; exact h2
 have e3:(k==3)=false:=by rw[beq_eq_false_iff_ne]; exact h3
 have e4:(k==4)=false:=by rw[beq_eq_false_iff_ne]; exact h4
 have e5:(k==5)=false:=by rw[beq_eq_false_iff_ne]; exact h5
 have e6:(k==6)=false:=by rw[beq_eq_false_iff_ne]; exact h6
 unfold formula_parts partN
 rw[e0,e1,e2,e3,e4,e5,e6]
 rfl
def nodeB (a0:List QSym) (x:QNode):Bool :=
 cond (x.1==0) (x.2.1==0&&atomB a0 x.2.2) (cond (x.1==5||x.1==6) (decide (x.2.1≥0)&&(decide (x.2.1≤23)&&x.2.2.isEmpty)) (x.2.1==0&&x.2.2.isEmpty))
theorem empty_eq (a:List Int):(((List.length a:Nat):Int)==0)=a.isEmpty:=by
 cases a with
 | nil=>rfl
 | cons x a=>rw[List.length_cons,List.isEmpty_cons,beq_eq_false_iff_ne]; omega
theorem formula_nodeMay_eq (a0:List QSym) (x:QNode):formula_nodeMay a0 x.1 x.2.1 x.2.2=some (nodeB a0 x):=by
 unfold formula_nodeMay nodeB
 simp only[term_IsAtom_eq,empty_eq,Option.bind_some]
 cases h0:(x.1==0) with
 | true=>cases (x.2.1==0)<;>rfl
 | false =>
  cases h5:(x.1==5) with
  | true=>cases decide (x.2.1≥0)<;>cases decide (x.2.1≤23)<;>rfl
  | false =>
   cases h6:(x.1==6) with
   | true=>cases decide (x.2.1≥0)<;>cases decide (x.2.1≤23)<;>rfl
   | false=>cases (x.2.1==0)<;>rfl
def walkB (a0:List QSym):Nat→List QNode→Bool
 | n,[]=>n==0
 | 0,_::_=>false
 | n+1,x::f=>decide (0≤partN x.1)&&(nodeB a0 x&&walkB a0 (n+(partN x.1).toNat) f)
theorem partN_le (k:Int) : -1≤partN k∧partN k≤2:=by
 unfold partN
 cases (k==0)<;>cases (k==1||k==5||k==6)<;>cases (k==2||k==3||k==4)<;>decide
theorem fmay_go (a0:List QSym):(es:List QNode)→(n:Nat)→n+2*es.length≤1000000→∃ r,formula_May_L0_go a0 es (n:Int)=some r∧(match r with
  | .inl z=>(z==0)
  | .inr b=>b)=walkB a0 n es
 | [],n,_=>⟨.inl (n:Int),rfl,by
  cases n with
  | zero=>rfl
  | succ n =>
   unfold walkB
   show (((n+1:Nat):Int)==0)=((n+1)==0)
   rw[show (((n+1:Nat):Int)==0)=false from by rw[beq_eq_false_iff_ne]; omega]
   rfl⟩
 | x::es,n,h=>by
  have hp:=partN_le x.1
  rw[List.length_cons] at h
  unfold formula_May_L0_go
  rw[formula_parts_eq,Option.bind_some]
  cases n with
  | zero=>exact ⟨.inr false,rfl,rfl⟩
  | succ n =>
   rw[show (((n+1:Nat):Int)==0)=false from by rw[beq_eq_false_iff_ne]; omega,cond_false]
   unfold walkB
   by_cases h0:partN x.1<0
   ·rw[decide_eq_true h0,decide_eq_false (show ¬(0≤partN x.1) by omega)]
    exact ⟨.inr false,rfl,rfl⟩
   ·rw[decide_eq_false h0,decide_eq_true (show 0≤partN x.1 by omega),cond_false,formula_nodeMay_eq,Option.bind_some,Bool.true_and]
    cases nodeB a0 x with
    | false=>exact ⟨.inr false,rfl,rfl⟩
    | true =>
     have w1:IntKind.wrap .i64 (partN x.1 - 1)=partN x.1 - 1:=by rw[wrap64]<;>omega
     have w2:IntKind.wrap .i64 (((n+1:Nat):Int)+(partN x.1 - 1))=((n+(partN x.1).toNat:Nat):Int):=by rw[wrap64]<;>omega
     rw[w1,w2,Bool.not_true,cond_false,Bool.true_and]
     exact fmay_go a0 es (n+(partN x.1).toNat) (by omega)
def fmayB (a0:List QSym) (f:List QNode):Bool:=sigB a0&&(decide (f.length≤40)&&walkB a0 1 f)
theorem formula_May_eq (a0:List QSym) (f:List QNode):formula_May a0 f=some (fmayB a0 f):=by
 unfold formula_May fmayB
 rw[formula_SigMay_eq,Option.bind_some]
 cases sigB a0 with
 | false=>rfl
 | true =>
  rw[Bool.not_true,cond_false,Bool.true_and]
  cases f with
  | nil=>rfl
  | cons x f =>
   rw[show (((List.length (x::f):Nat):Int)==0)=false from by rw[beq_eq_false_iff_ne,List.length_cons]; omega,cond_false]
   by_cases hl:(x::f).length≤40
   ·rw[decide_eq_false (show ¬(((List.length (x::f):Nat):Int)>40) by omega),decide_eq_true hl,cond_false,Bool.true_and,formula_May_L0_go_at0 _ _ _ (by unfold maxLen; omega)]
    obtain⟨r,h1,h2⟩:=fmay_go a0 (x::f) 1 (by omega)
    rw[show ((1:Nat):Int)=1 from rfl] at h1
    rw[h1,← h2]
    cases r<;>rfl
   ·rw[decide_eq_true (show (((List.length (x::f):Nat):Int)>40) by omega),decide_eq_false hl]
    rfl
theorem fm_ind {a0:List QSym}:(f:List QNode)→(n:Nat)→walkB a0 n f=true→∃ ts:List Fm,ts.length=n∧f=ts.flatMap Fm.flat∧∀ t∈ts,t.ok a0=true
 | [],n,h=>by
  unfold walkB at h
  have:n=0:=by simpa using h
  subst this
  exact ⟨[],rfl,rfl,fun t ht=>by cases ht⟩
 | x::f,0,h=>by cases h
 | x::f,n+1,h=>by
  obtain⟨k,v,a⟩:=x
  unfold walkB at h
  simp only[Bool.and_eq_true,decide_eq_true_eq] at h
  obtain⟨hp,hn,hw⟩:=h
  obtain⟨ts,h1,h2,h3⟩:=fm_ind f _ hw
  unfold nodeB at hn
  simp only at hn hp h1
  by_cases h0:k=0
  ·subst h0
   simp only[show ((0:Int)==0)=true from rfl,cond_true,Bool.and_eq_true,beq_iff_eq] at hn
   obtain⟨rfl,ha⟩:=hn
   refine ⟨.atom a::ts,by simpa[partN] using h1,by rw[List.flatMap_cons,← h2]; rfl,fun t ht => ?_⟩
   rcases List.mem_cons.1 ht with rfl | ht
   ·exact ha
   ·exact h3 t ht
  ·rw[show (k==0)=false from by simpa using h0,cond_false] at hn
   by_cases hq:(k==5||k==6)=true
   ·rw[hq,cond_true] at hn
    simp only[Bool.and_eq_true,decide_eq_true_eq,List.isEmpty_iff] at hn
    obtain⟨hv1,hv2,rfl⟩:=hn
    have hk:partN k=1:=by
     simp only[Bool.or_eq_true,beq_iff_eq] at hq
     rcases hq with rfl | rfl<;>rfl
    rw[hk] at h1
    cases ts with
    | nil=>simp at h1
    | cons t ts =>
     refine ⟨.qu k v t::ts,by simpa using h1,by rw[h2]; simp [Fm.flat],fun u hu => ?_⟩
     rcases List.mem_cons.1 hu with rfl | hu
     ·unfold Fm.ok
      rw[hq,decide_eq_true hv1,decide_eq_true hv2,h3 t (List.mem_cons_self ..)]; rfl
     ·exact h3 u (List.mem_cons_of_mem _ hu)
   ·rw[show (k==5||k==6)=false from by simpa using hq,cond_false] at hn
    simp only[Bool.and_eq_true,beq_iff_eq,List.isEmpty_iff] at hn
    obtain⟨rfl,rfl⟩:=hn
    by_cases hk1:k=1
    ·subst hk1
     have hk:partN 1=1:=rfl
     rw[hk] at h1
     cases ts with
     | nil=>simp at h1
     | cons t ts =>
      refine ⟨.not t::ts,by simpa using h1,by rw[h2]; simp [Fm.flat],fun u hu => ?_⟩
      rcases List.mem_cons.1 hu with rfl | hu
      ·exact h3 t (List.mem_cons_self ..)
      ·exact h3 u (List.mem_cons_of_mem _ hu)
    ·have hb:(k==2||k==3||k==4)=true:=by
      cases hb:(k==2||k==3||k==4) with
      | true=>rfl
      | false =>
       unfold partN at hp
       rw[show (k==0)=false from by simpa using h0,show (k==1||k==5||k==6)=false from by
        simp only[Bool.or_eq_true,not_or,Bool.not_eq_true] at hq
        simp [hk1,hq.1,hq.2],hb] at hp
       simp at hp
     have hk:partN k=2:=by
      simp only[Bool.or_eq_true,beq_iff_eq] at hb
      rcases hb with (rfl | rfl) | rfl<;>rfl
     rw[hk] at h1
     cases ts with
     | nil=>simp at h1
     | cons t ts =>
      cases ts with
      | nil=>simp at h1
      | cons u ts =>
       refine ⟨.bin k t u::ts,by simpa using h1,by rw[h2]; simp [Fm.flat],fun w hw => ?_⟩
       rcases List.mem_cons.1 hw with rfl | hw
       ·unfold Fm.ok
        rw[hb,h3 t (by simp),h3 u (by simp)]; rfl
       ·exact h3 w (by simp [hw])
theorem fm_of {a0:List QSym} {f:List QNode} (h:walkB a0 1 f=true):∃ t:Fm,f=t.flat∧t.ok a0=true:=by
 obtain⟨ts,h1,h2,h3⟩:=fm_ind f 1 h
 match ts,h1 with
 | [t],_=>exact ⟨t,by simpa using h2,h3 t (by simp)⟩
end
end Go.Abs.Q
namespace Go.Abs.Q
open Go Go.Abs
section
theorem sigB_ok {a0:List QSym} (h:sigB a0=true):SignOk a0:=by
 unfold sigB at h
 rw[Bool.and_eq_true] at h
 exact signB_ok h.1
theorem fmayB_tree {a0:List QSym} {f:List QNode} (h:fmayB a0 f=true):sigB a0=true∧f.length≤40∧∃ t:Fm,f=t.flat∧t.ok a0=true:=by
 unfold fmayB at h
 simp only[Bool.and_eq_true,decide_eq_true_eq] at h
 exact ⟨h.1,h.2.1,fm_of h.2.2⟩
end
end Go.Abs.Q
namespace Go.Abs.Q
open Go Go.Abs
section
theorem code_none (a0:List QSym) (nm:Str):decide (idxI (a0.findIdx? (fun e=>e.1==nm))<0) = !(a0.any fun e=>e.1==nm):=by
 cases h:a0.findIdx? (fun e=>e.1==nm) with
 | none =>
  have:(a0.any fun e=>e.1==nm)=false:=by
   rw[List.any_eq_false]
   exact fun x hx=>by simpa using List.findIdx?_eq_none_iff.1 h x hx
  rw[this]; rfl
 | some i =>
  have:(a0.any fun e=>e.1==nm)=true:=by
   rw[List.any_eq_true]
   obtain⟨hi,hp,-⟩:=List.findIdx?_eq_some_iff_getElem.1 h
   exact ⟨_,List.getElem_mem hi,hp⟩
  rw[this]
  show decide (((i:Nat):Int)<0)=false
  simp
end
end Go.Abs.Q
namespace Go.Abs.Q
open Go Go.Abs
section
end
end Go.Abs.Q
namespace Go.Abs.Q
open Go Go.Abs
section
abbrev QWord:=Int×Str
def letB (c:UInt8):Bool:=smallB ((UInt8.toNat c:Nat):Int)
def digB (c:UInt8):Bool:=decide (((UInt8.toNat c:Nat):Int)≥48)&&decide (((UInt8.toNat c:Nat):Int)≤57)
def runP (b:Bool) (c:UInt8):Bool:=digB c||(b&&letB c)
end
end Go.Abs.Q
namespace Go.Abs.Q
open Go Go.Abs
section
end
end Go.Abs.Q
namespace Go.Abs.Q
open Go Go.Abs
section
end
end Go.Abs.Q
namespace Go.Abs.Q
open Go Go.Abs
section
def Stop (c:Str):Prop:=c.takeWhile (runP true)=[]
def pieceW (a0:List QSym) (f:List Int→List QWord):List Int→List QWord
 | []=>[]
 | x::r=>cond (decide (x<0)) [(1,88::dig2 (-1 - x).toNat)] (cond r.isEmpty [(0,nameOf a0 x)] ((([(0,nameOf a0 x)]++[(3,[40])])++f r)++[(3,[41])]))
def tailW:List (List QWord)→List QWord
 | []=>[]
 | w::ws=>[(3,[44])]++(w++tailW ws)
def joinW:List (List QWord)→List QWord
 | []=>[]
 | w::ws=>w++tailW ws
def wordsN (a0:List QSym):Nat→List Int→List QWord
 | 0,_=>[]
 | n+1,xs=>joinW (((cuts a0 xs).getD []).map (pieceW a0 (wordsN a0 n)))
def wordsTs (a0:List QSym) (xs:List Int):List QWord:=wordsN a0 (xs.length+1) xs
def atomW (a0:List QSym):List Int→List QWord
 | []=>[]
 | x::r=>cond (x==0) (match (cuts a0 r).getD [] with
  | [p,q]=>(wordsTs a0 p++[(3,[61])])++wordsTs a0 q
  | _=>[]) (cond r.isEmpty [(0,nameOf a0 x)] ((([(0,nameOf a0 x)]++[(3,[40])])++wordsTs a0 r)++[(3,[41])]))
def joinM (k:Int):Str:=cond (k==2) [38] (cond (k==3) [124] [45,62])
def Fm.words (a0:List QSym):Fm→List QWord
 | .atom a=>atomW a0 a
 | .not f=>[(3,[126])]++f.words a0
 | .qu k v f=>([(0,bindT k)]++[(1,88::dig2 v.toNat)])++f.words a0
 | .bin k f g=>((([(3,[40])]++f.words a0)++[(3,joinM k)])++g.words a0)++[(3,[41])]
end
end Go.Abs.Q
namespace Go.Abs.Q
open Go Go.Abs
section
def codeP (a0:List QSym) (s:Str):Int:=idxI (a0.findIdx? fun e=>e.1==s)
theorem sign_Find_eq {a0:List QSym} (h:signB a0=true) (s:Str):sign_Find a0 s=some (codeP a0 s,0):=by
 unfold sign_Find
 rw[sign_May_eq,h,Option.bind_some,Bool.not_true,cond_false,sign_find_eq _ _ (signB_ok h).max,Option.bind_some]
 rfl
end
end Go.Abs.Q
namespace Go.Abs.Q
open Go Go.Abs
section
end
end Go.Abs.Q
namespace Go.Abs.Q
open Go Go.Abs
section
end
end Go.Abs.Q
namespace Go.Abs.Q
open Go Go.Abs
section
end
end Go.Abs.Q
namespace Go.Abs.Q
open Go Go.Abs
section
end
end Go.Abs.Q
namespace Go.Abs.Q
open Go Go.Abs
section
end
end Go.Abs.Q
namespace Go.Abs.Q
open Go Go.Abs
section
end
end Go.Abs.Q
namespace Go.Abs.Q
open Go Go.Abs
section
end
end Go.Abs.Q
namespace Go.Abs.Q
open Go Go.Abs
section
end
end Go.Abs.Q
namespace Go.Abs.Q
open Go Go.Abs
section
theorem sk_app {a0:List QSym}:{xs:List Int}→{n m:Nat}→{ys:List Int}→sk a0 n xs=some xs.length→sk a0 m ys=some ys.length→sk a0 (n+m) (xs++ys)=some (xs++ys).length
 | [],0,m,ys,_,h=>by rw[Nat.zero_add]; exact h
 | [],n+1,m,ys,h,_=>by simp [sk] at h
 | x::xs,0,m,ys,h,_=>by simp [sk] at h
 | x::xs,n+1,m,ys,h,h'=>by
  unfold sk at h
  cases ha:arity a0 x with
  | none=>rw[ha] at h; cases h
  | some k =>
   rw[ha] at h
   simp only[Option.map_eq_some_iff,List.length_cons] at h
   obtain⟨j,hj,hjl⟩:=h
   have hj2:j=xs.length:=by omega
   subst hj2
   have ih:=sk_app hj h'
   rw[show n+1+m=(n+m)+1 from by omega,List.cons_append]
   unfold sk
   rw[ha]
   simp only
   rw[show n+m+k=n+k+m from by omega,ih]
   rfl
end
end Go.Abs.Q
namespace Go.Abs.Q
open Go Go.Abs
section
theorem arity_top {a0:List QSym} {x:Int} {q:Nat} (h:arity a0 x=some q):x<0∨x<a0.length:=by
 by_cases hx:x<0
 ·exact .inl hx
 ·obtain⟨e,-,he,-⟩:=arity_pos h hx
  have:=(List.getElem?_eq_some_iff.1 he).1
  exact .inr (by omega)
theorem sk_le_codes {a0:List QSym}:{xs:List Int}→{n k:Nat}→sk a0 n xs=some k→∀ c∈xs.take k,c<0∨c<a0.length
 | [],n,k,h,c,hc=>by simp at hc
 | x::xs,0,k,h,c,hc=>by
  simp [sk] at h; subst h; simp at hc
 | x::xs,n+1,k,h,c,hc=>by
  unfold sk at h
  cases ha:arity a0 x with
  | none=>rw[ha] at h; cases h
  | some m =>
   rw[ha] at h
   simp only[Option.map_eq_some_iff] at h
   obtain⟨j,hj,rfl⟩:=h
   rw[List.take_succ_cons] at hc
   rcases List.mem_cons.1 hc with rfl | hc
   ·exact arity_top ha
   ·exact sk_le_codes hj c hc
theorem cuts_near {a0:List QSym} (hs:SignOk a0) {xs:List Int} {ps:List (List Int)} (h:cuts a0 xs=some ps):∀ c∈xs,-24≤c∧c<20:=by
 obtain⟨h1,h2⟩:=cuts_flat xs.length xs ps (Nat.le_refl _) h
 have hl:=hs.len
 intro c hc
 refine ⟨cuts_small h c hc,?_⟩
 rw[← h1] at hc
 obtain⟨p,hp,hcp⟩:=List.mem_flatten.1 hc
 have:=sk_le_codes (h2 p hp).2 c
 rw[List.take_length] at this
 rcases this hcp with h | h<;>omega
theorem atomB_near {a0:List QSym} (hs:SignOk a0) {xs:List Int} (h:atomB a0 xs=true):NearR xs:=by
 obtain⟨x,r,e,ps,rfl,h0,he,-,-,-,hl,hc,-⟩:=atomB_spec h
 have:=(List.getElem?_eq_some_iff.1 he).1
 have hl2:=hs.len
 refine ⟨by simp; omega,fun c hcm => ?_⟩
 rcases List.mem_cons.1 hcm with rfl | hcm
 ·omega
 ·have:=cuts_near hs hc c hcm; omega
theorem litsB_near {a0:List QSym} (hs:SignOk a0) {ls:List QLit} (h:litsB a0 ls=true):∀ l∈ls,NearR l.2:=fun l hl=>atomB_near hs (List.all_eq_true.1 h l hl)
theorem rowsB_near {a0:List QSym} (hs:SignOk a0) {rs:List (List Int)} (h:rowsB a0 rs=true):∀ r∈rs,NearR r:=fun r hr=>by
 obtain⟨n,hn⟩:=rowsB_all h
 obtain⟨ps,hc,-,hl,-⟩:=rowW_spec (hn r hr)
 exact ⟨by omega,fun c hcm=>by have:=cuts_near hs hc c hcm; omega⟩
end
end Go.Abs.Q
namespace Go.Abs.Q
open Go Go.Abs
def cmp_isNaN (a0:Int):Option Bool :=
 some (a0 != a0)
def cmp_Less (a0:Int) (a1:Int):Option Bool :=
 (cmp_isNaN a0).bind fun r3 =>
 cond r3
 ((cmp_isNaN a1).bind fun r4 =>
  cond (!r4)
  (some true)
  (some (decide (a0<a1))))
 (some (decide (a0<a1)))
def slices_isNaN (a0:Int):Option Bool :=
 some (a0 != a0)
def slices_BinarySearch_L0 (rec:((List Int)×Int×Int×Int×Int)→Option Int) (x:((List Int)×Int×Int×Int×Int)):Option Int :=
 cond (decide (x.2.2.2.1<x.2.2.2.2))
 ((gx x.1 (IntKind.wrap .i64 (Int.fdiv (IntKind.wrap .u64 (IntKind.wrap .i64 (x.2.2.2.1+x.2.2.2.2))) (2 ^ min (Int.toNat 1) (IntKind.bits .u64))))).bind fun e3 =>
  (cmp_Less e3 x.2.1).bind fun r4 =>
  cond r4
  (rec (x.1,x.2.1,x.2.2.1,(IntKind.wrap .i64 ((IntKind.wrap .i64 (Int.fdiv (IntKind.wrap .u64 (IntKind.wrap .i64 (x.2.2.2.1+x.2.2.2.2))) (2 ^ min (Int.toNat 1) (IntKind.bits .u64))))+1)),x.2.2.2.2))
  (rec (x.1,x.2.1,x.2.2.1,x.2.2.2.1,(IntKind.wrap .i64 (Int.fdiv (IntKind.wrap .u64 (IntKind.wrap .i64 (x.2.2.2.1+x.2.2.2.2))) (2 ^ min (Int.toNat 1) (IntKind.bits .u64)))))))
 (some x.2.2.2.1)
def slices_BinarySearch (a0:(List Int)) (a1:Int):Option (Int×Bool) :=
 ((lp slices_BinarySearch_L0 fuel) (a0,a1,((List.length a0:Nat):Int),0,((List.length a0:Nat):Int))).bind fun r10 =>
 cond (decide (r10<((List.length a0:Nat):Int)))
 ((gx a0 r10).bind fun e11 =>
  cond (e11==a1)
  (some (r10,true))
  ((gx a0 r10).bind fun e12 =>
   (slices_isNaN e12).bind fun r13 =>
   cond r13
   ((slices_isNaN a1).bind fun r14 =>
    some (r10,r14))
   (some (r10,false))))
 (some (r10,false))
def slices_Insert (a0:Int) (a1:(List Int)) (a2:(List Int)):Option (List Int):=insF a0 a1 a2
def term_Seen_1_L0 (rec:((List Int)×Int×Int×(List Int))→Option (List Int)) (x:((List Int)×Int×Int×(List Int))):Option (List Int) :=
 cond (decide (x.2.2.1<x.2.1))
 ((gx x.1 x.2.2.1).bind fun e11 =>
  cond (decide (e11≥0))
  (rec (x.1,x.2.1,(IntKind.wrap .i64 (x.2.2.1+1)),x.2.2.2))
  ((term_Number e11).bind fun r12 =>
   (slices_BinarySearch x.2.2.2 r12).bind fun r13 =>
   cond (!r13.2)
   ((term_Number e11).bind fun r14 =>
    (slices_Insert r13.1 x.2.2.2 ([r14]:List Int)).bind fun r15 =>
    rec (x.1,x.2.1,(IntKind.wrap .i64 (x.2.2.1+1)),r15))
   (rec (x.1,x.2.1,(IntKind.wrap .i64 (x.2.2.1+1)),x.2.2.2))))
 (some x.2.2.2)
def term_Seen_1 (a0:(List Int)) (a1:(List Int)):Option (List Int) :=
 ((lp term_Seen_1_L0 fuel) (a0,((List.length a0:Nat):Int),0,a1)).bind fun r17 =>
 some r17
def clause_Vars_L1 (rec:((List (List Int))×Int×Int×(List Int))→Option (List Int)) (x:((List (List Int))×Int×Int×(List Int))):Option (List Int) :=
 cond (decide (x.2.2.1<x.2.1))
 ((gx x.1 x.2.2.1).bind fun e12 =>
  (term_Seen_1 e12 x.2.2.2).bind fun r13 =>
  rec (x.1,x.2.1,(IntKind.wrap .i64 (x.2.2.1+1)),r13))
 (some x.2.2.2)
def clause_Vars_L0 (rec:((List QLit)×Int×Int×(List QLit)×(List (List Int))×(List QLit)×(List Int))→Option (List Int)) (x:((List QLit)×Int×Int×(List QLit)×(List (List Int))×(List QLit)×(List Int))):Option (List Int) :=
 cond (decide (x.2.2.1<x.2.1))
 ((gx x.1 x.2.2.1).bind fun e7 =>
  (term_Seen_1 e7.2 x.2.2.2.2.2.2).bind fun r8 =>
  rec (x.1,x.2.1,(IntKind.wrap .i64 (x.2.2.1+1)),x.2.2.2.1,x.2.2.2.2.1,x.2.2.2.2.2.1,r8))
 (some x.2.2.2.2.2.2)
def clause_Vars (a0:(List QSym)) (a1:(List QLit)) (a2:(List (List Int))) (a3:(List QLit)):Option (Int×(List Int)) :=
 (clause_May a0 a1 a2 a3).bind fun r15 =>
 cond (!r15)
 (some (800,([]:(List Int))))
 ((slices_Concat_1 ([a1,a3]:List (List QLit))).bind fun r16 =>
  ((lp clause_Vars_L0 fuel) (r16,((List.length r16:Nat):Int),0,a1,a2,a3,([]:(List Int)))).bind fun r17 =>
  ((lp clause_Vars_L1 fuel) (a2,((List.length a2:Nat):Int),0,r17)).bind fun r18 =>
  some (0,r18))
def clause_Shift_c1_L0 (rec:(Int×Int×Int×(List Int))→Option (List Int)) (x:(Int×Int×Int×(List Int))):Option (List Int) :=
 cond (decide (x.2.1<x.1))
 ((inR x.2.1 (List.length x.2.2.2)).bind fun k6 =>
  (x.2.2.2[k6]?).bind fun x7 =>
  cond (decide (x7<0))
  ((inR x.2.1 (List.length x.2.2.2)).bind fun k8 =>
   (x.2.2.2[k8]?).bind fun _x9 =>
   rec (x.1,(IntKind.wrap .i64 (x.2.1+1)),x.2.2.1,(List.set x.2.2.2 k8 (IntKind.wrap .i64 (x7 - x.2.2.1)))))
  (rec (x.1,(IntKind.wrap .i64 (x.2.1+1)),x.2.2.1,x.2.2.2)))
 (some x.2.2.2)
def clause_Shift_c1 (a0:(List Int)) (a1:Int):Option (List Int) :=
 (slices_CloneN a0).bind fun r11 =>
 ((lp clause_Shift_c1_L0 fuel) (((List.length r11:Nat):Int),0,a1,r11)).bind fun r12 =>
 some r12
def clause_each_2_L2 (rec:((List QLit)×Int×Int×Int×(List QLit)×(List (List Int))×(List QLit))→Option ((List QLit)×(List (List Int))×(List QLit))) (x:((List QLit)×Int×Int×Int×(List QLit)×(List (List Int))×(List QLit))):Option ((List QLit)×(List (List Int))×(List QLit)) :=
 cond (decide (x.2.2.1<x.2.1))
 ((gx x.1 x.2.2.1).bind fun e19 =>
  (clause_Shift_c1 e19.2 x.2.2.2.1).bind fun r20 =>
  cond (room (List.length x.2.2.2.2.2.2+List.length ([(e19.1,r20)]:List QLit)) 32)
  (rec (x.1,x.2.1,(IntKind.wrap .i64 (x.2.2.1+1)),x.2.2.2.1,x.2.2.2.2.1,x.2.2.2.2.2.1,(x.2.2.2.2.2.2++([(e19.1,r20)]:List QLit))))
  (none))
 (some (x.2.2.2.2.1,x.2.2.2.2.2.1,x.2.2.2.2.2.2))
def clause_each_2_L1 (rec:((List (List Int))×Int×Int×Int×(List QLit)×(List (List Int))×(List QLit)×(List QLit)×(List (List Int)))→Option ((List QLit)×(List (List Int)))) (x:((List (List Int))×Int×Int×Int×(List QLit)×(List (List Int))×(List QLit)×(List QLit)×(List (List Int)))):Option ((List QLit)×(List (List Int))) :=
 cond (decide (x.2.2.1<x.2.1))
 ((gx x.1 x.2.2.1).bind fun e12 =>
  (clause_Shift_c1 e12 x.2.2.2.1).bind fun r13 =>
  cond (room (List.length x.2.2.2.2.2.2.2.2+List.length ([r13]:List (List Int))) 24)
  (rec (x.1,x.2.1,(IntKind.wrap .i64 (x.2.2.1+1)),x.2.2.2.1,x.2.2.2.2.1,x.2.2.2.2.2.1,x.2.2.2.2.2.2.1,x.2.2.2.2.2.2.2.1,(x.2.2.2.2.2.2.2.2++([r13]:List (List Int)))))
  (none))
 (some (x.2.2.2.2.2.2.2.1,x.2.2.2.2.2.2.2.2))
def clause_each_2_L0 (rec:((List QLit)×Int×Int×Int×(List QLit)×(List (List Int))×(List QLit)×(List QLit))→Option (List QLit)) (x:((List QLit)×Int×Int×Int×(List QLit)×(List (List Int))×(List QLit)×(List QLit))):Option (List QLit) :=
 cond (decide (x.2.2.1<x.2.1))
 ((gx x.1 x.2.2.1).bind fun e5 =>
  (clause_Shift_c1 e5.2 x.2.2.2.1).bind fun r6 =>
  cond (room (List.length x.2.2.2.2.2.2.2+List.length ([(e5.1,r6)]:List QLit)) 32)
  (rec (x.1,x.2.1,(IntKind.wrap .i64 (x.2.2.1+1)),x.2.2.2.1,x.2.2.2.2.1,x.2.2.2.2.2.1,x.2.2.2.2.2.2.1,(x.2.2.2.2.2.2.2++([(e5.1,r6)]:List QLit))))
  (none))
 (some x.2.2.2.2.2.2.2)
def clause_each_2 (a0:(List QLit)) (a1:(List (List Int))) (a2:(List QLit)) (a3:Int):Option ((List QLit)×(List (List Int))×(List QLit)) :=
 ((lp clause_each_2_L0 fuel) (a0,((List.length a0:Nat):Int),0,a3,a0,a1,a2,([]:(List QLit)))).bind fun r22 =>
 ((lp clause_each_2_L1 fuel) (a1,((List.length a1:Nat):Int),0,a3,a0,a1,a2,r22,([]:(List (List Int))))).bind fun r23 =>
 ((lp clause_each_2_L2 fuel) (a2,((List.length a2:Nat):Int),0,a3,r23.1,r23.2,([]:(List QLit)))).bind fun r24 =>
 some (r24.1,r24.2.1,r24.2.2)
def clause_Shift (a0:(List QLit)) (a1:(List (List Int))) (a2:(List QLit)) (a3:Int):Option ((List QLit)×(List (List Int))×(List QLit)) :=
 (clause_each_2 a0 a1 a2 a3).bind fun r2 =>
 some (r2.1,r2.2.1,r2.2.2)
end Go.Abs.Q
namespace Go.Abs.Q
open Go Go.Abs
def term_Seen_1_L0_go:List Int→(List Int)→Option (List Int)
 | [],s3=>some s3
 | e::es,s3 =>
  cond (decide (e≥0))
  (term_Seen_1_L0_go es s3)
  ((term_Number e).bind fun r12 =>
   (slices_BinarySearch s3 r12).bind fun r13 =>
   cond (!r13.2)
   ((term_Number e).bind fun r14 =>
    (slices_Insert r13.1 s3 ([r14]:List Int)).bind fun r15 =>
    term_Seen_1_L0_go es r15)
   (term_Seen_1_L0_go es s3))
theorem term_Seen_1_L0_go_at0 (s0:(List Int)) (s3:(List Int)) (hl:List.length s0≤maxLen):lp term_Seen_1_L0 fuel (s0,((List.length s0:Nat):Int),0,s3)=term_Seen_1_L0_go s0 s3:=rngl1 term_Seen_1_L0 (fun i s3=>(s0,((List.length s0:Nat):Int),i,s3)) (fun es i s3=>term_Seen_1_L0_go es s3) hl (fun r i s3 h=>by unfold term_Seen_1_L0 term_Seen_1_L0_go; simp only[h,cond_false]) (fun r i s3 e es h g w k=>by unfold term_Seen_1_L0 term_Seen_1_L0_go; simp only[h,cond_true,g,Option.bind_some,w,k]) s3
end Go.Abs.Q
namespace Go.Abs.Q
open Go Go.Abs
section
inductive Tm where
 | v (n:Nat)
 | f (c:Nat) (as:List Tm)
mutual
def Tm.codes:Tm→List Int
 | .v n=>[-1 - (n:Int)]
 | .f c as=>(c:Int)::codesR as
def codesR:List Tm→List Int
 | []=>[]
 | t::ts=>t.codes++codesR ts
end
mutual
def Tm.size:Tm→Nat
 | .v _=>1
 | .f _ as=>sizeR as+1
def sizeR:List Tm→Nat
 | []=>0
 | t::ts=>t.size+sizeR ts
end
abbrev Sb:=Nat→Tm
mutual
def Tm.sub (s:Sb):Tm→Tm
 | .v n=>s n
 | .f c as=>.f c (subR s as)
def subR (s:Sb):List Tm→List Tm
 | []=>[]
 | t::ts=>t.sub s::subR s ts
end
mutual
def Tm.has (x:Nat):Tm→Prop
 | .v n=>n=x
 | .f _ as=>hasR x as
def hasR (x:Nat):List Tm→Prop
 | []=>False
 | t::ts=>t.has x∨hasR x ts
end
mutual
def Tm.ok (a0:List QSym) (N:Nat):Tm→Prop
 | .v n=>n<N
 | .f c as=>arity a0 (c:Int)=some as.length∧okR a0 N as
def okR (a0:List QSym) (N:Nat):List Tm→Prop
 | []=>True
 | t::ts=>t.ok a0 N∧okR a0 N ts
end
theorem subR_length (s:Sb):(ts:List Tm)→(subR s ts).length=ts.length
 | []=>rfl
 | t::ts=>by simp [subR,subR_length s ts]
theorem okR_iff {a0:List QSym} {N:Nat}:{ts:List Tm}→(okR a0 N ts↔∀ t∈ts,t.ok a0 N)
 | []=>by simp [okR]
 | t::ts=>by simp [okR,okR_iff (ts:=ts)]
theorem codesR_eq:(ts:List Tm)→codesR ts=ts.flatMap Tm.codes
 | []=>rfl
 | t::ts=>by simp [codesR,codesR_eq ts]
theorem sizeR_eq:(ts:List Tm)→sizeR ts=(ts.map Tm.size).sum
 | []=>rfl
 | t::ts=>by simp [sizeR,sizeR_eq ts]
theorem codesR_app (ts us:List Tm):codesR (ts++us)=codesR ts++codesR us:=by simp [codesR_eq]
theorem sizeR_app (ts us:List Tm):sizeR (ts++us)=sizeR ts+sizeR us:=by simp [sizeR_eq]
mutual
theorem Tm.codes_len:(t:Tm)→t.codes.length=t.size
 | .v _=>rfl
 | .f c as=>by simp [Tm.codes,Tm.size,codesR_len as]
theorem codesR_len:(ts:List Tm)→(codesR ts).length=sizeR ts
 | []=>rfl
 | t::ts=>by simp [codesR,sizeR,Tm.codes_len t,codesR_len ts]
end
theorem Tm.size_pos (t:Tm):0<t.size:=by cases t<;>simp [Tm.size]
mutual
theorem Tm.sub_ext {s u:Sb}:(t:Tm)→(∀ x,t.has x→s x=u x)→t.sub s=t.sub u
 | .v n,h=>h n rfl
 | .f c as,h=>by rw[Tm.sub,Tm.sub,subR_ext as h]
theorem subR_ext {s u:Sb}:(ts:List Tm)→(∀ x,hasR x ts→s x=u x)→subR s ts=subR u ts
 | [],_=>rfl
 | t::ts,h=>by rw[subR,subR,Tm.sub_ext t fun x hx=>h x (.inl hx),subR_ext ts fun x hx=>h x (.inr hx)]
end
mutual
theorem Tm.sub_sub (s u:Sb):(t:Tm)→(t.sub s).sub u=t.sub fun x=>(s x).sub u
 | .v n=>rfl
 | .f c as=>by rw[Tm.sub,Tm.sub,Tm.sub,subR_subR s u as]
theorem subR_subR (s u:Sb):(ts:List Tm)→subR u (subR s ts)=subR (fun x=>(s x).sub u) ts
 | []=>rfl
 | t::ts=>by rw[subR,subR,subR,Tm.sub_sub s u t,subR_subR s u ts]
end
mutual
theorem Tm.sub_v:(t:Tm)→t.sub .v=t
 | .v n=>rfl
 | .f c as=>by rw[Tm.sub,subR_v as]
theorem subR_v:(ts:List Tm)→subR .v ts=ts
 | []=>rfl
 | t::ts=>by rw[subR,Tm.sub_v t,subR_v ts]
end
mutual
theorem Tm.has_sub {s:Sb} {y:Nat}:(t:Tm)→((t.sub s).has y↔∃ x,t.has x∧(s x).has y)
 | .v n=>⟨fun h=>⟨n,rfl,h⟩,fun ⟨x,hx,h⟩=>by cases hx; exact h⟩
 | .f c as=>by show hasR y (subR s as)↔_; rw[hasR_sub as]; rfl
theorem hasR_sub {s:Sb} {y:Nat}:(ts:List Tm)→(hasR y (subR s ts)↔∃ x,hasR x ts∧(s x).has y)
 | []=>⟨fun h=>h.elim,fun ⟨_,h,_⟩=>h.elim⟩
 | t::ts=>by
  show (t.sub s).has y∨hasR y (subR s ts)↔∃ x,(t.has x∨hasR x ts)∧_
  rw[Tm.has_sub t,hasR_sub ts]
  constructor
  ·rintro (⟨x,h1,h2⟩ | ⟨x,h1,h2⟩)
   ·exact ⟨x,.inl h1,h2⟩
   ·exact ⟨x,.inr h1,h2⟩
  ·rintro⟨x,h1 | h1,h2⟩
   ·exact .inl ⟨x,h1,h2⟩
   ·exact .inr ⟨x,h1,h2⟩
end
mutual
theorem Tm.size_has {s:Sb} {x:Nat}:(t:Tm)→t.has x→(s x).size≤(t.sub s).size
 | .v n,h=>by cases h; exact Nat.le_refl _
 | .f c as,h=>by have:=sizeR_has (s:=s) as h; show _≤sizeR (subR s as)+1; omega
theorem sizeR_has {s:Sb} {x:Nat}:(ts:List Tm)→hasR x ts→(s x).size≤sizeR (subR s ts)
 | [],h=>h.elim
 | t::ts,h=>by
  show _≤(t.sub s).size+sizeR (subR s ts)
  rcases h with h | h
  ·have:=Tm.size_has (s:=s) t h; omega
  ·have:=sizeR_has (s:=s) ts h; omega
end
mutual
theorem Tm.size_sub {s:Sb} {M:Nat}:(t:Tm)→(1≤M)→(∀ x,t.has x→(s x).size≤M)→(t.sub s).size≤t.size*M
 | .v n,_,h=>by have:=h n rfl; simpa[Tm.sub,Tm.size] using this
 | .f c as,hM,h=>by
  have:=sizeR_sub (s:=s) as hM h
  show sizeR (subR s as)+1≤(sizeR as+1)*M
  rw[Nat.add_mul]; omega
theorem sizeR_sub {s:Sb} {M:Nat}:(ts:List Tm)→(1≤M)→(∀ x,hasR x ts→(s x).size≤M)→sizeR (subR s ts)≤sizeR ts*M
 | [],_,_=>by simp [subR,sizeR]
 | t::ts,hM,h=>by
  have h1:=Tm.size_sub (s:=s) t hM fun x hx=>h x (.inl hx)
  have h2:=sizeR_sub (s:=s) ts hM fun x hx=>h x (.inr hx)
  show (t.sub s).size+sizeR (subR s ts)≤(t.size+sizeR ts)*M
  rw[Nat.add_mul]; omega
end
mutual
theorem Tm.ok_sub {a0:List QSym} {N M:Nat} {s:Sb}:(t:Tm)→t.ok a0 N→(∀ x,t.has x→(s x).ok a0 M)→(t.sub s).ok a0 M
 | .v n,_,h=>h n rfl
 | .f c as,ho,h=>⟨by rw[subR_length]; exact ho.1,okR_sub as ho.2 h⟩
theorem okR_sub {a0:List QSym} {N M:Nat} {s:Sb}:(ts:List Tm)→okR a0 N ts→(∀ x,hasR x ts→(s x).ok a0 M)→okR a0 M (subR s ts)
 | [],_,_=>trivial
 | t::ts,ho,h=>⟨Tm.ok_sub t ho.1 fun x hx=>h x (.inl hx),okR_sub ts ho.2 fun x hx=>h x (.inr hx)⟩
end
mutual
theorem Tm.ok_has {a0:List QSym} {N x:Nat}:(t:Tm)→t.ok a0 N→t.has x→x<N
 | .v n,ho,h=>by cases h; exact ho
 | .f c as,ho,h=>okR_has as ho.2 h
theorem okR_has {a0:List QSym} {N x:Nat}:(ts:List Tm)→okR a0 N ts→hasR x ts→x<N
 | [],_,h=>h.elim
 | t::ts,ho,h=>h.elim (Tm.ok_has t ho.1) (okR_has ts ho.2)
end
mutual
theorem Tm.ok_mono {a0:List QSym} {N M:Nat} (hNM:N≤M):(t:Tm)→t.ok a0 N→t.ok a0 M
 | .v _n,ho=>Nat.lt_of_lt_of_le ho hNM
 | .f _c as,ho=>⟨ho.1,okR_mono hNM as ho.2⟩
theorem okR_mono {a0:List QSym} {N M:Nat} (hNM:N≤M):(ts:List Tm)→okR a0 N ts→okR a0 M ts
 | [],_=>trivial
 | t::ts,ho=>⟨Tm.ok_mono hNM t ho.1,okR_mono hNM ts ho.2⟩
end
mutual
theorem Tm.mem_codes {c:Int} (hc:c<0):(t:Tm)→(c∈t.codes↔t.has (-1 - c).toNat)
 | .v n=>by
  show c∈[-1 - (n:Int)]↔n=_
  rw[List.mem_singleton]
  omega
 | .f d as=>by
  show c∈(d:Int)::codesR as↔hasR _ as
  rw[List.mem_cons,← mem_codesR hc as]
  have:c≠(d:Int):=by omega
  simp [this]
theorem mem_codesR {c:Int} (hc:c<0):(ts:List Tm)→(c∈codesR ts↔hasR (-1 - c).toNat ts)
 | []=>by simp [codesR,hasR]
 | t::ts=>by
  show c∈t.codes++codesR ts↔_∨_
  rw[List.mem_append,Tm.mem_codes hc t,mem_codesR hc ts]
end
theorem arity_code {a0:List QSym} {x:Int} {q:Nat} (h:arity a0 x=some q):(x<0 ∧ -24≤x∧q=0)∨∃ c:Nat,x=(c:Int):=by
 unfold arity at h
 by_cases h0:x<0
 ·rw[decide_eq_true h0,cond_true] at h
  by_cases h1 : -24≤x
  ·rw[decide_eq_true h1] at h; injection h with h; exact .inl ⟨h0,h1,h.symm⟩
  ·rw[decide_eq_false h1] at h; cases h
 ·exact .inr ⟨x.toNat,by omega⟩
theorem terms_of {a0:List QSym}:∀(n:Nat) (ps:List (List Int)),(∀ p∈ps,p.length≤n)→(∀ p∈ps,sk a0 1 p=some p.length)→∃ ts:List Tm,okR a0 24 ts∧ps=ts.map Tm.codes:=by
 intro n
 induction n with
 | zero =>
  intro ps h hs
  cases ps with
  | nil=>exact ⟨[],trivial,rfl⟩
  | cons p ps =>
   have h1:=h p (List.mem_cons_self ..)
   have h2:=sk_le (hs p (List.mem_cons_self ..))
   omega
 | succ n ih =>
  intro ps
  induction ps with
  | nil=>intro _ _; exact ⟨[],trivial,rfl⟩
  | cons p ps ihp =>
   intro h hs
   obtain⟨ts,h1,h2⟩:=ihp (fun q hq=>h q (List.mem_cons_of_mem _ hq)) (fun q hq=>hs q (List.mem_cons_of_mem _ hq))
   obtain⟨x,r,q,rfl,ha,hr⟩:=piece_cases (hs p (List.mem_cons_self ..))
   have hl:=h _ (List.mem_cons_self ..)
   rw[List.length_cons] at hl
   rcases arity_code ha with ⟨h3,h4,rfl⟩ | ⟨c,rfl⟩
   ·have hr0:r=[]:=by
     have:sk a0 0 r=some 0:=by cases r<;>rfl
     rw[this] at hr
     exact List.length_eq_zero_iff.1 (by injection hr with hr; omega)
    subst hr0
    refine ⟨.v (-1 - x).toNat::ts,⟨by show (-1 - x).toNat<24; omega,h1⟩,?_⟩
    rw[List.map_cons,← h2]
    show [x]::ps=[-1 - (((-1 - x).toNat:Nat):Int)]::ps
    rw[show -1 - (((-1 - x).toNat:Nat):Int)=x from by omega]
   ·obtain⟨qs,hq,hql⟩:=cuts_sk q r hr
    obtain⟨hf,hqs⟩:=cuts_flat r.length r qs (Nat.le_refl _) hq
    have hlen:∀ p∈qs,p.length≤n:=fun p hp=>by
     have h5:p.length≤qs.flatten.length:=by
      obtain⟨l1,l2,rfl⟩:=List.append_of_mem hp
      simp; omega
     rw[hf] at h5
     omega
    obtain⟨us,h5,h6⟩:=ih qs hlen fun p hp=>(hqs p hp).2
    refine ⟨.f c us::ts,⟨⟨by rw[ha,← hql,h6,List.length_map],h5⟩,h1⟩,?_⟩
    rw[List.map_cons,← h2]
    show ((c:Int)::r)::ps=((c:Int)::codesR us)::ps
    rw[codesR_eq,List.flatMap,← h6,hf]
theorem row_of {a0:List QSym} {xs:List Int} {ps:List (List Int)} (h:cuts a0 xs=some ps):∃ ts:List Tm,okR a0 24 ts∧ps=ts.map Tm.codes∧xs=codesR ts:=by
 obtain⟨h1,h2⟩:=cuts_flat xs.length xs ps (Nat.le_refl _) h
 obtain⟨ts,h3,h4⟩:=terms_of (a0:=a0) xs.length ps (fun p hp=>by
  have:p.length≤ps.flatten.length:=by
   obtain⟨l1,l2,rfl⟩:=List.append_of_mem hp
   simp; omega
  rwa [h1] at this) fun p hp=>(h2 p hp).2
 exact ⟨ts,h3,h4,by rw[codesR_eq,List.flatMap,← h4,h1]⟩
theorem arity_var {a0:List QSym} {n:Nat} (h:n<24):arity a0 (-1 - (n:Int))=some 0:=by
 unfold arity
 rw[decide_eq_true (show -1 - (n:Int)<0 by omega),cond_true,decide_eq_true (show -24 ≤ -1 - (n:Int) by omega)]
 rfl
mutual
theorem Tm.sk_codes {a0:List QSym}:(t:Tm)→t.ok a0 24→sk a0 1 t.codes=some t.codes.length
 | .v n,h=>by
  show sk a0 1 [-1 - (n:Int)]=some 1
  unfold sk
  rw[arity_var h]
  rfl
 | .f c as,h=>by
  have:=sk_codesR as h.2
  show sk a0 1 ((c:Int)::codesR as)=some (codesR as).length.succ
  unfold sk
  rw[h.1]
  simp only[Nat.zero_add,this,Option.map_some]
theorem sk_codesR {a0:List QSym}:(ts:List Tm)→okR a0 24 ts→sk a0 ts.length (codesR ts)=some (codesR ts).length
 | [],_=>rfl
 | t::ts,h=>by
  show sk a0 (ts.length+1) (t.codes++codesR ts)=_
  rw[Nat.add_comm]
  exact sk_app (Tm.sk_codes t h.1) (sk_codesR ts h.2)
end
theorem sk_more {a0:List QSym}:{xs:List Int}→{n k:Nat}→(ys:List Int)→sk a0 n xs=some k→sk a0 n (xs++ys)=some k
 | [],0,k,ys,h=>by simp [sk] at h; subst h; cases ys<;>rfl
 | [],n+1,k,ys,h=>by simp [sk] at h
 | x::xs,0,k,ys,h=>by simp [sk] at h; subst h; rfl
 | x::xs,n+1,k,ys,h=>by
  unfold sk at h
  cases ha:arity a0 x with
  | none=>rw[ha] at h; cases h
  | some m =>
   rw[ha] at h
   simp only[Option.map_eq_some_iff] at h
   obtain⟨j,hj,rfl⟩:=h
   rw[List.cons_append]
   unfold sk
   rw[ha]
   simp only[sk_more ys hj,Option.map_some]
theorem cuts_codes {a0:List QSym}:(ts:List Tm)→okR a0 24 ts→cuts a0 (codesR ts)=some (ts.map Tm.codes)
 | [],_=>rfl
 | t::ts,h=>by
  have hp:=t.size_pos
  have hl:=t.codes_len
  have h1:=Tm.sk_codes t h.1
  show cuts a0 (t.codes++codesR ts)=_
  have hne:t.codes++codesR ts≠[]:=fun e=>by
   have:=congrArg List.length e
   rw[List.length_append,List.length_nil] at this
   omega
  rw[cuts_step hne,sk_more _ h1]
  simp only[List.drop_left,List.take_left,cuts_codes ts h.2,Option.map_some,List.map_cons]
end
end Go.Abs.Q
namespace Go.Abs.Q
open Go Go.Abs
section
abbrev Bd:=Nat→Option Tm
structure Good (B:Bd) (σ:Sb):Prop where
 free:∀ x,B x=none→σ x = .v x
 bound:∀ x t,B x=some t→σ x=t.sub σ
 down:∀ x y,B x=some (.v y)→y<x
theorem Good.ind {B:Bd} {σ:Sb} (h:Good B σ) {P:Nat→Prop} (hf:∀ x,B x=none→P x) (hb:∀ x t,B x=some t→(∀ y,t.has y→P y)→P x):∀ x,P x:=by
 have key:∀ n x,(σ x).size=n→P x:=by
  intro n
  induction n using Nat.strongRecOn with
  | _ n ihn =>
   intro x
   induction x using Nat.strongRecOn with
   | _ x ihx =>
    intro hn
    cases hx:B x with
    | none=>exact hf x hx
    | some t =>
     refine hb x t hx fun y hy => ?_
     have hs:=h.bound x t hx
     cases t with
     | v z =>
      have hz:z=y:=hy
      subst hz
      exact ihx z (h.down x z hx) (by rw[← hn,hs]; rfl)
     | f c as =>
      have:=sizeR_has (s:=σ) as hy
      refine ihn (σ y).size ?_ y rfl
      rw[← hn,hs]
      show _<sizeR (subR σ as)+1
      omega
 exact fun x=>key _ x rfl
theorem Good.le {B:Bd} {σ:Sb} (h:Good B σ):∀ x y,σ x = .v y→y≤x:=by
 refine h.ind (fun x hx y hy => ?_) fun x t hx ih y hy => ?_
 ·rw[h.free x hx] at hy; injection hy with hy; omega
 ·rw[h.bound x t hx] at hy
  cases t with
  | v z =>
   have h1:=h.down x z hx
   have h2:=ih z rfl y hy
   omega
  | f c as=>cases hy
def one (x:Nat) (u:Tm):Sb:=fun y=>if y=x then u else .v y
def updB (B:Bd) (x:Nat) (t:Tm):Bd:=fun y=>if y=x then some t else B y
theorem updB_same (B:Bd) (x:Nat) (t:Tm):updB B x t x=some t:=by simp [updB]
theorem updB_ne (B:Bd) {x y:Nat} (t:Tm) (h:y≠x):updB B x t y=B y:=by simp [updB,h]
theorem one_off {x:Nat} {u t:Tm} (h:¬ t.has x):t.sub (one x u)=t:=by
 conv=>rhs; rw[← Tm.sub_v t]
 refine Tm.sub_ext t fun y hy => ?_
 have hne:y≠x:=fun e=>h (e▸hy)
 unfold one
 rw[if_neg hne]
theorem Good.bind {B:Bd} {σ:Sb} (h:Good B σ) {x:Nat} {t:Tm} (hx:B x=none) (hn:¬(t.sub σ).has x) (hd:∀ y,t = .v y→y<x):Good (updB B x t) fun y=>(σ y).sub (one x (t.sub σ)) where
 free:=fun y hy=>by
  have hne:y≠x:=fun e=>by rw[e,updB_same] at hy; cases hy
  rw[updB_ne _ _ hne] at hy
  rw[h.free y hy]
  show one x _ y=_
  simp [one,hne]
 bound:=fun y u hy=>by
  by_cases he:y=x
  ·subst he
   rw[updB_same] at hy
   injection hy with hy
   subst hy
   rw[h.free y hx,← Tm.sub_sub,one_off hn]
   show one y _ y=_
   simp [one]
  ·rw[updB_ne _ _ he] at hy
   rw[h.bound y u hy,Tm.sub_sub]
 down:=fun y z hy=>by
  by_cases he:y=x
  ·subst he
   rw[updB_same] at hy
   injection hy with hy
   exact hd z hy
  ·rw[updB_ne _ _ he] at hy
   exact h.down y z hy
def Small (B:Bd):Prop:=∀ x t,B x=some t→x<48∧t.size≤48
def Good.less (σ:Sb) (y x:Nat):Bool:=decide ((σ y).size<(σ x).size)||(decide ((σ y).size=(σ x).size)&&decide (y<x))
def Good.rank (σ:Sb) (x:Nat):Nat:=(List.range 48).countP fun y=>Good.less σ y x
theorem countP_lt {α:Type} {p q:α→Bool} {a:α}:{l:List α}→a∈l→(∀ x∈l,p x=true→q x=true)→p a=false→q a=true→l.countP p<l.countP q
 | [],h,_,_,_=>nomatch h
 | b::l,hm,hi,hp,hq=>by
  have h2:l.countP p≤l.countP q:=List.countP_mono_left fun x hx h=>hi x (List.mem_cons_of_mem _ hx) h
  rcases List.mem_cons.1 hm with rfl | hm
  ·rw[List.countP_cons_of_neg (by simp [hp]),List.countP_cons_of_pos hq]
   omega
  ·have h1:=countP_lt hm (fun x hx=>hi x (List.mem_cons_of_mem _ hx)) hp hq
   cases hb:p b with
   | true=>rw[List.countP_cons_of_pos hb,List.countP_cons_of_pos (hi b (List.mem_cons_self ..) hb)]; omega
   | false =>
    rw[List.countP_cons_of_neg (by simp [hb])]
    cases hc:q b with
    | true=>rw[List.countP_cons_of_pos hc]; omega
    | false=>rw[List.countP_cons_of_neg (by simp [hc])]; exact h1
theorem Good.small {B:Bd} {σ:Sb} (h:Good B σ) (hb:Small B):∀ x,(σ x).size≤48 ^ 49:=by
 have key:∀ x,B x≠none→(σ x).size≤48 ^ (Good.rank σ x+1):=by
  refine h.ind (fun x hx hn=>absurd hx hn) fun x t hx ih _ => ?_
  obtain⟨hx48,ht⟩:=hb x t hx
  rw[h.bound x t hx]
  have h1:1≤48 ^ Good.rank σ x:=Nat.pow_pos (by omega)
  refine Nat.le_trans (Tm.size_sub t h1 fun y hy => ?_) ?_
  ·cases hy0:B y with
   | none=>rw[h.free y hy0]; exact h1
   | some u =>
    refine Nat.le_trans (ih y hy (by rw[hy0]; simp)) (Nat.pow_le_pow_right (by omega) ?_)
    have hlt:Good.less σ y x=true:=by
     unfold Good.less
     have hs:=h.bound x t hx
     cases t with
     | v z =>
      have hz:z=y:=hy
      subst hz
      have h2:=h.down x z hx
      have h3:(σ z).size=(σ x).size:=by rw[hs]; rfl
      simp [h3,h2]
     | f c as =>
      have h2:=sizeR_has (s:=σ) as hy
      have h3:(σ x).size=sizeR (subR σ as)+1:=by rw[hs]; rfl
      rw[decide_eq_true (show (σ y).size<(σ x).size by omega)]
      rfl
    refine countP_lt (a:=y) (List.mem_range.2 (hb y u hy0).1) (fun z _ hz => ?_) (by simp [Good.less]) hlt
    simp only[Good.less,Bool.or_eq_true,Bool.and_eq_true,decide_eq_true_eq] at hz hlt ⊢
    omega
  ·rw[Nat.pow_succ,Nat.mul_comm]
   exact Nat.mul_le_mul_left _ ht
 intro x
 by_cases hx:B x=none
 ·rw[h.free x hx]
  exact Nat.pow_pos (by omega)
 ·refine Nat.le_trans (key x hx) (Nat.pow_le_pow_right (by omega) ?_)
  have:Good.rank σ x≤(List.range 48).length:=List.countP_le_length
  rw[List.length_range] at this
  omega
end
end Go.Abs.Q
namespace Go.Abs.Q
open Go Go.Abs
section
abbrev PO:=Option (List Int)×Int
section
variable {a0:List QSym} {N:Nat} {to:List PO} {B:Bd} {σ:Sb} {v:Nat}
end
end
end Go.Abs.Q
namespace Go.Abs.Q
open Go Go.Abs
section
mutual
def Tm.ht:Tm→Nat
 | .v _=>1
 | .f _ as=>htR as+1
def htR:List Tm→Nat
 | []=>0
 | t::ts=>max t.ht (htR ts)
end
mutual
theorem Tm.ht_size:(t:Tm)→t.ht≤t.size
 | .v _=>Nat.le_refl _
 | .f _ as=>by have:=htR_size as; simp only[Tm.ht,Tm.size]; omega
theorem htR_size:(ts:List Tm)→htR ts≤sizeR ts
 | []=>Nat.le_refl _
 | t::ts=>by have:=t.ht_size; have:=htR_size ts; simp only[htR,sizeR]; omega
end
mutual
theorem Tm.ht_sub {s:Sb} {M:Nat}:(t:Tm)→(∀ x,t.has x→(s x).ht≤M)→(t.sub s).ht≤t.ht+M
 | .v n,h=>by have:=h n rfl; simp only[Tm.sub,Tm.ht]; omega
 | .f _ as,h=>by have:=htR_sub as h; simp only[Tm.sub,Tm.ht]; omega
theorem htR_sub {s:Sb} {M:Nat}:(ts:List Tm)→(∀ x,hasR x ts→(s x).ht≤M)→htR (subR s ts)≤htR ts+M
 | [],_=>by simp [subR,htR]
 | t::ts,h=>by
  have h1:=Tm.ht_sub t fun x hx=>h x (.inl hx)
  have h2:=htR_sub ts fun x hx=>h x (.inr hx)
  simp only[subR,htR]; omega
end
theorem codes_le {ts:List Tm} {t:Tm} (h:t∈ts):t.codes.length≤(codesR ts).length:=by
 obtain⟨l1,l2,rfl⟩:=List.append_of_mem h
 rw[codesR_app]
 simp [codesR]
 omega
end
end Go.Abs.Q
namespace Go.Abs.Q
open Go Go.Abs
section
def wt (σ:Sb) (E:List (Tm×Tm)):Nat:=(E.map fun e=>(e.1.sub σ).size).sum
end
end Go.Abs.Q
namespace Go.Abs.Q
open Go Go.Abs
section
def expC (s:Sb) (c:Int):List Int:=if c<0 then (s (-1 - c).toNat).codes else [c]
mutual
theorem Tm.codes_sub (s:Sb):(t:Tm)→(t.sub s).codes=t.codes.flatMap (expC s)
 | .v n=>by
  show (s n).codes=[-1 - (n:Int)].flatMap (expC s)
  simp only[List.flatMap_cons,List.flatMap_nil,List.append_nil,expC]
  rw[if_pos (by omega),show (-1 - (-1 - (n:Int))).toNat=n from by omega]
 | .f c as=>by
  show (c:Int)::codesR (subR s as)=((c:Int)::codesR as).flatMap (expC s)
  rw[List.flatMap_cons,codesR_sub s as]
  unfold expC
  rw[if_neg (by omega)]
  rfl
theorem codesR_sub (s:Sb):(ts:List Tm)→codesR (subR s ts)=(codesR ts).flatMap (expC s)
 | []=>rfl
 | t::ts=>by
  show (t.sub s).codes++codesR (subR s ts)=(t.codes++codesR ts).flatMap (expC s)
  rw[Tm.codes_sub s t,codesR_sub s ts,List.flatMap_append]
end
section
variable {a0:List QSym} {to:List PO} {B:Bd} {σ:Sb}
end
end
end Go.Abs.Q
namespace Go.Abs.Q
open Go Go.Abs
section
theorem wrap64u {n:Int} (h1:0≤n) (h2:n≤9223372036854775807):IntKind.wrap .u64 n=n:=by
 simp [IntKind.wrap,IntKind.signed,IntKind.bits]
 omega
theorem mid_eq {l h:Nat} (hl:l+h≤1000000000):IntKind.wrap .i64 (Int.fdiv (IntKind.wrap .u64 (IntKind.wrap .i64 ((l:Int)+(h:Int)))) (2 ^ min (Int.toNat 1) (IntKind.bits .u64)))=(((l+h) / 2:Nat):Int):=by
 rw[wrap64 (n:=(l:Int)+(h:Int)) (by omega) (by omega),wrap64u (by omega) (by omega)]
 have:(2:Int) ^ min (Int.toNat 1) (IntKind.bits .u64)=2:=by decide
 rw[this,Int.fdiv_eq_ediv_of_nonneg _ (by omega)]
 rw[wrap64]<;>omega
theorem cmp_Less_eq (a b:Int):cmp_Less a b=some (decide (a<b)):=by
 unfold cmp_Less cmp_isNaN
 simp
abbrev Rise (xs:List Int):Prop:=xs.Pairwise (· < ·)
theorem Rise.lt {xs:List Int} (h:Rise xs) {i j:Nat} {x y:Int} (hi:xs[i]? = some x) (hj:xs[j]? = some y) (hij:i<j):x<y:=by
 obtain⟨h1,rfl⟩:=List.getElem?_eq_some_iff.1 hi
 obtain⟨h2,rfl⟩:=List.getElem?_eq_some_iff.1 hj
 exact List.pairwise_iff_getElem.1 h i j h1 h2 hij
theorem bs_round {xs:List Int} (h:Rise xs) (hl:xs.length≤1000000) (t:Int) (z:Int):∀(m l r k:Nat),r - l=m→l≤r→r≤xs.length→m<k→(∀(i:Nat) x,xs[i]? = some x→i<l→x<t)→(∀(i:Nat) x,xs[i]? = some x→r≤i→t≤x) →
  ∃ q:Nat,lp slices_BinarySearch_L0 k (xs,t,z,(l:Int),(r:Int))=some (q:Int)∧q≤xs.length∧(∀(i:Nat) x,xs[i]? = some x→i<q→x<t)∧∀(i:Nat) x,xs[i]? = some x→q≤i→t≤x:=by
 intro m
 induction m using Nat.strongRecOn with
 | _ m ih =>
  intro l r k hm hlr hr hk h1 h2
  obtain⟨k,rfl⟩:∃ k',k=k'+1:=⟨k - 1,by omega⟩
  rw[lp_succ]
  have key:=fun l r (h3:r - l<m) h4 h5 h6 h7=>ih (r - l) h3 l r k rfl h4 h5 (by omega) h6 h7
  generalize lp slices_BinarySearch_L0 k=rec at key ⊢
  unfold slices_BinarySearch_L0
  by_cases hlt:l<r
  ·have hml:(l+r) / 2<xs.length:=by omega
   simp only[decide_eq_true (show (l:Int)<(r:Int) by omega),cond_true,mid_eq (show l+r≤1000000000 by omega),gx_nat,List.getElem?_eq_getElem hml,Option.bind_some,cmp_Less_eq]
   have hget:=List.getElem?_eq_getElem hml
   have w:IntKind.wrap .i64 ((((l+r) / 2:Nat):Int)+1)=(((l+r) / 2+1:Nat):Int):=by rw[wrap64]<;>omega
   by_cases hc:xs[(l+r) / 2]<t
   ·rw[decide_eq_true hc,cond_true,w]
    refine key ((l+r) / 2+1) r (by omega) (by omega) hr (fun i x hi hil => ?_) h2
    rcases Nat.lt_or_ge i ((l+r) / 2) with hi2 | hi2
    ·have:=h.lt hi hget hi2; omega
    ·have:i=(l+r) / 2:=by omega
     subst this
     rw[hget] at hi; injection hi with hi; omega
   ·rw[decide_eq_false hc,cond_false]
    refine key l ((l+r) / 2) (by omega) (by omega) (by omega) h1 (fun i x hi hil => ?_)
    rcases Nat.lt_or_ge ((l+r) / 2) i with hi2 | hi2
    ·have:=h.lt hget hi hi2; omega
    ·have:i=(l+r) / 2:=by omega
     subst this
     rw[hget] at hi; injection hi with hi; omega
  ·rw[decide_eq_false (show ¬((l:Int)<(r:Int)) by omega),cond_false]
   have:l=r:=by omega
   subst this
   exact ⟨l,rfl,hr,h1,h2⟩
theorem bs_spec {xs:List Int} (h:Rise xs) (hl:xs.length≤1000000) (t:Int):∃(q:Nat) (b:Bool),slices_BinarySearch xs t=some ((q:Int),b)∧q≤xs.length∧(∀(i:Nat) x,xs[i]? = some x→i<q→x<t)∧(∀(i:Nat) x,xs[i]? = some x→q≤i→t≤x)∧(b=true↔t∈xs):=by
 obtain⟨q,h1,h2,h3,h4⟩:=bs_round h hl t ((xs.length:Nat):Int) xs.length 0 xs.length fuel rfl (Nat.zero_le _) (Nat.le_refl _) (by unfold fuel; omega) (fun i x _ h=>by omega) (fun i x hi h=>by
  have:=(List.getElem?_eq_some_iff.1 hi).1; omega)
 have h1:lp slices_BinarySearch_L0 fuel (xs,t,((xs.length:Nat):Int),0,((xs.length:Nat):Int))=some (q:Int):=h1
 unfold slices_BinarySearch
 rw[h1,Option.bind_some]
 by_cases hq:q<xs.length
 ·rw[decide_eq_true (show ((q:Int)<((xs.length:Nat):Int)) by omega),cond_true,gx_nat,List.getElem?_eq_getElem hq,Option.bind_some]
  have hget:=List.getElem?_eq_getElem hq
  by_cases he:xs[q]=t
  ·rw[show (xs[q]==t)=true from by simp [he],cond_true]
   exact ⟨q,true,rfl,h2,h3,h4,by simp only[true_iff]; rw[← he]; exact List.getElem_mem hq⟩
  ·rw[show (xs[q]==t)=false from by simp [he],cond_false,Option.bind_some]
   have hn:slices_isNaN xs[q]=some false:=by unfold slices_isNaN; simp
   rw[hn,Option.bind_some,cond_false]
   refine ⟨q,false,rfl,h2,h3,h4,?_⟩
   constructor
   ·intro h; cases h
   ·intro hm
    exfalso
    obtain⟨i,hi⟩:=List.mem_iff_getElem?.1 hm
    rcases Nat.lt_trichotomy i q with h5 | h5 | h5
    ·have:=h3 i t hi h5; omega
    ·subst h5; rw[hget] at hi; injection hi with hi; exact he hi
    ·have:=h.lt hget hi h5
     have:=h4 q _ hget (Nat.le_refl _)
     omega
 ·rw[decide_eq_false (show ¬((q:Int)<((xs.length:Nat):Int)) by omega),cond_false]
  refine ⟨q,false,rfl,h2,h3,h4,?_⟩
  constructor
  ·intro h; cases h
  ·intro hm
   exfalso
   obtain⟨i,hi⟩:=List.mem_iff_getElem?.1 hm
   have:=h3 i t hi (by have:=(List.getElem?_eq_some_iff.1 hi).1; omega)
   omega
theorem insert_rise {xs:List Int} (h:Rise xs) {q:Nat} {t:Int} (_hq:q≤xs.length) (h1:∀(i:Nat) x,xs[i]? = some x→i<q→x<t) (h2:∀(i:Nat) x,xs[i]? = some x→q≤i→t≤x) (h3:t∉xs):Rise (insAt xs q [t]):=by
 unfold insAt Rise
 have ht:∀ x∈xs.take q,x<t:=fun x hx=>by
  obtain⟨i,hi⟩:=List.mem_iff_getElem?.1 hx
  rw[List.getElem?_take] at hi
  split at hi
  ·exact h1 i x hi (by assumption)
  ·cases hi
 have hd:∀ x∈xs.drop q,t<x:=fun x hx=>by
  obtain⟨i,hi⟩:=List.mem_iff_getElem?.1 hx
  rw[List.getElem?_drop] at hi
  have h4:=h2 _ x hi (by omega)
  have:x≠t:=fun e=>h3 (e▸List.mem_of_getElem? hi)
  omega
 rw[List.pairwise_append]
 refine ⟨h.sublist (List.take_sublist ..),?_,fun x hx y hy => ?_⟩
 ·rw[List.singleton_append,List.pairwise_cons]
  exact ⟨hd,h.sublist (List.drop_sublist ..)⟩
 ·have h5:=ht x hx
  rcases List.mem_append.1 hy with hy | hy
  ·rw[List.mem_singleton.1 hy]; exact h5
  ·have:=hd y hy; omega
theorem mem_insAt {xs:List Int} {q:Nat} {t x:Int}:x∈insAt xs q [t]↔x∈xs∨x=t:=by
 unfold insAt
 simp only[List.mem_append,List.mem_singleton]
 constructor
 ·rintro (h | h | h)
  ·exact .inl (List.mem_of_mem_take h)
  ·exact .inr h
  ·exact .inl (List.mem_of_mem_drop h)
 ·rintro (h | h)
  ·rw[← List.take_append_drop q xs] at h
   rcases List.mem_append.1 h with h | h
   ·exact .inl h
   ·exact .inr (.inr h)
  ·exact .inr (.inl h)
def VarC (r:List Int) (x:Int):Prop:=∃ c∈r,c<0∧x = -1 - c
theorem seen_go:(es vs:List Int)→Rise vs→vs.length+es.length≤1000000→(∀ c∈es,-1000000≤c∧c≤1000000)→∃ ws,term_Seen_1_L0_go es vs=some ws∧Rise ws∧(∀ x,x∈ws↔x∈vs∨VarC es x)∧ws.length≤vs.length+es.length
 | [],vs,h,_,_=>⟨vs,rfl,h,fun x=>⟨.inl,fun h=>h.elim (fun h=>h) fun ⟨c,hc,_⟩=>(nomatch hc)⟩,Nat.le_refl _⟩
 | e::es,vs,h,hl,hc=>by
  rw[List.length_cons] at hl
  have he:=hc e (List.mem_cons_self ..)
  have hc':∀ c∈es,-1000000≤c∧c≤1000000:=fun c h=>hc c (List.mem_cons_of_mem _ h)
  unfold term_Seen_1_L0_go
  by_cases h0:e≥0
  ·rw[decide_eq_true h0,cond_true]
   obtain⟨ws,h1,h2,h3,h4⟩:=seen_go es vs h (by omega) hc'
   refine ⟨ws,h1,h2,fun x=>(h3 x).trans ?_,by rw[List.length_cons]; omega⟩
   constructor
   ·rintro (h5 | ⟨c,h5,h6⟩)
    ·exact .inl h5
    ·exact .inr ⟨c,List.mem_cons_of_mem _ h5,h6⟩
   ·rintro (h5 | ⟨c,h5,h6,h7⟩)
    ·exact .inl h5
    ·rcases List.mem_cons.1 h5 with rfl | h5
     ·omega
     ·exact .inr ⟨c,h5,h6,h7⟩
  ·rw[decide_eq_false h0,cond_false,term_Number_eq (by omega) (by omega),Option.bind_some]
   obtain⟨q,b,h1,h2,h3,h4,h5⟩:=bs_spec h (by omega) (-1 - e)
   rw[h1,Option.bind_some]
   have fin:∀{vs':List Int},(∀ x,x∈vs'↔x∈vs∨x = -1 - e)→∀ x,(x∈vs'∨VarC es x)↔(x∈vs∨VarC (e::es) x):=by
    intro vs' hv x
    rw[hv x]
    constructor
    ·rintro ((h6 | h6) | ⟨c,h6,h7⟩)
     ·exact .inl h6
     ·exact .inr ⟨e,List.mem_cons_self ..,by omega,h6⟩
     ·exact .inr ⟨c,List.mem_cons_of_mem _ h6,h7⟩
    ·rintro (h6 | ⟨c,h6,h7,h8⟩)
     ·exact .inl (.inl h6)
     ·rcases List.mem_cons.1 h6 with rfl | h6
      ·exact .inl (.inr h8)
      ·exact .inr ⟨c,h6,h7,h8⟩
   cases b with
   | true =>
    simp only[Bool.not_true,cond_false]
    obtain⟨ws,h6,h7,h8,h9⟩:=seen_go es vs h (by omega) hc'
    refine ⟨ws,h6,h7,fun x=>(h8 x).trans (fin (fun x=>⟨.inl,fun h=>h.elim (fun h=>h) fun h => ?_⟩) x),by rw[List.length_cons]; omega⟩
    rw[h]
    exact h5.1 rfl
   | false =>
    simp only[Bool.not_false,cond_true,Option.bind_some]
    have hn : -1 - e∉vs:=fun h=>by have:=h5.2 h; cases this
    have hi:slices_Insert (q:Int) vs [-1 - e]=some (insAt vs q [-1 - e]):=by
     unfold slices_Insert insF
     rw[room_ok (by simp; omega)]
     have e1:nneg (q:Int)=true:=by simp [nneg]
     have e2:decide ((q:Int)≤(List.length vs:Int))=true:=by simp; omega
     have e3:posI ((List.length [-1 - e]:Nat):Int)=true:=by simp [posI]
     rw[e1,e2,e3,Int.toNat_natCast]
     rfl
    rw[hi,Option.bind_some]
    have hlen:(insAt vs q [-1 - e]).length=vs.length+1:=insAt_length vs _ h2
    obtain⟨ws,h6,h7,h8,h9⟩:=seen_go es (insAt vs q [-1 - e]) (insert_rise h h2 h3 h4 hn) (by omega) hc'
    exact ⟨ws,h6,h7,fun x=>(h8 x).trans (fin (fun x=>mem_insAt) x),by rw[List.length_cons]; omega⟩
theorem seen_spec {r vs:List Int} (h:Rise vs) (hl:vs.length+r.length≤1000000) (hc:∀ c∈r,-1000000≤c∧c≤1000000):∃ ws,term_Seen_1 r vs=some ws∧Rise ws∧(∀ x,x∈ws↔x∈vs∨VarC r x)∧ws.length≤vs.length+r.length:=by
 obtain⟨ws,h1,h2⟩:=seen_go r vs h hl hc
 refine ⟨ws,?_,h2⟩
 unfold term_Seen_1
 rw[term_Seen_1_L0_go_at0 _ _ (by unfold maxLen; omega),h1]
 rfl
def VarR (rs:List (List Int)) (x:Int):Prop:=∃ r∈rs,VarC r x
theorem VarR_cons {r:List Int} {rs:List (List Int)} {x:Int}:VarR (r::rs) x↔VarC r x∨VarR rs x:=by simp [VarR]
theorem VarR_append {rs ss:List (List Int)} {x:Int}:VarR (rs++ss) x↔VarR rs x∨VarR ss x:=by
 simp only[VarR,List.mem_append]
 constructor
 ·rintro⟨r,h | h,h2⟩
  ·exact .inl ⟨r,h,h2⟩
  ·exact .inr ⟨r,h,h2⟩
 ·rintro (⟨r,h,h2⟩ | ⟨r,h,h2⟩)
  ·exact ⟨r,.inl h,h2⟩
  ·exact ⟨r,.inr h,h2⟩
def rowsOf (L:List QLit) (T:List (List Int)) (C:List QLit):List (List Int):=L.map (·.2)++C.map (·.2)++T
end
end Go.Abs.Q
namespace Go.Abs.Q
open Go Go.Abs
section
def subCs (s:Sb) (r:List Int):List Int:=r.flatMap (expC s)
def subLs (s:Sb) (ls:List QLit):List QLit:=ls.map fun l=>(l.1,subCs s l.2)
theorem atom_tree {a0:List QSym} {xs:List Int} (h:atomB a0 xs=true):∃(c:Nat) (ts:List Tm) (e:QSym),xs=(c:Int)::codesR ts∧okR a0 24 ts∧a0[c]? = some e∧e.2.1=0∧((ts.length:Nat):Int)=e.2.2.1∧(codesR ts).length≤48∧signB a0=true:=by
 obtain⟨x,r,e,ps,rfl,h0,h1,-,h2,h3,h4,h5,h6⟩:=atomB_spec h
 obtain⟨ts,h7,h8,h9⟩:=row_of h5
 refine ⟨x.toNat,ts,e,by rw[← h9,Int.toNat_of_nonneg h0],h7,h1,h2,?_,by rw[← h9]; exact h4,h3⟩
 rw[← h6,h8,List.length_map]
theorem atomT_mk {a0:List QSym} {c:Nat} {ts:List Tm} {e:QSym} (h1:okR a0 24 ts) (h2:a0[c]? = some e) (h3:e.2.1=0) (h4:((ts.length:Nat):Int)=e.2.2.1) (h5:(codesR ts).length≤48) (h6:signB a0=true):atomB a0 ((c:Int)::codesR ts)=true:=by
 unfold atomB
 simp only[Int.toNat_natCast,h2]
 unfold beginsB
 rw[h6,decide_eq_true h5]
 simp [h3,cuts_codes ts h1,h4]
theorem VarC_codes {ts:List Tm} {x:Int}:VarC (codesR ts) x↔∃ k:Nat,x=(k:Int)∧hasR k ts:=by
 constructor
 ·rintro⟨c,h1,h2,rfl⟩
  exact ⟨(-1 - c).toNat,by omega,(mem_codesR h2 ts).1 h1⟩
 ·rintro⟨k,rfl,hk⟩
  refine ⟨-1 - (k:Int),(mem_codesR (by omega) ts).2 (by rwa [show (-1 - (-1 - (k:Int))).toNat=k from by omega]),by omega,by omega⟩
end
end Go.Abs.Q
namespace Go.Abs.Q
open Go Go.Abs
section
theorem may_small {a0:List QSym} {L:List QLit} {T:List (List Int)} {C:List QLit} (h:mayB a0 L T C=true):∀ r∈rowsOf L T C,SmallR r:=by
 obtain⟨-,-,-,-,h4,h5,h6,-⟩:=mayB_spec h
 intro r hr
 unfold rowsOf at hr
 rcases List.mem_append.1 hr with hr | hr
 ·rcases List.mem_append.1 hr with hr | hr
  ·obtain⟨l,hl,rfl⟩:=List.mem_map.1 hr; exact litsB_small h4 l hl
  ·obtain⟨l,hl,rfl⟩:=List.mem_map.1 hr; exact litsB_small h6 l hl
 ·exact rowsB_small h5 r hr
end
end Go.Abs.Q
namespace Go.Abs.Q
open Go Go.Abs
section
abbrev ResT:=List QLit×List (List Int)×Bool×Int×List QLit
def Cds (r:List Int):Prop:=r.length≤1000∧∀ c∈r,-24≤c∧c≤1000000
theorem may_cds {a0:List QSym} (hs:SignOk a0) {L:List QLit} {T:List (List Int)} {C:List QLit} (h:mayB a0 L T C=true):∀ r∈rowsOf L T C,Cds r:=by
 intro r hr
 have h1:=may_small h r hr
 obtain⟨-,-,-,-,h4,h5,h6,-⟩:=mayB_spec h
 have h2:NearR r:=by
  unfold rowsOf at hr
  rcases List.mem_append.1 hr with hr | hr
  ·rcases List.mem_append.1 hr with hr | hr
   ·obtain⟨l,hl,rfl⟩:=List.mem_map.1 hr; exact litsB_near hs h4 l hl
   ·obtain⟨l,hl,rfl⟩:=List.mem_map.1 hr; exact litsB_near hs h6 l hl
  ·exact rowsB_near hs h5 r hr
 exact ⟨h2.1,fun c hc=>⟨h1.2 c hc,(h2.2 c hc).2⟩⟩
theorem mem_rows_lit {L:List QLit} {T:List (List Int)} {C:List QLit} {l:QLit} (h:l∈L):l.2∈rowsOf L T C:=by
 unfold rowsOf
 exact List.mem_append_left _ (List.mem_append_left _ (List.mem_map_of_mem h))
theorem mem_rows_cond {L:List QLit} {T:List (List Int)} {C:List QLit} {l:QLit} (h:l∈C):l.2∈rowsOf L T C:=by
 unfold rowsOf
 exact List.mem_append_left _ (List.mem_append_right _ (List.mem_map_of_mem h))
theorem mem_rows_row {L:List QLit} {T:List (List Int)} {C:List QLit} {r:List Int} (h:r∈T):r∈rowsOf L T C:=by
 unfold rowsOf
 exact List.mem_append_right _ h
end
end Go.Abs.Q
namespace Go.Abs.Q
open Go Go.Abs
section
theorem codesR_inj {a0:List QSym}:∀(n:Nat) (ts us:List Tm),sizeR ts≤n→okR a0 24 ts→okR a0 24 us→codesR ts=codesR us→ts=us:=by
 intro n
 induction n with
 | zero =>
  intro ts us hn _ _ he
  cases ts with
  | cons t ts=>have:=t.size_pos; simp only[sizeR] at hn; omega
  | nil =>
   cases us with
   | nil=>rfl
   | cons u us =>
    have:=congrArg List.length he
    rw[codesR_len,codesR_len] at this
    have:=u.size_pos
    simp only[sizeR] at *; omega
 | succ n ih =>
  intro ts us hn ho ho' he
  cases ts with
  | nil =>
   cases us with
   | nil=>rfl
   | cons u us =>
    have:=congrArg List.length he
    rw[codesR_len,codesR_len] at this
    have:=u.size_pos
    simp only[sizeR] at *; omega
  | cons t ts =>
   cases us with
   | nil =>
    have:=congrArg List.length he
    rw[codesR_len,codesR_len] at this
    have:=t.size_pos
    simp only[sizeR] at *; omega
   | cons u us =>
    have he:t.codes++codesR ts=u.codes++codesR us:=he
    cases t with
    | v k =>
     cases u with
     | v k' =>
      have he:(-1 - (k:Int))::codesR ts=(-1 - (k':Int))::codesR us:=he
      injection he with h1 h2
      have:k=k':=by omega
      rw[this,ih ts us (by simp only[sizeR,Tm.size] at hn; omega) ho.2 ho'.2 h2]
     | f c as =>
      have he:(-1 - (k:Int))::codesR ts=(c:Int)::(codesR as++codesR us):=he
      injection he with h1 h2
      omega
    | f c as =>
     cases u with
     | v k' =>
      have he:(c:Int)::(codesR as++codesR ts)=(-1 - (k':Int))::codesR us:=he
      injection he with h1 h2
      omega
     | f c' bs =>
      have he:(c:Int)::(codesR as++codesR ts)=(c':Int)::(codesR bs++codesR us):=he
      injection he with h1 h2
      have hc:c=c':=by omega
      subst hc
      rw[← codesR_app,← codesR_app] at h2
      have ha:=ho.1.1
      have hb:=ho'.1.1
      rw[ha] at hb
      injection hb with hb
      have:=ih (as++ts) (bs++us) (by rw[sizeR_app]; simp only[sizeR,Tm.size] at hn; omega)
       (okR_iff.2 fun t ht=>(List.mem_append.1 ht).elim (okR_iff.1 ho.1.2 t) (okR_iff.1 ho.2 t))
       (okR_iff.2 fun t ht=>(List.mem_append.1 ht).elim (okR_iff.1 ho'.1.2 t) (okR_iff.1 ho'.2 t)) h2
      obtain⟨h3,h4⟩:=List.append_inj this hb
      rw[h3,h4]
end
end Go.Abs.Q
namespace Go.Abs.Q
open Go Go.Abs
section
end
end Go.Abs.Q
namespace Go.Abs.Q
open Go Go.Abs
def ref9_Model_look_L0 (rec:((List Int)×Int×Int×Int×(List Int))→Option Int) (x:((List Int)×Int×Int×Int×(List Int))):Option Int :=
 cond (decide (x.2.2.1<((List.length x.1:Nat):Int)))
 ((gx x.1 x.2.2.1).bind fun e2 =>
  rec (x.1,(IntKind.wrap .u64 ((IntKind.wrap .u64 ((IntKind.wrap .u64 (x.2.1*5))+(IntKind.wrap .u64 e2)))+3)),(IntKind.wrap .i64 (x.2.2.1+1)),x.2.2.2.1,x.2.2.2.2))
 (some x.2.1)
def ref9_Model_look (a0:Int) (a1:(List Int)) (a2:Int) (a3:(List Int)):Option Int :=
 cond (((List.length a1:Nat):Int)==0)
 (some 0)
 (((lp ref9_Model_look_L0 fuel) (a3,(IntKind.wrap .u64 (IntKind.wrap .i64 ((IntKind.wrap .i64 (a2*7))+1))),0,a0,a1)).bind fun r6 =>
  cond (decide ((IntKind.wrap .u64 ((List.length a1:Nat):Int))=0))
  (none)
  ((gx a1 (IntKind.wrap .i64 (Int.tmod r6 (IntKind.wrap .u64 ((List.length a1:Nat):Int))))).bind fun e7 =>
   (bitI .and .i64 e7 255).bind fun b8 =>
   some b8))
end Go.Abs.Q
namespace Go.Abs.Q
open Go Go.Abs
end Go.Abs.Q
