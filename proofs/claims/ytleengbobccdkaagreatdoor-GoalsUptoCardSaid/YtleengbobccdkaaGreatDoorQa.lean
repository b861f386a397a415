import Derived.Test.YtleengbobccdkaaGreatDoorFc
/-
  What the functions make of plain values, and what the law says of that.
-/
namespace Go.Abs.Q
open Go Go.Abs
abbrev QSym:=Str×Int×Int×Int
abbrev tSym:Tys:=.cons .str (.cons (.int .i64) (.cons (.int .i64) (.one (.int .i64))))
abbrev QLit:=Bool×List Int
abbrev tLit:Tys:=.cons .bool (.one (.sl (.one (.int .i64))))
def law24_words:Option (List QSym) :=
 some ([(([61]:Str),0,2,1),(([97]:Str),1,0,1),(([98]:Str),1,0,2),(([102]:Str),1,1,1),(([103]:Str),1,2,3),(([112]:Str),0,1,1),(([114]:Str),0,2,2)]:List QSym)
def sign_small (a0:Int):Option Bool :=
 cond (decide (a0≥97))
 (some (decide (a0≤122)))
 (some false)
def sign_called_L0 (rec:(Str×Int×Int)→Option (Unit⊕Bool)) (x:(Str×Int×Int)):Option (Unit⊕Bool) :=
 cond (decide (x.2.2<x.2.1))
 ((gx x.1 x.2.2).bind fun c7 =>
  (sign_small ((UInt8.toNat c7:Nat):Int)).bind fun r8 =>
  cond (!r8)
  ((gx x.1 x.2.2).bind fun c9 =>
   cond (decide (((UInt8.toNat c9:Nat):Int)<48))
   (some (Sum.inr false))
   ((gx x.1 x.2.2).bind fun c10 =>
    cond (decide (((UInt8.toNat c10:Nat):Int)>57))
    (some (Sum.inr false))
    (rec (x.1,x.2.1,(IntKind.wrap .i64 (x.2.2+1))))))
  (rec (x.1,x.2.1,(IntKind.wrap .i64 (x.2.2+1)))))
 (some (Sum.inl ()))
def sign_called (a0:Str):Option Bool :=
 cond (a0==([]:Str))
 (some false)
 (cond (decide (((List.length a0:Nat):Int)>8))
  (some false)
  ((gx a0 0).bind fun c14 =>
   (sign_small ((UInt8.toNat c14:Nat):Int)).bind fun r15 =>
   cond (!r15)
   (some false)
   (((lp sign_called_L0 fuel) (a0,((List.length a0:Nat):Int),0)).bind fun r16 =>
    caseS r16
    (fun z17=>some true)
    (fun z18=>some z18))))
def sign_SymMay (a0:Str) (a1:Int) (a2:Int) (a3:Int):Option Bool :=
 (sign_called a0).bind fun r2 =>
 cond r2
 (cond (decide (a1≥0))
  (cond (decide (a1≤2))
   (cond (decide (a2≥0))
    (cond (decide (a2≤3))
     (cond (decide (a3≥1))
      (some (decide (a3≤20)))
      (some false))
     (some false))
    (some false))
   (some false))
  (some false))
 (some false)
def sign_find_L0 (rec:((List QSym)×Str×Int×Int)→Option (Unit⊕Int)) (x:((List QSym)×Str×Int×Int)):Option (Unit⊕Int) :=
 cond (decide (x.2.2.2<x.2.2.1))
 ((gx x.1 x.2.2.2).bind fun e2 =>
  cond (e2.1==x.2.1)
  (some (Sum.inr x.2.2.2))
  (rec (x.1,x.2.1,x.2.2.1,(IntKind.wrap .i64 (x.2.2.2+1)))))
 (some (Sum.inl ()))
def sign_find (a0:(List QSym)) (a1:Str):Option Int :=
 ((lp sign_find_L0 fuel) (a0,a1,((List.length a0:Nat):Int),0)).bind fun r6 =>
 caseS r6
 (fun z7=>some (-1))
 (fun z8=>some z8)
def sign_May_L0 (rec:((List QSym)×Int)→Option (Unit⊕Bool)) (x:((List QSym)×Int)):Option (Unit⊕Bool) :=
 cond (decide (x.2<((List.length x.1:Nat):Int)))
 ((gx x.1 x.2).bind fun e6 =>
  (sign_SymMay e6.1 e6.2.1 e6.2.2.1 e6.2.2.2).bind fun r7 =>
  cond (!r7)
  (some (Sum.inr false))
  ((gx x.1 x.2).bind fun e8 =>
   (sign_find x.1 e8.1).bind fun r9 =>
   cond (r9 != x.2)
   (some (Sum.inr false))
   (rec (x.1,(IntKind.wrap .i64 (x.2+1))))))
 (some (Sum.inl ()))
def sign_May (a0:(List QSym)):Option Bool :=
 cond (decide (((List.length a0:Nat):Int)<1))
 (some false)
 (cond (decide (((List.length a0:Nat):Int)>20))
  (some false)
  ((gx a0 0).bind fun e13 =>
   cond (!(cond (eqS e13.1 [61]) (cond (eqI e13.2.1 0) (cond (eqI e13.2.2.1 2) (cond (eqI e13.2.2.2 1) true false) false) false) false))
   (some false)
   (((lp sign_May_L0 fuel) (a0,1)).bind fun r14 =>
    caseS r14
    (fun z15=>some true)
    (fun z16=>some z16))))
def slices_Index_L0 (rec:((List Int)×Int×Int×Int)→Option (Unit⊕Int)) (x:((List Int)×Int×Int×Int)):Option (Unit⊕Int) :=
 cond (decide (x.2.2.2<x.2.2.1))
 ((gx x.1 x.2.2.2).bind fun e2 =>
  cond (x.2.1==e2)
  (some (Sum.inr x.2.2.2))
  (rec (x.1,x.2.1,x.2.2.1,(IntKind.wrap .i64 (x.2.2.2+1)))))
 (some (Sum.inl ()))
def slices_Index (a0:(List Int)) (a1:Int):Option Int :=
 ((lp slices_Index_L0 fuel) (a0,a1,((List.length a0:Nat):Int),0)).bind fun r6 =>
 caseS r6
 (fun z7=>some (-1))
 (fun z8=>some z8)
def slices_Contains (a0:(List Int)) (a1:Int):Option Bool :=
 (slices_Index a0 a1).bind fun r2 =>
 some (decide (r2≥0))
def ask_varsMay_L0 (rec:((List Int)×(List Int)×Int×Int)→Option (Unit⊕Bool)) (x:((List Int)×(List Int)×Int×Int)):Option (Unit⊕Bool) :=
 cond (decide (x.2.2.2<x.2.2.1))
 ((gx x.2.1 x.2.2.2).bind fun e4 =>
  cond (decide (e4<0))
  (some (Sum.inr false))
  (cond (decide (e4>23))
   (some (Sum.inr false))
   ((slc2 x.1 none (some x.2.2.2)).bind fun y5 =>
    (slices_Contains y5 e4).bind fun r6 =>
    cond r6
    (some (Sum.inr false))
    (rec (x.1,x.2.1,x.2.2.1,(IntKind.wrap .i64 (x.2.2.2+1)))))))
 (some (Sum.inl ()))
def ask_varsMay (a0:(List Int)):Option Bool :=
 ((lp ask_varsMay_L0 fuel) (a0,a0,((List.length a0:Nat):Int),0)).bind fun r10 =>
 caseS r10
 (fun z11=>some true)
 (fun z12=>some z12)
def slices_Clone (a0:(Option (List Int))):Option (List Int) :=
 cond (Option.isNone a0)
 (some ([]:(List Int)))
 (cond (room (List.length ([]:List Int)+List.length (Option.getD a0 [])) 8)
  (some (([]:List Int)++(Option.getD a0 [])))
  (none))
def slices_Clone_1:Option (List Int) :=
 some ([]:(List Int))
def slices_CloneN (a0:(List Int)):Option (List Int):=slices_Clone (some a0)
def lit_Opposite (a0:Bool) (a1:(List Int)):Option QLit :=
 (slices_CloneN a1).bind fun r2 =>
 some ((!a0),r2)
def term_Number (a0:Int):Option Int :=
 some (IntKind.wrap .i64 ((-1) - a0))
def term_args (a0:(List QSym)) (a1:Int):Option (Int×Bool) :=
 cond (decide (a1<0))
 ((term_Number 23).bind fun r4 =>
  some (0,(decide (a1≥r4))))
 (cond (decide (a1≥((List.length a0:Nat):Int)))
  (some (0,false))
  ((gx a0 a1).bind fun e5 =>
   cond (e5.2.1==0)
   (some (0,false))
   ((gx a0 a1).bind fun e6 =>
    some (e6.2.2.1,true))))
def term_Skip_L0 (rec:((List QSym)×(List Int)×Int×Int)→Option (Int×Bool)) (x:((List QSym)×(List Int)×Int×Int)):Option (Int×Bool) :=
 cond (decide (x.2.2.1≥((List.length x.2.1:Nat):Int)))
 (some (0,false))
 ((gx x.2.1 x.2.2.1).bind fun e5 =>
  (term_args x.1 e5).bind fun r6 =>
  cond (!r6.2)
  (some (0,false))
  (cond (decide ((IntKind.wrap .i64 (x.2.2.2+(IntKind.wrap .i64 (r6.1 - 1))))>0))
   (rec (x.1,x.2.1,(IntKind.wrap .i64 (x.2.2.1+1)),(IntKind.wrap .i64 (x.2.2.2+(IntKind.wrap .i64 (r6.1 - 1))))))
   (some ((IntKind.wrap .i64 (x.2.2.1+1)),true))))
def term_Skip (a0:(List QSym)) (a1:(List Int)) (a2:Int):Option (Int×Bool) :=
 cond (decide (a2≥((List.length a1:Nat):Int)))
 (some (0,false))
 ((gx a1 a2).bind fun e8 =>
  (term_args a0 e8).bind fun r9 =>
  cond (!r9.2)
  (some (0,false))
  (cond (decide ((IntKind.wrap .i64 (1+(IntKind.wrap .i64 (r9.1 - 1))))>0))
   ((((lp term_Skip_L0 fuel) (a0,a1,(IntKind.wrap .i64 (a2+1)),(IntKind.wrap .i64 (1+(IntKind.wrap .i64 (r9.1 - 1))))))).bind fun r10 =>
    some (r10.1,r10.2))
   (some ((IntKind.wrap .i64 (a2+1)),true))))
def term_begins_L0 (rec:((List QSym)×(List Int)×Int×(List Int))→Option QLit) (x:((List QSym)×(List Int)×Int×(List Int))):Option QLit :=
 cond (x.2.2.1==((List.length x.2.1:Nat):Int))
 (some (true,x.2.2.2))
 ((term_Skip x.1 x.2.1 x.2.2.1).bind fun r4 =>
  cond (!r4.2)
  (some (false,([]:(List Int))))
  (cond (room (List.length x.2.2.2+List.length ([x.2.2.1]:List Int)) 8)
   (rec (x.1,x.2.1,r4.1,(x.2.2.2++([x.2.2.1]:List Int))))
   (none)))
def term_begins (a0:(List QSym)) (a1:(List Int)):Option QLit :=
 (sign_May a0).bind fun r6 =>
 cond (!r6)
 (some (false,([]:(List Int))))
 (cond (decide (((List.length a1:Nat):Int)>48))
  (some (false,([]:(List Int))))
  (cond (0==((List.length a1:Nat):Int))
   (some (true,([]:(List Int))))
   ((term_Skip a0 a1 0).bind fun r7 =>
    cond (!r7.2)
    (some (false,([]:(List Int))))
    (cond (room (List.length ([0]:List Int)) 8)
     ((((lp term_begins_L0 fuel) (a0,a1,r7.1,([0]:List Int)))).bind fun r8 =>
      some (r8.1,r8.2))
     (none)))))
def term_IsAtom (a0:(List QSym)) (a1:(List Int)):Option Bool :=
 cond (((List.length a1:Nat):Int)==0)
 (some false)
 ((gx a1 0).bind fun e9 =>
  cond (decide (e9<0))
  (some false)
  ((gx a1 0).bind fun e10 =>
   cond (decide (e10≥((List.length a0:Nat):Int)))
   (some false)
   ((gx a1 0).bind fun e11 =>
    (gx a0 e11).bind fun e12 =>
    cond (e12.2.1 != 0)
    (some false)
    ((slc2 a1 (some 1) none).bind fun y13 =>
     (term_begins a0 y13).bind fun r14 =>
     cond r14.1
     ((gx a1 0).bind fun e15 =>
      (gx a0 e15).bind fun e16 =>
      some (((List.length r14.2:Nat):Int)==e16.2.2.1))
     (some false)))))
def lit_May (a0:(List QSym)) (a1:Bool) (a2:(List Int)):Option Bool :=
 (term_IsAtom a0 a2).bind fun r2 =>
 some r2
def clause_litsMay_L0 (rec:((List QSym)×Int×(List QLit)×Int×Int)→Option (Int⊕(Int×Bool))) (x:((List QSym)×Int×(List QLit)×Int×Int)):Option (Int⊕(Int×Bool)) :=
 cond (decide (x.2.2.2.2<x.2.2.2.1))
 ((gx x.2.2.1 x.2.2.2.2).bind fun e3 =>
  (lit_May x.1 e3.1 e3.2).bind fun r4 =>
  cond (!r4)
  (some (Sum.inr (0,false)))
  (rec (x.1,(IntKind.wrap .i64 (x.2.1+((List.length e3.2:Nat):Int))),x.2.2.1,x.2.2.2.1,(IntKind.wrap .i64 (x.2.2.2.2+1)))))
 (some (Sum.inl x.2.1))
def clause_litsMay (a0:(List QSym)) (a1:(List QLit)):Option (Int×Bool) :=
 ((lp clause_litsMay_L0 fuel) (a0,0,a1,((List.length a1:Nat):Int),0)).bind fun r8 =>
 caseS r8
 (fun z9=>some (z9,true))
 (fun z10=>some (z10.1,z10.2))
def term_Row (a0:(List QSym)) (a1:(List Int)):Option (Int×Int) :=
 (term_begins a0 a1).bind fun r2 =>
 cond (!r2.1)
 (some (0,200))
 (some (((List.length r2.2:Nat):Int),0))
def clause_rowsMay_L0 (rec:((List QSym)×Int×Int×(List (List Int))×Int×Int)→Option (Int⊕(Int×Bool))) (x:((List QSym)×Int×Int×(List (List Int))×Int×Int)):Option (Int⊕(Int×Bool)) :=
 cond (decide (x.2.2.2.2.2<x.2.2.2.2.1))
 ((gx x.2.2.2.1 x.2.2.2.2.2).bind fun e3 =>
  (term_Row x.1 e3).bind fun r4 =>
  cond (x.2.2.2.2.2==0)
  (cond (r4.2 != 0)
   (some (Sum.inr (0,false)))
   (cond (r4.1 != r4.1)
    (some (Sum.inr (0,false)))
    (rec (x.1,(IntKind.wrap .i64 (x.2.1+((List.length e3:Nat):Int))),r4.1,x.2.2.2.1,x.2.2.2.2.1,(IntKind.wrap .i64 (x.2.2.2.2.2+1))))))
  (cond (r4.2 != 0)
   (some (Sum.inr (0,false)))
   (cond (r4.1 != x.2.2.1)
    (some (Sum.inr (0,false)))
    (rec (x.1,(IntKind.wrap .i64 (x.2.1+((List.length e3:Nat):Int))),x.2.2.1,x.2.2.2.1,x.2.2.2.2.1,(IntKind.wrap .i64 (x.2.2.2.2.2+1)))))))
 (some (Sum.inl x.2.1))
def clause_rowsMay (a0:(List QSym)) (a1:(List (List Int))):Option (Int×Bool) :=
 ((lp clause_rowsMay_L0 fuel) (a0,0,0,a1,((List.length a1:Nat):Int),0)).bind fun r8 =>
 caseS r8
 (fun z9=>some (z9,true))
 (fun z10=>some (z10.1,z10.2))
def clause_May (a0:(List QSym)) (a1:(List QLit)) (a2:(List (List Int))) (a3:(List QLit)):Option Bool :=
 (sign_May a0).bind fun r5 =>
 cond (!r5)
 (some false)
 (cond (decide (((List.length a1:Nat):Int)>5))
  (some false)
  (cond (decide (((List.length a2:Nat):Int)>3))
   (some false)
   (cond (decide (((List.length a3:Nat):Int)>3))
    (some false)
    ((clause_litsMay a0 a1).bind fun r6 =>
     (clause_rowsMay a0 a2).bind fun r7 =>
     (clause_litsMay a0 a3).bind fun r8 =>
     cond r6.2
     (cond r7.2
      (cond r8.2
       (some (decide ((IntKind.wrap .i64 ((IntKind.wrap .i64 (r6.1+r7.1))+r8.1))≤240)))
       (some false))
      (some false))
     (some false)))))
def slices_Equal_L0 (rec:((List Int)×(List Int)×Int×Int)→Option (Unit⊕Bool)) (x:((List Int)×(List Int)×Int×Int)):Option (Unit⊕Bool) :=
 cond (decide (x.2.2.2<x.2.2.1))
 ((gx x.1 x.2.2.2).bind fun e3 =>
  (gx x.2.1 x.2.2.2).bind fun e4 =>
  cond (e3 != e4)
  (some (Sum.inr false))
  (rec (x.1,x.2.1,x.2.2.1,(IntKind.wrap .i64 (x.2.2.2+1)))))
 (some (Sum.inl ()))
def slices_Equal (a0:(List Int)) (a1:(List Int)):Option Bool :=
 cond (((List.length a0:Nat):Int) != ((List.length a1:Nat):Int))
 (some false)
 (((lp slices_Equal_L0 fuel) (a0,a1,((List.length a0:Nat):Int),0)).bind fun r8 =>
  caseS r8
  (fun z9=>some true)
  (fun z10=>some z10))
def lit_Same (a0:Bool) (a1:(List Int)) (a2:Bool) (a3:(List Int)):Option Bool :=
 cond (a0==a2)
 ((slices_Equal a1 a3).bind fun r2 =>
  some r2)
 (some false)
def clause_once_c1 (a0:Bool) (a1:(List Int)) (a2:Bool) (a3:(List Int)):Option Bool :=
 (lit_Same a2 a3 a0 a1).bind fun r2 =>
 some r2
def slices_IndexFunc_L0 (rec:((List QLit)×Int×Int×Bool×(List Int))→Option (Unit⊕Int)) (x:((List QLit)×Int×Int×Bool×(List Int))):Option (Unit⊕Int) :=
 cond (decide (x.2.2.1<x.2.1))
 ((gx x.1 x.2.2.1).bind fun e3 =>
  (clause_once_c1 e3.1 e3.2 x.2.2.2.1 x.2.2.2.2).bind fun r4 =>
  cond r4
  (some (Sum.inr x.2.2.1))
  (rec (x.1,x.2.1,(IntKind.wrap .i64 (x.2.2.1+1)),x.2.2.2.1,x.2.2.2.2)))
 (some (Sum.inl ()))
def slices_IndexFunc (a0:(List QLit)) (a1:Bool) (a2:(List Int)):Option Int :=
 ((lp slices_IndexFunc_L0 fuel) (a0,((List.length a0:Nat):Int),0,a1,a2)).bind fun r8 =>
 caseS r8
 (fun z9=>some (-1))
 (fun z10=>some z10)
def slices_ContainsFunc (a0:(List QLit)) (a1:Bool) (a2:(List Int)):Option Bool :=
 (slices_IndexFunc a0 a1 a2).bind fun r2 =>
 some (decide (r2≥0))
def clause_once_L0 (rec:((List QLit)×Int×Int×(List QLit))→Option (List QLit)) (x:((List QLit)×Int×Int×(List QLit))):Option (List QLit) :=
 cond (decide (x.2.2.1<x.2.1))
 ((gx x.1 x.2.2.1).bind fun e5 =>
  (slices_ContainsFunc x.2.2.2 e5.1 e5.2).bind fun r6 =>
  cond (!r6)
  (cond (room (List.length x.2.2.2+List.length ([(e5.1,e5.2)]:List QLit)) 32)
   (rec (x.1,x.2.1,(IntKind.wrap .i64 (x.2.2.1+1)),(x.2.2.2++([(e5.1,e5.2)]:List QLit))))
   (none))
  (rec (x.1,x.2.1,(IntKind.wrap .i64 (x.2.2.1+1)),x.2.2.2)))
 (some x.2.2.2)
def clause_once (a0:(List QLit)):Option (List QLit) :=
 ((lp clause_once_L0 fuel) (a0,((List.length a0:Nat):Int),0,([]:(List QLit)))).bind fun r8 =>
 some r8
def clause_anew_c1 (a0:(List Int)) (a1:(List Int)):Option Bool :=
 (slices_Equal a1 a0).bind fun r2 =>
 some r2
def slices_IndexFunc_1_L0 (rec:((List (List Int))×Int×Int×(List Int))→Option (Unit⊕Int)) (x:((List (List Int))×Int×Int×(List Int))):Option (Unit⊕Int) :=
 cond (decide (x.2.2.1<x.2.1))
 ((gx x.1 x.2.2.1).bind fun e3 =>
  (clause_anew_c1 e3 x.2.2.2).bind fun r4 =>
  cond r4
  (some (Sum.inr x.2.2.1))
  (rec (x.1,x.2.1,(IntKind.wrap .i64 (x.2.2.1+1)),x.2.2.2)))
 (some (Sum.inl ()))
def slices_IndexFunc_1 (a0:(List (List Int))) (a1:(List Int)):Option Int :=
 ((lp slices_IndexFunc_1_L0 fuel) (a0,((List.length a0:Nat):Int),0,a1)).bind fun r8 =>
 caseS r8
 (fun z9=>some (-1))
 (fun z10=>some z10)
def slices_ContainsFunc_1 (a0:(List (List Int))) (a1:(List Int)):Option Bool :=
 (slices_IndexFunc_1 a0 a1).bind fun r2 =>
 some (decide (r2≥0))
def clause_anew_c2_1_L0 (rec:(Int×Int×(List Int)×Int×(List Int))→Option ((List Int)×Int×(List Int))) (x:(Int×Int×(List Int)×Int×(List Int))):Option ((List Int)×Int×(List Int)) :=
 cond (decide (x.2.1<x.1))
 ((inR x.2.1 (List.length x.2.2.2.2)).bind fun k33 =>
  (x.2.2.2.2[k33]?).bind fun x34 =>
  cond (decide (x34≥0))
  (rec (x.1,(IntKind.wrap .i64 (x.2.1+1)),x.2.2.1,x.2.2.2.1,x.2.2.2.2))
  ((term_Number x34).bind fun r35 =>
   (inR r35 24).bind fun k36 =>
   (x.2.2.1[k36]?).bind fun x37 =>
   cond (x37==0)
   ((term_Number x34).bind fun r38 =>
    (inR r38 24).bind fun k39 =>
    (x.2.2.1[k39]?).bind fun x40 =>
    (term_Number x34).bind fun r41 =>
    (inR r41 24).bind fun k42 =>
    ((List.set x.2.2.1 k39 (IntKind.wrap .i64 (x.2.2.2.1+1)))[k42]?).bind fun x43 =>
    (inR x.2.1 (List.length x.2.2.2.2)).bind fun k44 =>
    (x.2.2.2.2[k44]?).bind fun x45 =>
    rec (x.1,(IntKind.wrap .i64 (x.2.1+1)),(List.set x.2.2.1 k39 (IntKind.wrap .i64 (x.2.2.2.1+1))),(IntKind.wrap .i64 (x.2.2.2.1+1)),(List.set x.2.2.2.2 k44 (negI .i64 x43))))
   ((term_Number x34).bind fun r46 =>
    (inR r46 24).bind fun k47 =>
    (x.2.2.1[k47]?).bind fun x48 =>
    (inR x.2.1 (List.length x.2.2.2.2)).bind fun k49 =>
    (x.2.2.2.2[k49]?).bind fun x50 =>
    rec (x.1,(IntKind.wrap .i64 (x.2.1+1)),x.2.2.1,x.2.2.2.1,(List.set x.2.2.2.2 k49 (negI .i64 x48))))))
 (some (x.2.2.1,x.2.2.2.1,x.2.2.2.2))
def clause_anew_c2_1 (a0:(List Int)) (a1:(List Int)) (a2:Int):Option ((List Int)×(List Int)×Int) :=
 (slices_CloneN a0).bind fun r52 =>
 ((lp clause_anew_c2_1_L0 fuel) (((List.length r52:Nat):Int),0,a1,a2,r52)).bind fun r53 =>
 cond (Nat.beq (List.length a1) (List.length r53.1)&&true)
 (some (r53.2.2,r53.1,r53.2.1))
 (none)
def clause_each_1_L2 (rec:((List QLit)×Int×Int×(List Int)×Int×(List QLit)×(List (List Int))×(List QLit))→Option ((List Int)×Int×(List QLit)×(List (List Int))×(List QLit))) (x:((List QLit)×Int×Int×(List Int)×Int×(List QLit)×(List (List Int))×(List QLit))):Option ((List Int)×Int×(List QLit)×(List (List Int))×(List QLit)) :=
 cond (decide (x.2.2.1<x.2.1))
 ((gx x.1 x.2.2.1).bind fun e19 =>
  (clause_anew_c2_1 e19.2 x.2.2.2.1 x.2.2.2.2.1).bind fun r20 =>
  cond (room (List.length x.2.2.2.2.2.2.2+List.length ([(e19.1,r20.1)]:List QLit)) 32)
  (rec (x.1,x.2.1,(IntKind.wrap .i64 (x.2.2.1+1)),r20.2.1,r20.2.2,x.2.2.2.2.2.1,x.2.2.2.2.2.2.1,(x.2.2.2.2.2.2.2++([(e19.1,r20.1)]:List QLit))))
  (none))
 (some (x.2.2.2.1,x.2.2.2.2.1,x.2.2.2.2.2.1,x.2.2.2.2.2.2.1,x.2.2.2.2.2.2.2))
def clause_each_1_L1 (rec:((List (List Int))×Int×Int×(List Int)×Int×(List QLit)×(List (List Int))×(List QLit)×(List QLit)×(List (List Int)))→Option ((List Int)×Int×(List QLit)×(List (List Int)))) (x:((List (List Int))×Int×Int×(List Int)×Int×(List QLit)×(List (List Int))×(List QLit)×(List QLit)×(List (List Int)))):Option ((List Int)×Int×(List QLit)×(List (List Int))) :=
 cond (decide (x.2.2.1<x.2.1))
 ((gx x.1 x.2.2.1).bind fun e12 =>
  (clause_anew_c2_1 e12 x.2.2.2.1 x.2.2.2.2.1).bind fun r13 =>
  cond (room (List.length x.2.2.2.2.2.2.2.2.2+List.length ([r13.1]:List (List Int))) 24)
  (rec (x.1,x.2.1,(IntKind.wrap .i64 (x.2.2.1+1)),r13.2.1,r13.2.2,x.2.2.2.2.2.1,x.2.2.2.2.2.2.1,x.2.2.2.2.2.2.2.1,x.2.2.2.2.2.2.2.2.1,(x.2.2.2.2.2.2.2.2.2++([r13.1]:List (List Int)))))
  (none))
 (some (x.2.2.2.1,x.2.2.2.2.1,x.2.2.2.2.2.2.2.2.1,x.2.2.2.2.2.2.2.2.2))
def clause_each_1_L0 (rec:((List QLit)×Int×Int×(List Int)×Int×(List QLit)×(List (List Int))×(List QLit)×(List QLit))→Option ((List Int)×Int×(List QLit))) (x:((List QLit)×Int×Int×(List Int)×Int×(List QLit)×(List (List Int))×(List QLit)×(List QLit))):Option ((List Int)×Int×(List QLit)) :=
 cond (decide (x.2.2.1<x.2.1))
 ((gx x.1 x.2.2.1).bind fun e5 =>
  (clause_anew_c2_1 e5.2 x.2.2.2.1 x.2.2.2.2.1).bind fun r6 =>
  cond (room (List.length x.2.2.2.2.2.2.2.2+List.length ([(e5.1,r6.1)]:List QLit)) 32)
  (rec (x.1,x.2.1,(IntKind.wrap .i64 (x.2.2.1+1)),r6.2.1,r6.2.2,x.2.2.2.2.2.1,x.2.2.2.2.2.2.1,x.2.2.2.2.2.2.2.1,(x.2.2.2.2.2.2.2.2++([(e5.1,r6.1)]:List QLit))))
  (none))
 (some (x.2.2.2.1,x.2.2.2.2.1,x.2.2.2.2.2.2.2.2))
def clause_each_1 (a0:(List QLit)) (a1:(List (List Int))) (a2:(List QLit)) (a3:(List Int)) (a4:Int):Option ((List QLit)×(List (List Int))×(List QLit)×(List Int)×Int) :=
 ((lp clause_each_1_L0 fuel) (a0,((List.length a0:Nat):Int),0,a3,a4,a0,a1,a2,([]:(List QLit)))).bind fun r22 =>
 ((lp clause_each_1_L1 fuel) (a1,((List.length a1:Nat):Int),0,r22.1,r22.2.1,a0,a1,a2,r22.2.2,([]:(List (List Int))))).bind fun r23 =>
 ((lp clause_each_1_L2 fuel) (a2,((List.length a2:Nat):Int),0,r23.1,r23.2.1,r23.2.2.1,r23.2.2.2,([]:(List QLit)))).bind fun r24 =>
 cond (Nat.beq (List.length a3) (List.length r24.1)&&true)
 (some (r24.2.2.1,r24.2.2.2.1,r24.2.2.2.2,r24.1,r24.2.1))
 (none)
def clause_anew_L0 (rec:((List (List Int))×Int×Int×(List QLit)×(List QLit)×(List (List Int)))→Option ((List QLit)×(List QLit)×(List (List Int)))) (x:((List (List Int))×Int×Int×(List QLit)×(List QLit)×(List (List Int)))):Option ((List QLit)×(List QLit)×(List (List Int))) :=
 cond (decide (x.2.2.1<x.2.1))
 ((gx x.1 x.2.2.1).bind fun e7 =>
  (slices_ContainsFunc_1 x.2.2.2.2.2 e7).bind fun r8 =>
  cond (!r8)
  (cond (room (List.length x.2.2.2.2.2+List.length ([e7]:List (List Int))) 24)
   (rec (x.1,x.2.1,(IntKind.wrap .i64 (x.2.2.1+1)),x.2.2.2.1,x.2.2.2.2.1,(x.2.2.2.2.2++([e7]:List (List Int)))))
   (none))
  (rec (x.1,x.2.1,(IntKind.wrap .i64 (x.2.2.1+1)),x.2.2.2.1,x.2.2.2.2.1,x.2.2.2.2.2)))
 (some (x.2.2.2.1,x.2.2.2.2.1,x.2.2.2.2.2))
def clause_anew (a0:(List QLit)) (a1:(List (List Int))) (a2:(List QLit)):Option ((List QLit)×(List (List Int))×(List QLit)) :=
 (clause_once a0).bind fun r11 =>
 (clause_once a2).bind fun r12 =>
 ((lp clause_anew_L0 fuel) (a1,((List.length a1:Nat):Int),0,r11,r12,([]:(List (List Int))))).bind fun r13 =>
 (clause_each_1 r13.1 r13.2.2 r13.2.1 (List.replicate 24 (0:Int)) 0).bind fun r14 =>
 some (r14.1,r14.2.1,r14.2.2.1)
def clause_Normal (a0:(List QSym)) (a1:(List QLit)) (a2:(List (List Int))) (a3:(List QLit)):Option ((List QLit)×(List (List Int))×Int×(List QLit)) :=
 (clause_May a0 a1 a2 a3).bind fun r3 =>
 cond (!r3)
 (some (([]:(List QLit)),([]:(List (List Int))),800,([]:(List QLit))))
 ((clause_anew a1 a2 a3).bind fun r4 =>
  some (r4.1,r4.2.1,0,r4.2.2))
def ask_Goal_L1 (rec:((List QSym)×(List Int)×Int×Int×(List QLit)×(List Int))→Option (List Int)) (x:((List QSym)×(List Int)×Int×Int×(List QLit)×(List Int))):Option (List Int) :=
 cond (decide (x.2.2.2.1<x.2.2.1))
 ((gx x.2.1 x.2.2.2.1).bind fun e14 =>
  (term_Number e14).bind fun r15 =>
  (inR x.2.2.2.1 (List.length x.2.2.2.2.2)).bind fun k16 =>
  (x.2.2.2.2.2[k16]?).bind fun x17 =>
  rec (x.1,x.2.1,x.2.2.1,(IntKind.wrap .i64 (x.2.2.2.1+1)),x.2.2.2.2.1,(List.set x.2.2.2.2.2 k16 r15)))
 (some x.2.2.2.2.2)
def ask_Goal_L0 (rec:((List QSym)×(List Int)×(List QLit)×Int×Int×(List QLit))→Option (List QLit)) (x:((List QSym)×(List Int)×(List QLit)×Int×Int×(List QLit))):Option (List QLit) :=
 cond (decide (x.2.2.2.2.1<x.2.2.2.1))
 ((gx x.2.2.1 x.2.2.2.2.1).bind fun e7 =>
  (lit_Opposite e7.1 e7.2).bind fun r8 =>
  cond (room (List.length x.2.2.2.2.2+List.length ([(r8.1,r8.2)]:List QLit)) 32)
  (rec (x.1,x.2.1,x.2.2.1,x.2.2.2.1,(IntKind.wrap .i64 (x.2.2.2.2.1+1)),(x.2.2.2.2.2++([(r8.1,r8.2)]:List QLit))))
  (none))
 (some x.2.2.2.2.2)
def ask_Goal (a0:(List QSym)) (a1:(List Int)) (a2:(List QLit)):Option ((List QLit)×(List (List Int))×Int×(List QLit)) :=
 (sign_May a0).bind fun r20 =>
 cond (!r20)
 (some (([]:(List QLit)),([]:(List (List Int))),2400,([]:(List QLit))))
 (cond (((List.length a2:Nat):Int)==0)
  (some (([]:(List QLit)),([]:(List (List Int))),2400,([]:(List QLit))))
  (cond (decide (((List.length a2:Nat):Int)>5))
   (some (([]:(List QLit)),([]:(List (List Int))),2400,([]:(List QLit))))
   ((ask_varsMay a1).bind fun r21 =>
    cond (!r21)
    (some (([]:(List QLit)),([]:(List (List Int))),2400,([]:(List QLit))))
    (((lp ask_Goal_L0 fuel) (a0,a1,a2,((List.length a2:Nat):Int),0,([]:(List QLit)))).bind fun r22 =>
     cond (eqI ((List.length a1:Nat):Int) ((List.length a1:Nat):Int))
     (cond (nneg ((List.length a1:Nat):Int))
      (cond (room (Int.toNat ((List.length a1:Nat):Int)) 8)
       (((lp ask_Goal_L1 fuel) (a0,a1,((List.length a1:Nat):Int),0,r22,(List.replicate (Int.toNat ((List.length a1:Nat):Int)) (0:Int)))).bind fun r23 =>
        (clause_Normal a0 r22 ([r23]:List (List Int)) ([]:(List QLit))).bind fun r24 =>
        cond (r24.2.2.1 != 0)
        (some (([]:(List QLit)),([]:(List (List Int))),2400,([]:(List QLit))))
        (some (r24.1,r24.2.1,0,r24.2.2.2)))
       (none))
      (none))
     (none)))))
def term_Pieces_L0 (rec:((List QSym)×(List Int)×Int×(List (List Int)))→Option ((List (List Int))⊕(List (List Int)))) (x:((List QSym)×(List Int)×Int×(List (List Int)))):Option ((List (List Int))⊕(List (List Int))) :=
 cond (decide (x.2.2.1<((List.length x.2.1:Nat):Int)))
 ((term_Skip x.1 x.2.1 x.2.2.1).bind fun r5 =>
  cond (!r5.2)
  (some (Sum.inr x.2.2.2))
  ((slc2 x.2.1 (some x.2.2.1) (some r5.1)).bind fun y6 =>
   cond (room (List.length x.2.2.2+List.length ([y6]:List (List Int))) 24)
   (rec (x.1,x.2.1,r5.1,(x.2.2.2++([y6]:List (List Int)))))
   (none)))
 (some (Sum.inl x.2.2.2))
def term_Pieces (a0:(List QSym)) (a1:(List Int)):Option (List (List Int)) :=
 ((lp term_Pieces_L0 fuel) (a0,a1,0,([]:(List (List Int))))).bind fun r10 =>
 caseS r10
 (fun z11=>some z11)
 (fun z12=>some z12)
def strconv_Itoa (a0:Int):Option Str:=itoaF a0
def strings_Join (a0:List Str) (a1:Str):Option Str:=joinF a0 a1
def formula_ShowTerms_L0 (rf:(((List QSym)×(List Int))→Option Str)) (rec:((List QSym)×(List (List Int))×Int×Int×(List Str))→Option (List Str)) (x:((List QSym)×(List (List Int))×Int×Int×(List Str))):Option (List Str) :=
 cond (decide (x.2.2.2.1<x.2.2.1))
 ((gx x.2.1 x.2.2.2.1).bind fun e18 =>
  (gx e18 0).bind fun e19 =>
  cond (decide (e19<0))
  ((gx e18 0).bind fun e20 =>
   (term_Number e20).bind fun r21 =>
   (strconv_Itoa r21).bind fun r22 =>
   cond (decide ((List.length ([88]:Str)+List.length r22:Nat)<4611686018427387904))
   (cond (room (List.length x.2.2.2.2+List.length ([(([88]:Str)++r22)]:List Str)) 16)
    (rec (x.1,x.2.1,x.2.2.1,(IntKind.wrap .i64 (x.2.2.2.1+1)),(x.2.2.2.2++([(([88]:Str)++r22)]:List Str))))
    (none))
   (none))
  (cond (((List.length e18:Nat):Int)==1)
   ((gx e18 0).bind fun e23 =>
    (gx x.1 e23).bind fun e24 =>
    cond (room (List.length x.2.2.2.2+List.length ([e24.1]:List Str)) 16)
    (rec (x.1,x.2.1,x.2.2.1,(IntKind.wrap .i64 (x.2.2.2.1+1)),(x.2.2.2.2++([e24.1]:List Str))))
    (none))
   ((gx e18 0).bind fun e25 =>
    (gx x.1 e25).bind fun e26 =>
    cond (decide ((List.length e26.1+List.length ([40]:Str):Nat)<4611686018427387904))
    ((slc2 e18 (some 1) none).bind fun y27 =>
     (rf (x.1,y27)).bind fun r28 =>
     cond (decide ((List.length (e26.1++([40]:Str))+List.length r28:Nat)<4611686018427387904))
     (cond (decide ((List.length ((e26.1++([40]:Str))++r28)+List.length ([41]:Str):Nat)<4611686018427387904))
      (cond (room (List.length x.2.2.2.2+List.length ([(((e26.1++([40]:Str))++r28)++([41]:Str))]:List Str)) 16)
       (rec (x.1,x.2.1,x.2.2.1,(IntKind.wrap .i64 (x.2.2.2.1+1)),(x.2.2.2.2++([(((e26.1++([40]:Str))++r28)++([41]:Str))]:List Str))))
       (none))
      (none))
     (none))
    (none))))
 (some x.2.2.2.2)
def formula_ShowTerms_S (rf:(((List QSym)×(List Int))→Option Str)) (a0:(List QSym)) (a1:(List Int)):Option Str :=
 (term_Pieces a0 a1).bind fun r31 =>
 ((lp (formula_ShowTerms_L0 rf) fuel) (a0,r31,((List.length r31:Nat):Int),0,([]:(List Str)))).bind fun r32 =>
 (strings_Join r32 ([44,32]:Str)).bind fun r33 =>
 some r33
def formula_ShowTerms_R_step (rf:(((List QSym)×(List Int))→Option Str)):(((List QSym)×(List Int))→Option Str) :=
 fun (x:((List QSym)×(List Int)))=>formula_ShowTerms_S rf x.1 x.2
def formula_ShowTerms_R_base:(((List QSym)×(List Int))→Option Str):=fun _=>none
def formula_ShowTerms_R (k:Nat):(((List QSym)×(List Int))→Option Str):=lpR formula_ShowTerms_R_base formula_ShowTerms_R_step k
def formula_ShowTerms (a0:(List QSym)) (a1:(List Int)):Option Str:=(formula_ShowTerms_R fuel) (a0,a1)
def formula_ShowAtom (a0:(List QSym)) (a1:(List Int)):Option Str :=
 (gx a1 0).bind fun e16 =>
 cond (e16==0)
 ((slc2 a1 (some 1) none).bind fun y17 =>
  (term_Pieces a0 y17).bind fun r18 =>
  (inR 0 (List.length r18)).bind fun k19 =>
  (r18[k19]?).bind fun x20 =>
  (formula_ShowTerms a0 x20).bind fun r21 =>
  cond (decide ((List.length r21+List.length ([32,61,32]:Str):Nat)<4611686018427387904))
  ((inR 1 (List.length r18)).bind fun k22 =>
   (r18[k22]?).bind fun x23 =>
   (formula_ShowTerms a0 x23).bind fun r24 =>
   cond (decide ((List.length (r21++([32,61,32]:Str))+List.length r24:Nat)<4611686018427387904))
   (some ((r21++([32,61,32]:Str))++r24))
   (none))
  (none))
 (cond (((List.length a1:Nat):Int)==1)
  ((gx a1 0).bind fun e25 =>
   (gx a0 e25).bind fun e26 =>
   some e26.1)
  ((gx a1 0).bind fun e27 =>
   (gx a0 e27).bind fun e28 =>
   cond (decide ((List.length e28.1+List.length ([40]:Str):Nat)<4611686018427387904))
   ((slc2 a1 (some 1) none).bind fun y29 =>
    (formula_ShowTerms a0 y29).bind fun r30 =>
    cond (decide ((List.length (e28.1++([40]:Str))+List.length r30:Nat)<4611686018427387904))
    (cond (decide ((List.length ((e28.1++([40]:Str))++r30)+List.length ([41]:Str):Nat)<4611686018427387904))
     (some (((e28.1++([40]:Str))++r30)++([41]:Str)))
     (none))
    (none))
   (none)))
def ask_Show_L1 (rec:((List QSym)×(List Str)×(List QLit)×Int×Int×(List Str))→Option (List Str)) (x:((List QSym)×(List Str)×(List QLit)×Int×Int×(List Str))):Option (List Str) :=
 cond (decide (x.2.2.2.2.1<x.2.2.2.1))
 ((gx x.2.2.1 x.2.2.2.2.1).bind fun e13 =>
  (formula_ShowAtom x.1 e13.2).bind fun r14 =>
  cond e13.1
  (cond (decide ((List.length ([126]:Str)+List.length r14:Nat)<4611686018427387904))
   (cond (room (List.length x.2.2.2.2.2+List.length ([(([126]:Str)++r14)]:List Str)) 16)
    (rec (x.1,x.2.1,x.2.2.1,x.2.2.2.1,(IntKind.wrap .i64 (x.2.2.2.2.1+1)),(x.2.2.2.2.2++([(([126]:Str)++r14)]:List Str))))
    (none))
   (none))
  (cond (room (List.length x.2.2.2.2.2+List.length ([r14]:List Str)) 16)
   (rec (x.1,x.2.1,x.2.2.1,x.2.2.2.1,(IntKind.wrap .i64 (x.2.2.2.2.1+1)),(x.2.2.2.2.2++([r14]:List Str))))
   (none)))
 (some x.2.2.2.2.2)
def ask_Show_L0 (rec:((List QSym)×(List (List Int))×Int×Int×(List QLit)×(List (List Int))×(List QLit)×(List Str))→Option (List Str)) (x:((List QSym)×(List (List Int))×Int×Int×(List QLit)×(List (List Int))×(List QLit)×(List Str))):Option (List Str) :=
 cond (decide (x.2.2.2.1<x.2.2.1))
 ((gx x.2.1 x.2.2.2.1).bind fun e6 =>
  (formula_ShowTerms x.1 e6).bind fun r7 =>
  cond (decide ((List.length ([40]:Str)+List.length r7:Nat)<4611686018427387904))
  (cond (decide ((List.length (([40]:Str)++r7)+List.length ([41]:Str):Nat)<4611686018427387904))
   (cond (room (List.length x.2.2.2.2.2.2.2+List.length ([((([40]:Str)++r7)++([41]:Str))]:List Str)) 16)
    (rec (x.1,x.2.1,x.2.2.1,(IntKind.wrap .i64 (x.2.2.2.1+1)),x.2.2.2.2.1,x.2.2.2.2.2.1,x.2.2.2.2.2.2.1,(x.2.2.2.2.2.2.2++([((([40]:Str)++r7)++([41]:Str))]:List Str))))
    (none))
   (none))
  (none))
 (some x.2.2.2.2.2.2.2)
def ask_Show (a0:(List QSym)) (a1:(List QLit)) (a2:(List (List Int))) (a3:(List QLit)):Option (Str×Int) :=
 (clause_May a0 a1 a2 a3).bind fun r18 =>
 cond (!r18)
 (some (([]:Str),2400))
 (cond (decide (((List.length a1:Nat):Int)>0))
  (some (([]:Str),2400))
  (cond (((List.length a2:Nat):Int)==0)
   (some (([]:Str),2400))
   (((lp ask_Show_L0 fuel) (a0,a2,((List.length a2:Nat):Int),0,a1,a2,a3,([]:(List Str)))).bind fun r19 =>
    ((lp ask_Show_L1 fuel) (a0,r19,a3,((List.length a3:Nat):Int),0,([]:(List Str)))).bind fun r20 =>
    (strings_Join r19 ([32,111,114,32]:Str)).bind fun r21 =>
    cond (decide (((List.length r20:Nat):Int)>0))
    ((strings_Join r20 ([32,38,32]:Str)).bind fun r22 =>
     cond (decide ((List.length ([32,105,102,32]:Str)+List.length r22:Nat)<4611686018427387904))
     (cond (decide ((List.length r21+List.length (([32,105,102,32]:Str)++r22):Nat)<4611686018427387904))
      (some ((r21++(([32,105,102,32]:Str)++r22)),0))
      (none))
     (none))
    (some (r21,0)))))
def ask_own_c1 (a0:Int) (a1:(List QSym)):Option Bool :=
 cond (decide (a0≥0))
 ((gx a1 a0).bind fun e2 =>
  some (e2.2.1==2))
 (some false)
def slices_IndexFunc_3_L0 (rec:((List Int)×Int×Int×(List QSym))→Option (Unit⊕Int)) (x:((List Int)×Int×Int×(List QSym))):Option (Unit⊕Int) :=
 cond (decide (x.2.2.1<x.2.1))
 ((gx x.1 x.2.2.1).bind fun e3 =>
  (ask_own_c1 e3 x.2.2.2).bind fun r4 =>
  cond r4
  (some (Sum.inr x.2.2.1))
  (rec (x.1,x.2.1,(IntKind.wrap .i64 (x.2.2.1+1)),x.2.2.2)))
 (some (Sum.inl ()))
def slices_IndexFunc_3 (a0:(List Int)) (a1:(List QSym)):Option Int :=
 ((lp slices_IndexFunc_3_L0 fuel) (a0,((List.length a0:Nat):Int),0,a1)).bind fun r8 =>
 caseS r8
 (fun z9=>some (-1))
 (fun z10=>some z10)
def slices_ContainsFunc_3 (a0:(List Int)) (a1:(List QSym)):Option Bool :=
 (slices_IndexFunc_3 a0 a1).bind fun r2 =>
 some (decide (r2≥0))
def ask_own (a0:(List QSym)) (a1:(List Int)):Option Bool :=
 (slices_ContainsFunc_3 a1 a0).bind fun r2 =>
 some r2
def ask_Fine_c1 (a0:(List Int)) (a1:(List QSym)):Option Bool :=
 (ask_own a1 a0).bind fun r2 =>
 some r2
def slices_IndexFunc_2_L0 (rec:((List (List Int))×Int×Int×(List QSym))→Option (Unit⊕Int)) (x:((List (List Int))×Int×Int×(List QSym))):Option (Unit⊕Int) :=
 cond (decide (x.2.2.1<x.2.1))
 ((gx x.1 x.2.2.1).bind fun e3 =>
  (ask_Fine_c1 e3 x.2.2.2).bind fun r4 =>
  cond r4
  (some (Sum.inr x.2.2.1))
  (rec (x.1,x.2.1,(IntKind.wrap .i64 (x.2.2.1+1)),x.2.2.2)))
 (some (Sum.inl ()))
def slices_IndexFunc_2 (a0:(List (List Int))) (a1:(List QSym)):Option Int :=
 ((lp slices_IndexFunc_2_L0 fuel) (a0,((List.length a0:Nat):Int),0,a1)).bind fun r8 =>
 caseS r8
 (fun z9=>some (-1))
 (fun z10=>some z10)
def slices_ContainsFunc_2 (a0:(List (List Int))) (a1:(List QSym)):Option Bool :=
 (slices_IndexFunc_2 a0 a1).bind fun r2 =>
 some (decide (r2≥0))
def ask_Fine_c2 (a0:Bool) (a1:(List Int)) (a2:(List QSym)):Option Bool :=
 (ask_Fine_c1 a1 a2).bind fun r2 =>
 some r2
def slices_IndexFunc_4_L0 (rec:((List QLit)×Int×Int×(List QSym))→Option (Unit⊕Int)) (x:((List QLit)×Int×Int×(List QSym))):Option (Unit⊕Int) :=
 cond (decide (x.2.2.1<x.2.1))
 ((gx x.1 x.2.2.1).bind fun e3 =>
  (ask_Fine_c2 e3.1 e3.2 x.2.2.2).bind fun r4 =>
  cond r4
  (some (Sum.inr x.2.2.1))
  (rec (x.1,x.2.1,(IntKind.wrap .i64 (x.2.2.1+1)),x.2.2.2)))
 (some (Sum.inl ()))
def slices_IndexFunc_4 (a0:(List QLit)) (a1:(List QSym)):Option Int :=
 ((lp slices_IndexFunc_4_L0 fuel) (a0,((List.length a0:Nat):Int),0,a1)).bind fun r8 =>
 caseS r8
 (fun z9=>some (-1))
 (fun z10=>some z10)
def slices_ContainsFunc_4 (a0:(List QLit)) (a1:(List QSym)):Option Bool :=
 (slices_IndexFunc_4 a0 a1).bind fun r2 =>
 some (decide (r2≥0))
def ask_Fine (a0:(List QSym)) (a1:(List QLit)) (a2:(List (List Int))) (a3:(List QLit)):Option (Bool×Int) :=
 (clause_May a0 a1 a2 a3).bind fun r4 =>
 cond (!r4)
 (some (false,2400))
 ((slices_ContainsFunc_2 a2 a0).bind fun r5 =>
  cond (!r5)
  ((slices_ContainsFunc_4 a3 a0).bind fun r6 =>
   some ((!r6),0))
  (some (false,0)))
def law0_Num (a0:Int):Option Int :=
 some a0
def law0_SameInts_L0 (rec:((List Int)×(List Int)×Int)→Option (Unit⊕Bool)) (x:((List Int)×(List Int)×Int)):Option (Unit⊕Bool) :=
 cond (decide (x.2.2<((List.length x.1:Nat):Int)))
 ((gx x.1 x.2.2).bind fun e3 =>
  (gx x.2.1 x.2.2).bind fun e4 =>
  cond (e3 != e4)
  (some (Sum.inr false))
  (rec (x.1,x.2.1,(IntKind.wrap .i64 (x.2.2+1)))))
 (some (Sum.inl ()))
def law0_SameInts (a0:(List Int)) (a1:(List Int)):Option Bool :=
 cond (((List.length a0:Nat):Int) != ((List.length a1:Nat):Int))
 (some false)
 (((lp law0_SameInts_L0 fuel) (a0,a1,0)).bind fun r8 =>
  caseS r8
  (fun z9=>some true)
  (fun z10=>some z10))
def law0_SameLits_L0 (rec:((List QLit)×(List QLit)×Int)→Option (Unit⊕Bool)) (x:((List QLit)×(List QLit)×Int)):Option (Unit⊕Bool) :=
 cond (decide (x.2.2<((List.length x.1:Nat):Int)))
 ((gx x.1 x.2.2).bind fun e6 =>
  (gx x.2.1 x.2.2).bind fun e7 =>
  cond (!(e6.1==e7.1))
  (some (Sum.inr false))
  ((gx x.1 x.2.2).bind fun e8 =>
   (gx x.2.1 x.2.2).bind fun e9 =>
   (law0_SameInts e8.2 e9.2).bind fun r10 =>
   cond (!r10)
   (some (Sum.inr false))
   (rec (x.1,x.2.1,(IntKind.wrap .i64 (x.2.2+1))))))
 (some (Sum.inl ()))
def law0_SameLits (a0:(List QLit)) (a1:(List QLit)):Option Bool :=
 cond (((List.length a0:Nat):Int) != ((List.length a1:Nat):Int))
 (some false)
 (((lp law0_SameLits_L0 fuel) (a0,a1,0)).bind fun r14 =>
  caseS r14
  (fun z15=>some true)
  (fun z16=>some z16))
def law0_SameRows_L0 (rec:((List (List Int))×(List (List Int))×Int)→Option (Unit⊕Bool)) (x:((List (List Int))×(List (List Int))×Int)):Option (Unit⊕Bool) :=
 cond (decide (x.2.2<((List.length x.1:Nat):Int)))
 ((gx x.1 x.2.2).bind fun e4 =>
  (gx x.2.1 x.2.2).bind fun e5 =>
  (law0_SameInts e4 e5).bind fun r6 =>
  cond (!r6)
  (some (Sum.inr false))
  (rec (x.1,x.2.1,(IntKind.wrap .i64 (x.2.2+1)))))
 (some (Sum.inl ()))
def law0_SameRows (a0:(List (List Int))) (a1:(List (List Int))):Option Bool :=
 cond (((List.length a0:Nat):Int) != ((List.length a1:Nat):Int))
 (some false)
 (((lp law0_SameRows_L0 fuel) (a0,a1,0)).bind fun r10 =>
  caseS r10
  (fun z11=>some true)
  (fun z12=>some z12))
def law0_SameClause (a0:(List QLit)) (a1:(List (List Int))) (a2:(List QLit)) (a3:(List QLit)) (a4:(List (List Int))) (a5:(List QLit)):Option Bool :=
 (law0_SameLits a0 a3).bind fun r4 =>
 cond r4
 ((law0_SameRows a1 a4).bind fun r5 =>
  cond r5
  ((law0_SameLits a2 a5).bind fun r6 =>
   some r6)
  (some false))
 (some false)
def law24_awake:Option Bool :=
 (law24_words).bind fun r17 =>
 (ask_Goal r17 ([2]:List Int) ([(false,([6,(-3),(-1)]:List Int))]:List QLit)).bind fun r18 =>
 (law24_words).bind fun r19 =>
 (ask_Show r19 ([]:(List QLit)) ([([1,3,(-1)]:List Int),([2,2]:List Int)]:List (List Int)) ([(true,([0,(-1),1]:List Int)),(false,([5,1]:List Int))]:List QLit)).bind fun r20 =>
 (law24_words).bind fun r21 =>
 (ask_Fine r21 r18.1 r18.2.1 r18.2.2.2).bind fun r22 =>
 (law24_words).bind fun r23 =>
 (ask_Goal r23 ([1,1]:List Int) ([(false,([5,1]:List Int))]:List QLit)).bind fun r24 =>
 (law24_words).bind fun r25 =>
 (ask_Show r25 r18.1 r18.2.1 r18.2.2.2).bind fun r26 =>
 (law0_Num r18.2.2.1).bind fun r27 =>
 cond (r27==0)
 ((law0_SameClause r18.1 r18.2.1 r18.2.2.2 ([(true,([6,(-1),(-2)]:List Int))]:List QLit) ([([(-1)]:List Int)]:List (List Int)) ([]:(List QLit))).bind fun r28 =>
  cond r28
  (cond (r20.1==([40,97,44,32,102,40,88,48,41,41,32,111,114,32,40,98,44,32,98,41,32,105,102,32,126,88,48,32,61,32,97,32,38,32,112,40,97,41]:Str))
   ((law0_Num r20.2).bind fun r29 =>
    cond (r29==0)
    (cond r22.1
     ((law0_Num r22.2).bind fun r30 =>
      cond (r30==0)
      ((law0_Num r24.2.2.1).bind fun r31 =>
       cond (r31==2400)
       ((law0_Num r26.2).bind fun r32 =>
        some (r32==2400))
       (some false))
      (some false))
     (some false))
    (some false))
   (some false))
  (some false))
 (some false)
end Go.Abs.Q
namespace Go.Abs.Q
open Go Go.Abs
section
theorem lp_succ {X Y:Type} (s:(X→Option Y)→X→Option Y) (k:Nat):lp s (k+1)=s (lp s k):=rfl
theorem gx_nat {α:Type} (xs:List α) (i:Nat):gx xs (i:Int)=xs[i]? := by
 unfold gx
 rw[show decide ((0:Int)≤(i:Int))=true from by simp]
 rfl
theorem gx_zero {α:Type} (xs:List α):gx xs 0=xs[0]? := gx_nat xs 0
theorem gx_at {α:Type} {xs:List α} {i:Int} (h0:0≤i) (h:i<xs.length):∃ x,gx xs i=some x∧x∈xs∧xs[i.toNat]? = some x:=by
 have hi:i.toNat<xs.length:=by omega
 refine ⟨xs[i.toNat],?_,List.getElem_mem hi,List.getElem?_eq_getElem hi⟩
 unfold gx
 rw[show decide ((0:Int)≤i)=true from by simp; omega,cond_true,List.getElem?_eq_getElem hi]
theorem inR_nat {i l:Nat} (h:i<l):inR (i:Int) l=some i:=by
 unfold inR
 simp [h]
theorem wrap64 {n:Int} (h1 : -9223372036854775808≤n) (h2:n≤9223372036854775807):IntKind.wrap .i64 n=n:=by
 simp [IntKind.wrap,IntKind.signed,IntKind.bits]
 omega
theorem wrap_i1 {i l:Nat} (h:i<l) (hl:l≤maxLen):IntKind.wrap .i64 ((i:Int)+1)=((i+1:Nat):Int):=by
 unfold maxLen at hl
 rw[wrap64]<;>omega
theorem lt_true {i l:Nat} (h:i<l):decide ((i:Int)<(l:Int))=true:=by simp [h]
theorem lt_false {i l:Nat} (h:l≤i):decide ((i:Int)<(l:Int))=false:=by simp; omega
theorem drop_nil_le {α:Type} {xs:List α} {i:Nat} (h:xs.drop i=[]):xs.length≤i:=by simpa using h
theorem drop_cons_lt {α:Type} {xs es:List α} {e:α} {i:Nat} (h:xs.drop i=e::es):i<xs.length:=by
 rw[← Nat.not_le]
 intro hn
 rw[List.drop_eq_nil_iff.2 hn] at h
 cases h
theorem drop_cons_get {α:Type} {xs es:List α} {e:α} {i:Nat} (h:xs.drop i=e::es):xs[i]? = some e:=by
 have:=congrArg (·[0]?) h
 simpa using this
theorem drop_cons_next {α:Type} {xs es:List α} {e:α} {i:Nat} (h:xs.drop i=e::es):xs.drop (i+1)=es:=by
 rw[← List.drop_drop,h]
 rfl
end
end Go.Abs.Q
namespace Go.Abs.Q
open Go Go.Abs
def sign_called_L0_go:List UInt8→Option (Unit⊕Bool)
 | []=>some (Sum.inl ())
 | e::es =>
  (sign_small ((UInt8.toNat e:Nat):Int)).bind fun r8 =>
  cond (!r8)
  (cond (decide (((UInt8.toNat e:Nat):Int)<48))
   (some (Sum.inr false))
   (cond (decide (((UInt8.toNat e:Nat):Int)>57))
    (some (Sum.inr false))
    (sign_called_L0_go es)))
  (sign_called_L0_go es)
theorem sign_called_L0_go_eq (s0:Str) (hl:List.length s0≤maxLen):∀(es:List UInt8) (i:Nat) (k:Nat),s0.drop i=es→es.length<k→lp sign_called_L0 k (s0,((List.length s0:Nat):Int),(i:Int))=sign_called_L0_go es:=by
 intro es
 induction es with
 | nil =>
  intro i k h hk
  obtain⟨k,rfl⟩:∃ k',k=k'+1:=⟨k - 1,by omega⟩
  rw[lp_succ]
  generalize lp sign_called_L0 k=rec
  unfold sign_called_L0 sign_called_L0_go
  simp only[lt_false (drop_nil_le h),cond_false]
 | cons e es ih =>
  intro i k h hk
  obtain⟨k,rfl⟩:∃ k',k=k'+1:=⟨k - 1,by omega⟩
  rw[lp_succ]
  have hi:=drop_cons_lt h
  have hk2:es.length<k:=Nat.lt_of_succ_lt_succ hk
  have key:=fun (_:Unit)=>ih (i+1) k (drop_cons_next h) hk2
  generalize lp sign_called_L0 k=rec at key ⊢
  unfold sign_called_L0 sign_called_L0_go
  simp only[lt_true hi,cond_true,gx_nat,drop_cons_get h,Option.bind_some,wrap_i1 hi hl,key ()]
theorem sign_called_L0_go_at0 (s0:Str) (hl:List.length s0≤maxLen):lp sign_called_L0 fuel (s0,((List.length s0:Nat):Int),0)=sign_called_L0_go s0 :=
 sign_called_L0_go_eq s0 hl s0 0 fuel rfl (Nat.lt_of_le_of_lt hl (by decide))
def sign_find_L0_go (s1:Str):List QSym→Nat→Option (Unit⊕Int)
 | [],i=>some (Sum.inl ())
 | e::es,i =>
  cond (e.1==s1)
  (some (Sum.inr (i:Int)))
  (sign_find_L0_go s1 es (i+1))
theorem sign_find_L0_go_eq (s0:(List QSym)) (s1:Str) (hl:List.length s0≤maxLen):∀(es:List QSym) (i:Nat) (k:Nat),s0.drop i=es→es.length<k→lp sign_find_L0 k (s0,s1,((List.length s0:Nat):Int),(i:Int))=sign_find_L0_go s1 es i:=by
 intro es
 induction es with
 | nil =>
  intro i k h hk
  obtain⟨k,rfl⟩:∃ k',k=k'+1:=⟨k - 1,by omega⟩
  rw[lp_succ]
  generalize lp sign_find_L0 k=rec
  unfold sign_find_L0 sign_find_L0_go
  simp only[lt_false (drop_nil_le h),cond_false]
 | cons e es ih =>
  intro i k h hk
  obtain⟨k,rfl⟩:∃ k',k=k'+1:=⟨k - 1,by omega⟩
  rw[lp_succ]
  have hi:=drop_cons_lt h
  have hk2:es.length<k:=Nat.lt_of_succ_lt_succ hk
  have key:=fun (_:Unit)=>ih (i+1) k (drop_cons_next h) hk2
  generalize lp sign_find_L0 k=rec at key ⊢
  unfold sign_find_L0 sign_find_L0_go
  simp only[lt_true hi,cond_true,gx_nat,drop_cons_get h,Option.bind_some,wrap_i1 hi hl,key ()]
theorem sign_find_L0_go_at0 (s0:(List QSym)) (s1:Str) (hl:List.length s0≤maxLen):lp sign_find_L0 fuel (s0,s1,((List.length s0:Nat):Int),0)=sign_find_L0_go s1 s0 0 :=
 sign_find_L0_go_eq s0 s1 hl s0 0 fuel rfl (Nat.lt_of_le_of_lt hl (by decide))
def sign_May_L0_go (s0:(List QSym)):List QSym→Nat→Option (Unit⊕Bool)
 | [],i=>some (Sum.inl ())
 | e::es,i =>
  (sign_SymMay e.1 e.2.1 e.2.2.1 e.2.2.2).bind fun r7 =>
  cond (!r7)
  (some (Sum.inr false))
  ((sign_find s0 e.1).bind fun r9 =>
   cond (r9 != (i:Int))
   (some (Sum.inr false))
   (sign_May_L0_go s0 es (i+1)))
theorem sign_May_L0_go_eq (s0:(List QSym)) (hl:List.length s0≤maxLen):∀(es:List QSym) (i:Nat) (k:Nat),s0.drop i=es→es.length<k→lp sign_May_L0 k (s0,(i:Int))=sign_May_L0_go s0 es i:=by
 intro es
 induction es with
 | nil =>
  intro i k h hk
  obtain⟨k,rfl⟩:∃ k',k=k'+1:=⟨k - 1,by omega⟩
  rw[lp_succ]
  generalize lp sign_May_L0 k=rec
  unfold sign_May_L0 sign_May_L0_go
  simp only[lt_false (drop_nil_le h),cond_false]
 | cons e es ih =>
  intro i k h hk
  obtain⟨k,rfl⟩:∃ k',k=k'+1:=⟨k - 1,by omega⟩
  rw[lp_succ]
  have hi:=drop_cons_lt h
  have hk2:es.length<k:=Nat.lt_of_succ_lt_succ hk
  have key:=fun (_:Unit)=>ih (i+1) k (drop_cons_next h) hk2
  generalize lp sign_May_L0 k=rec at key ⊢
  unfold sign_May_L0 sign_May_L0_go
  simp only[lt_true hi,cond_true,gx_nat,drop_cons_get h,Option.bind_some,wrap_i1 hi hl,key ()]
def slices_Index_L0_go (s1:Int):List Int→Nat→Option (Unit⊕Int)
 | [],i=>some (Sum.inl ())
 | e::es,i =>
  cond (s1==e)
  (some (Sum.inr (i:Int)))
  (slices_Index_L0_go s1 es (i+1))
theorem slices_Index_L0_go_eq (s0:(List Int)) (s1:Int) (hl:List.length s0≤maxLen):∀(es:List Int) (i:Nat) (k:Nat),s0.drop i=es→es.length<k→lp slices_Index_L0 k (s0,s1,((List.length s0:Nat):Int),(i:Int))=slices_Index_L0_go s1 es i:=by
 intro es
 induction es with
 | nil =>
  intro i k h hk
  obtain⟨k,rfl⟩:∃ k',k=k'+1:=⟨k - 1,by omega⟩
  rw[lp_succ]
  generalize lp slices_Index_L0 k=rec
  unfold slices_Index_L0 slices_Index_L0_go
  simp only[lt_false (drop_nil_le h),cond_false]
 | cons e es ih =>
  intro i k h hk
  obtain⟨k,rfl⟩:∃ k',k=k'+1:=⟨k - 1,by omega⟩
  rw[lp_succ]
  have hi:=drop_cons_lt h
  have hk2:es.length<k:=Nat.lt_of_succ_lt_succ hk
  have key:=fun (_:Unit)=>ih (i+1) k (drop_cons_next h) hk2
  generalize lp slices_Index_L0 k=rec at key ⊢
  unfold slices_Index_L0 slices_Index_L0_go
  simp only[lt_true hi,cond_true,gx_nat,drop_cons_get h,Option.bind_some,wrap_i1 hi hl,key ()]
theorem slices_Index_L0_go_at0 (s0:(List Int)) (s1:Int) (hl:List.length s0≤maxLen):lp slices_Index_L0 fuel (s0,s1,((List.length s0:Nat):Int),0)=slices_Index_L0_go s1 s0 0 :=
 slices_Index_L0_go_eq s0 s1 hl s0 0 fuel rfl (Nat.lt_of_le_of_lt hl (by decide))
def ask_varsMay_L0_go (s0:(List Int)):List Int→Nat→Option (Unit⊕Bool)
 | [],i=>some (Sum.inl ())
 | e::es,i =>
  cond (decide (e<0))
  (some (Sum.inr false))
  (cond (decide (e>23))
   (some (Sum.inr false))
   ((slc2 s0 none (some (i:Int))).bind fun y5 =>
    (slices_Contains y5 e).bind fun r6 =>
    cond r6
    (some (Sum.inr false))
    (ask_varsMay_L0_go s0 es (i+1))))
theorem ask_varsMay_L0_go_eq (s0:(List Int)) (s1:(List Int)) (hl:List.length s1≤maxLen):∀(es:List Int) (i:Nat) (k:Nat),s1.drop i=es→es.length<k→lp ask_varsMay_L0 k (s0,s1,((List.length s1:Nat):Int),(i:Int))=ask_varsMay_L0_go s0 es i:=by
 intro es
 induction es with
 | nil =>
  intro i k h hk
  obtain⟨k,rfl⟩:∃ k',k=k'+1:=⟨k - 1,by omega⟩
  rw[lp_succ]
  generalize lp ask_varsMay_L0 k=rec
  unfold ask_varsMay_L0 ask_varsMay_L0_go
  simp only[lt_false (drop_nil_le h),cond_false]
 | cons e es ih =>
  intro i k h hk
  obtain⟨k,rfl⟩:∃ k',k=k'+1:=⟨k - 1,by omega⟩
  rw[lp_succ]
  have hi:=drop_cons_lt h
  have hk2:es.length<k:=Nat.lt_of_succ_lt_succ hk
  have key:=fun (_:Unit)=>ih (i+1) k (drop_cons_next h) hk2
  generalize lp ask_varsMay_L0 k=rec at key ⊢
  unfold ask_varsMay_L0 ask_varsMay_L0_go
  simp only[lt_true hi,cond_true,gx_nat,drop_cons_get h,Option.bind_some,wrap_i1 hi hl,key ()]
theorem ask_varsMay_L0_go_at0 (s0:(List Int)) (s1:(List Int)) (hl:List.length s1≤maxLen):lp ask_varsMay_L0 fuel (s0,s1,((List.length s1:Nat):Int),0)=ask_varsMay_L0_go s0 s1 0 :=
 ask_varsMay_L0_go_eq s0 s1 hl s1 0 fuel rfl (Nat.lt_of_le_of_lt hl (by decide))
def clause_litsMay_L0_go (s0:(List QSym)):List QLit→Int→Option (Int⊕(Int×Bool))
 | [],s1=>some (Sum.inl s1)
 | e::es,s1 =>
  (lit_May s0 e.1 e.2).bind fun r4 =>
  cond (!r4)
  (some (Sum.inr (0,false)))
  (clause_litsMay_L0_go s0 es (IntKind.wrap .i64 (s1+((List.length e.2:Nat):Int))))
theorem clause_litsMay_L0_go_eq (s0:(List QSym)) (s2:(List QLit)) (hl:List.length s2≤maxLen):∀(es:List QLit) (i:Nat) (k:Nat) (s1:Int),s2.drop i=es→es.length<k→lp clause_litsMay_L0 k (s0,s1,s2,((List.length s2:Nat):Int),(i:Int))=clause_litsMay_L0_go s0 es s1:=by
 intro es
 induction es with
 | nil =>
  intro i k s1 h hk
  obtain⟨k,rfl⟩:∃ k',k=k'+1:=⟨k - 1,by omega⟩
  rw[lp_succ]
  generalize lp clause_litsMay_L0 k=rec
  unfold clause_litsMay_L0 clause_litsMay_L0_go
  simp only[lt_false (drop_nil_le h),cond_false]
 | cons e es ih =>
  intro i k s1 h hk
  obtain⟨k,rfl⟩:∃ k',k=k'+1:=⟨k - 1,by omega⟩
  rw[lp_succ]
  have hi:=drop_cons_lt h
  have hk2:es.length<k:=Nat.lt_of_succ_lt_succ hk
  have key:=fun s1=>ih (i+1) k s1 (drop_cons_next h) hk2
  generalize lp clause_litsMay_L0 k=rec at key ⊢
  unfold clause_litsMay_L0 clause_litsMay_L0_go
  simp only[lt_true hi,cond_true,gx_nat,drop_cons_get h,Option.bind_some,wrap_i1 hi hl,key]
theorem clause_litsMay_L0_go_at0 (s0:(List QSym)) (s2:(List QLit)) (s1:Int) (hl:List.length s2≤maxLen):lp clause_litsMay_L0 fuel (s0,s1,s2,((List.length s2:Nat):Int),0)=clause_litsMay_L0_go s0 s2 s1 :=
 clause_litsMay_L0_go_eq s0 s2 hl s2 0 fuel s1 rfl (Nat.lt_of_le_of_lt hl (by decide))
def clause_rowsMay_L0_go (s0:(List QSym)):List (List Int)→Nat→Int→Int→Option (Int⊕(Int×Bool))
 | [],i,s1,s2=>some (Sum.inl s1)
 | e::es,i,s1,s2 =>
  (term_Row s0 e).bind fun r4 =>
  cond ((i:Int)==0)
  (cond (r4.2 != 0)
   (some (Sum.inr (0,false)))
   (cond (r4.1 != r4.1)
    (some (Sum.inr (0,false)))
    (clause_rowsMay_L0_go s0 es (i+1) (IntKind.wrap .i64 (s1+((List.length e:Nat):Int))) r4.1)))
  (cond (r4.2 != 0)
   (some (Sum.inr (0,false)))
   (cond (r4.1 != s2)
    (some (Sum.inr (0,false)))
    (clause_rowsMay_L0_go s0 es (i+1) (IntKind.wrap .i64 (s1+((List.length e:Nat):Int))) s2)))
theorem clause_rowsMay_L0_go_eq (s0:(List QSym)) (s3:(List (List Int))) (hl:List.length s3≤maxLen):∀(es:List (List Int)) (i:Nat) (k:Nat) (s1:Int) (s2:Int),s3.drop i=es→es.length<k→lp clause_rowsMay_L0 k (s0,s1,s2,s3,((List.length s3:Nat):Int),(i:Int))=clause_rowsMay_L0_go s0 es i s1 s2:=by
 intro es
 induction es with
 | nil =>
  intro i k s1 s2 h hk
  obtain⟨k,rfl⟩:∃ k',k=k'+1:=⟨k - 1,by omega⟩
  rw[lp_succ]
  generalize lp clause_rowsMay_L0 k=rec
  unfold clause_rowsMay_L0 clause_rowsMay_L0_go
  simp only[lt_false (drop_nil_le h),cond_false]
 | cons e es ih =>
  intro i k s1 s2 h hk
  obtain⟨k,rfl⟩:∃ k',k=k'+1:=⟨k - 1,by omega⟩
  rw[lp_succ]
  have hi:=drop_cons_lt h
  have hk2:es.length<k:=Nat.lt_of_succ_lt_succ hk
  have key:=fun s1 s2=>ih (i+1) k s1 s2 (drop_cons_next h) hk2
  generalize lp clause_rowsMay_L0 k=rec at key ⊢
  unfold clause_rowsMay_L0 clause_rowsMay_L0_go
  simp only[lt_true hi,cond_true,gx_nat,drop_cons_get h,Option.bind_some,wrap_i1 hi hl,key]
theorem clause_rowsMay_L0_go_at0 (s0:(List QSym)) (s3:(List (List Int))) (s1:Int) (s2:Int) (hl:List.length s3≤maxLen):lp clause_rowsMay_L0 fuel (s0,s1,s2,s3,((List.length s3:Nat):Int),0)=clause_rowsMay_L0_go s0 s3 0 s1 s2 :=
 clause_rowsMay_L0_go_eq s0 s3 hl s3 0 fuel s1 s2 rfl (Nat.lt_of_le_of_lt hl (by decide))
def slices_Equal_L0_go (s1:(List Int)):List Int→Nat→Option (Unit⊕Bool)
 | [],i=>some (Sum.inl ())
 | e::es,i =>
  (gx s1 (i:Int)).bind fun e4 =>
  cond (e != e4)
  (some (Sum.inr false))
  (slices_Equal_L0_go s1 es (i+1))
theorem slices_Equal_L0_go_eq (s0:(List Int)) (s1:(List Int)) (hl:List.length s0≤maxLen):∀(es:List Int) (i:Nat) (k:Nat),s0.drop i=es→es.length<k→lp slices_Equal_L0 k (s0,s1,((List.length s0:Nat):Int),(i:Int))=slices_Equal_L0_go s1 es i:=by
 intro es
 induction es with
 | nil =>
  intro i k h hk
  obtain⟨k,rfl⟩:∃ k',k=k'+1:=⟨k - 1,by omega⟩
  rw[lp_succ]
  generalize lp slices_Equal_L0 k=rec
  unfold slices_Equal_L0 slices_Equal_L0_go
  simp only[lt_false (drop_nil_le h),cond_false]
 | cons e es ih =>
  intro i k h hk
  obtain⟨k,rfl⟩:∃ k',k=k'+1:=⟨k - 1,by omega⟩
  rw[lp_succ]
  have hi:=drop_cons_lt h
  have hk2:es.length<k:=Nat.lt_of_succ_lt_succ hk
  have key:=fun (_:Unit)=>ih (i+1) k (drop_cons_next h) hk2
  generalize lp slices_Equal_L0 k=rec at key ⊢
  unfold slices_Equal_L0 slices_Equal_L0_go
  simp only[lt_true hi,cond_true,gx_nat,drop_cons_get h,Option.bind_some,wrap_i1 hi hl,key ()]
theorem slices_Equal_L0_go_at0 (s0:(List Int)) (s1:(List Int)) (hl:List.length s0≤maxLen):lp slices_Equal_L0 fuel (s0,s1,((List.length s0:Nat):Int),0)=slices_Equal_L0_go s1 s0 0 :=
 slices_Equal_L0_go_eq s0 s1 hl s0 0 fuel rfl (Nat.lt_of_le_of_lt hl (by decide))
def slices_IndexFunc_L0_go (s3:Bool) (s4:(List Int)):List QLit→Nat→Option (Unit⊕Int)
 | [],i=>some (Sum.inl ())
 | e::es,i =>
  (clause_once_c1 e.1 e.2 s3 s4).bind fun r4 =>
  cond r4
  (some (Sum.inr (i:Int)))
  (slices_IndexFunc_L0_go s3 s4 es (i+1))
theorem slices_IndexFunc_L0_go_eq (s0:(List QLit)) (s3:Bool) (s4:(List Int)) (hl:List.length s0≤maxLen):∀(es:List QLit) (i:Nat) (k:Nat),s0.drop i=es→es.length<k→lp slices_IndexFunc_L0 k (s0,((List.length s0:Nat):Int),(i:Int),s3,s4)=slices_IndexFunc_L0_go s3 s4 es i:=by
 intro es
 induction es with
 | nil =>
  intro i k h hk
  obtain⟨k,rfl⟩:∃ k',k=k'+1:=⟨k - 1,by omega⟩
  rw[lp_succ]
  generalize lp slices_IndexFunc_L0 k=rec
  unfold slices_IndexFunc_L0 slices_IndexFunc_L0_go
  simp only[lt_false (drop_nil_le h),cond_false]
 | cons e es ih =>
  intro i k h hk
  obtain⟨k,rfl⟩:∃ k',k=k'+1:=⟨k - 1,by omega⟩
  rw[lp_succ]
  have hi:=drop_cons_lt h
  have hk2:es.length<k:=Nat.lt_of_succ_lt_succ hk
  have key:=fun (_:Unit)=>ih (i+1) k (drop_cons_next h) hk2
  generalize lp slices_IndexFunc_L0 k=rec at key ⊢
  unfold slices_IndexFunc_L0 slices_IndexFunc_L0_go
  simp only[lt_true hi,cond_true,gx_nat,drop_cons_get h,Option.bind_some,wrap_i1 hi hl,key ()]
theorem slices_IndexFunc_L0_go_at0 (s0:(List QLit)) (s3:Bool) (s4:(List Int)) (hl:List.length s0≤maxLen):lp slices_IndexFunc_L0 fuel (s0,((List.length s0:Nat):Int),0,s3,s4)=slices_IndexFunc_L0_go s3 s4 s0 0 :=
 slices_IndexFunc_L0_go_eq s0 s3 s4 hl s0 0 fuel rfl (Nat.lt_of_le_of_lt hl (by decide))
def clause_once_L0_go:List QLit→(List QLit)→Option (List QLit)
 | [],s3=>some s3
 | e::es,s3 =>
  (slices_ContainsFunc s3 e.1 e.2).bind fun r6 =>
  cond (!r6)
  (cond (room (List.length s3+List.length ([(e.1,e.2)]:List QLit)) 32)
   (clause_once_L0_go es (s3++([(e.1,e.2)]:List QLit)))
   (none))
  (clause_once_L0_go es s3)
theorem clause_once_L0_go_eq (s0:(List QLit)) (hl:List.length s0≤maxLen):∀(es:List QLit) (i:Nat) (k:Nat) (s3:(List QLit)),s0.drop i=es→es.length<k→lp clause_once_L0 k (s0,((List.length s0:Nat):Int),(i:Int),s3)=clause_once_L0_go es s3:=by
 intro es
 induction es with
 | nil =>
  intro i k s3 h hk
  obtain⟨k,rfl⟩:∃ k',k=k'+1:=⟨k - 1,by omega⟩
  rw[lp_succ]
  generalize lp clause_once_L0 k=rec
  unfold clause_once_L0 clause_once_L0_go
  simp only[lt_false (drop_nil_le h),cond_false]
 | cons e es ih =>
  intro i k s3 h hk
  obtain⟨k,rfl⟩:∃ k',k=k'+1:=⟨k - 1,by omega⟩
  rw[lp_succ]
  have hi:=drop_cons_lt h
  have hk2:es.length<k:=Nat.lt_of_succ_lt_succ hk
  have key:=fun s3=>ih (i+1) k s3 (drop_cons_next h) hk2
  generalize lp clause_once_L0 k=rec at key ⊢
  unfold clause_once_L0 clause_once_L0_go
  simp only[lt_true hi,cond_true,gx_nat,drop_cons_get h,Option.bind_some,wrap_i1 hi hl,key]
theorem clause_once_L0_go_at0 (s0:(List QLit)) (s3:(List QLit)) (hl:List.length s0≤maxLen):lp clause_once_L0 fuel (s0,((List.length s0:Nat):Int),0,s3)=clause_once_L0_go s0 s3 :=
 clause_once_L0_go_eq s0 hl s0 0 fuel s3 rfl (Nat.lt_of_le_of_lt hl (by decide))
def slices_IndexFunc_1_L0_go (s3:(List Int)):List (List Int)→Nat→Option (Unit⊕Int)
 | [],i=>some (Sum.inl ())
 | e::es,i =>
  (clause_anew_c1 e s3).bind fun r4 =>
  cond r4
  (some (Sum.inr (i:Int)))
  (slices_IndexFunc_1_L0_go s3 es (i+1))
theorem slices_IndexFunc_1_L0_go_eq (s0:(List (List Int))) (s3:(List Int)) (hl:List.length s0≤maxLen):∀(es:List (List Int)) (i:Nat) (k:Nat),s0.drop i=es→es.length<k→lp slices_IndexFunc_1_L0 k (s0,((List.length s0:Nat):Int),(i:Int),s3)=slices_IndexFunc_1_L0_go s3 es i:=by
 intro es
 induction es with
 | nil =>
  intro i k h hk
  obtain⟨k,rfl⟩:∃ k',k=k'+1:=⟨k - 1,by omega⟩
  rw[lp_succ]
  generalize lp slices_IndexFunc_1_L0 k=rec
  unfold slices_IndexFunc_1_L0 slices_IndexFunc_1_L0_go
  simp only[lt_false (drop_nil_le h),cond_false]
 | cons e es ih =>
  intro i k h hk
  obtain⟨k,rfl⟩:∃ k',k=k'+1:=⟨k - 1,by omega⟩
  rw[lp_succ]
  have hi:=drop_cons_lt h
  have hk2:es.length<k:=Nat.lt_of_succ_lt_succ hk
  have key:=fun (_:Unit)=>ih (i+1) k (drop_cons_next h) hk2
  generalize lp slices_IndexFunc_1_L0 k=rec at key ⊢
  unfold slices_IndexFunc_1_L0 slices_IndexFunc_1_L0_go
  simp only[lt_true hi,cond_true,gx_nat,drop_cons_get h,Option.bind_some,wrap_i1 hi hl,key ()]
theorem slices_IndexFunc_1_L0_go_at0 (s0:(List (List Int))) (s3:(List Int)) (hl:List.length s0≤maxLen):lp slices_IndexFunc_1_L0 fuel (s0,((List.length s0:Nat):Int),0,s3)=slices_IndexFunc_1_L0_go s3 s0 0 :=
 slices_IndexFunc_1_L0_go_eq s0 s3 hl s0 0 fuel rfl (Nat.lt_of_le_of_lt hl (by decide))
def clause_each_1_L2_go (s5:(List QLit)) (s6:(List (List Int))):List QLit→(List Int)→Int→(List QLit)→Option ((List Int)×Int×(List QLit)×(List (List Int))×(List QLit))
 | [],s3,s4,s7=>some (s3,s4,s5,s6,s7)
 | e::es,s3,s4,s7 =>
  (clause_anew_c2_1 e.2 s3 s4).bind fun r20 =>
  cond (room (List.length s7+List.length ([(e.1,r20.1)]:List QLit)) 32)
  (clause_each_1_L2_go s5 s6 es r20.2.1 r20.2.2 (s7++([(e.1,r20.1)]:List QLit)))
  (none)
theorem clause_each_1_L2_go_eq (s0:(List QLit)) (s5:(List QLit)) (s6:(List (List Int))) (hl:List.length s0≤maxLen):∀(es:List QLit) (i:Nat) (k:Nat) (s3:(List Int)) (s4:Int) (s7:(List QLit)),s0.drop i=es→es.length<k→lp clause_each_1_L2 k (s0,((List.length s0:Nat):Int),(i:Int),s3,s4,s5,s6,s7)=clause_each_1_L2_go s5 s6 es s3 s4 s7:=by
 intro es
 induction es with
 | nil =>
  intro i k s3 s4 s7 h hk
  obtain⟨k,rfl⟩:∃ k',k=k'+1:=⟨k - 1,by omega⟩
  rw[lp_succ]
  generalize lp clause_each_1_L2 k=rec
  unfold clause_each_1_L2 clause_each_1_L2_go
  simp only[lt_false (drop_nil_le h),cond_false]
 | cons e es ih =>
  intro i k s3 s4 s7 h hk
  obtain⟨k,rfl⟩:∃ k',k=k'+1:=⟨k - 1,by omega⟩
  rw[lp_succ]
  have hi:=drop_cons_lt h
  have hk2:es.length<k:=Nat.lt_of_succ_lt_succ hk
  have key:=fun s3 s4 s7=>ih (i+1) k s3 s4 s7 (drop_cons_next h) hk2
  generalize lp clause_each_1_L2 k=rec at key ⊢
  unfold clause_each_1_L2 clause_each_1_L2_go
  simp only[lt_true hi,cond_true,gx_nat,drop_cons_get h,Option.bind_some,wrap_i1 hi hl,key]
theorem clause_each_1_L2_go_at0 (s0:(List QLit)) (s5:(List QLit)) (s6:(List (List Int))) (s3:(List Int)) (s4:Int) (s7:(List QLit)) (hl:List.length s0≤maxLen):lp clause_each_1_L2 fuel (s0,((List.length s0:Nat):Int),0,s3,s4,s5,s6,s7)=clause_each_1_L2_go s5 s6 s0 s3 s4 s7 :=
 clause_each_1_L2_go_eq s0 s5 s6 hl s0 0 fuel s3 s4 s7 rfl (Nat.lt_of_le_of_lt hl (by decide))
def clause_each_1_L1_go (s8:(List QLit)):List (List Int)→(List Int)→Int→(List (List Int))→Option ((List Int)×Int×(List QLit)×(List (List Int)))
 | [],s3,s4,s9=>some (s3,s4,s8,s9)
 | e::es,s3,s4,s9 =>
  (clause_anew_c2_1 e s3 s4).bind fun r13 =>
  cond (room (List.length s9+List.length ([r13.1]:List (List Int))) 24)
  (clause_each_1_L1_go s8 es r13.2.1 r13.2.2 (s9++([r13.1]:List (List Int))))
  (none)
theorem clause_each_1_L1_go_eq (s0:(List (List Int))) (s5:(List QLit)) (s6:(List (List Int))) (s7:(List QLit)) (s8:(List QLit)) (hl:List.length s0≤maxLen):∀(es:List (List Int)) (i:Nat) (k:Nat) (s3:(List Int)) (s4:Int) (s9:(List (List Int))),s0.drop i=es→es.length<k→lp clause_each_1_L1 k (s0,((List.length s0:Nat):Int),(i:Int),s3,s4,s5,s6,s7,s8,s9)=clause_each_1_L1_go s8 es s3 s4 s9:=by
 intro es
 induction es with
 | nil =>
  intro i k s3 s4 s9 h hk
  obtain⟨k,rfl⟩:∃ k',k=k'+1:=⟨k - 1,by omega⟩
  rw[lp_succ]
  generalize lp clause_each_1_L1 k=rec
  unfold clause_each_1_L1 clause_each_1_L1_go
  simp only[lt_false (drop_nil_le h),cond_false]
 | cons e es ih =>
  intro i k s3 s4 s9 h hk
  obtain⟨k,rfl⟩:∃ k',k=k'+1:=⟨k - 1,by omega⟩
  rw[lp_succ]
  have hi:=drop_cons_lt h
  have hk2:es.length<k:=Nat.lt_of_succ_lt_succ hk
  have key:=fun s3 s4 s9=>ih (i+1) k s3 s4 s9 (drop_cons_next h) hk2
  generalize lp clause_each_1_L1 k=rec at key ⊢
  unfold clause_each_1_L1 clause_each_1_L1_go
  simp only[lt_true hi,cond_true,gx_nat,drop_cons_get h,Option.bind_some,wrap_i1 hi hl,key]
theorem clause_each_1_L1_go_at0 (s0:(List (List Int))) (s5:(List QLit)) (s6:(List (List Int))) (s7:(List QLit)) (s8:(List QLit)) (s3:(List Int)) (s4:Int) (s9:(List (List Int))) (hl:List.length s0≤maxLen):lp clause_each_1_L1 fuel (s0,((List.length s0:Nat):Int),0,s3,s4,s5,s6,s7,s8,s9)=clause_each_1_L1_go s8 s0 s3 s4 s9 :=
 clause_each_1_L1_go_eq s0 s5 s6 s7 s8 hl s0 0 fuel s3 s4 s9 rfl (Nat.lt_of_le_of_lt hl (by decide))
def clause_each_1_L0_go:List QLit→(List Int)→Int→(List QLit)→Option ((List Int)×Int×(List QLit))
 | [],s3,s4,s8=>some (s3,s4,s8)
 | e::es,s3,s4,s8 =>
  (clause_anew_c2_1 e.2 s3 s4).bind fun r6 =>
  cond (room (List.length s8+List.length ([(e.1,r6.1)]:List QLit)) 32)
  (clause_each_1_L0_go es r6.2.1 r6.2.2 (s8++([(e.1,r6.1)]:List QLit)))
  (none)
theorem clause_each_1_L0_go_eq (s0:(List QLit)) (s5:(List QLit)) (s6:(List (List Int))) (s7:(List QLit)) (hl:List.length s0≤maxLen):∀(es:List QLit) (i:Nat) (k:Nat) (s3:(List Int)) (s4:Int) (s8:(List QLit)),s0.drop i=es→es.length<k→lp clause_each_1_L0 k (s0,((List.length s0:Nat):Int),(i:Int),s3,s4,s5,s6,s7,s8)=clause_each_1_L0_go es s3 s4 s8:=by
 intro es
 induction es with
 | nil =>
  intro i k s3 s4 s8 h hk
  obtain⟨k,rfl⟩:∃ k',k=k'+1:=⟨k - 1,by omega⟩
  rw[lp_succ]
  generalize lp clause_each_1_L0 k=rec
  unfold clause_each_1_L0 clause_each_1_L0_go
  simp only[lt_false (drop_nil_le h),cond_false]
 | cons e es ih =>
  intro i k s3 s4 s8 h hk
  obtain⟨k,rfl⟩:∃ k',k=k'+1:=⟨k - 1,by omega⟩
  rw[lp_succ]
  have hi:=drop_cons_lt h
  have hk2:es.length<k:=Nat.lt_of_succ_lt_succ hk
  have key:=fun s3 s4 s8=>ih (i+1) k s3 s4 s8 (drop_cons_next h) hk2
  generalize lp clause_each_1_L0 k=rec at key ⊢
  unfold clause_each_1_L0 clause_each_1_L0_go
  simp only[lt_true hi,cond_true,gx_nat,drop_cons_get h,Option.bind_some,wrap_i1 hi hl,key]
theorem clause_each_1_L0_go_at0 (s0:(List QLit)) (s5:(List QLit)) (s6:(List (List Int))) (s7:(List QLit)) (s3:(List Int)) (s4:Int) (s8:(List QLit)) (hl:List.length s0≤maxLen):lp clause_each_1_L0 fuel (s0,((List.length s0:Nat):Int),0,s3,s4,s5,s6,s7,s8)=clause_each_1_L0_go s0 s3 s4 s8 :=
 clause_each_1_L0_go_eq s0 s5 s6 s7 hl s0 0 fuel s3 s4 s8 rfl (Nat.lt_of_le_of_lt hl (by decide))
def clause_anew_L0_go (s3:(List QLit)) (s4:(List QLit)):List (List Int)→(List (List Int))→Option ((List QLit)×(List QLit)×(List (List Int)))
 | [],s5=>some (s3,s4,s5)
 | e::es,s5 =>
  (slices_ContainsFunc_1 s5 e).bind fun r8 =>
  cond (!r8)
  (cond (room (List.length s5+List.length ([e]:List (List Int))) 24)
   (clause_anew_L0_go s3 s4 es (s5++([e]:List (List Int))))
   (none))
  (clause_anew_L0_go s3 s4 es s5)
theorem clause_anew_L0_go_eq (s0:(List (List Int))) (s3:(List QLit)) (s4:(List QLit)) (hl:List.length s0≤maxLen):∀(es:List (List Int)) (i:Nat) (k:Nat) (s5:(List (List Int))),s0.drop i=es→es.length<k→lp clause_anew_L0 k (s0,((List.length s0:Nat):Int),(i:Int),s3,s4,s5)=clause_anew_L0_go s3 s4 es s5:=by
 intro es
 induction es with
 | nil =>
  intro i k s5 h hk
  obtain⟨k,rfl⟩:∃ k',k=k'+1:=⟨k - 1,by omega⟩
  rw[lp_succ]
  generalize lp clause_anew_L0 k=rec
  unfold clause_anew_L0 clause_anew_L0_go
  simp only[lt_false (drop_nil_le h),cond_false]
 | cons e es ih =>
  intro i k s5 h hk
  obtain⟨k,rfl⟩:∃ k',k=k'+1:=⟨k - 1,by omega⟩
  rw[lp_succ]
  have hi:=drop_cons_lt h
  have hk2:es.length<k:=Nat.lt_of_succ_lt_succ hk
  have key:=fun s5=>ih (i+1) k s5 (drop_cons_next h) hk2
  generalize lp clause_anew_L0 k=rec at key ⊢
  unfold clause_anew_L0 clause_anew_L0_go
  simp only[lt_true hi,cond_true,gx_nat,drop_cons_get h,Option.bind_some,wrap_i1 hi hl,key]
theorem clause_anew_L0_go_at0 (s0:(List (List Int))) (s3:(List QLit)) (s4:(List QLit)) (s5:(List (List Int))) (hl:List.length s0≤maxLen):lp clause_anew_L0 fuel (s0,((List.length s0:Nat):Int),0,s3,s4,s5)=clause_anew_L0_go s3 s4 s0 s5 :=
 clause_anew_L0_go_eq s0 s3 s4 hl s0 0 fuel s5 rfl (Nat.lt_of_le_of_lt hl (by decide))
def ask_Goal_L1_go:List Int→Nat→(List Int)→Option (List Int)
 | [],i,s5=>some s5
 | e::es,i,s5 =>
  (term_Number e).bind fun r15 =>
  (inR (i:Int) (List.length s5)).bind fun k16 =>
  (s5[k16]?).bind fun x17 =>
  ask_Goal_L1_go es (i+1) (List.set s5 k16 r15)
theorem ask_Goal_L1_go_eq (s0:(List QSym)) (s1:(List Int)) (s4:(List QLit)) (hl:List.length s1≤maxLen):∀(es:List Int) (i:Nat) (k:Nat) (s5:(List Int)),s1.drop i=es→es.length<k→lp ask_Goal_L1 k (s0,s1,((List.length s1:Nat):Int),(i:Int),s4,s5)=ask_Goal_L1_go es i s5:=by
 intro es
 induction es with
 | nil =>
  intro i k s5 h hk
  obtain⟨k,rfl⟩:∃ k',k=k'+1:=⟨k - 1,by omega⟩
  rw[lp_succ]
  generalize lp ask_Goal_L1 k=rec
  unfold ask_Goal_L1 ask_Goal_L1_go
  simp only[lt_false (drop_nil_le h),cond_false]
 | cons e es ih =>
  intro i k s5 h hk
  obtain⟨k,rfl⟩:∃ k',k=k'+1:=⟨k - 1,by omega⟩
  rw[lp_succ]
  have hi:=drop_cons_lt h
  have hk2:es.length<k:=Nat.lt_of_succ_lt_succ hk
  have key:=fun s5=>ih (i+1) k s5 (drop_cons_next h) hk2
  generalize lp ask_Goal_L1 k=rec at key ⊢
  unfold ask_Goal_L1 ask_Goal_L1_go
  simp only[lt_true hi,cond_true,gx_nat,drop_cons_get h,Option.bind_some,wrap_i1 hi hl,key]
theorem ask_Goal_L1_go_at0 (s0:(List QSym)) (s1:(List Int)) (s4:(List QLit)) (s5:(List Int)) (hl:List.length s1≤maxLen):lp ask_Goal_L1 fuel (s0,s1,((List.length s1:Nat):Int),0,s4,s5)=ask_Goal_L1_go s1 0 s5 :=
 ask_Goal_L1_go_eq s0 s1 s4 hl s1 0 fuel s5 rfl (Nat.lt_of_le_of_lt hl (by decide))
def ask_Goal_L0_go:List QLit→(List QLit)→Option (List QLit)
 | [],s5=>some s5
 | e::es,s5 =>
  (lit_Opposite e.1 e.2).bind fun r8 =>
  cond (room (List.length s5+List.length ([(r8.1,r8.2)]:List QLit)) 32)
  (ask_Goal_L0_go es (s5++([(r8.1,r8.2)]:List QLit)))
  (none)
theorem ask_Goal_L0_go_eq (s0:(List QSym)) (s1:(List Int)) (s2:(List QLit)) (hl:List.length s2≤maxLen):∀(es:List QLit) (i:Nat) (k:Nat) (s5:(List QLit)),s2.drop i=es→es.length<k→lp ask_Goal_L0 k (s0,s1,s2,((List.length s2:Nat):Int),(i:Int),s5)=ask_Goal_L0_go es s5:=by
 intro es
 induction es with
 | nil =>
  intro i k s5 h hk
  obtain⟨k,rfl⟩:∃ k',k=k'+1:=⟨k - 1,by omega⟩
  rw[lp_succ]
  generalize lp ask_Goal_L0 k=rec
  unfold ask_Goal_L0 ask_Goal_L0_go
  simp only[lt_false (drop_nil_le h),cond_false]
 | cons e es ih =>
  intro i k s5 h hk
  obtain⟨k,rfl⟩:∃ k',k=k'+1:=⟨k - 1,by omega⟩
  rw[lp_succ]
  have hi:=drop_cons_lt h
  have hk2:es.length<k:=Nat.lt_of_succ_lt_succ hk
  have key:=fun s5=>ih (i+1) k s5 (drop_cons_next h) hk2
  generalize lp ask_Goal_L0 k=rec at key ⊢
  unfold ask_Goal_L0 ask_Goal_L0_go
  simp only[lt_true hi,cond_true,gx_nat,drop_cons_get h,Option.bind_some,wrap_i1 hi hl,key]
theorem ask_Goal_L0_go_at0 (s0:(List QSym)) (s1:(List Int)) (s2:(List QLit)) (s5:(List QLit)) (hl:List.length s2≤maxLen):lp ask_Goal_L0 fuel (s0,s1,s2,((List.length s2:Nat):Int),0,s5)=ask_Goal_L0_go s2 s5 :=
 ask_Goal_L0_go_eq s0 s1 s2 hl s2 0 fuel s5 rfl (Nat.lt_of_le_of_lt hl (by decide))
def law0_SameInts_L0_go (s1:(List Int)):List Int→Nat→Option (Unit⊕Bool)
 | [],i=>some (Sum.inl ())
 | e::es,i =>
  (gx s1 (i:Int)).bind fun e4 =>
  cond (e != e4)
  (some (Sum.inr false))
  (law0_SameInts_L0_go s1 es (i+1))
theorem law0_SameInts_L0_go_eq (s0:(List Int)) (s1:(List Int)) (hl:List.length s0≤maxLen):∀(es:List Int) (i:Nat) (k:Nat),s0.drop i=es→es.length<k→lp law0_SameInts_L0 k (s0,s1,(i:Int))=law0_SameInts_L0_go s1 es i:=by
 intro es
 induction es with
 | nil =>
  intro i k h hk
  obtain⟨k,rfl⟩:∃ k',k=k'+1:=⟨k - 1,by omega⟩
  rw[lp_succ]
  generalize lp law0_SameInts_L0 k=rec
  unfold law0_SameInts_L0 law0_SameInts_L0_go
  simp only[lt_false (drop_nil_le h),cond_false]
 | cons e es ih =>
  intro i k h hk
  obtain⟨k,rfl⟩:∃ k',k=k'+1:=⟨k - 1,by omega⟩
  rw[lp_succ]
  have hi:=drop_cons_lt h
  have hk2:es.length<k:=Nat.lt_of_succ_lt_succ hk
  have key:=fun (_:Unit)=>ih (i+1) k (drop_cons_next h) hk2
  generalize lp law0_SameInts_L0 k=rec at key ⊢
  unfold law0_SameInts_L0 law0_SameInts_L0_go
  simp only[lt_true hi,cond_true,gx_nat,drop_cons_get h,Option.bind_some,wrap_i1 hi hl,key ()]
theorem law0_SameInts_L0_go_at0 (s0:(List Int)) (s1:(List Int)) (hl:List.length s0≤maxLen):lp law0_SameInts_L0 fuel (s0,s1,0)=law0_SameInts_L0_go s1 s0 0 :=
 law0_SameInts_L0_go_eq s0 s1 hl s0 0 fuel rfl (Nat.lt_of_le_of_lt hl (by decide))
def law0_SameLits_L0_go (s1:(List QLit)):List QLit→Nat→Option (Unit⊕Bool)
 | [],i=>some (Sum.inl ())
 | e::es,i =>
  (gx s1 (i:Int)).bind fun e7 =>
  cond (!(e.1==e7.1))
  (some (Sum.inr false))
  ((gx s1 (i:Int)).bind fun e9 =>
   (law0_SameInts e.2 e9.2).bind fun r10 =>
   cond (!r10)
   (some (Sum.inr false))
   (law0_SameLits_L0_go s1 es (i+1)))
theorem law0_SameLits_L0_go_eq (s0:(List QLit)) (s1:(List QLit)) (hl:List.length s0≤maxLen):∀(es:List QLit) (i:Nat) (k:Nat),s0.drop i=es→es.length<k→lp law0_SameLits_L0 k (s0,s1,(i:Int))=law0_SameLits_L0_go s1 es i:=by
 intro es
 induction es with
 | nil =>
  intro i k h hk
  obtain⟨k,rfl⟩:∃ k',k=k'+1:=⟨k - 1,by omega⟩
  rw[lp_succ]
  generalize lp law0_SameLits_L0 k=rec
  unfold law0_SameLits_L0 law0_SameLits_L0_go
  simp only[lt_false (drop_nil_le h),cond_false]
 | cons e es ih =>
  intro i k h hk
  obtain⟨k,rfl⟩:∃ k',k=k'+1:=⟨k - 1,by omega⟩
  rw[lp_succ]
  have hi:=drop_cons_lt h
  have hk2:es.length<k:=Nat.lt_of_succ_lt_succ hk
  have key:=fun (_:Unit)=>ih (i+1) k (drop_cons_next h) hk2
  generalize lp law0_SameLits_L0 k=rec at key ⊢
  unfold law0_SameLits_L0 law0_SameLits_L0_go
  simp only[lt_true hi,cond_true,gx_nat,drop_cons_get h,Option.bind_some,wrap_i1 hi hl,key ()]
theorem law0_SameLits_L0_go_at0 (s0:(List QLit)) (s1:(List QLit)) (hl:List.length s0≤maxLen):lp law0_SameLits_L0 fuel (s0,s1,0)=law0_SameLits_L0_go s1 s0 0 :=
 law0_SameLits_L0_go_eq s0 s1 hl s0 0 fuel rfl (Nat.lt_of_le_of_lt hl (by decide))
def law0_SameRows_L0_go (s1:(List (List Int))):List (List Int)→Nat→Option (Unit⊕Bool)
 | [],i=>some (Sum.inl ())
 | e::es,i =>
  (gx s1 (i:Int)).bind fun e5 =>
  (law0_SameInts e e5).bind fun r6 =>
  cond (!r6)
  (some (Sum.inr false))
  (law0_SameRows_L0_go s1 es (i+1))
theorem law0_SameRows_L0_go_eq (s0:(List (List Int))) (s1:(List (List Int))) (hl:List.length s0≤maxLen):∀(es:List (List Int)) (i:Nat) (k:Nat),s0.drop i=es→es.length<k→lp law0_SameRows_L0 k (s0,s1,(i:Int))=law0_SameRows_L0_go s1 es i:=by
 intro es
 induction es with
 | nil =>
  intro i k h hk
  obtain⟨k,rfl⟩:∃ k',k=k'+1:=⟨k - 1,by omega⟩
  rw[lp_succ]
  generalize lp law0_SameRows_L0 k=rec
  unfold law0_SameRows_L0 law0_SameRows_L0_go
  simp only[lt_false (drop_nil_le h),cond_false]
 | cons e es ih =>
  intro i k h hk
  obtain⟨k,rfl⟩:∃ k',k=k'+1:=⟨k - 1,by omega⟩
  rw[lp_succ]
  have hi:=drop_cons_lt h
  have hk2:es.length<k:=Nat.lt_of_succ_lt_succ hk
  have key:=fun (_:Unit)=>ih (i+1) k (drop_cons_next h) hk2
  generalize lp law0_SameRows_L0 k=rec at key ⊢
  unfold law0_SameRows_L0 law0_SameRows_L0_go
  simp only[lt_true hi,cond_true,gx_nat,drop_cons_get h,Option.bind_some,wrap_i1 hi hl,key ()]
theorem law0_SameRows_L0_go_at0 (s0:(List (List Int))) (s1:(List (List Int))) (hl:List.length s0≤maxLen):lp law0_SameRows_L0 fuel (s0,s1,0)=law0_SameRows_L0_go s1 s0 0 :=
 law0_SameRows_L0_go_eq s0 s1 hl s0 0 fuel rfl (Nat.lt_of_le_of_lt hl (by decide))
end Go.Abs.Q
namespace Go.Abs.Q
open Go Go.Abs
section
def smallB (n:Int):Bool:=decide (97≤n)&&decide (n≤122)
theorem sign_small_eq (n:Int):sign_small n=some (smallB n):=by
 unfold sign_small smallB
 by_cases h:n≥97<;>simp [h]
def nameB (e:UInt8):Bool:=smallB ((UInt8.toNat e:Nat):Int)||(decide (48≤((UInt8.toNat e:Nat):Int))&&decide (((UInt8.toNat e:Nat):Int)≤57))
theorem called_go (es:List UInt8):sign_called_L0_go es=some (cond (es.all nameB) (.inl ()) (.inr false)):=by
 induction es with
 | nil=>rfl
 | cons e es ih =>
  unfold sign_called_L0_go
  rw[sign_small_eq,Option.bind_some,ih,List.all_cons]
  unfold nameB
  cases h:smallB ((UInt8.toNat e:Nat):Int) with
  | true=>simp
  | false =>
   by_cases h1:((UInt8.toNat e:Nat):Int)<48
   ·have:¬(48≤((UInt8.toNat e:Nat):Int)):=by omega
    simp only[Bool.not_false,cond_true,decide_eq_true h1,decide_eq_false this,Bool.false_and,Bool.or_false,cond_false]
   ·have h3:48≤((UInt8.toNat e:Nat):Int):=by omega
    by_cases h2:((UInt8.toNat e:Nat):Int)>57
    ·have:¬(((UInt8.toNat e:Nat):Int)≤57):=by omega
     simp only[Bool.not_false,cond_true,decide_eq_false h1,decide_eq_true h2,decide_eq_false this,Bool.and_false,Bool.false_and,Bool.or_false,cond_false]
    ·have h4:((UInt8.toNat e:Nat):Int)≤57:=by omega
     simp only[Bool.not_false,cond_true,decide_eq_false h1,decide_eq_false h2,decide_eq_true h3,decide_eq_true h4,Bool.and_true,Bool.true_and,Bool.or_true,cond_false]
def calledB (s:Str):Bool:=match s with
 | []=>false
 | c::_=>decide (s.length≤8)&&smallB ((UInt8.toNat c:Nat):Int)&&s.all nameB
theorem sign_called_eq (s:Str):sign_called s=some (calledB s):=by
 unfold sign_called calledB
 cases s with
 | nil=>rfl
 | cons c r =>
  rw[show ((c::r:Str)==([]:Str))=false from rfl,cond_false]
  by_cases h:(c::r).length≤8
  ·have h1:¬(((List.length (c::r):Nat):Int)>8):=by omega
   rw[decide_eq_false h1,cond_false,gx_zero,List.getElem?_cons_zero,Option.bind_some,sign_small_eq,Option.bind_some,sign_called_L0_go_at0 _ (by unfold maxLen; omega),called_go,decide_eq_true h]
   dsimp only
   cases smallB ((UInt8.toNat c:Nat):Int) with
   | false=>rfl
   | true=>cases (c::r).all nameB<;>rfl
  ·have h1:((List.length (c::r):Nat):Int)>8:=by omega
   rw[decide_eq_true h1,decide_eq_false h]
   rfl
def symB (e:QSym):Bool:=calledB e.1&&decide (0≤e.2.1)&&decide (e.2.1≤2)&&decide (0≤e.2.2.1)&&decide (e.2.2.1≤3)&&decide (1≤e.2.2.2)&&decide (e.2.2.2≤20)
theorem sign_SymMay_eq (e:QSym):sign_SymMay e.1 e.2.1 e.2.2.1 e.2.2.2=some (symB e):=by
 unfold sign_SymMay symB
 rw[sign_called_eq,Option.bind_some]
 cases calledB e.1<;>simp only[cond_true,cond_false,Bool.true_and,Bool.false_and,ge_iff_le]
 cases decide (0≤e.2.1)<;>simp only[cond_true,cond_false,Bool.true_and,Bool.false_and]
 cases decide (e.2.1≤2)<;>simp only[cond_true,cond_false,Bool.true_and,Bool.false_and]
 cases decide (0≤e.2.2.1)<;>simp only[cond_true,cond_false,Bool.true_and,Bool.false_and]
 cases decide (e.2.2.1≤3)<;>simp only[cond_true,cond_false,Bool.true_and,Bool.false_and]
 cases decide (1≤e.2.2.2)<;>simp only[cond_true,cond_false,Bool.true_and,Bool.false_and]
def idxI (o:Option Nat):Int:=match o with
 | some i=>(i:Int)
 | none => -1
theorem find_go (nm:Str) (es:List QSym) (i:Nat):sign_find_L0_go nm es i=some (match es.findIdx? (fun e=>e.1==nm) with
  | some j=>.inr ((i+j:Nat):Int)
  | none=>.inl ()):=by
 induction es generalizing i with
 | nil=>rfl
 | cons e es ih =>
  unfold sign_find_L0_go
  rw[List.findIdx?_cons]
  cases h:(e.1==nm) with
  | true=>simp
  | false =>
   rw[cond_false,ih]
   cases es.findIdx? (fun e=>e.1==nm) with
   | none=>rfl
   | some j=>simp; omega
theorem sign_find_eq (a0:List QSym) (nm:Str) (h:a0.length≤maxLen):sign_find a0 nm=some (idxI (a0.findIdx? (fun e=>e.1==nm))):=by
 unfold sign_find
 rw[sign_find_L0_go_at0 _ _ h,find_go]
 cases a0.findIdx? (fun e=>e.1==nm) with
 | none=>rfl
 | some j=>simp [caseS,idxI]
def mayGo (a0:List QSym):List QSym→Nat→Bool
 | [],_=>true
 | e::es,i=>symB e&&(idxI (a0.findIdx? (fun d=>d.1==e.1))==(i:Int))&&mayGo a0 es (i+1)
theorem may_go (a0:List QSym) (h:a0.length≤maxLen) (es:List QSym) (i:Nat):sign_May_L0_go a0 es i=some (cond (mayGo a0 es i) (.inl ()) (.inr false)):=by
 induction es generalizing i with
 | nil=>rfl
 | cons e es ih =>
  unfold sign_May_L0_go mayGo
  rw[sign_SymMay_eq,Option.bind_some,sign_find_eq _ _ h,Option.bind_some,ih,bne]
  cases symB e with
  | false=>rfl
  | true =>
   cases (idxI (a0.findIdx? (fun d=>d.1==e.1))==(i:Int)) with
   | false=>rfl
   | true=>simp
def equalsQ:QSym:=([61],0,2,1)
def eqQ (e:QSym):Bool:=cond (eqS e.1 [61]) (cond (eqI e.2.1 0) (cond (eqI e.2.2.1 2) (cond (eqI e.2.2.2 1) true false) false) false) false
theorem eqQ_iff (e:QSym):eqQ e=true↔e=equalsQ:=by
 obtain⟨a,b,c,d⟩:=e
 unfold eqQ equalsQ eqS eqI
 cases h1:(a==([61]:List UInt8))<;>cases h2:(b==0)<;>cases h3:(c==2)<;>cases h4:(d==1)<;>simp_all
def signB (a0:List QSym):Bool:=match a0 with
 | []=>false
 | e::es=>decide (a0.length≤20)&&eqQ e&&mayGo a0 es 1
theorem sign_May_eq (a0:List QSym):sign_May a0=some (signB a0):=by
 unfold sign_May signB
 cases a0 with
 | nil=>rfl
 | cons e es =>
  rw[decide_eq_false (show ¬(((List.length (e::es):Nat):Int)<1) by rw[List.length_cons]; omega),cond_false]
  by_cases h:(e::es).length≤20
  ·have h1:¬(((List.length (e::es):Nat):Int)>20):=by omega
   have hm:(e::es).length≤maxLen:=by unfold maxLen; omega
   rw[decide_eq_false h1,cond_false,gx_zero,List.getElem?_cons_zero,Option.bind_some,decide_eq_true h]
   show cond (!(eqQ e)) _ _=some (true&&eqQ e&&mayGo (e::es) es 1)
   cases eqQ e with
   | false=>rfl
   | true =>
    have:=sign_May_L0_go_eq (e::es) hm es 1 fuel rfl (by simp [fuel]; simp at h; omega)
    simp only[Bool.not_true,cond_false]
    rw[show ((1:Int))=((1:Nat):Int) from rfl,this,may_go _ hm]
    cases mayGo (e::es) es 1<;>rfl
  ·have h1:((List.length (e::es):Nat):Int)>20:=by omega
   rw[decide_eq_true h1,decide_eq_false h]
   rfl
theorem mayGo_at {a0:List QSym}:{es:List QSym}→{i:Nat}→mayGo a0 es i=true→∀(j:Nat) e,es[j]? = some e→symB e=true∧idxI (a0.findIdx? (fun d=>d.1==e.1))=((i+j:Nat):Int)
 | [],_,_,j,e,he=>by simp at he
 | d::es,i,h,0,e,he=>by
  injection he with he; subst he
  simp only[mayGo,Bool.and_eq_true] at h
  exact ⟨h.1.1,by simpa using h.1.2⟩
 | d::es,i,h,j+1,e,he=>by
  simp only[mayGo,Bool.and_eq_true] at h
  have:=mayGo_at h.2 j e (by simpa using he)
  exact ⟨this.1,by rw[this.2]; omega⟩
structure SignOk (a0:List QSym):Prop where
 pos:1≤a0.length
 len:a0.length≤20
 eq:a0[0]? = some equalsQ
 sym:∀(i:Nat) e,a0[i+1]? = some e→symB e=true∧idxI (a0.findIdx? (fun d=>d.1==e.1))=((i+1:Nat):Int)
theorem signB_ok {a0:List QSym} (h:signB a0=true):SignOk a0:=by
 unfold signB at h
 cases a0 with
 | nil=>cases h
 | cons e es =>
  simp only[Bool.and_eq_true,decide_eq_true_eq] at h
  exact ⟨by simp,h.1.1,by rw[List.getElem?_cons_zero,(eqQ_iff e).1 h.1.2],fun i d hd=>by
   have:=mayGo_at h.2 i d (by simpa using hd)
   exact ⟨this.1,by rw[this.2]; omega⟩⟩
theorem SignOk.max {a0:List QSym} (h:SignOk a0):a0.length≤maxLen:=Nat.le_trans h.len (by unfold maxLen; omega)
theorem symB_spec {e:QSym} (h:symB e=true):calledB e.1=true∧0≤e.2.1∧e.2.1≤2∧0≤e.2.2.1∧e.2.2.1≤3∧1≤e.2.2.2∧e.2.2.2≤20:=by
 unfold symB at h
 simp only[Bool.and_eq_true,decide_eq_true_eq] at h
 exact ⟨h.1.1.1.1.1.1,h.1.1.1.1.1.2,h.1.1.1.1.2,h.1.1.1.2,h.1.1.2,h.1.2,h.2⟩
theorem calledB_len {s:Str} (h:calledB s=true):1≤s.length∧s.length≤8:=by
 unfold calledB at h
 cases s with
 | nil=>cases h
 | cons c r =>
  simp only[Bool.and_eq_true,decide_eq_true_eq] at h
  exact ⟨by simp,h.1.1⟩
theorem SignOk.at {a0:List QSym} (h:SignOk a0) {i:Nat} {e:QSym} (he:a0[i]? = some e):1≤e.1.length∧e.1.length≤8∧0≤e.2.1∧e.2.1≤2∧0≤e.2.2.1∧e.2.2.1≤3:=by
 cases i with
 | zero =>
  rw[h.eq] at he
  injection he with he; subst he
  decide
 | succ i =>
  obtain⟨h1,h2,h3,h4,h5,_⟩:=symB_spec (h.sym i e he).1
  have:=calledB_len h1
  exact ⟨this.1,this.2,h2,h3,h4,h5⟩
def arity (a0:List QSym) (x:Int):Option Nat :=
 cond (decide (x<0)) (cond (decide (-24≤x)) (some 0) none) (match a0[x.toNat]? with
  | some e=>cond (e.2.1==0) none (some e.2.2.1.toNat)
  | none=>none)
def nOk (o:Option Nat):Int×Bool:=match o with
 | some k=>((k:Int),true)
 | none=>(0,false)
theorem term_Number_eq {x:Int} (h1 : -9223372036854775808≤x) (h2:x≤9223372036854775807):term_Number x=some (-1 - x):=by
 unfold term_Number
 rw[wrap64]<;>omega
theorem term_args_eq {a0:List QSym} (h:SignOk a0) (x:Int):term_args a0 x=some (nOk (arity a0 x)):=by
 unfold term_args arity
 by_cases h0:x<0
 ·rw[decide_eq_true h0,cond_true,cond_true,term_Number_eq (by omega) (by omega),Option.bind_some]
  by_cases h1 : -24≤x
  ·rw[decide_eq_true h1,decide_eq_true (show x ≥ -1 - 23 by omega)]; rfl
  ·rw[decide_eq_false h1,decide_eq_false (show ¬(x ≥ -1 - 23) by omega)]; rfl
 ·rw[decide_eq_false h0,cond_false,cond_false]
  by_cases h1:x≥((List.length a0:Nat):Int)
  ·rw[decide_eq_true h1,cond_true,List.getElem?_eq_none (by omega)]; rfl
  ·obtain⟨e,he1,he2,he3⟩:=gx_at (xs:=a0) (i:=x) (by omega) (by omega)
   have:=h.at he3
   rw[decide_eq_false h1,cond_false,he1,Option.bind_some,he3]
   cases he:(e.2.1==0) with
   | true=>simp only[he,cond_true]; rfl
   | false =>
    simp only[he,cond_false,Option.bind_some]
    unfold nOk
    simp only[Option.some.injEq,Prod.mk.injEq,and_true]
    omega
theorem arity_le {a0:List QSym} (h:SignOk a0) {x:Int} {k:Nat} (hk:arity a0 x=some k):k≤3:=by
 unfold arity at hk
 by_cases h0:x<0
 ·rw[decide_eq_true h0,cond_true] at hk
  by_cases h1 : -24≤x
  ·rw[decide_eq_true h1] at hk; injection hk with hk; omega
  ·rw[decide_eq_false h1] at hk; cases hk
 ·rw[decide_eq_false h0,cond_false] at hk
  cases he:a0[x.toNat]? with
  | none=>rw[he] at hk; cases hk
  | some e =>
   rw[he] at hk
   have:=h.at he
   simp only at hk
   cases hz:(e.2.1==0) with
   | true=>rw[hz] at hk; cases hk
   | false=>rw[hz] at hk; injection hk with hk; omega
def sk (a0:List QSym):Nat→List Int→Option Nat
 | 0,_=>some 0
 | _+1,[]=>none
 | n+1,x::xs=>match arity a0 x with
  | none=>none
  | some k=>(sk a0 (n+k) xs).map (· + 1)
theorem sk_le {a0:List QSym}:{xs:List Int}→{n k:Nat}→sk a0 n xs=some k→k≤xs.length∧(0<n→0<k)∧n≤k
 | [],0,k,h=>by simp [sk] at h; omega
 | [],n+1,k,h=>by simp [sk] at h
 | x::xs,0,k,h=>by simp [sk] at h; omega
 | x::xs,n+1,k,h=>by
  unfold sk at h
  cases ha:arity a0 x with
  | none=>rw[ha] at h; cases h
  | some m =>
   rw[ha] at h
   simp only[Option.map_eq_some_iff] at h
   obtain⟨j,hj,rfl⟩:=h
   have:=sk_le hj
   rw[List.length_cons]
   omega
theorem skip_round {a0:List QSym} (h:SignOk a0) (a1:List Int) (hl:a1.length≤1099511627776):∀(m i n:Nat) (k:Nat),a1.length - i=m→0<n→n≤1+3*i→m<k →
  lp term_Skip_L0 k (a0,a1,(i:Int),(n:Int))=some (match sk a0 n (a1.drop i) with
   | some j=>(((i+j:Nat):Int),true)
   | none=>(0,false)):=by
 intro m
 induction m with
 | zero =>
  intro i n k hm hn hni hk
  obtain⟨k,rfl⟩:∃ k',k=k'+1:=⟨k - 1,by omega⟩
  rw[lp_succ]
  generalize lp term_Skip_L0 k=rec
  unfold term_Skip_L0
  simp only[decide_eq_true (show ((i:Int)≥((List.length a1:Nat):Int)) by omega),cond_true,List.drop_eq_nil_iff.2 (show a1.length≤i by omega)]
  obtain⟨n,rfl⟩:∃ n',n=n'+1:=⟨n - 1,by omega⟩
  rfl
 | succ m ih =>
  intro i n k hm hn hni hk
  obtain⟨k,rfl⟩:∃ k',k=k'+1:=⟨k - 1,by omega⟩
  have hi:i<a1.length:=by omega
  rw[lp_succ]
  have key:=fun n' h1 h2=>ih (i+1) n' k (by omega) h1 h2 (by omega)
  generalize lp term_Skip_L0 k=rec at key ⊢
  unfold term_Skip_L0
  obtain⟨n,rfl⟩:∃ n',n=n'+1:=⟨n - 1,by omega⟩
  simp only[decide_eq_false (show ¬((i:Int)≥((List.length a1:Nat):Int)) by omega),cond_false,gx_nat,List.getElem?_eq_getElem hi,Option.bind_some,term_args_eq h,List.drop_eq_getElem_cons hi,sk]
  cases ha:arity a0 a1[i] with
  | none=>simp [nOk]
  | some q =>
   have hq:=arity_le h ha
   have e1:IntKind.wrap .i64 ((q:Int) - 1)=(q:Int) - 1:=wrap64 (by omega) (by omega)
   have e2:IntKind.wrap .i64 (((n+1:Nat):Int)+((q:Int) - 1))=((n+q:Nat):Int):=by rw[wrap64]<;>omega
   have e3:IntKind.wrap .i64 ((i:Int)+1)=((i+1:Nat):Int):=by rw[wrap64]<;>omega
   simp only[nOk,Bool.not_true,cond_false,e1,e2,e3]
   by_cases hp:0<n+q
   ·rw[decide_eq_true (show ((n+q:Nat):Int)>0 by omega),cond_true,key _ hp (by omega)]
    cases sk a0 (n+q) (a1.drop (i+1)) with
    | none=>rfl
    | some j=>simp only[Option.map_some]; rw[show i+1+j=i+(j+1) from by omega]
   ·rw[decide_eq_false (show ¬(((n+q:Nat):Int)>0) by omega),cond_false]
    have:n+q=0:=by omega
    rw[this]
    simp [sk]
theorem term_Skip_eq {a0:List QSym} (h:SignOk a0) (a1:List Int) (hl:a1.length≤1099511627776) (i:Nat):term_Skip a0 a1 (i:Int)=some (match sk a0 1 (a1.drop i) with
   | some j=>(((i+j:Nat):Int),true)
   | none=>(0,false)):=by
 unfold term_Skip
 by_cases hi:i<a1.length
 ·simp only[decide_eq_false (show ¬((i:Int)≥((List.length a1:Nat):Int)) by omega),cond_false,gx_nat,List.getElem?_eq_getElem hi,Option.bind_some,term_args_eq h,List.drop_eq_getElem_cons hi,sk]
  cases ha:arity a0 a1[i] with
  | none=>simp [nOk]
  | some q =>
   have hq:=arity_le h ha
   have e1:IntKind.wrap .i64 ((q:Int) - 1)=(q:Int) - 1:=wrap64 (by omega) (by omega)
   have e2:IntKind.wrap .i64 (1+((q:Int) - 1))=((q:Nat):Int):=by rw[wrap64]<;>omega
   have e3:IntKind.wrap .i64 ((i:Int)+1)=((i+1:Nat):Int):=by rw[wrap64]<;>omega
   simp only[nOk,Bool.not_true,cond_false,e1,e2,e3]
   by_cases hp:0<q
   ·rw[decide_eq_true (show (q:Int)>0 by omega),cond_true,skip_round h a1 hl (a1.length - (i+1)) (i+1) q fuel rfl hp (by omega) (by unfold fuel; omega),Nat.zero_add]
    cases sk a0 q (a1.drop (i+1)) with
    | none=>rfl
    | some j=>simp only[Option.map_some,Option.bind_some]; rw[show i+1+j=i+(j+1) from by omega]
   ·rw[decide_eq_false (show ¬((q:Int)>0) by omega),cond_false]
    have:q=0:=by omega
    subst this
    simp [sk]
 ·simp only[decide_eq_true (show ((i:Int)≥((List.length a1:Nat):Int)) by omega),cond_true,List.drop_eq_nil_iff.2 (show a1.length≤i by omega)]
  rfl
end
end Go.Abs.Q
namespace Go.Abs.Q
open Go Go.Abs
section
def cutsN (a0:List QSym):Nat→List Int→Option (List (List Int))
 | _,[]=>some []
 | 0,_::_=>none
 | n+1,x::xs=>match sk a0 1 (x::xs) with
  | none=>none
  | some k=>(cutsN a0 n ((x::xs).drop k)).map ((x::xs).take k :: ·)
def cuts (a0:List QSym) (xs:List Int):Option (List (List Int)):=cutsN a0 xs.length xs
theorem cutsN_more {a0:List QSym}:{n m:Nat}→{xs:List Int}→xs.length≤n→n≤m→cutsN a0 m xs=cutsN a0 n xs
 | n,m,[],_,_=>by cases n<;>cases m<;>rfl
 | 0,_,_::_,h,_=>by simp at h
 | n+1,0,_::_,_,h=>by omega
 | n+1,m+1,x::xs,h,hm=>by
  unfold cutsN
  cases hk:sk a0 1 (x::xs) with
  | none=>rfl
  | some k =>
   have:=sk_le hk
   simp only
   rw[cutsN_more (n:=n) (m:=m) (by simp at h ⊢; omega) (by omega)]
theorem cuts_nil (a0:List QSym):cuts a0 []=some []:=rfl
theorem cuts_step {a0:List QSym} {xs:List Int} (h:xs≠[]):cuts a0 xs=match sk a0 1 xs with
  | none=>none
  | some k=>(cuts a0 (xs.drop k)).map (xs.take k :: ·):=by
 cases xs with
 | nil=>exact absurd rfl h
 | cons x xs =>
  show cutsN a0 (xs.length+1) (x::xs)=_
  unfold cutsN
  cases hk:sk a0 1 (x::xs) with
  | none=>rfl
  | some k =>
   have:=sk_le hk
   simp only
   unfold cuts
   rw[cutsN_more (n:=((x::xs).drop k).length) (m:=xs.length) (Nat.le_refl _) (by simp; omega)]
theorem sk_take {a0:List QSym}:{xs:List Int}→{n k:Nat}→sk a0 n xs=some k→sk a0 n (xs.take k)=some k
 | [],0,k,h=>by simp [sk] at h; subst h; rfl
 | [],n+1,k,h=>by simp [sk] at h
 | x::xs,0,k,h=>by simp [sk] at h; subst h; rfl
 | x::xs,n+1,k,h=>by
  unfold sk at h
  cases ha:arity a0 x with
  | none=>rw[ha] at h; cases h
  | some m =>
   rw[ha] at h
   simp only[Option.map_eq_some_iff] at h
   obtain⟨j,hj,rfl⟩:=h
   rw[List.take_succ_cons]
   unfold sk
   rw[ha]
   simp only[sk_take hj,Option.map_some]
theorem cuts_flat {a0:List QSym}:∀(n:Nat) (xs:List Int) (ps:List (List Int)),xs.length≤n→cuts a0 xs=some ps→ps.flatten=xs∧∀ p∈ps,p≠[]∧sk a0 1 p=some p.length:=by
 intro n
 induction n with
 | zero =>
  intro xs ps h hc
  obtain rfl:xs=[]:=List.length_eq_zero_iff.1 (by omega)
  injection hc with hc; subst hc
  exact ⟨rfl,fun p hp=>by cases hp⟩
 | succ n ih =>
  intro xs ps h hc
  by_cases hx:xs=[]
  ·subst hx
   injection hc with hc; subst hc
   exact ⟨rfl,fun p hp=>by cases hp⟩
  ·rw[cuts_step hx] at hc
   cases hk:sk a0 1 xs with
   | none=>rw[hk] at hc; cases hc
   | some k =>
    rw[hk] at hc
    simp only[Option.map_eq_some_iff] at hc
    obtain⟨qs,hq,rfl⟩:=hc
    have hle:=sk_le hk
    obtain⟨h1,h2⟩:=ih _ qs (by simp; omega) hq
    refine ⟨by rw[List.flatten_cons,h1,List.take_append_drop],fun p hp => ?_⟩
    rcases List.mem_cons.1 hp with rfl | hp
    ·have hl:(xs.take k).length=k:=by simp; omega
     exact ⟨fun e=>by rw[e] at hl; simp at hl; omega,by rw[hl]; exact sk_take hk⟩
    ·exact h2 p hp
def startsOf:Nat→List (List Int)→List Int
 | _,[]=>[]
 | i,p::ps=>(i:Int)::startsOf (i+p.length) ps
theorem startsOf_len:(i:Nat)→(ps:List (List Int))→(startsOf i ps).length=ps.length
 | _,[]=>rfl
 | i,p::ps=>by simp [startsOf,startsOf_len (i+p.length) ps]
theorem room_ok {n b:Nat} (h:n*b≤140737488351232):room n b=true:=by simpa[room] using h
theorem begins_round {a0:List QSym} (h:SignOk a0) (a1:List Int) (hl:a1.length≤1099511627776):∀(m i:Nat) (acc:List Int) (k:Nat),a1.length - i=m→i≤a1.length→acc.length≤i→m<k →
  lp term_begins_L0 k (a0,a1,(i:Int),acc)=some (match cuts a0 (a1.drop i) with
   | some ps=>(true,acc++startsOf i ps)
   | none=>(false,[])):=by
 intro m
 induction m using Nat.strongRecOn with
 | _ m ih =>
  intro i acc k hm hi hacc hk
  obtain⟨k,rfl⟩:∃ k',k=k'+1:=⟨k - 1,by omega⟩
  rw[lp_succ]
  have key:=fun j acc' (h1:i<j) h2 h3=>ih (a1.length - j) (by omega) j acc' k rfl h2 h3 (by omega)
  generalize lp term_begins_L0 k=rec at key ⊢
  unfold term_begins_L0
  by_cases he:i=a1.length
  ·subst he
   simp [cuts_nil,startsOf]
  ·have hlt:i<a1.length:=by omega
   have hne:a1.drop i≠[]:=by simp; omega
   simp only[show (((i:Int))==((List.length a1:Nat):Int))=false from by simp; omega,cond_false,term_Skip_eq h a1 hl,Option.bind_some,cuts_step hne]
   cases hs:sk a0 1 (a1.drop i) with
   | none=>rfl
   | some j =>
    have hj:=sk_le hs
    rw[List.length_drop] at hj
    simp only[Bool.not_true,cond_false,List.length_singleton,room_ok (show (acc.length+1)*8≤140737488351232 by omega),cond_true]
    rw[key (i+j) _ (by omega) (by omega) (by simp; omega),List.drop_drop]
    cases cuts a0 (a1.drop (i+j)) with
    | none=>rfl
    | some ps =>
     simp only[Option.map_some,startsOf]
     rw[List.length_take,List.length_drop,Nat.min_eq_left (by omega)]
     simp
def beginsB (a0:List QSym) (a1:List Int):Option (List (List Int)):=cond (signB a0&&decide (a1.length≤48)) (cuts a0 a1) none
theorem term_begins_eq (a0:List QSym) (a1:List Int):term_begins a0 a1=some (match beginsB a0 a1 with
  | some ps=>(true,startsOf 0 ps)
  | none=>(false,[])):=by
 unfold term_begins beginsB
 rw[sign_May_eq,Option.bind_some]
 cases hs:signB a0 with
 | false=>rfl
 | true =>
  have h:=signB_ok hs
  by_cases hl:a1.length≤48
  ·simp only[Bool.not_true,cond_false,decide_eq_false (show ¬(((List.length a1:Nat):Int)>48) by omega),decide_eq_true hl,Bool.and_true,cond_true]
   by_cases h0:a1=[]
   ·subst h0; rfl
   ·have hpos:0<a1.length:=List.length_pos_iff.2 h0
    simp only[show ((0:Int)==((List.length a1:Nat):Int))=false from by simp; omega,cond_false]
    have e:=term_Skip_eq h a1 (by omega) 0
    rw[show ((0:Nat):Int)=0 from rfl] at e
    rw[e,Option.bind_some,List.drop_zero,cuts_step h0]
    cases hk:sk a0 1 a1 with
    | none=>rfl
    | some j =>
     have hj:=sk_le hk
     simp only[Bool.not_true,cond_false,Nat.zero_add,List.length_singleton,room_ok (show 1*8≤140737488351232 by omega),cond_true]
     rw[begins_round h a1 (by omega) (a1.length - j) j [0] fuel rfl (by omega) (by simp; omega) (by unfold fuel; omega)]
     cases cuts a0 (a1.drop j) with
     | none=>rfl
     | some ps=>simp [startsOf,Nat.min_eq_left hj.1]
  ·simp only[Bool.not_true,cond_false,decide_eq_true (show (((List.length a1:Nat):Int)>48) by omega),decide_eq_false hl,Bool.and_false,cond_true]
def atomB (a0:List QSym) (xs:List Int):Bool:=match xs with
 | []=>false
 | x::r=>decide (0≤x)&&(match a0[x.toNat]? with
  | none=>false
  | some e=>(e.2.1==0)&&(match beginsB a0 r with
   | none=>false
   | some ps=>((ps.length:Nat):Int)==e.2.2.1))
theorem slc_tail {α:Type} (x:α) (r:List α):slc2 (x::r) (some 1) none=some r:=by
 show slc (x::r) 1 ((x::r).length:Int)=some r
 unfold slc
 simp only[List.length_cons]
 rw[decide_eq_true (show (0:Int)≤1 by omega),decide_eq_true (show (1:Int)≤((r.length+1:Nat):Int) by omega),decide_eq_true (show ((r.length+1:Nat):Int)≤((r.length+1:Nat):Int) by omega)]
 simp
theorem term_IsAtom_eq (a0:List QSym) (xs:List Int):term_IsAtom a0 xs=some (atomB a0 xs):=by
 unfold term_IsAtom atomB
 cases xs with
 | nil=>rfl
 | cons x r =>
  simp only[show ((((x::r).length:Nat):Int)==0)=false from by simp; omega,cond_false,gx_zero,List.getElem?_cons_zero,Option.bind_some]
  by_cases h0:x<0
  ·rw[decide_eq_true h0,decide_eq_false (show ¬(0≤x) by omega)]; rfl
  ·rw[decide_eq_false h0,decide_eq_true (show 0≤x by omega),cond_false,Bool.true_and]
   by_cases h1:x≥((List.length a0:Nat):Int)
   ·rw[decide_eq_true h1,List.getElem?_eq_none (by omega)]; rfl
   ·obtain⟨e,he1,he2,he3⟩:=gx_at (xs:=a0) (i:=x) (by omega) (by omega)
    simp only[decide_eq_false h1,cond_false,he1,he3,Option.bind_some,bne]
    cases hk:(e.2.1==0) with
    | false=>rfl
    | true =>
     simp only[Bool.not_true,cond_false,slc_tail,Option.bind_some,term_begins_eq,Bool.true_and]
     cases beginsB a0 r with
     | none=>rfl
     | some ps=>simp [startsOf_len]
def sumLen (xs:List (List Int)):Nat:=(xs.map List.length).sum
def litsB (a0:List QSym) (ls:List QLit):Bool:=ls.all fun l=>atomB a0 l.2
theorem atomB_len {a0:List QSym} {xs:List Int} (h:atomB a0 xs=true):xs.length≤49:=by
 unfold atomB at h
 cases xs with
 | nil=>cases h
 | cons x r =>
  simp only[Bool.and_eq_true] at h
  cases he:a0[x.toNat]? with
  | none=>rw[he] at h; simp at h
  | some e =>
   rw[he] at h
   simp only[Bool.and_eq_true] at h
   cases hb:beginsB a0 r with
   | none=>rw[hb] at h; simp at h
   | some ps =>
    unfold beginsB at hb
    cases hl:decide (r.length≤48) with
    | false=>rw[hl,Bool.and_false] at hb; cases hb
    | true=>rw[decide_eq_true_eq] at hl; simp; omega
theorem lits_go (a0:List QSym):(es:List QLit)→(t:Nat)→t+49*es.length≤1099511627776→clause_litsMay_L0_go a0 es (t:Int)=some (cond (litsB a0 es) (.inl ((t+sumLen (es.map (·.2)):Nat):Int)) (.inr (0,false)))
 | [],t,_=>by simp [clause_litsMay_L0_go,litsB,sumLen]
 | e::es,t,h=>by
  unfold clause_litsMay_L0_go lit_May litsB
  rw[term_IsAtom_eq,Option.bind_some,Option.bind_some,List.all_cons]
  cases ha:atomB a0 e.2 with
  | false=>rfl
  | true =>
   have hl:=atomB_len ha
   rw[List.length_cons] at h
   have e1:IntKind.wrap .i64 ((t:Int)+((List.length e.2:Nat):Int))=((t+e.2.length:Nat):Int):=by rw[wrap64]<;>omega
   rw[e1]
   have:=lits_go a0 es (t+e.2.length) (by omega)
   unfold litsB at this
   simp only[Bool.not_true,cond_false,Bool.true_and,this]
   rw[show t+e.2.length+sumLen (es.map (·.2))=t+sumLen ((e::es).map (·.2)) from by simp [sumLen]; omega]
theorem clause_litsMay_eq (a0:List QSym) (ls:List QLit) (h:ls.length≤1000000000):clause_litsMay a0 ls=some (cond (litsB a0 ls) (((sumLen (ls.map (·.2)):Nat):Int),true) (0,false)):=by
 unfold clause_litsMay
 rw[clause_litsMay_L0_go_at0 _ _ _ (by unfold maxLen; omega),show ((0:Int))=((0:Nat):Int) from rfl,lits_go a0 ls 0 (by omega)]
 cases litsB a0 ls with
 | false=>rfl
 | true=>simp [caseS]
def rowW (a0:List QSym) (xs:List Int):Option Nat:=(beginsB a0 xs).map List.length
theorem term_Row_eq (a0:List QSym) (xs:List Int):term_Row a0 xs=some (match rowW a0 xs with
  | some n=>((n:Int),0)
  | none=>(0,200)):=by
 unfold term_Row rowW
 rw[term_begins_eq,Option.bind_some]
 cases beginsB a0 xs with
 | none=>rfl
 | some ps=>simp [startsOf_len]
theorem rowW_len {a0:List QSym} {xs:List Int} {n:Nat} (h:rowW a0 xs=some n):xs.length≤48:=by
 unfold rowW beginsB at h
 cases hl:decide (xs.length≤48) with
 | false=>rw[hl,Bool.and_false] at h; cases h
 | true=>rw[decide_eq_true_eq] at hl; exact hl
def rowsB (a0:List QSym) (rs:List (List Int)):Bool:=match rs with
 | []=>true
 | r::rs=>match rowW a0 r with
  | none=>false
  | some n=>rs.all fun q=>rowW a0 q==some n
theorem rows_go (a0:List QSym) (w:Nat):(es:List (List Int))→(i t:Nat)→t+49*es.length≤1099511627776→clause_rowsMay_L0_go a0 es (i+1) (t:Int) (w:Int)=some (cond (es.all fun q=>rowW a0 q==some w) (.inl ((t+sumLen es:Nat):Int)) (.inr (0,false)))
 | [],i,t,_=>by simp [clause_rowsMay_L0_go,sumLen]
 | e::es,i,t,h=>by
  unfold clause_rowsMay_L0_go
  rw[term_Row_eq,Option.bind_some,List.all_cons]
  rw[show ((((i+1:Nat):Int))==0)=false from by simp; omega,cond_false]
  cases hr:rowW a0 e with
  | none=>rfl
  | some n =>
   have hl:=rowW_len hr
   rw[List.length_cons] at h
   have e1:IntKind.wrap .i64 ((t:Int)+((List.length e:Nat):Int))=((t+e.length:Nat):Int):=by rw[wrap64]<;>omega
   have:=rows_go a0 w es (i+1) (t+e.length) (by omega)
   simp only[e1,this]
   by_cases hn:n=w
   ·subst hn
    simp [sumLen,Nat.add_assoc]
   ·have h1:((n:Int) != (w:Int))=true:=by simp; omega
    have h2:(some n==some w)=false:=by simpa using hn
    simp [h1,h2]
theorem clause_rowsMay_eq (a0:List QSym) (rs:List (List Int)) (h:rs.length≤1000000000):clause_rowsMay a0 rs=some (cond (rowsB a0 rs) (((sumLen rs:Nat):Int),true) (0,false)):=by
 unfold clause_rowsMay
 rw[clause_rowsMay_L0_go_at0 _ _ _ _ (by unfold maxLen; omega)]
 cases rs with
 | nil=>rfl
 | cons r rs =>
  unfold clause_rowsMay_L0_go rowsB
  rw[term_Row_eq,Option.bind_some]
  rw[show ((((0:Nat):Int))==0)=true from rfl,cond_true]
  dsimp only
  cases hr:rowW a0 r with
  | none=>rfl
  | some n =>
   have hl:=rowW_len hr
   rw[List.length_cons] at h
   have e1:IntKind.wrap .i64 (0+((List.length r:Nat):Int))=((r.length:Nat):Int):=by rw[wrap64]<;>omega
   have:=rows_go a0 n rs 0 r.length (by omega)
   simp only[e1,this]
   cases hb:rs.all fun q=>rowW a0 q==some n with
   | false=>simp [caseS]
   | true=>simp [caseS,sumLen]
def mayB (a0:List QSym) (a1:List QLit) (a2:List (List Int)) (a3:List QLit):Bool :=
 signB a0&&decide (a1.length≤5)&&decide (a2.length≤3)&&decide (a3.length≤3)&&litsB a0 a1&&rowsB a0 a2&&litsB a0 a3&&decide (sumLen (a1.map (·.2))+sumLen a2+sumLen (a3.map (·.2))≤240)
theorem lits_sum {a0:List QSym}:(ls:List QLit)→litsB a0 ls=true→sumLen (ls.map (·.2))≤49*ls.length
 | [],_=>by simp [sumLen]
 | l::ls,h=>by
  unfold litsB at h
  rw[List.all_cons,Bool.and_eq_true] at h
  have h1:=atomB_len h.1
  have h2:=lits_sum ls h.2
  unfold sumLen at h2 ⊢
  simp only[List.map_cons,List.sum_cons,List.length_cons]
  omega
theorem rows_sum {a0:List QSym} (rs:List (List Int)) (h:rowsB a0 rs=true):sumLen rs≤49*rs.length:=by
 cases rs with
 | nil=>simp [sumLen]
 | cons r rs =>
  unfold rowsB at h
  dsimp only at h
  cases hr:rowW a0 r with
  | none=>rw[hr] at h; cases h
  | some n =>
   rw[hr] at h
   have h1:=rowW_len hr
   have h2:∀ qs:List (List Int),(qs.all fun q=>rowW a0 q==some n)=true→sumLen qs≤49*qs.length:=by
    intro qs
    induction qs with
    | nil=>intro _; simp [sumLen]
    | cons q qs ih =>
     intro hq
     rw[List.all_cons,Bool.and_eq_true] at hq
     have h3:=ih hq.2
     have h4:=rowW_len (by simpa using hq.1)
     unfold sumLen at h3 ⊢
     simp only[List.map_cons,List.sum_cons,List.length_cons]
     omega
   have h5:=h2 rs h
   unfold sumLen at h5 ⊢
   simp only[List.map_cons,List.sum_cons,List.length_cons]
   omega
theorem clause_May_eq (a0:List QSym) (a1:List QLit) (a2:List (List Int)) (a3:List QLit):clause_May a0 a1 a2 a3=some (mayB a0 a1 a2 a3):=by
 unfold clause_May mayB
 rw[sign_May_eq,Option.bind_some]
 cases signB a0 with
 | false=>rfl
 | true =>
  by_cases h1:a1.length≤5
  ·by_cases h2:a2.length≤3
   ·by_cases h3:a3.length≤3
    ·simp only[Bool.not_true,cond_false,decide_eq_false (show ¬(((List.length a1:Nat):Int)>5) by omega),decide_eq_false (show ¬(((List.length a2:Nat):Int)>3) by omega),decide_eq_false (show ¬(((List.length a3:Nat):Int)>3) by omega),
      decide_eq_true h1,decide_eq_true h2,decide_eq_true h3,clause_litsMay_eq a0 a1 (by omega),clause_rowsMay_eq a0 a2 (by omega),clause_litsMay_eq a0 a3 (by omega),Option.bind_some,Bool.true_and]
     cases hb1:litsB a0 a1 with
     | false=>rfl
     | true =>
      cases hb2:rowsB a0 a2 with
      | false=>rfl
      | true =>
       cases hb3:litsB a0 a3 with
       | false=>rfl
       | true =>
        have s1:=lits_sum a1 hb1
        have s2:=rows_sum a2 hb2
        have s3:=lits_sum a3 hb3
        simp only[cond_true,Bool.true_and]
        have e1:IntKind.wrap .i64 (((sumLen (a1.map (·.2)):Nat):Int)+((sumLen a2:Nat):Int))=((sumLen (a1.map (·.2))+sumLen a2:Nat):Int):=by rw[wrap64]<;>omega
        have e2:IntKind.wrap .i64 (((sumLen (a1.map (·.2))+sumLen a2:Nat):Int)+((sumLen (a3.map (·.2)):Nat):Int))=((sumLen (a1.map (·.2))+sumLen a2+sumLen (a3.map (·.2)):Nat):Int):=by rw[wrap64]<;>omega
        simp only[e1,e2,Option.some.injEq,decide_eq_decide]
        omega
    ·simp only[Bool.not_true,cond_false,decide_eq_false (show ¬(((List.length a1:Nat):Int)>5) by omega),decide_eq_false (show ¬(((List.length a2:Nat):Int)>3) by omega),decide_eq_true (show (((List.length a3:Nat):Int)>3) by omega),decide_eq_false h3,cond_true,Bool.and_false,Bool.false_and]
   ·simp only[Bool.not_true,cond_false,decide_eq_false (show ¬(((List.length a1:Nat):Int)>5) by omega),decide_eq_true (show (((List.length a2:Nat):Int)>3) by omega),decide_eq_false h2,cond_true,Bool.and_false,Bool.false_and]
  ·simp only[Bool.not_true,cond_false,decide_eq_true (show (((List.length a1:Nat):Int)>5) by omega),decide_eq_false h1,cond_true,Bool.and_false,Bool.false_and]
end
end Go.Abs.Q
namespace Go.Abs.Q
open Go Go.Abs
section
def nameOf (a0:List QSym) (x:Int):Str:=match a0[x.toNat]? with
 | some e=>e.1
 | none=>[]
theorem arity_neg {a0:List QSym} {x:Int} {q:Nat} (h:arity a0 x=some q) (hx:x<0) : -24≤x∧q=0:=by
 unfold arity at h
 rw[decide_eq_true hx,cond_true] at h
 cases hd:decide (-24≤x) with
 | false=>rw[hd] at h; cases h
 | true=>rw[hd] at h; injection h with h; exact ⟨of_decide_eq_true hd,h.symm⟩
theorem arity_pos {a0:List QSym} {x:Int} {q:Nat} (h:arity a0 x=some q) (hx:¬ x<0):∃ e,gx a0 x=some e∧a0[x.toNat]? = some e∧e.2.1≠0∧q=e.2.2.1.toNat:=by
 unfold arity at h
 rw[decide_eq_false hx,cond_false] at h
 cases he:a0[x.toNat]? with
 | none=>rw[he] at h; cases h
 | some e =>
  rw[he] at h
  have hg:gx a0 x=some e:=by
   unfold gx
   rw[decide_eq_true (show 0≤x by omega),cond_true,he]
  dsimp only at h
  cases hz:(e.2.1==0) with
  | true=>rw[hz] at h; cases h
  | false=>rw[hz] at h; injection h with h; exact ⟨e,hg,rfl,by simpa using hz,h.symm⟩
end
end Go.Abs.Q
namespace Go.Abs.Q
open Go Go.Abs
section
theorem atomB_spec {a0:List QSym} {xs:List Int} (h:atomB a0 xs=true):∃ x r e ps,xs=x::r∧0≤x∧a0[x.toNat]? = some e∧gx a0 x=some e∧e.2.1=0∧signB a0=true∧r.length≤48∧cuts a0 r=some ps∧((ps.length:Nat):Int)=e.2.2.1:=by
 unfold atomB at h
 cases xs with
 | nil=>cases h
 | cons x r =>
  simp only[Bool.and_eq_true,decide_eq_true_eq] at h
  obtain⟨h0,h⟩:=h
  cases he:a0[x.toNat]? with
  | none=>rw[he] at h; cases h
  | some e =>
   rw[he] at h
   simp only[Bool.and_eq_true] at h
   obtain⟨h1,h⟩:=h
   cases hb:beginsB a0 r with
   | none=>rw[hb] at h; cases h
   | some ps =>
    rw[hb] at h
    unfold beginsB at hb
    cases hs:signB a0 with
    | false=>rw[hs] at hb; cases hb
    | true =>
     cases hl:decide (r.length≤48) with
     | false=>rw[hs,hl] at hb; cases hb
     | true =>
      rw[hs,hl] at hb
      refine ⟨x,r,e,ps,rfl,h0,he,?_,by simpa using h1,rfl,of_decide_eq_true hl,hb,by simpa using h⟩
      unfold gx
      rw[decide_eq_true h0,cond_true,he]
theorem rowW_spec {a0:List QSym} {r:List Int} {n:Nat} (h:rowW a0 r=some n):∃ ps,cuts a0 r=some ps∧ps.length=n∧r.length≤48∧signB a0=true:=by
 have hl:=rowW_len h
 unfold rowW beginsB at h
 cases hs:signB a0 with
 | false=>rw[hs] at h; cases h
 | true =>
  rw[hs,decide_eq_true hl] at h
  simp only[Bool.and_true,cond_true,Option.map_eq_some_iff] at h
  obtain⟨ps,h1,h2⟩:=h
  exact ⟨ps,h1,h2,hl,rfl⟩
theorem rowsB_all {a0:List QSym} {rs:List (List Int)} (h:rowsB a0 rs=true):∃ n,∀ r∈rs,rowW a0 r=some n:=by
 cases rs with
 | nil=>exact ⟨0,fun r hr=>by cases hr⟩
 | cons r rs =>
  unfold rowsB at h
  dsimp only at h
  cases hr:rowW a0 r with
  | none=>rw[hr] at h; cases h
  | some n =>
   rw[hr] at h
   refine ⟨n,fun q hq => ?_⟩
   rcases List.mem_cons.1 hq with rfl | hq
   ·exact hr
   ·simpa using List.all_eq_true.1 h q hq
theorem mayB_spec {a0:List QSym} {a1:List QLit} {a2:List (List Int)} {a3:List QLit} (h:mayB a0 a1 a2 a3=true):signB a0=true∧a1.length≤5∧a2.length≤3∧a3.length≤3∧litsB a0 a1=true∧rowsB a0 a2=true∧litsB a0 a3=true∧sumLen (a1.map (·.2))+sumLen a2+sumLen (a3.map (·.2))≤240:=by
 unfold mayB at h
 simp only[Bool.and_eq_true,decide_eq_true_eq] at h
 exact ⟨h.1.1.1.1.1.1.1,h.1.1.1.1.1.1.2,h.1.1.1.1.1.2,h.1.1.1.1.2,h.1.1.1.2,h.1.1.2,h.1.2,h.2⟩
theorem law24_awake_eq:law24_awake=some true:=by kernel_rfl
end
end Go.Abs.Q
namespace Go.Abs.Q
open Go Go.Abs
section
def bad (t:UInt8):Bool:=t==111||t==114||t==105||t==102||t==38
end
end Go.Abs.Q
namespace Go.Abs.Q
open Go Go.Abs
section
end
end Go.Abs.Q
namespace Go.Abs.Q
open Go Go.Abs
def law0_CopyInts (a0:(List Int)):Option (List Int) :=
 cond (room (List.length ([]:List Int)+List.length a0) 8)
 (some (([]:List Int)++a0))
 (none)
def law0_CopyLits_L0 (rec:((List QLit)×Int×(List QLit))→Option (List QLit)) (x:((List QLit)×Int×(List QLit))):Option (List QLit) :=
 cond (decide (x.2.1<((List.length x.1:Nat):Int)))
 ((gx x.1 x.2.1).bind fun e7 =>
  (gx x.1 x.2.1).bind fun e8 =>
  (law0_CopyInts e8.2).bind fun r9 =>
  cond (room (List.length x.2.2+List.length ([(e7.1,r9)]:List QLit)) 32)
  (rec (x.1,(IntKind.wrap .i64 (x.2.1+1)),(x.2.2++([(e7.1,r9)]:List QLit))))
  (none))
 (some x.2.2)
def law0_CopyLits (a0:(List QLit)):Option (List QLit) :=
 ((lp law0_CopyLits_L0 fuel) (a0,0,([]:(List QLit)))).bind fun r11 =>
 some r11
def ref1_small (a0:Int):Option Bool :=
 cond (decide (a0≥97))
 (some (decide (a0≤122)))
 (some false)
def ref1_SymMay_L0 (rec:(Int×Str×Int×Int×Int)→Option (Unit⊕Bool)) (x:(Int×Str×Int×Int×Int)):Option (Unit⊕Bool) :=
 cond (decide (x.1<((List.length x.2.1:Nat):Int)))
 ((gx x.2.1 x.1).bind fun c7 =>
  (ref1_small ((UInt8.toNat c7:Nat):Int)).bind fun r8 =>
  cond (!r8)
  ((gx x.2.1 x.1).bind fun c9 =>
   cond (decide (((UInt8.toNat c9:Nat):Int)<48))
   (some (Sum.inr false))
   ((gx x.2.1 x.1).bind fun c10 =>
    cond (decide (((UInt8.toNat c10:Nat):Int)>57))
    (some (Sum.inr false))
    (rec ((IntKind.wrap .i64 (x.1+1)),x.2.1,x.2.2.1,x.2.2.2.1,x.2.2.2.2))))
  (rec ((IntKind.wrap .i64 (x.1+1)),x.2.1,x.2.2.1,x.2.2.2.1,x.2.2.2.2)))
 (some (Sum.inl ()))
def ref1_SymMay (a0:Str) (a1:Int) (a2:Int) (a3:Int):Option Bool :=
 cond (decide (((List.length a0:Nat):Int)<1))
 (some false)
 (cond (decide (((List.length a0:Nat):Int)>8))
  (some false)
  ((gx a0 0).bind fun c14 =>
   (ref1_small ((UInt8.toNat c14:Nat):Int)).bind fun r15 =>
   cond (!r15)
   (some false)
   (((lp ref1_SymMay_L0 fuel) (0,a0,a1,a2,a3)).bind fun r16 =>
    caseS r16
    (fun z17=>cond (decide (a1≥0))
     (cond (decide (a1≤2))
      (cond (decide (a2≥0))
       (cond (decide (a2≤3))
        (cond (decide (a3≥1))
         (some (decide (a3≤20)))
         (some false))
        (some false))
       (some false))
      (some false))
     (some false))
    (fun z18=>some z18))))
def ref1_Code_L0 (rec:((List QSym)×Str×Int)→Option (Unit⊕Int)) (x:((List QSym)×Str×Int)):Option (Unit⊕Int) :=
 cond (decide (x.2.2<((List.length x.1:Nat):Int)))
 ((gx x.1 x.2.2).bind fun e2 =>
  cond (e2.1==x.2.1)
  (some (Sum.inr x.2.2))
  (rec (x.1,x.2.1,(IntKind.wrap .i64 (x.2.2+1)))))
 (some (Sum.inl ()))
def ref1_Code (a0:(List QSym)) (a1:Str):Option Int :=
 ((lp ref1_Code_L0 fuel) (a0,a1,0)).bind fun r6 =>
 caseS r6
 (fun z7=>some (-1))
 (fun z8=>some z8)
def ref1_SignMay_L0 (rec:((List QSym)×Int)→Option (Unit⊕Bool)) (x:((List QSym)×Int)):Option (Unit⊕Bool) :=
 cond (decide (x.2<((List.length x.1:Nat):Int)))
 ((gx x.1 x.2).bind fun e6 =>
  (ref1_SymMay e6.1 e6.2.1 e6.2.2.1 e6.2.2.2).bind fun r7 =>
  cond (!r7)
  (some (Sum.inr false))
  ((gx x.1 x.2).bind fun e8 =>
   (ref1_Code x.1 e8.1).bind fun r9 =>
   cond (r9 != x.2)
   (some (Sum.inr false))
   (rec (x.1,(IntKind.wrap .i64 (x.2+1))))))
 (some (Sum.inl ()))
def ref1_SignMay (a0:(List QSym)):Option Bool :=
 cond (decide (((List.length a0:Nat):Int)<1))
 (some false)
 (cond (decide (((List.length a0:Nat):Int)>20))
  (some false)
  ((gx a0 0).bind fun e13 =>
   cond (!(cond (eqS e13.1 ([61]:Str)) (cond (eqI e13.2.1 0) (cond (eqI e13.2.2.1 2) (cond (eqI e13.2.2.2 1) true false) false) false) false))
   (some false)
   (((lp ref1_SignMay_L0 fuel) (a0,1)).bind fun r14 =>
    caseS r14
    (fun z15=>some true)
    (fun z16=>some z16))))
def ref1_End_L0 (rec:((List QSym)×(List Int)×Int×Int)→Option (Int⊕Int)) (x:((List QSym)×(List Int)×Int×Int)):Option (Int⊕Int) :=
 cond (decide (x.2.2.1>0))
 (cond (decide (x.2.2.2≥((List.length x.2.1:Nat):Int)))
  (some (Sum.inr (-1)))
  ((gx x.2.1 x.2.2.2).bind fun e8 =>
   cond (decide (e8<(-24)))
   (some (Sum.inr (-1)))
   ((gx x.2.1 x.2.2.2).bind fun e9 =>
    cond (decide (e9≥((List.length x.1:Nat):Int)))
    (some (Sum.inr (-1)))
    ((gx x.2.1 x.2.2.2).bind fun e10 =>
     cond (decide (e10≥0))
     ((gx x.2.1 x.2.2.2).bind fun e11 =>
      (gx x.1 e11).bind fun e12 =>
      cond (e12.2.1==0)
      (some (Sum.inr (-1)))
      ((gx x.2.1 x.2.2.2).bind fun e13 =>
       (gx x.1 e13).bind fun e14 =>
       rec (x.1,x.2.1,(IntKind.wrap .i64 ((IntKind.wrap .i64 (x.2.2.1 - 1))+e14.2.2.1)),(IntKind.wrap .i64 (x.2.2.2+1)))))
     (rec (x.1,x.2.1,(IntKind.wrap .i64 (x.2.2.1 - 1)),(IntKind.wrap .i64 (x.2.2.2+1))))))))
 (some (Sum.inl x.2.2.2))
def ref1_End (a0:(List QSym)) (a1:(List Int)) (a2:Int):Option Int :=
 ((lp ref1_End_L0 fuel) (a0,a1,1,a2)).bind fun r18 =>
 caseS r18
 (fun z19=>some z19)
 (fun z20=>some z20)
def ref1_Terms_L0 (rec:((List QSym)×(List Int)×Int×Int)→Option (Int⊕Int)) (x:((List QSym)×(List Int)×Int×Int)):Option (Int⊕Int) :=
 cond (decide (x.2.2.2<((List.length x.2.1:Nat):Int)))
 ((ref1_End x.1 x.2.1 x.2.2.2).bind fun r2 =>
  cond (decide (r2<0))
  (some (Sum.inr (-1)))
  (rec (x.1,x.2.1,(IntKind.wrap .i64 (x.2.2.1+1)),r2)))
 (some (Sum.inl x.2.2.1))
def ref1_Terms (a0:(List QSym)) (a1:(List Int)):Option Int :=
 cond (decide (((List.length a1:Nat):Int)>48))
 (some (-1))
 (((lp ref1_Terms_L0 fuel) (a0,a1,0,0)).bind fun r6 =>
  caseS r6
  (fun z7=>some z7)
  (fun z8=>some z8))
def ref1_IsAtom (a0:(List QSym)) (a1:(List Int)):Option Bool :=
 cond (decide (((List.length a1:Nat):Int)>0))
 ((gx a1 0).bind fun e9 =>
  cond (decide (e9≥0))
  ((gx a1 0).bind fun e10 =>
   cond (decide (e10<((List.length a0:Nat):Int)))
   ((gx a1 0).bind fun e11 =>
    (gx a0 e11).bind fun e12 =>
    cond (e12.2.1==0)
    ((slc2 a1 (some 1) none).bind fun y13 =>
     (ref1_Terms a0 y13).bind fun r14 =>
     (gx a1 0).bind fun e15 =>
     (gx a0 e15).bind fun e16 =>
     some (r14==e16.2.2.1))
    (some false))
   (some false))
  (some false))
 (some false)
def ref8_LitMay (a0:(List QSym)) (a1:Bool) (a2:(List Int)):Option Bool :=
 (ref1_SignMay a0).bind fun r3 =>
 cond r3
 ((ref1_IsAtom a0 a2).bind fun r4 =>
  some r4)
 (some false)
def ref8_rows_L2 (rec:(Int×(List QLit)×(List (List Int))×(List QLit)×(List (List Int)))→Option (List (List Int))) (x:(Int×(List QLit)×(List (List Int))×(List QLit)×(List (List Int)))):Option (List (List Int)) :=
 cond (decide (x.1<((List.length x.2.2.2.1:Nat):Int)))
 ((gx x.2.2.2.1 x.1).bind fun e9 =>
  cond (room (List.length x.2.2.2.2+List.length ([e9.2]:List (List Int))) 24)
  (rec ((IntKind.wrap .i64 (x.1+1)),x.2.1,x.2.2.1,x.2.2.2.1,(x.2.2.2.2++([e9.2]:List (List Int)))))
  (none))
 (some x.2.2.2.2)
def ref8_rows_L1 (rec:(Int×(List QLit)×(List (List Int))×(List QLit)×(List (List Int)))→Option (List (List Int))) (x:(Int×(List QLit)×(List (List Int))×(List QLit)×(List (List Int)))):Option (List (List Int)) :=
 cond (decide (x.1<((List.length x.2.2.1:Nat):Int)))
 ((gx x.2.2.1 x.1).bind fun e6 =>
  cond (room (List.length x.2.2.2.2+List.length ([e6]:List (List Int))) 24)
  (rec ((IntKind.wrap .i64 (x.1+1)),x.2.1,x.2.2.1,x.2.2.2.1,(x.2.2.2.2++([e6]:List (List Int)))))
  (none))
 (some x.2.2.2.2)
def ref8_rows_L0 (rec:(Int×(List QLit)×(List (List Int))×(List QLit)×(List (List Int)))→Option (List (List Int))) (x:(Int×(List QLit)×(List (List Int))×(List QLit)×(List (List Int)))):Option (List (List Int)) :=
 cond (decide (x.1<((List.length x.2.1:Nat):Int)))
 ((gx x.2.1 x.1).bind fun e3 =>
  cond (room (List.length x.2.2.2.2+List.length ([e3.2]:List (List Int))) 24)
  (rec ((IntKind.wrap .i64 (x.1+1)),x.2.1,x.2.2.1,x.2.2.2.1,(x.2.2.2.2++([e3.2]:List (List Int)))))
  (none))
 (some x.2.2.2.2)
def ref8_rows (a0:(List QLit)) (a1:(List (List Int))) (a2:(List QLit)):Option (List (List Int)) :=
 ((lp ref8_rows_L0 fuel) (0,a0,a1,a2,([]:(List (List Int))))).bind fun r11 =>
 ((lp ref8_rows_L1 fuel) (0,a0,a1,a2,r11)).bind fun r12 =>
 ((lp ref8_rows_L2 fuel) (0,a0,a1,a2,r12)).bind fun r13 =>
 some r13
def ref8_May_L3 (rec:((List (List Int))×Int×Int)→Option Int) (x:((List (List Int))×Int×Int)):Option Int :=
 cond (decide (x.2.2<((List.length x.1:Nat):Int)))
 ((gx x.1 x.2.2).bind fun e26 =>
  rec (x.1,(IntKind.wrap .i64 (x.2.1+((List.length e26:Nat):Int))),(IntKind.wrap .i64 (x.2.2+1))))
 (some x.2.1)
def ref8_May_L2 (rec:((List QSym)×Int×(List QLit)×(List (List Int))×(List QLit))→Option (Unit⊕Bool)) (x:((List QSym)×Int×(List QLit)×(List (List Int))×(List QLit))):Option (Unit⊕Bool) :=
 cond (decide (x.2.1<((List.length x.2.2.2.1:Nat):Int)))
 ((gx x.2.2.2.1 x.2.1).bind fun e18 =>
  (ref1_Terms x.1 e18).bind fun r19 =>
  cond (decide (r19<0))
  (some (Sum.inr false))
  ((gx x.2.2.2.1 0).bind fun e20 =>
   (ref1_Terms x.1 e20).bind fun r21 =>
   cond (r19 != r21)
   (some (Sum.inr false))
   (rec (x.1,(IntKind.wrap .i64 (x.2.1+1)),x.2.2.1,x.2.2.2.1,x.2.2.2.2))))
 (some (Sum.inl ()))
def ref8_May_L1 (rec:((List QSym)×Int×(List QLit)×(List (List Int))×(List QLit))→Option (Unit⊕Bool)) (x:((List QSym)×Int×(List QLit)×(List (List Int))×(List QLit))):Option (Unit⊕Bool) :=
 cond (decide (x.2.1<((List.length x.2.2.2.2:Nat):Int)))
 ((gx x.2.2.2.2 x.2.1).bind fun e10 =>
  (ref8_LitMay x.1 e10.1 e10.2).bind fun r11 =>
  cond (!r11)
  (some (Sum.inr false))
  (rec (x.1,(IntKind.wrap .i64 (x.2.1+1)),x.2.2.1,x.2.2.2.1,x.2.2.2.2)))
 (some (Sum.inl ()))
def ref8_May_L0 (rec:((List QSym)×Int×(List QLit)×(List (List Int))×(List QLit))→Option (Unit⊕Bool)) (x:((List QSym)×Int×(List QLit)×(List (List Int))×(List QLit))):Option (Unit⊕Bool) :=
 cond (decide (x.2.1<((List.length x.2.2.1:Nat):Int)))
 ((gx x.2.2.1 x.2.1).bind fun e4 =>
  (ref8_LitMay x.1 e4.1 e4.2).bind fun r5 =>
  cond (!r5)
  (some (Sum.inr false))
  (rec (x.1,(IntKind.wrap .i64 (x.2.1+1)),x.2.2.1,x.2.2.2.1,x.2.2.2.2)))
 (some (Sum.inl ()))
def ref8_May (a0:(List QSym)) (a1:(List QLit)) (a2:(List (List Int))) (a3:(List QLit)):Option Bool :=
 (ref1_SignMay a0).bind fun r31 =>
 cond (!r31)
 (some false)
 (cond (decide (((List.length a1:Nat):Int)>5))
  (some false)
  (cond (decide (((List.length a3:Nat):Int)>3))
   (some false)
   (cond (decide (((List.length a2:Nat):Int)>3))
    (some false)
    (((lp ref8_May_L0 fuel) (a0,0,a1,a2,a3)).bind fun r32 =>
     caseS r32
     (fun z33=>((lp ref8_May_L1 fuel) (a0,0,a1,a2,a3)).bind fun r34 =>
      caseS r34
      (fun z35=>((lp ref8_May_L2 fuel) (a0,0,a1,a2,a3)).bind fun r36 =>
       caseS r36
       (fun z37=>(ref8_rows a1 a2 a3).bind fun r38 =>
        ((lp ref8_May_L3 fuel) (r38,0,0)).bind fun r39 =>
        some (decide (r39≤240)))
       (fun z40=>some z40))
      (fun z41=>some z41))
     (fun z42=>some z42)))))
end Go.Abs.Q
namespace Go.Abs.Q
open Go Go.Abs
def law0_CopyLits_L0_go:List QLit→(List QLit)→Option (List QLit)
 | [],s2=>some s2
 | e::es,s2 =>
  (law0_CopyInts e.2).bind fun r9 =>
  cond (room (List.length s2+List.length ([(e.1,r9)]:List QLit)) 32)
  (law0_CopyLits_L0_go es (s2++([(e.1,r9)]:List QLit)))
  (none)
theorem law0_CopyLits_L0_go_eq (s0:(List QLit)) (hl:List.length s0≤maxLen):∀(es:List QLit) (i:Nat) (k:Nat) (s2:(List QLit)),s0.drop i=es→es.length<k→lp law0_CopyLits_L0 k (s0,(i:Int),s2)=law0_CopyLits_L0_go es s2:=by
 intro es
 induction es with
 | nil =>
  intro i k s2 h hk
  obtain⟨k,rfl⟩:∃ k',k=k'+1:=⟨k - 1,by omega⟩
  rw[lp_succ]
  generalize lp law0_CopyLits_L0 k=rec
  unfold law0_CopyLits_L0 law0_CopyLits_L0_go
  simp only[lt_false (drop_nil_le h),cond_false]
 | cons e es ih =>
  intro i k s2 h hk
  obtain⟨k,rfl⟩:∃ k',k=k'+1:=⟨k - 1,by omega⟩
  rw[lp_succ]
  have hi:=drop_cons_lt h
  have hk2:es.length<k:=Nat.lt_of_succ_lt_succ hk
  have key:=fun s2=>ih (i+1) k s2 (drop_cons_next h) hk2
  generalize lp law0_CopyLits_L0 k=rec at key ⊢
  unfold law0_CopyLits_L0 law0_CopyLits_L0_go
  simp only[lt_true hi,cond_true,gx_nat,drop_cons_get h,Option.bind_some,wrap_i1 hi hl,key]
theorem law0_CopyLits_L0_go_at0 (s0:(List QLit)) (s2:(List QLit)) (hl:List.length s0≤maxLen):lp law0_CopyLits_L0 fuel (s0,0,s2)=law0_CopyLits_L0_go s0 s2 :=
 law0_CopyLits_L0_go_eq s0 hl s0 0 fuel s2 rfl (Nat.lt_of_le_of_lt hl (by decide))
def ref1_SymMay_L0_go:List UInt8→Option (Unit⊕Bool)
 | []=>some (Sum.inl ())
 | e::es =>
  (ref1_small ((UInt8.toNat e:Nat):Int)).bind fun r8 =>
  cond (!r8)
  (cond (decide (((UInt8.toNat e:Nat):Int)<48))
   (some (Sum.inr false))
   (cond (decide (((UInt8.toNat e:Nat):Int)>57))
    (some (Sum.inr false))
    (ref1_SymMay_L0_go es)))
  (ref1_SymMay_L0_go es)
theorem ref1_SymMay_L0_go_eq (s1:Str) (s2:Int) (s3:Int) (s4:Int) (hl:List.length s1≤maxLen):∀(es:List UInt8) (i:Nat) (k:Nat),s1.drop i=es→es.length<k→lp ref1_SymMay_L0 k ((i:Int),s1,s2,s3,s4)=ref1_SymMay_L0_go es:=by
 intro es
 induction es with
 | nil =>
  intro i k h hk
  obtain⟨k,rfl⟩:∃ k',k=k'+1:=⟨k - 1,by omega⟩
  rw[lp_succ]
  generalize lp ref1_SymMay_L0 k=rec
  unfold ref1_SymMay_L0 ref1_SymMay_L0_go
  simp only[lt_false (drop_nil_le h),cond_false]
 | cons e es ih =>
  intro i k h hk
  obtain⟨k,rfl⟩:∃ k',k=k'+1:=⟨k - 1,by omega⟩
  rw[lp_succ]
  have hi:=drop_cons_lt h
  have hk2:es.length<k:=Nat.lt_of_succ_lt_succ hk
  have key:=fun (_:Unit)=>ih (i+1) k (drop_cons_next h) hk2
  generalize lp ref1_SymMay_L0 k=rec at key ⊢
  unfold ref1_SymMay_L0 ref1_SymMay_L0_go
  simp only[lt_true hi,cond_true,gx_nat,drop_cons_get h,Option.bind_some,wrap_i1 hi hl,key ()]
theorem ref1_SymMay_L0_go_at0 (s1:Str) (s2:Int) (s3:Int) (s4:Int) (hl:List.length s1≤maxLen):lp ref1_SymMay_L0 fuel (0,s1,s2,s3,s4)=ref1_SymMay_L0_go s1 :=
 ref1_SymMay_L0_go_eq s1 s2 s3 s4 hl s1 0 fuel rfl (Nat.lt_of_le_of_lt hl (by decide))
def ref1_Code_L0_go (s1:Str):List QSym→Nat→Option (Unit⊕Int)
 | [],i=>some (Sum.inl ())
 | e::es,i =>
  cond (e.1==s1)
  (some (Sum.inr (i:Int)))
  (ref1_Code_L0_go s1 es (i+1))
theorem ref1_Code_L0_go_eq (s0:(List QSym)) (s1:Str) (hl:List.length s0≤maxLen):∀(es:List QSym) (i:Nat) (k:Nat),s0.drop i=es→es.length<k→lp ref1_Code_L0 k (s0,s1,(i:Int))=ref1_Code_L0_go s1 es i:=by
 intro es
 induction es with
 | nil =>
  intro i k h hk
  obtain⟨k,rfl⟩:∃ k',k=k'+1:=⟨k - 1,by omega⟩
  rw[lp_succ]
  generalize lp ref1_Code_L0 k=rec
  unfold ref1_Code_L0 ref1_Code_L0_go
  simp only[lt_false (drop_nil_le h),cond_false]
 | cons e es ih =>
  intro i k h hk
  obtain⟨k,rfl⟩:∃ k',k=k'+1:=⟨k - 1,by omega⟩
  rw[lp_succ]
  have hi:=drop_cons_lt h
  have hk2:es.length<k:=Nat.lt_of_succ_lt_succ hk
  have key:=fun (_:Unit)=>ih (i+1) k (drop_cons_next h) hk2
  generalize lp ref1_Code_L0 k=rec at key ⊢
  unfold ref1_Code_L0 ref1_Code_L0_go
  simp only[lt_true hi,cond_true,gx_nat,drop_cons_get h,Option.bind_some,wrap_i1 hi hl,key ()]
theorem ref1_Code_L0_go_at0 (s0:(List QSym)) (s1:Str) (hl:List.length s0≤maxLen):lp ref1_Code_L0 fuel (s0,s1,0)=ref1_Code_L0_go s1 s0 0 :=
 ref1_Code_L0_go_eq s0 s1 hl s0 0 fuel rfl (Nat.lt_of_le_of_lt hl (by decide))
def ref1_SignMay_L0_go (s0:(List QSym)):List QSym→Nat→Option (Unit⊕Bool)
 | [],i=>some (Sum.inl ())
 | e::es,i =>
  (ref1_SymMay e.1 e.2.1 e.2.2.1 e.2.2.2).bind fun r7 =>
  cond (!r7)
  (some (Sum.inr false))
  ((ref1_Code s0 e.1).bind fun r9 =>
   cond (r9 != (i:Int))
   (some (Sum.inr false))
   (ref1_SignMay_L0_go s0 es (i+1)))
theorem ref1_SignMay_L0_go_eq (s0:(List QSym)) (hl:List.length s0≤maxLen):∀(es:List QSym) (i:Nat) (k:Nat),s0.drop i=es→es.length<k→lp ref1_SignMay_L0 k (s0,(i:Int))=ref1_SignMay_L0_go s0 es i:=by
 intro es
 induction es with
 | nil =>
  intro i k h hk
  obtain⟨k,rfl⟩:∃ k',k=k'+1:=⟨k - 1,by omega⟩
  rw[lp_succ]
  generalize lp ref1_SignMay_L0 k=rec
  unfold ref1_SignMay_L0 ref1_SignMay_L0_go
  simp only[lt_false (drop_nil_le h),cond_false]
 | cons e es ih =>
  intro i k h hk
  obtain⟨k,rfl⟩:∃ k',k=k'+1:=⟨k - 1,by omega⟩
  rw[lp_succ]
  have hi:=drop_cons_lt h
  have hk2:es.length<k:=Nat.lt_of_succ_lt_succ hk
  have key:=fun (_:Unit)=>ih (i+1) k (drop_cons_next h) hk2
  generalize lp ref1_SignMay_L0 k=rec at key ⊢
  unfold ref1_SignMay_L0 ref1_SignMay_L0_go
  simp only[lt_true hi,cond_true,gx_nat,drop_cons_get h,Option.bind_some,wrap_i1 hi hl,key ()]
def ref8_rows_L2_go:List QLit→(List (List Int))→Option (List (List Int))
 | [],s4=>some s4
 | e::es,s4 =>
  cond (room (List.length s4+List.length ([e.2]:List (List Int))) 24)
  (ref8_rows_L2_go es (s4++([e.2]:List (List Int))))
  (none)
theorem ref8_rows_L2_go_eq (s1:(List QLit)) (s2:(List (List Int))) (s3:(List QLit)) (hl:List.length s3≤maxLen):∀(es:List QLit) (i:Nat) (k:Nat) (s4:(List (List Int))),s3.drop i=es→es.length<k→lp ref8_rows_L2 k ((i:Int),s1,s2,s3,s4)=ref8_rows_L2_go es s4:=by
 intro es
 induction es with
 | nil =>
  intro i k s4 h hk
  obtain⟨k,rfl⟩:∃ k',k=k'+1:=⟨k - 1,by omega⟩
  rw[lp_succ]
  generalize lp ref8_rows_L2 k=rec
  unfold ref8_rows_L2 ref8_rows_L2_go
  simp only[lt_false (drop_nil_le h),cond_false]
 | cons e es ih =>
  intro i k s4 h hk
  obtain⟨k,rfl⟩:∃ k',k=k'+1:=⟨k - 1,by omega⟩
  rw[lp_succ]
  have hi:=drop_cons_lt h
  have hk2:es.length<k:=Nat.lt_of_succ_lt_succ hk
  have key:=fun s4=>ih (i+1) k s4 (drop_cons_next h) hk2
  generalize lp ref8_rows_L2 k=rec at key ⊢
  unfold ref8_rows_L2 ref8_rows_L2_go
  simp only[lt_true hi,cond_true,gx_nat,drop_cons_get h,Option.bind_some,wrap_i1 hi hl,key]
theorem ref8_rows_L2_go_at0 (s1:(List QLit)) (s2:(List (List Int))) (s3:(List QLit)) (s4:(List (List Int))) (hl:List.length s3≤maxLen):lp ref8_rows_L2 fuel (0,s1,s2,s3,s4)=ref8_rows_L2_go s3 s4 :=
 ref8_rows_L2_go_eq s1 s2 s3 hl s3 0 fuel s4 rfl (Nat.lt_of_le_of_lt hl (by decide))
def ref8_rows_L1_go:List (List Int)→(List (List Int))→Option (List (List Int))
 | [],s4=>some s4
 | e::es,s4 =>
  cond (room (List.length s4+List.length ([e]:List (List Int))) 24)
  (ref8_rows_L1_go es (s4++([e]:List (List Int))))
  (none)
theorem ref8_rows_L1_go_eq (s1:(List QLit)) (s2:(List (List Int))) (s3:(List QLit)) (hl:List.length s2≤maxLen):∀(es:List (List Int)) (i:Nat) (k:Nat) (s4:(List (List Int))),s2.drop i=es→es.length<k→lp ref8_rows_L1 k ((i:Int),s1,s2,s3,s4)=ref8_rows_L1_go es s4:=by
 intro es
 induction es with
 | nil =>
  intro i k s4 h hk
  obtain⟨k,rfl⟩:∃ k',k=k'+1:=⟨k - 1,by omega⟩
  rw[lp_succ]
  generalize lp ref8_rows_L1 k=rec
  unfold ref8_rows_L1 ref8_rows_L1_go
  simp only[lt_false (drop_nil_le h),cond_false]
 | cons e es ih =>
  intro i k s4 h hk
  obtain⟨k,rfl⟩:∃ k',k=k'+1:=⟨k - 1,by omega⟩
  rw[lp_succ]
  have hi:=drop_cons_lt h
  have hk2:es.length<k:=Nat.lt_of_succ_lt_succ hk
  have key:=fun s4=>ih (i+1) k s4 (drop_cons_next h) hk2
  generalize lp ref8_rows_L1 k=rec at key ⊢
  unfold ref8_rows_L1 ref8_rows_L1_go
  simp only[lt_true hi,cond_true,gx_nat,drop_cons_get h,Option.bind_some,wrap_i1 hi hl,key]
theorem ref8_rows_L1_go_at0 (s1:(List QLit)) (s2:(List (List Int))) (s3:(List QLit)) (s4:(List (List Int))) (hl:List.length s2≤maxLen):lp ref8_rows_L1 fuel (0,s1,s2,s3,s4)=ref8_rows_L1_go s2 s4 :=
 ref8_rows_L1_go_eq s1 s2 s3 hl s2 0 fuel s4 rfl (Nat.lt_of_le_of_lt hl (by decide))
def ref8_rows_L0_go:List QLit→(List (List Int))→Option (List (List Int))
 | [],s4=>some s4
 | e::es,s4 =>
  cond (room (List.length s4+List.length ([e.2]:List (List Int))) 24)
  (ref8_rows_L0_go es (s4++([e.2]:List (List Int))))
  (none)
theorem ref8_rows_L0_go_eq (s1:(List QLit)) (s2:(List (List Int))) (s3:(List QLit)) (hl:List.length s1≤maxLen):∀(es:List QLit) (i:Nat) (k:Nat) (s4:(List (List Int))),s1.drop i=es→es.length<k→lp ref8_rows_L0 k ((i:Int),s1,s2,s3,s4)=ref8_rows_L0_go es s4:=by
 intro es
 induction es with
 | nil =>
  intro i k s4 h hk
  obtain⟨k,rfl⟩:∃ k',k=k'+1:=⟨k - 1,by omega⟩
  rw[lp_succ]
  generalize lp ref8_rows_L0 k=rec
  unfold ref8_rows_L0 ref8_rows_L0_go
  simp only[lt_false (drop_nil_le h),cond_false]
 | cons e es ih =>
  intro i k s4 h hk
  obtain⟨k,rfl⟩:∃ k',k=k'+1:=⟨k - 1,by omega⟩
  rw[lp_succ]
  have hi:=drop_cons_lt h
  have hk2:es.length<k:=Nat.lt_of_succ_lt_succ hk
  have key:=fun s4=>ih (i+1) k s4 (drop_cons_next h) hk2
  generalize lp ref8_rows_L0 k=rec at key ⊢
  unfold ref8_rows_L0 ref8_rows_L0_go
  simp only[lt_true hi,cond_true,gx_nat,drop_cons_get h,Option.bind_some,wrap_i1 hi hl,key]
theorem ref8_rows_L0_go_at0 (s1:(List QLit)) (s2:(List (List Int))) (s3:(List QLit)) (s4:(List (List Int))) (hl:List.length s1≤maxLen):lp ref8_rows_L0 fuel (0,s1,s2,s3,s4)=ref8_rows_L0_go s1 s4 :=
 ref8_rows_L0_go_eq s1 s2 s3 hl s1 0 fuel s4 rfl (Nat.lt_of_le_of_lt hl (by decide))
def ref8_May_L3_go:List (List Int)→Int→Option Int
 | [],s1=>some s1
 | e::es,s1 =>
  ref8_May_L3_go es (IntKind.wrap .i64 (s1+((List.length e:Nat):Int)))
theorem ref8_May_L3_go_eq (s0:(List (List Int))) (hl:List.length s0≤maxLen):∀(es:List (List Int)) (i:Nat) (k:Nat) (s1:Int),s0.drop i=es→es.length<k→lp ref8_May_L3 k (s0,s1,(i:Int))=ref8_May_L3_go es s1:=by
 intro es
 induction es with
 | nil =>
  intro i k s1 h hk
  obtain⟨k,rfl⟩:∃ k',k=k'+1:=⟨k - 1,by omega⟩
  rw[lp_succ]
  generalize lp ref8_May_L3 k=rec
  unfold ref8_May_L3 ref8_May_L3_go
  simp only[lt_false (drop_nil_le h),cond_false]
 | cons e es ih =>
  intro i k s1 h hk
  obtain⟨k,rfl⟩:∃ k',k=k'+1:=⟨k - 1,by omega⟩
  rw[lp_succ]
  have hi:=drop_cons_lt h
  have hk2:es.length<k:=Nat.lt_of_succ_lt_succ hk
  have key:=fun s1=>ih (i+1) k s1 (drop_cons_next h) hk2
  generalize lp ref8_May_L3 k=rec at key ⊢
  unfold ref8_May_L3 ref8_May_L3_go
  simp only[lt_true hi,cond_true,gx_nat,drop_cons_get h,Option.bind_some,wrap_i1 hi hl,key]
theorem ref8_May_L3_go_at0 (s0:(List (List Int))) (s1:Int) (hl:List.length s0≤maxLen):lp ref8_May_L3 fuel (s0,s1,0)=ref8_May_L3_go s0 s1 :=
 ref8_May_L3_go_eq s0 hl s0 0 fuel s1 rfl (Nat.lt_of_le_of_lt hl (by decide))
def ref8_May_L2_go (s0:(List QSym)) (s3:(List (List Int))):List (List Int)→Option (Unit⊕Bool)
 | []=>some (Sum.inl ())
 | e::es =>
  (ref1_Terms s0 e).bind fun r19 =>
  cond (decide (r19<0))
  (some (Sum.inr false))
  ((gx s3 0).bind fun e20 =>
   (ref1_Terms s0 e20).bind fun r21 =>
   cond (r19 != r21)
   (some (Sum.inr false))
   (ref8_May_L2_go s0 s3 es))
theorem ref8_May_L2_go_eq (s0:(List QSym)) (s2:(List QLit)) (s3:(List (List Int))) (s4:(List QLit)) (hl:List.length s3≤maxLen):∀(es:List (List Int)) (i:Nat) (k:Nat),s3.drop i=es→es.length<k→lp ref8_May_L2 k (s0,(i:Int),s2,s3,s4)=ref8_May_L2_go s0 s3 es:=by
 intro es
 induction es with
 | nil =>
  intro i k h hk
  obtain⟨k,rfl⟩:∃ k',k=k'+1:=⟨k - 1,by omega⟩
  rw[lp_succ]
  generalize lp ref8_May_L2 k=rec
  unfold ref8_May_L2 ref8_May_L2_go
  simp only[lt_false (drop_nil_le h),cond_false]
 | cons e es ih =>
  intro i k h hk
  obtain⟨k,rfl⟩:∃ k',k=k'+1:=⟨k - 1,by omega⟩
  rw[lp_succ]
  have hi:=drop_cons_lt h
  have hk2:es.length<k:=Nat.lt_of_succ_lt_succ hk
  have key:=fun (_:Unit)=>ih (i+1) k (drop_cons_next h) hk2
  generalize lp ref8_May_L2 k=rec at key ⊢
  unfold ref8_May_L2 ref8_May_L2_go
  simp only[lt_true hi,cond_true,gx_nat,drop_cons_get h,Option.bind_some,wrap_i1 hi hl,key ()]
theorem ref8_May_L2_go_at0 (s0:(List QSym)) (s2:(List QLit)) (s3:(List (List Int))) (s4:(List QLit)) (hl:List.length s3≤maxLen):lp ref8_May_L2 fuel (s0,0,s2,s3,s4)=ref8_May_L2_go s0 s3 s3 :=
 ref8_May_L2_go_eq s0 s2 s3 s4 hl s3 0 fuel rfl (Nat.lt_of_le_of_lt hl (by decide))
def ref8_May_L1_go (s0:(List QSym)):List QLit→Option (Unit⊕Bool)
 | []=>some (Sum.inl ())
 | e::es =>
  (ref8_LitMay s0 e.1 e.2).bind fun r11 =>
  cond (!r11)
  (some (Sum.inr false))
  (ref8_May_L1_go s0 es)
theorem ref8_May_L1_go_eq (s0:(List QSym)) (s2:(List QLit)) (s3:(List (List Int))) (s4:(List QLit)) (hl:List.length s4≤maxLen):∀(es:List QLit) (i:Nat) (k:Nat),s4.drop i=es→es.length<k→lp ref8_May_L1 k (s0,(i:Int),s2,s3,s4)=ref8_May_L1_go s0 es:=by
 intro es
 induction es with
 | nil =>
  intro i k h hk
  obtain⟨k,rfl⟩:∃ k',k=k'+1:=⟨k - 1,by omega⟩
  rw[lp_succ]
  generalize lp ref8_May_L1 k=rec
  unfold ref8_May_L1 ref8_May_L1_go
  simp only[lt_false (drop_nil_le h),cond_false]
 | cons e es ih =>
  intro i k h hk
  obtain⟨k,rfl⟩:∃ k',k=k'+1:=⟨k - 1,by omega⟩
  rw[lp_succ]
  have hi:=drop_cons_lt h
  have hk2:es.length<k:=Nat.lt_of_succ_lt_succ hk
  have key:=fun (_:Unit)=>ih (i+1) k (drop_cons_next h) hk2
  generalize lp ref8_May_L1 k=rec at key ⊢
  unfold ref8_May_L1 ref8_May_L1_go
  simp only[lt_true hi,cond_true,gx_nat,drop_cons_get h,Option.bind_some,wrap_i1 hi hl,key ()]
theorem ref8_May_L1_go_at0 (s0:(List QSym)) (s2:(List QLit)) (s3:(List (List Int))) (s4:(List QLit)) (hl:List.length s4≤maxLen):lp ref8_May_L1 fuel (s0,0,s2,s3,s4)=ref8_May_L1_go s0 s4 :=
 ref8_May_L1_go_eq s0 s2 s3 s4 hl s4 0 fuel rfl (Nat.lt_of_le_of_lt hl (by decide))
def ref8_May_L0_go (s0:(List QSym)):List QLit→Option (Unit⊕Bool)
 | []=>some (Sum.inl ())
 | e::es =>
  (ref8_LitMay s0 e.1 e.2).bind fun r5 =>
  cond (!r5)
  (some (Sum.inr false))
  (ref8_May_L0_go s0 es)
theorem ref8_May_L0_go_eq (s0:(List QSym)) (s2:(List QLit)) (s3:(List (List Int))) (s4:(List QLit)) (hl:List.length s2≤maxLen):∀(es:List QLit) (i:Nat) (k:Nat),s2.drop i=es→es.length<k→lp ref8_May_L0 k (s0,(i:Int),s2,s3,s4)=ref8_May_L0_go s0 es:=by
 intro es
 induction es with
 | nil =>
  intro i k h hk
  obtain⟨k,rfl⟩:∃ k',k=k'+1:=⟨k - 1,by omega⟩
  rw[lp_succ]
  generalize lp ref8_May_L0 k=rec
  unfold ref8_May_L0 ref8_May_L0_go
  simp only[lt_false (drop_nil_le h),cond_false]
 | cons e es ih =>
  intro i k h hk
  obtain⟨k,rfl⟩:∃ k',k=k'+1:=⟨k - 1,by omega⟩
  rw[lp_succ]
  have hi:=drop_cons_lt h
  have hk2:es.length<k:=Nat.lt_of_succ_lt_succ hk
  have key:=fun (_:Unit)=>ih (i+1) k (drop_cons_next h) hk2
  generalize lp ref8_May_L0 k=rec at key ⊢
  unfold ref8_May_L0 ref8_May_L0_go
  simp only[lt_true hi,cond_true,gx_nat,drop_cons_get h,Option.bind_some,wrap_i1 hi hl,key ()]
theorem ref8_May_L0_go_at0 (s0:(List QSym)) (s2:(List QLit)) (s3:(List (List Int))) (s4:(List QLit)) (hl:List.length s2≤maxLen):lp ref8_May_L0 fuel (s0,0,s2,s3,s4)=ref8_May_L0_go s0 s2 :=
 ref8_May_L0_go_eq s0 s2 s3 s4 hl s2 0 fuel rfl (Nat.lt_of_le_of_lt hl (by decide))
end Go.Abs.Q
namespace Go.Abs.Q
open Go Go.Abs
section
theorem ref1_small_eq (n:Int):ref1_small n=some (smallB n):=sign_small_eq n
theorem rcalled_go (es:List UInt8):ref1_SymMay_L0_go es=some (cond (es.all nameB) (.inl ()) (.inr false)):=by
 have:∀ es,ref1_SymMay_L0_go es=sign_called_L0_go es:=by
  intro es
  induction es with
  | nil=>rfl
  | cons e es ih =>
   unfold ref1_SymMay_L0_go sign_called_L0_go
   rw[ref1_small_eq,sign_small_eq,ih]
 rw[this,called_go]
theorem ref1_SymMay_eq (e:QSym):ref1_SymMay e.1 e.2.1 e.2.2.1 e.2.2.2=some (symB e):=by
 obtain⟨s,a,b,c⟩:=e
 unfold ref1_SymMay symB calledB
 dsimp only
 cases s with
 | nil=>rfl
 | cons x r =>
  rw[decide_eq_false (show ¬(((List.length (x::r):Nat):Int)<1) by rw[List.length_cons]; omega),cond_false]
  by_cases h:(x::r).length≤8
  ·rw[decide_eq_false (show ¬(((List.length (x::r):Nat):Int)>8) by omega),cond_false,gx_zero,List.getElem?_cons_zero,Option.bind_some,ref1_small_eq,Option.bind_some,ref1_SymMay_L0_go_at0 _ _ _ _ (by unfold maxLen; omega),rcalled_go,decide_eq_true h]
   dsimp only
   cases smallB ((UInt8.toNat x:Nat):Int) with
   | false=>rfl
   | true =>
    cases (x::r).all nameB with
    | false=>rfl
    | true =>
     simp only[Bool.not_true,cond_false,cond_true,Option.bind_some,caseS_inl,Bool.true_and,Bool.and_true,ge_iff_le]
     cases decide (0≤a)<;>simp only[cond_true,cond_false,Bool.true_and,Bool.false_and]
     cases decide (a≤2)<;>simp only[cond_true,cond_false,Bool.true_and,Bool.false_and]
     cases decide (0≤b)<;>simp only[cond_true,cond_false,Bool.true_and,Bool.false_and]
     cases decide (b≤3)<;>simp only[cond_true,cond_false,Bool.true_and,Bool.false_and]
     cases decide (1≤c)<;>simp only[cond_true,cond_false,Bool.true_and,Bool.false_and]
  ·rw[decide_eq_true (show (((List.length (x::r):Nat):Int)>8) by omega),decide_eq_false h]
   rfl
theorem ref1_Code_eq (a0:List QSym) (nm:Str) (h:a0.length≤maxLen):ref1_Code a0 nm=some (idxI (a0.findIdx? (fun e=>e.1==nm))):=by
 have:∀ es i,ref1_Code_L0_go nm es i=sign_find_L0_go nm es i:=by
  intro es
  induction es with
  | nil=>intro i; rfl
  | cons e es ih=>intro i; unfold ref1_Code_L0_go sign_find_L0_go; rw[ih]
 unfold ref1_Code
 rw[ref1_Code_L0_go_at0 _ _ h,this,find_go]
 cases a0.findIdx? (fun e=>e.1==nm) with
 | none=>rfl
 | some j=>simp [caseS,idxI]
theorem rmay_go (a0:List QSym) (h:a0.length≤maxLen) (es:List QSym) (i:Nat):ref1_SignMay_L0_go a0 es i=some (cond (mayGo a0 es i) (.inl ()) (.inr false)):=by
 induction es generalizing i with
 | nil=>rfl
 | cons e es ih =>
  unfold ref1_SignMay_L0_go mayGo
  rw[ref1_SymMay_eq,Option.bind_some,ref1_Code_eq _ _ h,Option.bind_some,ih,bne]
  cases symB e with
  | false=>rfl
  | true =>
   cases (idxI (a0.findIdx? (fun d=>d.1==e.1))==(i:Int)) with
   | false=>rfl
   | true=>simp
theorem ref1_SignMay_eq (a0:List QSym):ref1_SignMay a0=some (signB a0):=by
 unfold ref1_SignMay signB
 cases a0 with
 | nil=>rfl
 | cons e es =>
  rw[decide_eq_false (show ¬(((List.length (e::es):Nat):Int)<1) by rw[List.length_cons]; omega),cond_false]
  by_cases h:(e::es).length≤20
  ·have h1:¬(((List.length (e::es):Nat):Int)>20):=by omega
   have hm:(e::es).length≤maxLen:=by unfold maxLen; omega
   rw[decide_eq_false h1,cond_false,gx_zero,List.getElem?_cons_zero,Option.bind_some,decide_eq_true h]
   show cond (!(eqQ e)) _ _=some (true&&eqQ e&&mayGo (e::es) es 1)
   cases eqQ e with
   | false=>rfl
   | true =>
    have:=ref1_SignMay_L0_go_eq (e::es) hm es 1 fuel rfl (by simp [fuel]; simp at h; omega)
    simp only[Bool.not_true,cond_false]
    rw[show ((1:Int))=((1:Nat):Int) from rfl,this,rmay_go _ hm]
    cases mayGo (e::es) es 1<;>rfl
  ·have h1:((List.length (e::es):Nat):Int)>20:=by omega
   rw[decide_eq_true h1,decide_eq_false h]
   rfl
theorem end_round {a0:List QSym} (h:SignOk a0) (a1:List Int) (hl:a1.length≤1099511627776):∀(m i n:Nat) (k:Nat),a1.length - i=m→i≤a1.length→n≤1+3*i→m+1<k →
  lp ref1_End_L0 k (a0,a1,(n:Int),(i:Int))=some (match sk a0 n (a1.drop i) with
   | some j=>.inl ((i+j:Nat):Int)
   | none=>.inr (-1)):=by
 intro m
 induction m with
 | zero =>
  intro i n k hm hi hni hk
  obtain⟨k,rfl⟩:∃ k',k=k'+1:=⟨k - 1,by omega⟩
  rw[lp_succ]
  generalize lp ref1_End_L0 k=rec
  unfold ref1_End_L0
  rw[List.drop_eq_nil_iff.2 (show a1.length≤i by omega)]
  cases n with
  | zero=>simp [sk]
  | succ n =>
   simp only[decide_eq_true (show ((n+1:Nat):Int)>0 by omega),cond_true,decide_eq_true (show ((i:Int)≥((List.length a1:Nat):Int)) by omega)]
   rfl
 | succ m ih =>
  intro i n k hm hi hni hk
  obtain⟨k,rfl⟩:∃ k',k=k'+1:=⟨k - 1,by omega⟩
  have hi:i<a1.length:=by omega
  rw[lp_succ]
  have key:=fun n' h1=>ih (i+1) n' k (by omega) (by omega) h1 (by omega)
  generalize lp ref1_End_L0 k=rec at key ⊢
  unfold ref1_End_L0
  cases n with
  | zero=>simp [sk]
  | succ n =>
   have e1:IntKind.wrap .i64 (((n+1:Nat):Int) - 1)=(n:Int):=by rw[wrap64]<;>omega
   have e3:IntKind.wrap .i64 ((i:Int)+1)=((i+1:Nat):Int):=by rw[wrap64]<;>omega
   simp only[decide_eq_true (show ((n+1:Nat):Int)>0 by omega),cond_true,decide_eq_false (show ¬((i:Int)≥((List.length a1:Nat):Int)) by omega),cond_false,gx_nat,List.getElem?_eq_getElem hi,Option.bind_some,List.drop_eq_getElem_cons hi,sk,e1,e3]
   generalize a1[i]=x
   unfold arity
   by_cases h0:x<0
   ·rw[decide_eq_true h0,cond_true]
    by_cases h1 : -24≤x
    ·rw[decide_eq_false (show ¬(x < -24) by omega),cond_false,decide_eq_false (show ¬(x≥((List.length a0:Nat):Int)) by omega),cond_false,decide_eq_false (show ¬(x≥0) by omega),cond_false,decide_eq_true h1,cond_true,key n (by omega)]
     dsimp only
     rw[Nat.add_zero]
     cases sk a0 n (a1.drop (i+1)) with
     | none=>rfl
     | some j=>simp only[Option.map_some]; rw[show i+1+j=i+(j+1) from by omega]
    ·rw[decide_eq_true (show x < -24 by omega),decide_eq_false h1]; rfl
   ·rw[decide_eq_false h0,decide_eq_false (show ¬(x < -24) by omega),cond_false,cond_false]
    by_cases h1:x≥((List.length a0:Nat):Int)
    ·rw[decide_eq_true h1,cond_true,List.getElem?_eq_none (by omega)]
    ·obtain⟨e,he1,he2,he3⟩:=gx_at (xs:=a0) (i:=x) (by omega) (by omega)
     have hat:=h.at he3
     rw[decide_eq_false h1,cond_false,decide_eq_true (show x≥0 by omega),cond_true,he1,Option.bind_some,he3]
     dsimp only
     cases hk0:(e.2.1==0) with
     | true=>rfl
     | false =>
      have e2:IntKind.wrap .i64 ((n:Int)+e.2.2.1)=((n+e.2.2.1.toNat:Nat):Int):=by rw[wrap64]<;>omega
      simp only[cond_false,Option.bind_some,e2]
      rw[key _ (by omega)]
      cases sk a0 (n+e.2.2.1.toNat) (a1.drop (i+1)) with
      | none=>rfl
      | some j=>simp only[Option.map_some]; rw[show i+1+j=i+(j+1) from by omega]
def orNo (o:Option Nat):Int:=match o with
 | some k=>(k:Int)
 | none => -1
theorem ref1_End_eq {a0:List QSym} (h:SignOk a0) (a1:List Int) (hl:a1.length≤1099511627776) (i:Nat) (hi:i≤a1.length):ref1_End a0 a1 (i:Int)=some (orNo ((sk a0 1 (a1.drop i)).map (i + ·))):=by
 unfold ref1_End
 rw[show (1:Int)=((1:Nat):Int) from rfl,end_round h a1 hl (a1.length - i) i 1 fuel rfl hi (by omega) (by unfold fuel; omega)]
 cases sk a0 1 (a1.drop i) with
 | none=>rfl
 | some j=>rfl
theorem terms_round {a0:List QSym} (h:SignOk a0) (a1:List Int) (hl:a1.length≤1099511627776):∀(m i n k:Nat),a1.length - i=m→i≤a1.length→n≤i→m<k →
  lp ref1_Terms_L0 k (a0,a1,(n:Int),(i:Int))=some (match cuts a0 (a1.drop i) with
   | some ps=>.inl ((n+ps.length:Nat):Int)
   | none=>.inr (-1)):=by
 intro m
 induction m using Nat.strongRecOn with
 | _ m ih =>
  intro i n k hm hi hn hk
  obtain⟨k,rfl⟩:∃ k',k=k'+1:=⟨k - 1,by omega⟩
  rw[lp_succ]
  have key:=fun j n' (h1:i<j) h2 h3=>ih (a1.length - j) (by omega) j n' k rfl h2 h3 (by omega)
  generalize lp ref1_Terms_L0 k=rec at key ⊢
  unfold ref1_Terms_L0
  by_cases he:i=a1.length
  ·subst he
   simp [cuts_nil]
  ·have hlt:i<a1.length:=by omega
   have hne:a1.drop i≠[]:=by simp; omega
   simp only[lt_true hlt,cond_true,ref1_End_eq h a1 hl i hi,Option.bind_some,cuts_step hne]
   cases hs:sk a0 1 (a1.drop i) with
   | none=>rfl
   | some j =>
    have hj:=sk_le hs
    rw[List.length_drop] at hj
    have e1:IntKind.wrap .i64 ((n:Int)+1)=((n+1:Nat):Int):=by rw[wrap64]<;>omega
    rw[show orNo (Option.map (fun x=>i+x) (some j))=((i+j:Nat):Int) from rfl,decide_eq_false (show ¬(((i+j:Nat):Int)<0) by omega),cond_false,e1]
    rw[key (i+j) (n+1) (by omega) (by omega) (by omega)]
    dsimp only
    rw[List.drop_drop]
    cases cuts a0 (a1.drop (i+j)) with
    | none=>rfl
    | some ps=>simp only[Option.map_some,List.length_cons]; rw[show n+1+ps.length=n+(ps.length+1) from by omega]
theorem ref1_Terms_eq {a0:List QSym} (hs:signB a0=true) (a1:List Int):ref1_Terms a0 a1=some (orNo (rowW a0 a1)):=by
 have h:=signB_ok hs
 unfold ref1_Terms rowW beginsB
 rw[hs,Bool.true_and]
 by_cases hl:a1.length≤48
 ·have:=terms_round h a1 (by omega) a1.length 0 0 fuel rfl (Nat.zero_le _) (Nat.le_refl _) (by unfold fuel; omega)
  rw[show ((0:Nat):Int)=0 from rfl,List.drop_zero] at this
  rw[decide_eq_false (show ¬(((List.length a1:Nat):Int)>48) by omega),decide_eq_true hl,cond_false,cond_true,this]
  cases cuts a0 a1 with
  | none=>rfl
  | some ps=>simp [caseS,orNo]
 ·rw[decide_eq_true (show (((List.length a1:Nat):Int)>48) by omega),decide_eq_false hl]; rfl
theorem ref1_IsAtom_eq {a0:List QSym} (hs:signB a0=true) (xs:List Int):ref1_IsAtom a0 xs=some (atomB a0 xs):=by
 have h:=signB_ok hs
 unfold ref1_IsAtom atomB
 cases xs with
 | nil=>rfl
 | cons x r =>
  simp only[decide_eq_true (show (((x::r).length:Nat):Int)>0 by simp<;>omega),cond_true,gx_zero,List.getElem?_cons_zero,Option.bind_some]
  by_cases h0:x<0
  ·rw[decide_eq_false (show ¬(x≥0) by omega)]; rfl
  ·rw[decide_eq_true (show x≥0 by omega),cond_true,Bool.true_and]
   by_cases h1:x≥((List.length a0:Nat):Int)
   ·rw[decide_eq_false (show ¬(x<((List.length a0:Nat):Int)) by omega),List.getElem?_eq_none (by omega)]; rfl
   ·obtain⟨e,he1,he2,he3⟩:=gx_at (xs:=a0) (i:=x) (by omega) (by omega)
    have hat:=h.at he3
    simp only[decide_eq_true (show x<((List.length a0:Nat):Int) by omega),cond_true,he1,he3,Option.bind_some]
    cases hk:(e.2.1==0) with
    | false=>rfl
    | true =>
     simp only[cond_true,slc_tail,Option.bind_some,ref1_Terms_eq hs,Bool.true_and]
     unfold rowW
     cases beginsB a0 r with
     | none =>
      have:((-1:Int)==e.2.2.1)=false:=by simp; omega
      simp [orNo,this]
     | some ps=>rfl
theorem atomB_sign {a0:List QSym} {xs:List Int} (h:atomB a0 xs=true):signB a0=true:=by
 obtain⟨_,_,_,_,_,_,_,_,_,hs,_⟩:=atomB_spec h
 exact hs
theorem ref8_LitMay_eq (a0:List QSym) (b:Bool) (xs:List Int):ref8_LitMay a0 b xs=some (atomB a0 xs):=by
 unfold ref8_LitMay
 rw[ref1_SignMay_eq,Option.bind_some]
 cases hs:signB a0 with
 | true=>rw[cond_true,ref1_IsAtom_eq hs]; rfl
 | false =>
  cases ha:atomB a0 xs with
  | false=>rfl
  | true=>rw[atomB_sign ha] at hs; cases hs
theorem rrows2 (s:List QLit):(es:List QLit)→(acc:List (List Int))→acc.length+es.length≤1000000→ref8_rows_L2_go es acc=some (acc++es.map (·.2))∧ref8_rows_L0_go es acc=some (acc++es.map (·.2))
 | [],acc,_=>⟨by simp [ref8_rows_L2_go],by simp [ref8_rows_L0_go]⟩
 | e::es,acc,h=>by
  rw[List.length_cons] at h
  obtain⟨k1,k2⟩:=rrows2 s es (acc++[e.2]) (by simp; omega)
  unfold ref8_rows_L2_go ref8_rows_L0_go
  rw[room_ok (show (acc.length+[e.2].length)*24≤140737488351232 by simp; omega),cond_true,cond_true,k1,k2]
  simp
theorem rrows1:(es:List (List Int))→(acc:List (List Int))→acc.length+es.length≤1000000→ref8_rows_L1_go es acc=some (acc++es)
 | [],acc,_=>by simp [ref8_rows_L1_go]
 | e::es,acc,h=>by
  rw[List.length_cons] at h
  have k1:=rrows1 es (acc++[e]) (by simp; omega)
  unfold ref8_rows_L1_go
  rw[room_ok (show (acc.length+[e].length)*24≤140737488351232 by simp; omega),cond_true,k1]
  simp
theorem ref8_rows_eq (a1:List QLit) (a2:List (List Int)) (a3:List QLit) (h1:a1.length≤1000) (h2:a2.length≤1000) (h3:a3.length≤1000):ref8_rows a1 a2 a3=some (a1.map (·.2)++a2++a3.map (·.2)):=by
 unfold ref8_rows
 rw[ref8_rows_L0_go_at0 _ _ _ _ (by unfold maxLen; omega),(rrows2 [] a1 [] (by simp; omega)).2,Option.bind_some,ref8_rows_L1_go_at0 _ _ _ _ (by unfold maxLen; omega),rrows1 a2 _ (by simp; omega),Option.bind_some,
  ref8_rows_L2_go_at0 _ _ _ _ (by unfold maxLen; omega),(rrows2 [] a3 _ (by simp; omega)).1]
 simp
theorem rsum_go:(es:List (List Int))→(t:Nat)→t+sumLen es≤1000000000000→ref8_May_L3_go es (t:Int)=some ((t+sumLen es:Nat):Int)
 | [],t,_=>by simp [ref8_May_L3_go,sumLen]
 | e::es,t,h=>by
  have hs:sumLen (e::es)=e.length+sumLen es:=by simp [sumLen]
  rw[hs] at h
  unfold ref8_May_L3_go
  have e1:IntKind.wrap .i64 ((t:Int)+((List.length e:Nat):Int))=((t+e.length:Nat):Int):=by rw[wrap64]<;>omega
  rw[e1,rsum_go es (t+e.length) (by omega),hs]
  congr 2
  omega
theorem rlits_go (a0:List QSym):(es:List QLit)→ref8_May_L0_go a0 es=some (cond (litsB a0 es) (.inl ()) (.inr false))∧ref8_May_L1_go a0 es=some (cond (litsB a0 es) (.inl ()) (.inr false))
 | []=>⟨rfl,rfl⟩
 | e::es=>by
  obtain⟨k1,k2⟩:=rlits_go a0 es
  unfold ref8_May_L0_go ref8_May_L1_go
  rw[ref8_LitMay_eq,k1,k2]
  unfold litsB
  rw[List.all_cons]
  cases atomB a0 e.2<;>exact ⟨rfl,rfl⟩
theorem rrows_go {a0:List QSym} (hs:signB a0=true) (s3:List (List Int)) (r:List Int) (h0:s3[0]? = some r):(es:List (List Int))→ref8_May_L2_go a0 s3 es=some (cond (es.all fun q=>(rowW a0 q).isSome&&(rowW a0 q==rowW a0 r)) (.inl ()) (.inr false))
 | []=>rfl
 | e::es=>by
  unfold ref8_May_L2_go
  rw[ref1_Terms_eq hs,Option.bind_some,gx_zero,h0,Option.bind_some,ref1_Terms_eq hs,Option.bind_some,rrows_go hs s3 r h0 es,List.all_cons]
  cases h1:rowW a0 e with
  | none=>rfl
  | some n =>
   rw[show orNo (some n)=(n:Int) from rfl,decide_eq_false (show ¬((n:Int)<0) by omega),cond_false]
   cases h2:rowW a0 r with
   | none =>
    rw[show (((n:Int)) != orNo none)=true from by simp [orNo]<;>omega]
    rfl
   | some k =>
    by_cases hn:n=k
    ·subst hn; simp [orNo]
    ·have e1:(((n:Int)) != orNo (some k))=true:=by simp [orNo]; omega
     have e2:(some n==some k)=false:=by simpa using hn
     rw[e1,e2]; simp
theorem rowsB_all' {a0:List QSym} (r:List Int) (rs:List (List Int)):((r::rs).all fun q=>(rowW a0 q).isSome&&(rowW a0 q==rowW a0 r))=rowsB a0 (r::rs):=by
 unfold rowsB
 dsimp only
 cases hr:rowW a0 r with
 | none=>simp [hr]
 | some n =>
  rw[List.all_cons,hr]
  simp only[Option.isSome_some,beq_self_eq_true,Bool.true_and]
  congr 1
  funext q
  cases rowW a0 q<;>simp
theorem ref8_May_eq (a0:List QSym) (a1:List QLit) (a2:List (List Int)) (a3:List QLit):ref8_May a0 a1 a2 a3=some (mayB a0 a1 a2 a3):=by
 unfold ref8_May mayB
 rw[ref1_SignMay_eq,Option.bind_some]
 cases hs:signB a0 with
 | false=>rfl
 | true =>
  by_cases h1:a1.length≤5
  ·by_cases h3:a3.length≤3
   ·by_cases h2:a2.length≤3
    ·simp only[Bool.not_true,cond_false,decide_eq_false (show ¬(((List.length a1:Nat):Int)>5) by omega),decide_eq_false (show ¬(((List.length a2:Nat):Int)>3) by omega),decide_eq_false (show ¬(((List.length a3:Nat):Int)>3) by omega),
      decide_eq_true h1,decide_eq_true h2,decide_eq_true h3,Bool.true_and]
     rw[ref8_May_L0_go_at0 _ _ _ _ (by unfold maxLen; omega),(rlits_go a0 a1).1]
     cases hb1:litsB a0 a1 with
     | false=>rfl
     | true =>
      simp only[cond_true,Option.bind_some,caseS_inl,Bool.true_and]
      rw[ref8_May_L1_go_at0 _ _ _ _ (by unfold maxLen; omega),(rlits_go a0 a3).2]
      cases hb3:litsB a0 a3 with
      | false=>simp [caseS]
      | true =>
       simp only[cond_true,Option.bind_some,caseS_inl,Bool.and_true]
       rw[ref8_May_L2_go_at0 _ _ _ _ (by unfold maxLen; omega)]
       have hrows:ref8_May_L2_go a0 a2 a2=some (cond (rowsB a0 a2) (.inl ()) (.inr false)):=by
        cases a2 with
        | nil=>rfl
        | cons r rs=>rw[rrows_go hs (r::rs) r rfl (r::rs),rowsB_all']
       rw[hrows]
       cases hb2:rowsB a0 a2 with
       | false=>rfl
       | true =>
        have s1:=lits_sum a1 hb1
        have s2:=rows_sum a2 hb2
        have s3:=lits_sum a3 hb3
        have hsum:sumLen (a1.map (·.2)++a2++a3.map (·.2))=sumLen (a1.map (·.2))+sumLen a2+sumLen (a3.map (·.2)):=by simp [sumLen]; omega
        simp only[cond_true,Option.bind_some,caseS_inl,ref8_rows_eq a1 a2 a3 (by omega) (by omega) (by omega),Bool.true_and]
        rw[ref8_May_L3_go_at0 _ _ (by simp only[List.length_append,List.length_map]; unfold maxLen; omega),show (0:Int)=((0:Nat):Int) from rfl,rsum_go _ 0 (by rw[hsum]; omega),Option.bind_some,Nat.zero_add,hsum]
        simp only[Option.some.injEq,decide_eq_decide]
        omega
    ·simp only[Bool.not_true,cond_false,decide_eq_false (show ¬(((List.length a1:Nat):Int)>5) by omega),decide_eq_false (show ¬(((List.length a3:Nat):Int)>3) by omega),decide_eq_true (show (((List.length a2:Nat):Int)>3) by omega),decide_eq_false h2,cond_true,Bool.and_false,Bool.false_and]
   ·simp only[Bool.not_true,cond_false,decide_eq_false (show ¬(((List.length a1:Nat):Int)>5) by omega),decide_eq_true (show (((List.length a3:Nat):Int)>3) by omega),decide_eq_false h3,cond_true,Bool.and_false,Bool.false_and]
  ·simp only[Bool.not_true,cond_false,decide_eq_true (show (((List.length a1:Nat):Int)>5) by omega),decide_eq_false h1,cond_true,Bool.and_false,Bool.false_and]
end
end Go.Abs.Q
namespace Go.Abs.Q
open Go Go.Abs
section
end
end Go.Abs.Q
namespace Go.Abs.Q
open Go Go.Abs
section
def InB (a0:List QSym) (xs:List Int):Prop:=∀ x∈xs,x<(a0.length:Int)
theorem law0_CopyInts_eq {xs:List Int} (h:xs.length≤1000000000):law0_CopyInts xs=some xs:=by
 unfold law0_CopyInts
 rw[room_ok (by simp only[List.length_nil]; omega)]; rfl
theorem copyLits_go:(es acc:List QLit)→(∀ l∈es,l.2.length≤1000000000)→acc.length+es.length≤1000000000→law0_CopyLits_L0_go es acc=some (acc++es)
 | [],acc,_,_=>by simp [law0_CopyLits_L0_go]
 | e::es,acc,h,hl=>by
  rw[List.length_cons] at hl
  unfold law0_CopyLits_L0_go
  rw[law0_CopyInts_eq (h e (by simp)),Option.bind_some,room_ok (by simp only[List.length_cons,List.length_nil]; omega),cond_true,copyLits_go es _ (fun l hl=>h l (by simp [hl])) (by simp; omega)]
  simp
theorem law0_CopyLits_eq {ls:List QLit} (h:∀ l∈ls,l.2.length≤1000000000) (hl:ls.length≤1000000000):law0_CopyLits ls=some ls:=by
 unfold law0_CopyLits
 rw[law0_CopyLits_L0_go_at0 _ _ (by unfold maxLen; omega),copyLits_go ls [] h (by simp; omega)]
 rfl
end
end Go.Abs.Q
namespace Go.Abs.Q
open Go Go.Abs
section
theorem sameInts_go (ys:List Int):(es:List Int)→(i:Nat)→es.length=(ys.drop i).length→law0_SameInts_L0_go ys es i=some (cond (decide (es=ys.drop i)) (.inl ()) (.inr false))
 | [],i,h=>by
  have:ys.drop i=[]:=List.length_eq_zero_iff.1 h.symm
  rw[this]; rfl
 | e::es,i,h=>by
  unfold law0_SameInts_L0_go
  rw[List.length_cons,List.length_drop] at h
  have hi:i<ys.length:=by omega
  rw[gx_nat,List.getElem?_eq_getElem hi,Option.bind_some,List.drop_eq_getElem_cons hi,sameInts_go ys es (i+1) (by rw[List.length_drop]; omega)]
  generalize ys[i]=y
  by_cases he:e=y
  ·subst he
   rw[show (e != e)=false from by simp,cond_false]
   simp
  ·rw[show (e != y)=true from by simpa using he,cond_true]
   rw[decide_eq_false (by intro h; injection h with h1 h2; exact he h1)]
   rfl
theorem law0_SameInts_eq {xs ys:List Int} (h:xs.length≤maxLen):law0_SameInts xs ys=some (decide (xs=ys)):=by
 unfold law0_SameInts
 by_cases hl:xs.length=ys.length
 ·rw[show (((List.length xs:Nat):Int) != ((List.length ys:Nat):Int))=false from by simp [hl],cond_false,law0_SameInts_L0_go_at0 _ _ h,sameInts_go ys xs 0 hl,List.drop_zero]
  cases decide (xs=ys)<;>rfl
 ·rw[show (((List.length xs:Nat):Int) != ((List.length ys:Nat):Int))=true from by simp; omega,cond_true,decide_eq_false (by intro h; subst h; exact hl rfl)]
theorem sameLits_go (ys:List QLit):(es:List QLit)→(i:Nat)→es.length=(ys.drop i).length→(∀ e∈es,e.2.length≤maxLen)→law0_SameLits_L0_go ys es i=some (cond (decide (es=ys.drop i)) (.inl ()) (.inr false))
 | [],i,h,_=>by
  have:ys.drop i=[]:=List.length_eq_zero_iff.1 h.symm
  rw[this]; rfl
 | e::es,i,h,hm=>by
  unfold law0_SameLits_L0_go
  rw[List.length_cons,List.length_drop] at h
  have hi:i<ys.length:=by omega
  rw[gx_nat,List.getElem?_eq_getElem hi,Option.bind_some,List.drop_eq_getElem_cons hi,sameLits_go ys es (i+1) (by rw[List.length_drop]; omega) (fun x hx=>hm x (by simp [hx]))]
  generalize ys[i]=y
  obtain⟨a,b⟩:=e
  obtain⟨c,d⟩:=y
  have hb:b.length≤maxLen:=hm (a,b) (by simp)
  simp only[Option.bind_some,law0_SameInts_eq hb]
  by_cases h1:a=c
  ·subst h1
   by_cases h2:b=d
   ·subst h2
    simp
   ·have:¬((a,b)::es=(a,d)::ys.drop (i+1)):=fun h=>by injection h with h _; injection h with _ h; exact h2 h
    simp [h2,this]
  ·have:¬((a,b)::es=(c,d)::ys.drop (i+1)):=fun h=>by injection h with h _; injection h with h _; exact h1 h
   have h3:(a==c)=false:=by simpa using h1
   rw[h3,decide_eq_false this]; rfl
theorem law0_SameLits_eq {xs ys:List QLit} (h:xs.length≤maxLen) (hm:∀ e∈xs,e.2.length≤maxLen):law0_SameLits xs ys=some (decide (xs=ys)):=by
 unfold law0_SameLits
 by_cases hl:xs.length=ys.length
 ·rw[show (((List.length xs:Nat):Int) != ((List.length ys:Nat):Int))=false from by simp [hl],cond_false,law0_SameLits_L0_go_at0 _ _ h,sameLits_go ys xs 0 hl hm,List.drop_zero]
  cases decide (xs=ys)<;>rfl
 ·rw[show (((List.length xs:Nat):Int) != ((List.length ys:Nat):Int))=true from by simp; omega,cond_true,decide_eq_false (by intro h; subst h; exact hl rfl)]
theorem sameRows_go (ys:List (List Int)):(es:List (List Int))→(i:Nat)→es.length=(ys.drop i).length→(∀ e∈es,e.length≤maxLen)→law0_SameRows_L0_go ys es i=some (cond (decide (es=ys.drop i)) (.inl ()) (.inr false))
 | [],i,h,_=>by
  have:ys.drop i=[]:=List.length_eq_zero_iff.1 h.symm
  rw[this]; rfl
 | e::es,i,h,hm=>by
  unfold law0_SameRows_L0_go
  rw[List.length_cons,List.length_drop] at h
  have hi:i<ys.length:=by omega
  rw[gx_nat,List.getElem?_eq_getElem hi,Option.bind_some,List.drop_eq_getElem_cons hi,law0_SameInts_eq (hm e (by simp)),Option.bind_some,sameRows_go ys es (i+1) (by rw[List.length_drop]; omega) (fun x hx=>hm x (by simp [hx]))]
  generalize ys[i]=y
  by_cases h1:e=y
  ·subst h1
   simp
  ·have:¬(e::es=y::ys.drop (i+1)):=fun h=>by injection h with h _; exact h1 h
   rw[decide_eq_false h1,decide_eq_false this]; rfl
theorem law0_SameRows_eq {xs ys:List (List Int)} (h:xs.length≤maxLen) (hm:∀ e∈xs,e.length≤maxLen):law0_SameRows xs ys=some (decide (xs=ys)):=by
 unfold law0_SameRows
 by_cases hl:xs.length=ys.length
 ·rw[show (((List.length xs:Nat):Int) != ((List.length ys:Nat):Int))=false from by simp [hl],cond_false,law0_SameRows_L0_go_at0 _ _ h,sameRows_go ys xs 0 hl hm,List.drop_zero]
  cases decide (xs=ys)<;>rfl
 ·rw[show (((List.length xs:Nat):Int) != ((List.length ys:Nat):Int))=true from by simp; omega,cond_true,decide_eq_false (by intro h; subst h; exact hl rfl)]
theorem law0_SameClause_refl {a0:List QLit} {a1:List (List Int)} {a2:List QLit} (h0:a0.length≤maxLen) (h0m:∀ e∈a0,e.2.length≤maxLen) (h1:a1.length≤maxLen) (h1m:∀ e∈a1,e.length≤maxLen) (h2:a2.length≤maxLen) (h2m:∀ e∈a2,e.2.length≤maxLen) :
  law0_SameClause a0 a1 a2 a0 a1 a2=some true:=by
 unfold law0_SameClause
 rw[law0_SameLits_eq h0 h0m,law0_SameRows_eq h1 h1m,law0_SameLits_eq h2 h2m]
 simp
theorem wt_mem {α:Type} {f:α→Nat} {xs:List α} {x:α} (h:x∈xs):f x≤(xs.map f).sum:=by
 induction xs with
 | nil=>cases h
 | cons y ys ih =>
  simp only[List.map_cons,List.sum_cons]
  rcases List.mem_cons.1 h with rfl | h
  ·omega
  ·have:=ih h; omega
theorem wt_len {α:Type} {f:α→Nat} (hf:∀ x,1≤f x) (xs:List α):xs.length≤(xs.map f).sum:=by
 induction xs with
 | nil=>simp
 | cons y ys ih =>
  simp only[List.map_cons,List.sum_cons,List.length_cons]
  have:=hf y
  omega
theorem wt_ints (xs:List Int):wt (.sl (.one (.int .i64))) xs=xs.length+1:=by
 show (List.map (fun _=>1) xs).sum+1=_
 congr 1
 induction xs with
 | nil=>rfl
 | cons y ys ih=>simp only[List.map_cons,List.sum_cons,List.length_cons,ih]; omega
theorem wtT_lit (l:QLit):wtT tLit l=l.2.length+2:=by
 show 1+wt (.sl (.one (.int .i64))) l.2=_
 rw[wt_ints]; omega
theorem wt_lits {ls:List QLit} {b:Nat} (h:wt (.sl tLit) ls≤b):ls.length≤b∧∀ l∈ls,l.2.length≤b:=by
 have e:(wtT tLit:QLit→Nat)=fun l=>l.2.length+2:=funext wtT_lit
 have h:(List.map (wtT tLit:QLit→Nat) ls).sum+1≤b:=h
 rw[e] at h
 replace h:(List.map (fun l:QLit=>l.2.length+2) ls).sum+1≤b:=h
 have h1:=wt_len (f:=fun l:QLit=>l.2.length+2) (fun l=>by omega) ls
 refine ⟨by omega,fun l hl => ?_⟩
 have:=wt_mem (f:=fun l:QLit=>l.2.length+2) hl
 omega
end
end Go.Abs.Q
namespace Go.Abs.Q
open Go Go.Abs
end Go.Abs.Q
namespace Go.Abs.Q
open Go Go.Abs
end Go.Abs.Q
namespace Go.Abs.Q
open Go Go.Abs
section
end
end Go.Abs.Q
namespace Go.Abs.Q
open Go Go.Abs
end Go.Abs.Q
namespace Go.Abs.Q
open Go Go.Abs
end Go.Abs.Q
namespace Go.Abs.Q
open Go Go.Abs
section
theorem slices_CloneN_eq {xs:List Int} (h:xs.length≤1099511627776):slices_CloneN xs=some xs:=by
 unfold slices_CloneN slices_Clone
 simp only[Option.isNone_some,cond_false,Option.getD_some,List.length_nil,Nat.zero_add,List.nil_append]
 rw[room_ok (show xs.length*8≤140737488351232 by omega)]
 rfl
theorem equal_go (ys:List Int):(es:List Int)→(i:Nat)→es.length=(ys.drop i).length→slices_Equal_L0_go ys es i=some (cond (decide (es=ys.drop i)) (.inl ()) (.inr false))
 | [],i,h=>by
  have:ys.drop i=[]:=List.eq_nil_of_length_eq_zero h.symm
  rw[this]; rfl
 | e::es,i,h=>by
  cases hd:ys.drop i with
  | nil=>rw[hd] at h; simp at h
  | cons y r =>
   have hn:=drop_cons_next hd
   have:=equal_go ys es (i+1) (by rw[hn]; rw[hd] at h; simpa using h)
   unfold slices_Equal_L0_go
   simp only[gx_nat,drop_cons_get hd,Option.bind_some,this,hn]
   by_cases he:e=y
   ·subst he
    simp
   ·have h1:(e != y)=true:=by simpa using he
    simp [h1,he]
theorem slices_Equal_eq {xs ys:List Int} (h:xs.length≤maxLen):slices_Equal xs ys=some (decide (xs=ys)):=by
 unfold slices_Equal
 by_cases hl:xs.length=ys.length
 ·rw[show (((List.length xs:Nat):Int) != ((List.length ys:Nat):Int))=false from by simp [hl],cond_false,slices_Equal_L0_go_at0 _ _ h,equal_go ys xs 0 hl,List.drop_zero]
  cases decide (xs=ys)<;>rfl
 ·rw[show (((List.length xs:Nat):Int) != ((List.length ys:Nat):Int))=true from by simp; omega,cond_true,decide_eq_false (by intro h; subst h; exact hl rfl)]
theorem lit_Same_eq {a b:Bool} {xs ys:List Int} (h:xs.length≤maxLen):lit_Same a xs b ys=some (decide ((a,xs)=(b,ys))):=by
 unfold lit_Same
 cases hab:(a==b) with
 | false =>
  have:a≠b:=by simpa using hab
  simp [this]
 | true =>
  have:a=b:=by simpa using hab
  subst this
  rw[cond_true,slices_Equal_eq h]
  simp
theorem once_idx (l:QLit) (hl:l.2.length≤maxLen):(es:List QLit)→(i:Nat)→∃ r,slices_IndexFunc_L0_go l.1 l.2 es i=some r∧(l∈es→∃ j:Nat,r = .inr (j:Int))∧(l∉es→r = .inl ())
 | [],i=>⟨.inl (),rfl,(fun h=>by cases h),fun _=>rfl⟩
 | e::es,i=>by
  unfold slices_IndexFunc_L0_go clause_once_c1
  rw[lit_Same_eq hl]
  simp only[Option.bind_some]
  by_cases he:(l.1,l.2)=(e.1,e.2)
  ·rw[decide_eq_true he,cond_true]
   have he':l=e:=he
   exact ⟨_,rfl,fun _=>⟨i,rfl⟩,fun h=>absurd (List.mem_cons.2 (.inl he')) h⟩
  ·rw[decide_eq_false he,cond_false]
   obtain⟨r,h1,h2,h3⟩:=once_idx l hl es (i+1)
   have he':l≠e:=he
   refine ⟨r,h1,fun h=>h2 ?_,fun h=>h3 fun h'=>h (List.mem_cons_of_mem _ h')⟩
   rcases List.mem_cons.1 h with h | h
   ·exact absurd h he'
   ·exact h
theorem slices_ContainsFunc_eq {l:QLit} {es:List QLit} (hl:l.2.length≤maxLen) (h:es.length≤maxLen):slices_ContainsFunc es l.1 l.2=some (decide (l∈es)):=by
 unfold slices_ContainsFunc slices_IndexFunc
 rw[slices_IndexFunc_L0_go_at0 _ _ _ h]
 obtain⟨r,h1,h2,h3⟩:=once_idx l hl es 0
 rw[h1]
 by_cases hm:l∈es
 ·obtain⟨j,rfl⟩:=h2 hm
  simp [caseS,hm]
 ·rw[h3 hm]
  simp [caseS,hm]
def onceL {α:Type} [DecidableEq α]:List α→List α→List α
 | [],out=>out
 | e::es,out=>cond (decide (e∈out)) (onceL es out) (onceL es (out++[e]))
theorem onceL_len {α:Type} [DecidableEq α]:(es out:List α)→(onceL es out).length≤out.length+es.length
 | [],out=>by simp [onceL]
 | e::es,out=>by
  unfold onceL
  cases decide (e∈out) with
  | true=>have:=onceL_len es out; simp only[cond_true,List.length_cons]; omega
  | false=>have:=onceL_len es (out++[e]); simp only[cond_false,List.length_cons,List.length_append,List.length_nil] at this ⊢; omega
theorem onceL_mem {α:Type} [DecidableEq α] {x:α}:(es out:List α)→(x∈onceL es out↔x∈out∨x∈es)
 | [],out=>by simp [onceL]
 | e::es,out=>by
  unfold onceL
  by_cases h:e∈out
  ·rw[decide_eq_true h,cond_true,onceL_mem es out,List.mem_cons]
   constructor
   ·rintro (h1 | h1)
    ·exact .inl h1
    ·exact .inr (.inr h1)
   ·rintro (h1 | rfl | h1)
    ·exact .inl h1
    ·exact .inl h
    ·exact .inr h1
  ·rw[decide_eq_false h,cond_false,onceL_mem es (out++[e])]
   simp only[List.mem_append,List.mem_cons,List.not_mem_nil,or_false]
   constructor
   ·rintro ((h1 | h1) | h1)
    ·exact .inl h1
    ·exact .inr (.inl h1)
    ·exact .inr (.inr h1)
   ·rintro (h1 | h1 | h1)
    ·exact .inl (.inl h1)
    ·exact .inl (.inr h1)
    ·exact .inr h1
theorem once_go:(es out:List QLit)→(∀ e∈es,e.2.length≤maxLen)→out.length+es.length≤1000000→clause_once_L0_go es out=some (onceL es out)
 | [],out,_,_=>rfl
 | e::es,out,h,hl=>by
  have h1:=h e (List.mem_cons_self ..)
  have hl':out.length+(es.length+1)≤1000000:=hl
  unfold clause_once_L0_go onceL
  rw[slices_ContainsFunc_eq h1 (by unfold maxLen; omega),Option.bind_some]
  by_cases hm:e∈out
  ·simp only[hm,decide_true,Bool.not_true,cond_false,cond_true]
   exact once_go es out (fun x hx=>h x (List.mem_cons_of_mem _ hx)) (by omega)
  ·simp only[hm,decide_false,Bool.not_false,cond_false,cond_true]
   rw[room_ok (show (out.length+([(e.1,e.2)]:List QLit).length)*32≤140737488351232 by simp; omega),cond_true]
   exact once_go es (out++[e]) (fun x hx=>h x (List.mem_cons_of_mem _ hx)) (by simp; omega)
theorem clause_once_eq {es:List QLit} (h:∀ e∈es,e.2.length≤maxLen) (hl:es.length≤1000000):clause_once es=some (onceL es []):=by
 unfold clause_once
 rw[clause_once_L0_go_at0 _ _ (by unfold maxLen; omega),once_go es [] h (by simpa using hl)]
 rfl
theorem rows_idx (l:List Int) (hl:l.length≤maxLen):(es:List (List Int))→(i:Nat)→∃ r,slices_IndexFunc_1_L0_go l es i=some r∧(l∈es→∃ j:Nat,r = .inr (j:Int))∧(l∉es→r = .inl ())
 | [],i=>⟨.inl (),rfl,(fun h=>by cases h),fun _=>rfl⟩
 | e::es,i=>by
  unfold slices_IndexFunc_1_L0_go clause_anew_c1
  rw[slices_Equal_eq hl]
  simp only[Option.bind_some]
  by_cases he:l=e
  ·rw[decide_eq_true he,cond_true]
   exact ⟨_,rfl,fun _=>⟨i,rfl⟩,fun h=>absurd (List.mem_cons.2 (.inl he)) h⟩
  ·rw[decide_eq_false he,cond_false]
   obtain⟨r,h1,h2,h3⟩:=rows_idx l hl es (i+1)
   refine ⟨r,h1,fun h=>h2 ?_,fun h=>h3 fun h'=>h (List.mem_cons_of_mem _ h')⟩
   rcases List.mem_cons.1 h with h | h
   ·exact absurd h he
   ·exact h
theorem slices_ContainsFunc_1_eq {l:List Int} {es:List (List Int)} (hl:l.length≤maxLen) (h:es.length≤maxLen):slices_ContainsFunc_1 es l=some (decide (l∈es)):=by
 unfold slices_ContainsFunc_1 slices_IndexFunc_1
 rw[slices_IndexFunc_1_L0_go_at0 _ _ h]
 obtain⟨r,h1,h2,h3⟩:=rows_idx l hl es 0
 rw[h1]
 by_cases hm:l∈es
 ·obtain⟨j,rfl⟩:=h2 hm
  simp [caseS,hm]
 ·rw[h3 hm]
  simp [caseS,hm]
theorem anew_go (s3 s4:List QLit):(es out:List (List Int))→(∀ e∈es,e.length≤maxLen)→out.length+es.length≤1000000→clause_anew_L0_go s3 s4 es out=some (s3,s4,onceL es out)
 | [],out,_,_=>rfl
 | e::es,out,h,hl=>by
  have h1:=h e (List.mem_cons_self ..)
  have hl':out.length+(es.length+1)≤1000000:=hl
  unfold clause_anew_L0_go onceL
  rw[slices_ContainsFunc_1_eq h1 (by unfold maxLen; omega),Option.bind_some]
  by_cases hm:e∈out
  ·simp only[hm,decide_true,Bool.not_true,cond_false,cond_true]
   exact anew_go s3 s4 es out (fun x hx=>h x (List.mem_cons_of_mem _ hx)) (by omega)
  ·simp only[hm,decide_false,Bool.not_false,cond_false,cond_true]
   rw[room_ok (show (out.length+([e]:List (List Int)).length)*24≤140737488351232 by simp; omega),cond_true]
   exact anew_go s3 s4 es (out++[e]) (fun x hx=>h x (List.mem_cons_of_mem _ hx)) (by simp; omega)
def ren1 (s:List Int×Int) (c:Int):Int×(List Int×Int) :=
 cond (decide (c≥0)) (c,s) (cond (s.1.getD (-1 - c).toNat 0==0) (-(s.2+1),(s.1.set (-1 - c).toNat (s.2+1),s.2+1)) (-(s.1.getD (-1 - c).toNat 0),s))
def renR:List Int×Int→List Int→List Int×(List Int×Int)
 | s,[]=>([],s)
 | s,c::cs=>((ren1 s c).1::(renR (ren1 s c).2 cs).1,(renR (ren1 s c).2 cs).2)
theorem renR_len:(s:List Int×Int)→(cs:List Int)→(renR s cs).1.length=cs.length
 | _,[]=>rfl
 | s,c::cs=>by simp [renR,renR_len (ren1 s c).2 cs]
structure RenOk (s:List Int×Int) (b:Int):Prop where
 len:s.1.length=24
 lo:0≤s.2
 hi:s.2≤b
 all:∀ x∈s.1,0≤x∧x≤s.2
theorem RenOk.more {s:List Int×Int} {b b':Int} (h:RenOk s b) (hb:b≤b'):RenOk s b':=⟨h.len,h.lo,Int.le_trans h.hi hb,h.all⟩
theorem RenOk.get {s:List Int×Int} {b:Int} (h:RenOk s b) (v:Nat):0≤s.1.getD v 0∧s.1.getD v 0≤s.2:=by
 have h0:=h.lo
 rw[List.getD_eq_getElem?_getD]
 cases hv:s.1[v]? with
 | none=>exact ⟨Int.le_refl _,h0⟩
 | some x=>exact h.all x (List.mem_of_getElem? hv)
theorem ren1_ok {s:List Int×Int} {b:Int} (h:RenOk s b) (c:Int):RenOk (ren1 s c).2 (b+1):=by
 unfold ren1
 cases decide (c≥0) with
 | true=>exact h.more (by omega)
 | false =>
  rw[cond_false]
  cases (s.1.getD (-1 - c).toNat 0==0) with
  | false=>exact h.more (by omega)
  | true =>
   refine ⟨by simpa using h.len,by have:=h.lo; simp; omega,by have:=h.hi; simp; omega,fun x hx => ?_⟩
   simp only[cond_true] at hx ⊢
   rcases List.mem_or_eq_of_mem_set hx with hx | rfl
   ·have:=h.all x hx; omega
   ·have:=h.lo; omega
theorem renR_ok:{s:List Int×Int}→{b:Int}→(cs:List Int)→RenOk s b→RenOk (renR s cs).2 (b+cs.length)
 | s,b,[],h=>by simpa[renR] using h
 | s,b,c::cs,h=>by
  have:=renR_ok cs (ren1_ok h c)
  simp only[renR,List.length_cons]
  exact this.more (by omega)
theorem set_mid {α:Type} (done es:List α) (e x:α):(done++e::es).set done.length x=done++x::es:=by
 rw[List.set_append_right _ _ (Nat.le_refl _),Nat.sub_self]
 rfl
theorem get_mid {α:Type} (done es:List α) (e:α):(done++e::es)[done.length]? = some e:=by
 rw[List.getElem?_append_right (Nat.le_refl _),Nat.sub_self]
 rfl
theorem ren_round:(es done:List Int)→(s:List Int×Int)→(k:Nat)→es.length<k→done.length+es.length≤1000000→RenOk s 1000000→s.2+es.length≤1000000→(∀ c∈es,-24≤c) →
  lp clause_anew_c2_1_L0 k (((done.length+es.length:Nat):Int),(done.length:Int),s.1,s.2,done++es)=some ((renR s es).2.1,(renR s es).2.2,done++(renR s es).1)
 | [],done,s,k,hk,hl,hs,hb,hc=>by
  obtain⟨k,rfl⟩:∃ k',k=k'+1:=⟨k - 1,by omega⟩
  rw[lp_succ]
  generalize lp clause_anew_c2_1_L0 k=rec
  unfold clause_anew_c2_1_L0
  simp [renR]
 | e::es,done,s,k,hk,hl,hs,hb,hc=>by
  obtain⟨k,rfl⟩:∃ k',k=k'+1:=⟨k - 1,by omega⟩
  rw[lp_succ]
  have he:=hc e (List.mem_cons_self ..)
  have hl':done.length+(es.length+1)≤1000000:=hl
  have hb':s.2+((es.length+1:Nat):Int)≤1000000:=hb
  have key:=fun (e':Int) (s':List Int×Int) (hs':RenOk s' 1000000) (hb2:s'.2+es.length≤1000000)=>ren_round es (done++[e']) s' k (Nat.lt_of_succ_lt_succ hk) (by simp; omega) hs' hb2 (fun c hx=>hc c (List.mem_cons_of_mem _ hx))
  generalize lp clause_anew_c2_1_L0 k=rec at key ⊢
  unfold clause_anew_c2_1_L0
  have e1:decide (((done.length:Nat):Int)<((done.length+(e::es).length:Nat):Int))=true:=by rw[decide_eq_true_eq,List.length_cons]; omega
  have e2:inR ((done.length:Nat):Int) (List.length (done++e::es))=some done.length:=inR_nat (by simp)
  have e3:IntKind.wrap .i64 (((done.length:Nat):Int)+1)=((done.length+1:Nat):Int):=by rw[wrap64]<;>omega
  have key2:=fun (e':Int) (s':List Int×Int) (hs':RenOk s' 1000000) (hb2:s'.2+es.length≤1000000)=>by
   have:=key e' s' hs' hb2
   rw[List.append_assoc,List.length_append,List.length_singleton,Nat.add_assoc,Nat.add_comm 1 es.length] at this
   exact this
  simp only[e1,cond_true,e2,Option.bind_some,get_mid,e3]
  by_cases h0:e≥0
  ·have hr:ren1 s e=(e,s):=by unfold ren1; rw[decide_eq_true h0]; rfl
   rw[decide_eq_true h0,cond_true]
   have:=key2 e s hs (by omega)
   simp only[renR,hr]
   exact this.trans (by simp)
  ·rw[decide_eq_false h0,cond_false]
   have h24:(-1 - e).toNat<24:=by omega
   have e4:inR (-1 - e) 24=some (-1 - e).toNat:=by
    have:=inR_nat h24
    rwa [Int.toNat_of_nonneg (by omega)] at this
   have hget:∀ xs:List Int,xs.length=24→xs[(-1 - e).toNat]? = some (xs.getD (-1 - e).toNat 0):=fun xs hx=>by
    rw[List.getD_eq_getElem?_getD,List.getElem?_eq_getElem (by omega)]; rfl
   have hg:=hs.get (-1 - e).toNat
   have hs1:=hs.hi
   have hs0:=hs.lo
   simp only[term_Number_eq (x:=e) (by omega) (by omega),Option.bind_some,e4,hget s.1 hs.len]
   by_cases hz:s.1.getD (-1 - e).toNat 0=0
   ·have hr:ren1 s e=(-(s.2+1),(s.1.set (-1 - e).toNat (s.2+1),s.2+1)):=by unfold ren1; rw[decide_eq_false h0,hz]; rfl
    have w1:IntKind.wrap .i64 (s.2+1)=s.2+1:=by rw[wrap64]<;>omega
    have hset:(List.set s.1 (-1 - e).toNat (s.2+1)).getD (-1 - e).toNat 0=s.2+1:=by
     rw[List.getD_eq_getElem?_getD,List.getElem?_set_self (by rw[hs.len]; exact h24)]; rfl
    have hn:negI .i64 (s.2+1) = -(s.2+1):=by unfold negI; rw[wrap64]<;>omega
    rw[hz]
    simp only[show (((0:Int)==0))=true from rfl,cond_true,w1,hget (List.set s.1 (-1 - e).toNat (s.2+1)) (by simpa using hs.len),Option.bind_some,hset,hn,set_mid]
    have hok:=ren1_ok (b:=s.2) ⟨hs.len,hs.lo,Int.le_refl _,hs.all⟩ e
    rw[hr] at hok
    have:=key2 (-(s.2+1)) (s.1.set (-1 - e).toNat (s.2+1),s.2+1) (hok.more (by omega)) (by simp only; omega)
    simp only[renR,hr]
    exact this.trans (by simp)
   ·have hr:ren1 s e=(-(s.1.getD (-1 - e).toNat 0),s):=by
     unfold ren1
     rw[decide_eq_false h0,show (s.1.getD (-1 - e).toNat 0==0)=false from by simpa using hz]; rfl
    have hn:negI .i64 (s.1.getD (-1 - e).toNat 0) = -(s.1.getD (-1 - e).toNat 0):=by unfold negI; rw[wrap64]<;>omega
    rw[show (s.1.getD (-1 - e).toNat 0==0)=false from by simpa using hz,cond_false]
    simp only[hn,set_mid]
    have:=key2 (-(s.1.getD (-1 - e).toNat 0)) s hs (by omega)
    simp only[renR,hr]
    exact this.trans (by simp)
theorem clause_anew_c2_1_eq {r:List Int} {s:List Int×Int} (hl:r.length≤1000) (hs:RenOk s 900000) (hc:∀ c∈r,-24≤c):clause_anew_c2_1 r s.1 s.2=some ((renR s r).1,(renR s r).2.1,(renR s r).2.2):=by
 unfold clause_anew_c2_1
 rw[slices_CloneN_eq (by omega),Option.bind_some]
 have h1:=hs.hi
 have:=ren_round r [] s fuel (by unfold fuel; omega) (by simp; omega) (hs.more (by omega)) (by omega) hc
 simp only[List.length_nil,Nat.zero_add,List.nil_append] at this
 rw[show ((0:Nat):Int)=0 from rfl] at this
 rw[this,Option.bind_some]
 have hlen:=(renR_ok r hs).len
 simp only[hs.len,hlen]
 rfl
def renLs:List Int×Int→List QLit→List QLit×(List Int×Int)
 | s,[]=>([],s)
 | s,l::ls=>((l.1,(renR s l.2).1)::(renLs (renR s l.2).2 ls).1,(renLs (renR s l.2).2 ls).2)
def renRs:List Int×Int→List (List Int)→List (List Int)×(List Int×Int)
 | s,[]=>([],s)
 | s,l::ls=>((renR s l).1::(renRs (renR s l).2 ls).1,(renRs (renR s l).2 ls).2)
def SmallR (r:List Int):Prop:=r.length≤1000∧∀ c∈r,-24≤c
theorem renLs_ok:{s:List Int×Int}→{b:Int}→(ls:List QLit)→(∀ l∈ls,SmallR l.2)→RenOk s b→RenOk (renLs s ls).2 (b+1000*ls.length)
 | s,b,[],_,h=>by simpa[renLs] using h
 | s,b,l::ls,hl,h=>by
  have h1:=hl l (List.mem_cons_self ..)
  have:=renLs_ok ls (fun x hx=>hl x (List.mem_cons_of_mem _ hx)) (renR_ok l.2 h)
  have h2:=h1.1
  simp only[renLs,List.length_cons]
  exact this.more (by omega)
theorem renRs_ok:{s:List Int×Int}→{b:Int}→(ls:List (List Int))→(∀ l∈ls,SmallR l)→RenOk s b→RenOk (renRs s ls).2 (b+1000*ls.length)
 | s,b,[],_,h=>by simpa[renRs] using h
 | s,b,l::ls,hl,h=>by
  have h1:=hl l (List.mem_cons_self ..)
  have:=renRs_ok ls (fun x hx=>hl x (List.mem_cons_of_mem _ hx)) (renR_ok l h)
  have h2:=h1.1
  simp only[renRs,List.length_cons]
  exact this.more (by omega)
theorem each_L0_go:(es:List QLit)→(s:List Int×Int)→(out:List QLit)→(b:Int)→RenOk s b→b+1000*es.length≤900000→(∀ l∈es,SmallR l.2)→out.length+es.length≤1000000 →
  clause_each_1_L0_go es s.1 s.2 out=some ((renLs s es).2.1,(renLs s es).2.2,out++(renLs s es).1)
 | [],s,out,b,_,_,_,_=>by simp [clause_each_1_L0_go,renLs]
 | e::es,s,out,b,hs,hb,h,hl=>by
  have he:=h e (List.mem_cons_self ..)
  have h1:=he.1
  rw[List.length_cons] at hb hl
  unfold clause_each_1_L0_go
  rw[clause_anew_c2_1_eq he.1 (hs.more (by omega)) he.2,Option.bind_some]
  rw[room_ok (show (out.length+([(e.1,(renR s e.2).1)]:List QLit).length)*32≤140737488351232 by simp; omega),cond_true]
  have:=each_L0_go es (renR s e.2).2 (out++[(e.1,(renR s e.2).1)]) _ (renR_ok e.2 hs) (by omega) (fun x hx=>h x (List.mem_cons_of_mem _ hx)) (by simp; omega)
  exact this.trans (by simp [renLs])
theorem each_L1_go (s8:List QLit):(es:List (List Int))→(s:List Int×Int)→(out:List (List Int))→(b:Int)→RenOk s b→b+1000*es.length≤900000→(∀ l∈es,SmallR l)→out.length+es.length≤1000000 →
  clause_each_1_L1_go s8 es s.1 s.2 out=some ((renRs s es).2.1,(renRs s es).2.2,s8,out++(renRs s es).1)
 | [],s,out,b,_,_,_,_=>by simp [clause_each_1_L1_go,renRs]
 | e::es,s,out,b,hs,hb,h,hl=>by
  have he:=h e (List.mem_cons_self ..)
  have h1:=he.1
  rw[List.length_cons] at hb hl
  unfold clause_each_1_L1_go
  rw[clause_anew_c2_1_eq he.1 (hs.more (by omega)) he.2,Option.bind_some]
  rw[room_ok (show (out.length+([(renR s e).1]:List (List Int)).length)*24≤140737488351232 by simp; omega),cond_true]
  have:=each_L1_go s8 es (renR s e).2 (out++[(renR s e).1]) _ (renR_ok e hs) (by omega) (fun x hx=>h x (List.mem_cons_of_mem _ hx)) (by simp; omega)
  exact this.trans (by simp [renRs])
theorem each_L2_go (s5:List QLit) (s6:List (List Int)):(es:List QLit)→(s:List Int×Int)→(out:List QLit)→(b:Int)→RenOk s b→b+1000*es.length≤900000→(∀ l∈es,SmallR l.2)→out.length+es.length≤1000000 →
  clause_each_1_L2_go s5 s6 es s.1 s.2 out=some ((renLs s es).2.1,(renLs s es).2.2,s5,s6,out++(renLs s es).1)
 | [],s,out,b,_,_,_,_=>by simp [clause_each_1_L2_go,renLs]
 | e::es,s,out,b,hs,hb,h,hl=>by
  have he:=h e (List.mem_cons_self ..)
  have h1:=he.1
  rw[List.length_cons] at hb hl
  unfold clause_each_1_L2_go
  rw[clause_anew_c2_1_eq he.1 (hs.more (by omega)) he.2,Option.bind_some]
  rw[room_ok (show (out.length+([(e.1,(renR s e.2).1)]:List QLit).length)*32≤140737488351232 by simp; omega),cond_true]
  have:=each_L2_go s5 s6 es (renR s e.2).2 (out++[(e.1,(renR s e.2).1)]) _ (renR_ok e.2 hs) (by omega) (fun x hx=>h x (List.mem_cons_of_mem _ hx)) (by simp; omega)
  exact this.trans (by simp [renLs])
def renC (L:List QLit) (T:List (List Int)) (C:List QLit):List QLit×List (List Int)×List QLit :=
 ((renLs (List.replicate 24 0,0) L).1,(renRs (renLs (List.replicate 24 0,0) L).2 T).1,(renLs (renRs (renLs (List.replicate 24 0,0) L).2 T).2 C).1)
theorem ren0_ok:RenOk (List.replicate 24 (0:Int),0) 0:=⟨rfl,Int.le_refl _,Int.le_refl _,fun x hx=>by have:=List.eq_of_mem_replicate hx; omega⟩
def normC (L:List QLit) (T:List (List Int)) (C:List QLit):List QLit×List (List Int)×List QLit:=renC (onceL L []) (onceL T []) (onceL C [])
theorem clause_anew_eq {L:List QLit} {T:List (List Int)} {C:List QLit} (hL:L.length≤100) (hT:T.length≤100) (hC:C.length≤100) (sL:∀ l∈L,SmallR l.2) (sT:∀ l∈T,SmallR l) (sC:∀ l∈C,SmallR l.2) :
  clause_anew L T C=some (normC L T C):=by
 have big:∀ r:List Int,SmallR r→r.length≤maxLen:=fun r h=>by have:=h.1; unfold maxLen; omega
 have lL:=onceL_len L []
 have lT:=onceL_len T []
 have lC:=onceL_len C []
 simp only[List.length_nil,Nat.zero_add] at lL lT lC
 have sL':∀ l∈onceL L [],SmallR l.2:=fun l h=>sL l (by simpa using (onceL_mem L []).1 h)
 have sT':∀ l∈onceL T [],SmallR l:=fun l h=>sT l (by simpa using (onceL_mem T []).1 h)
 have sC':∀ l∈onceL C [],SmallR l.2:=fun l h=>sC l (by simpa using (onceL_mem C []).1 h)
 unfold clause_anew
 rw[clause_once_eq (fun e he=>big _ (sL e he)) (by omega),Option.bind_some,clause_once_eq (fun e he=>big _ (sC e he)) (by omega),Option.bind_some,
  clause_anew_L0_go_at0 _ _ _ _ (by unfold maxLen; omega),anew_go _ _ T [] (fun e he=>big _ (sT e he)) (by simp; omega),Option.bind_some]
 simp only
 generalize hL2:onceL L []=L2 at lL sL'
 generalize hT2:onceL T []=T2 at lT sT'
 generalize hC2:onceL C []=C2 at lC sC'
 have k0:=renLs_ok L2 sL' ren0_ok
 have k1:=renRs_ok T2 sT' k0
 have k2:=renLs_ok C2 sC' k1
 have e0:=each_L0_go L2 (List.replicate 24 0,0) [] 0 ren0_ok (by omega) sL' (by simp; omega)
 have e1:=each_L1_go (renLs (List.replicate 24 0,0) L2).1 T2 _ [] _ k0 (by omega) sT' (by simp; omega)
 have e2:=each_L2_go (renLs (List.replicate 24 0,0) L2).1 (renRs (renLs (List.replicate 24 0,0) L2).2 T2).1 C2 _ [] _ k1 (by omega) sC' (by simp; omega)
 simp only[List.nil_append] at e0 e1 e2
 unfold clause_each_1
 rw[clause_each_1_L0_go_at0 L2 L2 T2 C2 (List.replicate 24 0) 0 [] (by unfold maxLen; omega),e0,Option.bind_some]
 simp only
 rw[clause_each_1_L1_go_at0 _ _ _ _ _ _ _ _ (by unfold maxLen; omega),e1,Option.bind_some]
 simp only
 rw[clause_each_1_L2_go_at0 _ _ _ _ _ _ (by unfold maxLen; omega),e2,Option.bind_some]
 have hlen:=k2.len
 simp only[List.length_replicate,hlen]
 unfold normC renC
 rw[hL2,hT2,hC2]
 rfl
end
end Go.Abs.Q
namespace Go.Abs.Q
open Go Go.Abs
section
theorem sk_small {a0:List QSym}:{xs:List Int}→{n k:Nat}→sk a0 n xs=some k→∀ c∈xs.take k,-24≤c
 | [],n,k,h,c,hc=>by simp at hc
 | x::xs,0,k,h,c,hc=>by
  simp [sk] at h; subst h; simp at hc
 | x::xs,n+1,k,h,c,hc=>by
  unfold sk at h
  cases ha:arity a0 x with
  | none=>rw[ha] at h; cases h
  | some m =>
   rw[ha] at h
   simp only[Option.map_eq_some_iff] at h
   obtain⟨j,hj,rfl⟩:=h
   rw[List.take_succ_cons] at hc
   rcases List.mem_cons.1 hc with rfl | hc
   ·by_cases h0:c<0
    ·exact (arity_neg ha h0).1
    ·omega
   ·exact sk_small hj c hc
theorem cuts_small {a0:List QSym} {xs:List Int} {ps:List (List Int)} (h:cuts a0 xs=some ps):∀ c∈xs,-24≤c:=by
 obtain⟨h1,h2⟩:=cuts_flat xs.length xs ps (Nat.le_refl _) h
 intro c hc
 rw[← h1] at hc
 obtain⟨p,hp,hcp⟩:=List.mem_flatten.1 hc
 have:=sk_small (h2 p hp).2 c
 rw[List.take_length] at this
 exact this hcp
theorem atomB_small {a0:List QSym} {xs:List Int} (h:atomB a0 xs=true):SmallR xs:=by
 obtain⟨x,r,e,ps,rfl,h0,-,-,-,-,hl,hc,-⟩:=atomB_spec h
 refine ⟨by simp; omega,fun c hcm => ?_⟩
 rcases List.mem_cons.1 hcm with rfl | hcm
 ·omega
 ·exact cuts_small hc c hcm
theorem rowW_small {a0:List QSym} {r:List Int} {n:Nat} (h:rowW a0 r=some n):SmallR r:=by
 obtain⟨ps,hc,-,hl,-⟩:=rowW_spec h
 exact ⟨by omega,cuts_small hc⟩
theorem litsB_small {a0:List QSym} {ls:List QLit} (h:litsB a0 ls=true):∀ l∈ls,SmallR l.2:=fun l hl =>
 atomB_small (List.all_eq_true.1 h l hl)
theorem rowsB_small {a0:List QSym} {rs:List (List Int)} (h:rowsB a0 rs=true):∀ r∈rs,SmallR r:=fun r hr=>by
 obtain⟨n,hn⟩:=rowsB_all h
 exact rowW_small (hn r hr)
theorem clause_Normal_eq (a0:List QSym) (L:List QLit) (T:List (List Int)) (C:List QLit):clause_Normal a0 L T C=some (cond (mayB a0 L T C) ((normC L T C).1,(normC L T C).2.1,0,(normC L T C).2.2) ([],[],800,[])):=by
 unfold clause_Normal
 rw[clause_May_eq,Option.bind_some]
 cases h:mayB a0 L T C with
 | false=>rfl
 | true =>
  obtain⟨-,h1,h2,h3,h4,h5,h6,-⟩:=mayB_spec h
  rw[Bool.not_true,cond_false,clause_anew_eq (by omega) (by omega) (by omega) (litsB_small h4) (rowsB_small h5) (litsB_small h6),Option.bind_some]
  rfl
theorem renLs_len:(s:List Int×Int)→(ls:List QLit)→(renLs s ls).1.length=ls.length
 | _,[]=>rfl
 | s,l::ls=>by simp [renLs,renLs_len (renR s l.2).2 ls]
theorem renRs_len:(s:List Int×Int)→(ls:List (List Int))→(renRs s ls).1.length=ls.length
 | _,[]=>rfl
 | s,l::ls=>by simp [renRs,renRs_len (renR s l).2 ls]
theorem renLs_rows:(s:List Int×Int)→(ls:List QLit)→(b:Nat)→(∀ l∈ls,l.2.length≤b)→∀ l∈(renLs s ls).1,l.2.length≤b
 | _,[],_,_,l,hl=>by cases hl
 | s,e::es,b,h,l,hl=>by
  simp only[renLs] at hl
  rcases List.mem_cons.1 hl with rfl | hl
  ·rw[renR_len]; exact h e (List.mem_cons_self ..)
  ·exact renLs_rows _ es b (fun x hx=>h x (List.mem_cons_of_mem _ hx)) l hl
theorem renRs_rows:(s:List Int×Int)→(ls:List (List Int))→(b:Nat)→(∀ l∈ls,l.length≤b)→∀ l∈(renRs s ls).1,l.length≤b
 | _,[],_,_,l,hl=>by cases hl
 | s,e::es,b,h,l,hl=>by
  simp only[renRs] at hl
  rcases List.mem_cons.1 hl with rfl | hl
  ·rw[renR_len]; exact h e (List.mem_cons_self ..)
  ·exact renRs_rows _ es b (fun x hx=>h x (List.mem_cons_of_mem _ hx)) l hl
theorem normC_same {a0:List QSym} {L:List QLit} {T:List (List Int)} {C:List QLit} (h:mayB a0 L T C=true) :
  law0_SameClause (normC L T C).1 (normC L T C).2.1 (normC L T C).2.2 (normC L T C).1 (normC L T C).2.1 (normC L T C).2.2=some true:=by
 obtain⟨-,h1,h2,h3,h4,h5,h6,-⟩:=mayB_spec h
 have lL:=onceL_len L []
 have lT:=onceL_len T []
 have lC:=onceL_len C []
 simp only[List.length_nil,Nat.zero_add] at lL lT lC
 have sL:∀ l∈onceL L [],l.2.length≤1000:=fun l h=>(litsB_small h4 l (by simpa using (onceL_mem L []).1 h)).1
 have sT:∀ l∈onceL T [],l.length≤1000:=fun l h=>(rowsB_small h5 l (by simpa using (onceL_mem T []).1 h)).1
 have sC:∀ l∈onceL C [],l.2.length≤1000:=fun l h=>(litsB_small h6 l (by simpa using (onceL_mem C []).1 h)).1
 unfold normC renC
 apply law0_SameClause_refl
 ·simp only[renLs_len]; unfold maxLen; omega
 ·intro e he
  have:=renLs_rows _ _ 1000 sL e he
  unfold maxLen; omega
 ·simp only[renRs_len]; unfold maxLen; omega
 ·intro e he
  have:=renRs_rows _ _ 1000 sT e he
  unfold maxLen; omega
 ·simp only[renLs_len]; unfold maxLen; omega
 ·intro e he
  have:=renLs_rows _ _ 1000 sC e he
  unfold maxLen; omega
end
end Go.Abs.Q
namespace Go.Abs.Q
open Go Go.Abs
section
def lookB (s:List (Int×List Int)) (v:Int):Option (List Int):=(s.find? fun b=>b.1==v).map (·.2)
def onC (s:List (Int×List Int)) (c:Int):List Int:=cond (decide (c≥0)) [c] ((lookB s (-1 - c)).getD [c])
def onB (s:List (Int×List Int)) (r:List Int):List Int:=r.flatMap (onC s)
structure BindsOk (s:List (Int×List Int)):Prop where
 len:s.length≤1000
 all:∀ b∈s,b.2≠[]∧b.2.length≤1000
theorem nn_some {α:Type} {xs:List α} (h:xs≠[]):nn xs=some xs:=by
 cases xs with
 | nil=>exact absurd rfl h
 | cons x xs=>rfl
def NearR (r:List Int):Prop:=r.length≤1000∧∀ c∈r,-1000000≤c∧c≤1000000
def onLs (s:List (Int×List Int)) (ls:List QLit):List QLit:=ls.map fun l=>(l.1,onB s l.2)
def onRs (s:List (Int×List Int)) (rs:List (List Int)):List (List Int):=rs.map (onB s)
end
end Go.Abs.Q
namespace Go.Abs.Q
open Go Go.Abs
def lex_Number_L0 (rec:QSym→Option Int) (x:QSym):Option Int :=
 cond (decide (x.2.2.2<x.2.2.1))
 ((gx x.1 x.2.2.2).bind fun c2 =>
  rec (x.1,(IntKind.wrap .i64 ((IntKind.wrap .i64 (10*x.2.1))+(IntKind.wrap .i64 (IntKind.wrap .u8 (((UInt8.toNat c2:Nat):Int) - 48))))),x.2.2.1,(IntKind.wrap .i64 (x.2.2.2+1))))
 (some x.2.1)
def lex_Number (a0:Str):Option Int :=
 ((lp lex_Number_L0 fuel) (a0,0,((List.length a0:Nat):Int),0)).bind fun r4 =>
 some r4
def formula_Reader_Is_1 (a0:Str) (a1:(List QSym)) (a2:(List (Int×Str))) (a3:Bool):Option (Bool×(List QSym)×(List (Int×Str))×Bool) :=
 cond (((List.length a2:Nat):Int)==0)
 (some (false,a1,a2,a3))
 ((gx a2 0).bind fun e4 =>
  cond (e4.1 != 3)
  (some (false,a1,a2,a3))
  ((gx a2 0).bind fun e5 =>
   cond (!(e5.2==a0))
   (some (false,a1,a2,a3))
   ((slc2 a2 (some 1) none).bind fun y6 =>
    some (true,a1,y6,a3))))
def formula_Reader_binder_1 (a0:(List QSym)) (a1:(List (Int×Str))) (a2:Bool):Option (Int×Int×Bool×(List QSym)×(List (Int×Str))×Bool) :=
 cond (decide (((List.length a1:Nat):Int)<2))
 (some (0,0,false,a0,a1,a2))
 ((gx a1 0).bind fun e9 =>
  cond (e9.1 != 0)
  (some (0,0,false,a0,a1,a2))
  ((gx a1 1).bind fun e10 =>
   cond (e10.1 != 1)
   (some (0,0,false,a0,a1,a2))
   ((gx a1 1).bind fun e11 =>
    (slc2 e11.2 (some 1) none).bind fun y12 =>
    (lex_Number y12).bind fun r13 =>
    (gx a1 0).bind fun e14 =>
    cond (e14.2==([101,120]:Str))
    ((slc2 a1 (some 2) none).bind fun y15 =>
     some (6,r13,true,a0,y15,a2))
    (cond (e14.2==([97,108,108]:Str))
     ((slc2 a1 (some 2) none).bind fun y16 =>
      some (5,r13,true,a0,y16,a2))
     (some (0,0,false,a0,a1,a2))))))
def sign_Find (a0:(List QSym)) (a1:Str):Option (Int×Int) :=
 (sign_May a0).bind fun r3 =>
 cond (!r3)
 (some (0,100))
 ((sign_find a0 a1).bind fun r4 =>
  some (r4,0))
def formula_Reader_symbol_1 (a0:(List QSym)) (a1:(List (Int×Str))) (a2:Bool):Option (Int×Bool×(List QSym)×(List (Int×Str))×Bool) :=
 cond (((List.length a1:Nat):Int)==0)
 (some (0,false,a0,a1,a2))
 ((gx a1 0).bind fun e5 =>
  cond (e5.1 != 0)
  (some (0,false,a0,a1,a2))
  ((gx a1 0).bind fun e6 =>
   (sign_Find a0 e6.2).bind fun r7 =>
   cond (decide (r7.1<0))
   (some (0,false,a0,a1,a2))
   ((slc2 a1 (some 1) none).bind fun y8 =>
    some (r7.1,true,a0,y8,a2))))
def formula_Reader_Var_1 (a0:(List QSym)) (a1:(List (Int×Str))) (a2:Bool):Option (Int×Bool×(List QSym)×(List (Int×Str))×Bool) :=
 cond (((List.length a1:Nat):Int)==0)
 (some (0,false,a0,a1,a2))
 ((gx a1 0).bind fun e6 =>
  cond (e6.1 != 1)
  (some (0,false,a0,a1,a2))
  ((gx a1 0).bind fun e7 =>
   (slc2 e7.2 (some 1) none).bind fun y8 =>
   (lex_Number y8).bind fun r9 =>
   (slc2 a1 (some 1) none).bind fun y10 =>
   some (r9,true,a0,y10,a2)))
def formula_Reader_term_1_S (rf:((((List QSym)×(List (Int×Str))×Bool)→Option (Bool×(List Int)×(List QSym)×(List (Int×Str))×Bool))×((Int×(List QSym)×(List (Int×Str))×Bool)→Option (Bool×(List Int)×(List QSym)×(List (Int×Str))×Bool)))) (a0:(List QSym)) (a1:(List (Int×Str))) (a2:Bool):Option (Bool×(List Int)×(List QSym)×(List (Int×Str))×Bool) :=
 (formula_Reader_Var_1 a0 a1 a2).bind fun r6 =>
 cond r6.2.1
 ((term_Number r6.1).bind fun r7 =>
  some (true,([r7]:List Int),r6.2.2.1,r6.2.2.2.1,r6.2.2.2.2))
 ((formula_Reader_symbol_1 r6.2.2.1 r6.2.2.2.1 r6.2.2.2.2).bind fun r8 =>
  cond (!r8.2.1)
  (some (false,([]:(List Int)),r8.2.2.1,r8.2.2.2.1,r8.2.2.2.2))
  ((gx r8.2.2.1 r8.1).bind fun e9 =>
   cond (e9.2.1==0)
   (some (false,([]:(List Int)),r8.2.2.1,r8.2.2.2.1,r8.2.2.2.2))
   ((rf.2 (r8.1,r8.2.2.1,r8.2.2.2.1,r8.2.2.2.2)).bind fun r10 =>
    some (r10.1,r10.2.1,r10.2.2.1,r10.2.2.2.1,r10.2.2.2.2))))
def formula_Reader_behind_1_L0 (rf:((((List QSym)×(List (Int×Str))×Bool)→Option (Bool×(List Int)×(List QSym)×(List (Int×Str))×Bool))×((Int×(List QSym)×(List (Int×Str))×Bool)→Option (Bool×(List Int)×(List QSym)×(List (Int×Str))×Bool)))) (rec:(Int×Int×Int×(List QSym)×(List (Int×Str))×Bool×(List Int))→Option (((List QSym)×(List (Int×Str))×Bool×(List Int))⊕(Bool×(List QSym)×(List (Int×Str))×Bool))) (x:(Int×Int×Int×(List QSym)×(List (Int×Str))×Bool×(List Int))):Option (((List QSym)×(List (Int×Str))×Bool×(List Int))⊕(Bool×(List QSym)×(List (Int×Str))×Bool)) :=
 cond (decide (x.2.2.1<x.2.1))
 (cond (x.2.2.1==0)
  ((formula_Reader_Is_1 ([40]:Str) x.2.2.2.1 x.2.2.2.2.1 x.2.2.2.2.2.1).bind fun r8 =>
   cond (!r8.1)
   (some (Sum.inr (false,r8.2.1,r8.2.2.1,r8.2.2.2)))
   ((rf.1 (r8.2.1,r8.2.2.1,r8.2.2.2)).bind fun r9 =>
    cond (!r9.1)
    (some (Sum.inr (false,r9.2.2.1,r9.2.2.2.1,r9.2.2.2.2)))
    (cond (room (List.length x.2.2.2.2.2.2+List.length r9.2.1) 8)
     (rec (x.1,x.2.1,(IntKind.wrap .i64 (x.2.2.1+1)),r9.2.2.1,r9.2.2.2.1,r9.2.2.2.2,(x.2.2.2.2.2.2++r9.2.1)))
     (none))))
  ((formula_Reader_Is_1 ([44]:Str) x.2.2.2.1 x.2.2.2.2.1 x.2.2.2.2.2.1).bind fun r10 =>
   cond (!r10.1)
   (some (Sum.inr (false,r10.2.1,r10.2.2.1,r10.2.2.2)))
   ((rf.1 (r10.2.1,r10.2.2.1,r10.2.2.2)).bind fun r11 =>
    cond (!r11.1)
    (some (Sum.inr (false,r11.2.2.1,r11.2.2.2.1,r11.2.2.2.2)))
    (cond (room (List.length x.2.2.2.2.2.2+List.length r11.2.1) 8)
     (rec (x.1,x.2.1,(IntKind.wrap .i64 (x.2.2.1+1)),r11.2.2.1,r11.2.2.2.1,r11.2.2.2.2,(x.2.2.2.2.2.2++r11.2.1)))
     (none)))))
 (some (Sum.inl (x.2.2.2.1,x.2.2.2.2.1,x.2.2.2.2.2.1,x.2.2.2.2.2.2)))
def formula_Reader_behind_1_S (rf:((((List QSym)×(List (Int×Str))×Bool)→Option (Bool×(List Int)×(List QSym)×(List (Int×Str))×Bool))×((Int×(List QSym)×(List (Int×Str))×Bool)→Option (Bool×(List Int)×(List QSym)×(List (Int×Str))×Bool)))) (a0:Int) (a1:(List QSym)) (a2:(List (Int×Str))) (a3:Bool):Option (Bool×(List Int)×(List QSym)×(List (Int×Str))×Bool) :=
 (gx a1 a0).bind fun e17 =>
 ((lp (formula_Reader_behind_1_L0 rf) fuel) (a0,e17.2.2.1,0,a1,a2,a3,([a0]:List Int))).bind fun r18 =>
 caseS r18
 (fun z19=>(gx z19.1 a0).bind fun e20 =>
  cond (e20.2.2.1==0)
  (some (true,z19.2.2.2,z19.1,z19.2.1,z19.2.2.1))
  ((formula_Reader_Is_1 ([41]:Str) z19.1 z19.2.1 z19.2.2.1).bind fun r21 =>
   some (r21.1,z19.2.2.2,r21.2.1,r21.2.2.1,r21.2.2.2)))
 (fun z22=>some (z22.1,([]:(List Int)),z22.2.1,z22.2.2.1,z22.2.2.2))
def formula_Reader_behind_1_R_step (rf:((((List QSym)×(List (Int×Str))×Bool)→Option (Bool×(List Int)×(List QSym)×(List (Int×Str))×Bool))×((Int×(List QSym)×(List (Int×Str))×Bool)→Option (Bool×(List Int)×(List QSym)×(List (Int×Str))×Bool)))):((((List QSym)×(List (Int×Str))×Bool)→Option (Bool×(List Int)×(List QSym)×(List (Int×Str))×Bool))×((Int×(List QSym)×(List (Int×Str))×Bool)→Option (Bool×(List Int)×(List QSym)×(List (Int×Str))×Bool))) :=
 (fun (x:((List QSym)×(List (Int×Str))×Bool))=>formula_Reader_term_1_S rf x.1 x.2.1 x.2.2,fun (x:(Int×(List QSym)×(List (Int×Str))×Bool))=>formula_Reader_behind_1_S rf x.1 x.2.1 x.2.2.1 x.2.2.2)
def formula_Reader_behind_1_R_base:((((List QSym)×(List (Int×Str))×Bool)→Option (Bool×(List Int)×(List QSym)×(List (Int×Str))×Bool))×((Int×(List QSym)×(List (Int×Str))×Bool)→Option (Bool×(List Int)×(List QSym)×(List (Int×Str))×Bool))):=(fun _=>none,fun _=>none)
def formula_Reader_behind_1_R (k:Nat):((((List QSym)×(List (Int×Str))×Bool)→Option (Bool×(List Int)×(List QSym)×(List (Int×Str))×Bool))×((Int×(List QSym)×(List (Int×Str))×Bool)→Option (Bool×(List Int)×(List QSym)×(List (Int×Str))×Bool))):=lpR formula_Reader_behind_1_R_base formula_Reader_behind_1_R_step k
def formula_Reader_term_1 (a0:(List QSym)) (a1:(List (Int×Str))) (a2:Bool):Option (Bool×(List Int)×(List QSym)×(List (Int×Str))×Bool):=(formula_Reader_behind_1_R fuel).1 (a0,a1,a2)
def formula_Reader_behind_1 (a0:Int) (a1:(List QSym)) (a2:(List (Int×Str))) (a3:Bool):Option (Bool×(List Int)×(List QSym)×(List (Int×Str))×Bool):=(formula_Reader_behind_1_R fuel).2 (a0,a1,a2,a3)
def slices_Grow_2 (a0:Int):Option (List Int) :=
 cond (decide (a0<0))
 (none)
 (cond (decide ((IntKind.wrap .i64 (a0 - 0))>0))
  (cond (eqI 0 0&&eqI 0 0)
   (cond (posI (IntKind.wrap .i64 (a0 - 0)))
    (cond (room (Int.toNat (IntKind.wrap .i64 (a0 - 0))) 8)
     ((slc2 (List.replicate (Int.toNat (IntKind.wrap .i64 (a0 - 0))) (0:Int)) none (some 0)).bind fun y2 =>
      some y2)
     (none))
    (none))
   (none))
  (some ([]:(List Int))))
def slices_Concat_2_L1 (rec:((List (List Int))×Int×Int×(List Int))→Option (List Int)) (x:((List (List Int))×Int×Int×(List Int))):Option (List Int) :=
 cond (decide (x.2.2.1<x.2.1))
 ((gx x.1 x.2.2.1).bind fun e7 =>
  cond (room (List.length x.2.2.2+List.length e7) 8)
  (rec (x.1,x.2.1,(IntKind.wrap .i64 (x.2.2.1+1)),(x.2.2.2++e7)))
  (none))
 (some x.2.2.2)
def slices_Concat_2_L0 (rec:((List (List Int))×Int×(List (List Int))×Int×Int)→Option Int) (x:((List (List Int))×Int×(List (List Int))×Int×Int)):Option Int :=
 cond (decide (x.2.2.2.2<x.2.2.2.1))
 ((gx x.2.2.1 x.2.2.2.2).bind fun e2 =>
  cond (decide ((IntKind.wrap .i64 (x.2.1+((List.length e2:Nat):Int)))<0))
  (none)
  (rec (x.1,(IntKind.wrap .i64 (x.2.1+((List.length e2:Nat):Int))),x.2.2.1,x.2.2.2.1,(IntKind.wrap .i64 (x.2.2.2.2+1)))))
 (some x.2.1)
def slices_Concat_2 (a0:(List (List Int))):Option (List Int) :=
 ((lp slices_Concat_2_L0 fuel) (a0,0,a0,((List.length a0:Nat):Int),0)).bind fun r9 =>
 (slices_Grow_2 r9).bind fun r10 =>
 ((lp slices_Concat_2_L1 fuel) (a0,((List.length a0:Nat):Int),0,r10)).bind fun r11 =>
 some r11
def formula_Reader_Atom_1 (a0:(List QSym)) (a1:(List (Int×Str))) (a2:Bool):Option (Bool×(List Int)×(List QSym)×(List (Int×Str))×Bool) :=
 (formula_Reader_symbol_1 a0 a1 a2).bind fun r12 =>
 cond r12.2.1
 ((gx r12.2.2.1 r12.1).bind fun e13 =>
  cond (e13.2.1==0)
  ((formula_Reader_behind_1 r12.1 r12.2.2.1 r12.2.2.2.1 r12.2.2.2.2).bind fun r14 =>
   cond r14.2.2.2.2
   (some (r14.1,r14.2.1,r14.2.2.1,r14.2.2.2.1,true))
   (some (r14.1,r14.2.1,r14.2.2.1,r14.2.2.2.1,(decide (((List.length r14.2.1:Nat):Int)>49)))))
  ((formula_Reader_term_1 r12.2.2.1 a1 r12.2.2.2.2).bind fun r15 =>
   cond (!r15.1)
   (some (false,([]:(List Int)),r15.2.2.1,r15.2.2.2.1,r15.2.2.2.2))
   ((formula_Reader_Is_1 ([61]:Str) r15.2.2.1 r15.2.2.2.1 r15.2.2.2.2).bind fun r16 =>
    cond (!r16.1)
    (some (false,([]:(List Int)),r16.2.1,r16.2.2.1,r16.2.2.2))
    ((formula_Reader_term_1 r16.2.1 r16.2.2.1 r16.2.2.2).bind fun r17 =>
     (slices_Concat_2 ([([0]:List Int),r15.2.1,r17.2.1]:List (List Int))).bind fun r18 =>
     cond r17.2.2.2.2
     (some (r17.1,r18,r17.2.2.1,r17.2.2.2.1,true))
     (some (r17.1,r18,r17.2.2.1,r17.2.2.2.1,(decide (((List.length r18:Nat):Int)>49))))))))
 ((formula_Reader_term_1 r12.2.2.1 a1 r12.2.2.2.2).bind fun r19 =>
  cond (!r19.1)
  (some (false,([]:(List Int)),r19.2.2.1,r19.2.2.2.1,r19.2.2.2.2))
  ((formula_Reader_Is_1 ([61]:Str) r19.2.2.1 r19.2.2.2.1 r19.2.2.2.2).bind fun r20 =>
   cond (!r20.1)
   (some (false,([]:(List Int)),r20.2.1,r20.2.2.1,r20.2.2.2))
   ((formula_Reader_term_1 r20.2.1 r20.2.2.1 r20.2.2.2).bind fun r21 =>
    (slices_Concat_2 ([([0]:List Int),r19.2.1,r21.2.1]:List (List Int))).bind fun r22 =>
    cond r21.2.2.2.2
    (some (r21.1,r22,r21.2.2.1,r21.2.2.2.1,true))
    (some (r21.1,r22,r21.2.2.1,r21.2.2.2.1,(decide (((List.length r22:Nat):Int)>49)))))))
def formula_Reader_joint_1_L0 (rec:((List Str)×Int×Int×(List QSym)×(List (Int×Str))×Bool)→Option (((List QSym)×(List (Int×Str))×Bool)⊕(Int×Bool×(List QSym)×(List (Int×Str))×Bool))) (x:((List Str)×Int×Int×(List QSym)×(List (Int×Str))×Bool)):Option (((List QSym)×(List (Int×Str))×Bool)⊕(Int×Bool×(List QSym)×(List (Int×Str))×Bool)) :=
 cond (decide (x.2.2.1<x.2.1))
 ((gx x.1 x.2.2.1).bind fun e5 =>
  (formula_Reader_Is_1 e5 x.2.2.2.1 x.2.2.2.2.1 x.2.2.2.2.2).bind fun r6 =>
  cond r6.1
  (some (Sum.inr ((IntKind.wrap .i64 (2+x.2.2.1)),true,r6.2.1,r6.2.2.1,r6.2.2.2)))
  (rec (x.1,x.2.1,(IntKind.wrap .i64 (x.2.2.1+1)),r6.2.1,r6.2.2.1,r6.2.2.2)))
 (some (Sum.inl (x.2.2.2.1,x.2.2.2.2.1,x.2.2.2.2.2)))
def formula_Reader_joint_1 (a0:(List QSym)) (a1:(List (Int×Str))) (a2:Bool):Option (Int×Bool×(List QSym)×(List (Int×Str))×Bool) :=
 ((lp formula_Reader_joint_1_L0 fuel) (([([38]:Str),([124]:Str),([45,62]:Str)]:List Str),((List.length ([([38]:Str),([124]:Str),([45,62]:Str)]:List Str):Nat):Int),0,a0,a1,a2)).bind fun r10 =>
 caseS r10
 (fun z11=>some (0,false,z11.1,z11.2.1,z11.2.2))
 (fun z12=>some (z12.1,z12.2.1,z12.2.2.1,z12.2.2.2.1,z12.2.2.2.2))
def formula_Reader_formula_1_L0 (rec:(((List QSym)×(List (Int×Str))×Bool×(List (Int×Int×(List Int)))×(List (Int×Bool)))⊕((List QSym)×(List (Int×Str))×Bool×(List (Int×Int×(List Int)))×(List (Int×Bool))))→Option (Bool×(List QSym)×(List (Int×Str))×Bool×(List (Int×Int×(List Int))))) (y:(((List QSym)×(List (Int×Str))×Bool×(List (Int×Int×(List Int)))×(List (Int×Bool)))⊕((List QSym)×(List (Int×Str))×Bool×(List (Int×Int×(List Int)))×(List (Int×Bool))))):Option (Bool×(List QSym)×(List (Int×Str))×Bool×(List (Int×Int×(List Int)))) :=
 caseS y
 (fun x=>(formula_Reader_Is_1 ([126]:Str) x.1 x.2.1 x.2.2.1).bind fun r26 =>
  cond r26.1
  (cond (room (List.length x.2.2.2.1+List.length ([(1,0,([]:(List Int)))]:List (Int×Int×(List Int)))) 40)
   (rec (Sum.inl (r26.2.1,r26.2.2.1,r26.2.2.2,(x.2.2.2.1++([(1,0,([]:(List Int)))]:List (Int×Int×(List Int)))),x.2.2.2.2)))
   (none))
  ((formula_Reader_binder_1 r26.2.1 r26.2.2.1 r26.2.2.2).bind fun r27 =>
   cond r27.2.2.1
   (cond (room (List.length x.2.2.2.1+List.length ([(r27.1,r27.2.1,([]:(List Int)))]:List (Int×Int×(List Int)))) 40)
    (rec (Sum.inl (r27.2.2.2.1,r27.2.2.2.2.1,r27.2.2.2.2.2,(x.2.2.2.1++([(r27.1,r27.2.1,([]:(List Int)))]:List (Int×Int×(List Int)))),x.2.2.2.2)))
    (none))
   ((formula_Reader_Is_1 ([40]:Str) r27.2.2.2.1 r27.2.2.2.2.1 r27.2.2.2.2.2).bind fun r28 =>
    cond r28.1
    (cond (room (List.length x.2.2.2.2+List.length ([(((List.length x.2.2.2.1:Nat):Int),false)]:List (Int×Bool))) 16)
     (cond (room (List.length x.2.2.2.1+List.length ([(0,0,([]:(List Int)))]:List (Int×Int×(List Int)))) 40)
      (rec (Sum.inl (r28.2.1,r28.2.2.1,r28.2.2.2,(x.2.2.2.1++([(0,0,([]:(List Int)))]:List (Int×Int×(List Int)))),(x.2.2.2.2++([(((List.length x.2.2.2.1:Nat):Int),false)]:List (Int×Bool))))))
      (none))
     (none))
    ((formula_Reader_Atom_1 r28.2.1 r28.2.2.1 r28.2.2.2).bind fun r29 =>
     cond r29.1
     (cond (room (List.length x.2.2.2.1+List.length ([(0,0,r29.2.1)]:List (Int×Int×(List Int)))) 40)
      (rec (Sum.inr (r29.2.2.1,r29.2.2.2.1,r29.2.2.2.2,(x.2.2.2.1++([(0,0,r29.2.1)]:List (Int×Int×(List Int)))),x.2.2.2.2)))
      (none))
     (some (false,r29.2.2.1,r29.2.2.2.1,r29.2.2.2.2,([]:(List (Int×Int×(List Int))))))))))
 (fun x=>cond (((List.length x.2.2.2.2:Nat):Int)==0)
  (some (true,x.1,x.2.1,x.2.2.1,x.2.2.2.1))
  ((inR (IntKind.wrap .i64 (((List.length x.2.2.2.2:Nat):Int) - 1)) (List.length x.2.2.2.2)).bind fun k30 =>
   (formula_Reader_joint_1 x.1 x.2.1 x.2.2.1).bind fun r31 =>
   cond r31.2.1
   ((x.2.2.2.2[k30]?).bind fun x32 =>
    cond (!x32.2)
    ((x.2.2.2.2[k30]?).bind fun x33 =>
     (inR x33.1 (List.length x.2.2.2.1)).bind fun k34 =>
     (x.2.2.2.1[k34]?).bind fun x35 =>
     (x.2.2.2.2[k30]?).bind fun x36 =>
     rec (Sum.inl (r31.2.2.1,r31.2.2.2.1,r31.2.2.2.2,(List.set x.2.2.2.1 k34 (r31.1,x35.2)),(List.set x.2.2.2.2 k30 (x36.1,true)))))
    (cond r31.2.1
     (some (false,r31.2.2.1,r31.2.2.2.1,r31.2.2.2.2,([]:(List (Int×Int×(List Int))))))
     ((x.2.2.2.2[k30]?).bind fun x37 =>
      cond (!x37.2)
      (some (false,r31.2.2.1,r31.2.2.2.1,r31.2.2.2.2,([]:(List (Int×Int×(List Int))))))
      ((formula_Reader_Is_1 ([41]:Str) r31.2.2.1 r31.2.2.2.1 r31.2.2.2.2).bind fun r38 =>
       cond (!r38.1)
       (some (false,r38.2.1,r38.2.2.1,r38.2.2.2,([]:(List (Int×Int×(List Int))))))
       ((slc2 x.2.2.2.2 none (some (IntKind.wrap .i64 (((List.length x.2.2.2.2:Nat):Int) - 1)))).bind fun y39 =>
        rec (Sum.inr (r38.2.1,r38.2.2.1,r38.2.2.2,x.2.2.2.1,y39)))))))
   (cond r31.2.1
    (some (false,r31.2.2.1,r31.2.2.2.1,r31.2.2.2.2,([]:(List (Int×Int×(List Int))))))
    ((x.2.2.2.2[k30]?).bind fun x40 =>
     cond (!x40.2)
     (some (false,r31.2.2.1,r31.2.2.2.1,r31.2.2.2.2,([]:(List (Int×Int×(List Int))))))
     ((formula_Reader_Is_1 ([41]:Str) r31.2.2.1 r31.2.2.2.1 r31.2.2.2.2).bind fun r41 =>
      cond (!r41.1)
      (some (false,r41.2.1,r41.2.2.1,r41.2.2.2,([]:(List (Int×Int×(List Int))))))
      ((slc2 x.2.2.2.2 none (some (IntKind.wrap .i64 (((List.length x.2.2.2.2:Nat):Int) - 1)))).bind fun y42 =>
       rec (Sum.inr (r41.2.1,r41.2.2.1,r41.2.2.2,x.2.2.2.1,y42))))))))
end Go.Abs.Q
namespace Go.Abs.Q
open Go Go.Abs
end Go.Abs.Q
namespace Go.Abs.Q
open Go Go.Abs
section
end
end Go.Abs.Q
namespace Go.Abs.Q
open Go Go.Abs
end Go.Abs.Q
namespace Go.Abs.Q
open Go Go.Abs
end Go.Abs.Q
namespace Go.Abs.Q
open Go Go.Abs
section
abbrev QNode:=Int×Int×List Int
inductive Fm where
 | atom (a:List Int)
 | not (f:Fm)
 | qu (k v:Int) (f:Fm)
 | bin (k:Int) (f g:Fm)
def Fm.flat:Fm→List QNode
 | .atom a=>[(0,0,a)]
 | .not f=>(1,0,[])::f.flat
 | .qu k v f=>(k,v,[])::f.flat
 | .bin k f g=>(k,0,[])::(f.flat++g.flat)
def Fm.ok (a0:List QSym):Fm→Bool
 | .atom a=>atomB a0 a
 | .not f=>f.ok a0
 | .qu k v f=>(k==5||k==6)&&decide (0≤v)&&decide (v≤23)&&f.ok a0
 | .bin k f g=>(k==2||k==3||k==4)&&f.ok a0&&g.ok a0
def bindT (k:Int):Str:=cond (k==5) [97,108,108] [101,120]
end
end Go.Abs.Q
namespace Go.Abs.Q
open Go Go.Abs
section
end
end Go.Abs.Q
namespace Go.Abs.Q
open Go Go.Abs
section
end
end Go.Abs.Q
namespace Go.Abs.Q
open Go Go.Abs
section
end
end Go.Abs.Q
namespace Go.Abs.Q
open Go Go.Abs
section
abbrev QWord:=Int×Str
def letB (c:UInt8):Bool:=smallB ((UInt8.toNat c:Nat):Int)
def digB (c:UInt8):Bool:=decide (((UInt8.toNat c:Nat):Int)≥48)&&decide (((UInt8.toNat c:Nat):Int)≤57)
def runP (b:Bool) (c:UInt8):Bool:=digB c||(b&&letB c)
def numB (d:Str) (most:Nat):Bool:=match d with
 | []=>false
 | c::r=>decide ((c::r).length≤most)&&(c != 48||(c::r).length==1)
def numV (d:Str):Nat:=d.foldl (fun n c=>10*n+(c.toNat - 48)) 0
def markB (c:UInt8):Bool:=decide (c∈([40,41,44,61,126,38,124,58]:Str))
def wordP (s:Str):Option (QWord×Str):=match s with
 | []=>none
 | c::r =>
  cond (letB c) (cond (decide (((c::r).takeWhile (runP true)).length≤8)) (some ((0,(c::r).takeWhile (runP true)),(c::r).drop ((c::r).takeWhile (runP true)).length)) none)
  (cond (c==88) (cond (numB (r.takeWhile (runP false)) 2&&decide (numV (r.takeWhile (runP false))≤23)) (some ((1,c::r.takeWhile (runP false)),r.drop (r.takeWhile (runP false)).length)) none)
  (cond (digB c) (cond (numB ((c::r).takeWhile (runP false)) 4) (some ((2,(c::r).takeWhile (runP false)),(c::r).drop ((c::r).takeWhile (runP false)).length)) none)
  (cond ((c::r).take 2==[45,62]) (some ((3,[45,62]),r.drop 1))
  (cond (markB c) (some ((3,[c]),r)) none))))
def lexN:Nat→Str→Option (List QWord)
 | 0,_=>some []
 | n+1,s=>match s.dropWhile (· == 32) with
  | []=>some []
  | c::r=>match wordP (c::r) with
   | none=>none
   | some (w,rest)=>(lexN n rest).map (w :: ·)
def lexP (s:Str):Option (List QWord):=lexN s.length s
end
end Go.Abs.Q
namespace Go.Abs.Q
open Go Go.Abs
section
end
end Go.Abs.Q
namespace Go.Abs.Q
open Go Go.Abs
section
end
end Go.Abs.Q
namespace Go.Abs.Q
open Go Go.Abs
section
def Stop (c:Str):Prop:=c.takeWhile (runP true)=[]
theorem stop_cons {x:UInt8} {c:Str} (h:runP true x=false):Stop (x::c):=by unfold Stop; rw[List.takeWhile_cons,h]; rfl
def Lx (t:Str) (ws:List QWord):Prop:=∀ c,Stop c→lexP (t++c)=(lexP c).map (ws ++ ·)
theorem map_map' {ws vs:List QWord} (o:Option (List QWord)):(o.map (vs ++ ·)).map (ws ++ ·)=o.map ((ws++vs) ++ ·):=by
 cases o with
 | none=>rfl
 | some x=>simp
def LxM (t:Str) (ws:List QWord):Prop:=∀ c,lexP (t++c)=(lexP c).map (ws ++ ·)
theorem LxM.then {s t:Str} {ws vs:List QWord} (hs:LxM s ws) (ht:Lx t vs):Lx (s++t) (ws++vs):=by
 intro c hc
 rw[List.append_assoc,hs,ht c hc,map_map']
theorem Lx.then {s t:Str} {ws vs:List QWord} {x:UInt8} (hs:Lx s ws) (ht:LxM (x::t) vs) (hx:runP true x=false):LxM (s++x::t) (ws++vs):=by
 intro c
 rw[List.append_assoc,hs (x::t++c) (stop_cons hx),ht,map_map']
def pieceW (a0:List QSym) (f:List Int→List QWord):List Int→List QWord
 | []=>[]
 | x::r=>cond (decide (x<0)) [(1,88::dig2 (-1 - x).toNat)] (cond r.isEmpty [(0,nameOf a0 x)] ((([(0,nameOf a0 x)]++[(3,[40])])++f r)++[(3,[41])]))
def tailW:List (List QWord)→List QWord
 | []=>[]
 | w::ws=>[(3,[44])]++(w++tailW ws)
def joinW:List (List QWord)→List QWord
 | []=>[]
 | w::ws=>w++tailW ws
def wordsN (a0:List QSym):Nat→List Int→List QWord
 | 0,_=>[]
 | n+1,xs=>joinW (((cuts a0 xs).getD []).map (pieceW a0 (wordsN a0 n)))
def wordsTs (a0:List QSym) (xs:List Int):List QWord:=wordsN a0 (xs.length+1) xs
def atomW (a0:List QSym):List Int→List QWord
 | []=>[]
 | x::r=>cond (x==0) (match (cuts a0 r).getD [] with
  | [p,q]=>(wordsTs a0 p++[(3,[61])])++wordsTs a0 q
  | _=>[]) (cond r.isEmpty [(0,nameOf a0 x)] ((([(0,nameOf a0 x)]++[(3,[40])])++wordsTs a0 r)++[(3,[41])]))
def joinM (k:Int):Str:=cond (k==2) [38] (cond (k==3) [124] [45,62])
def Fm.words (a0:List QSym):Fm→List QWord
 | .atom a=>atomW a0 a
 | .not f=>[(3,[126])]++f.words a0
 | .qu k v f=>([(0,bindT k)]++[(1,88::dig2 v.toNat)])++f.words a0
 | .bin k f g=>((([(3,[40])]++f.words a0)++[(3,joinM k)])++g.words a0)++[(3,[41])]
end
end Go.Abs.Q
namespace Go.Abs.Q
open Go Go.Abs
section
abbrev QWs:=List QWord
def WOk (ws:QWs):Prop:=∀ w∈ws,w.1=1→∃ d,w.2=88::d∧(∀ c∈d,digB c=true)∧d.length≤2∧numV d≤23
theorem WOk.tail {w:QWord} {ws:QWs} (h:WOk (w::ws)):WOk ws:=fun x hx=>h x (List.mem_cons_of_mem _ hx)
def Suf (ws' ws:QWs):Prop:=∃ pre,ws=pre++ws'
theorem Suf.refl (ws:QWs):Suf ws ws:=⟨[],rfl⟩
theorem Suf.trans {a b c:QWs} (h:Suf a b) (h':Suf b c):Suf a c:=by
 obtain⟨p,rfl⟩:=h
 obtain⟨q,rfl⟩:=h'
 exact ⟨q++p,by simp⟩
theorem Suf.cons {w:QWord} {a b:QWs} (h:Suf a b):Suf a (w::b):=by
 obtain⟨p,rfl⟩:=h
 exact ⟨w::p,rfl⟩
theorem Suf.len {a b:QWs} (h:Suf a b):a.length≤b.length:=by
 obtain⟨p,rfl⟩:=h
 simp
end
end Go.Abs.Q
namespace Go.Abs.Q
open Go Go.Abs
section
abbrev RdR:=Bool×List Int×List QSym×QWs×Bool
def TR (a0:List QSym) (l:Bool) (o:Option (List Int×QWs)) (r:RdR):Prop:=match o with
 | some p=>r=(true,p.1,a0,p.2,l)
 | none=>r.1=false∧r.2.2.1=a0∧r.2.2.2.2=l∧r.2.1.length≤1000000
theorem TR.some {a0:List QSym} {l:Bool} {t:List Int} {ws:QWs}:TR a0 l (Option.some (t,ws)) (true,t,a0,ws,l):=rfl
end
end Go.Abs.Q
namespace Go.Abs.Q
open Go Go.Abs
section
end
end Go.Abs.Q
namespace Go.Abs.Q
open Go Go.Abs
section
end
end Go.Abs.Q
namespace Go.Abs.Q
open Go Go.Abs
section
abbrev FmS:=(List QSym×QWs×Bool×List QNode×List (Int×Bool))⊕(List QSym×QWs×Bool×List QNode×List (Int×Bool))
def Goes (c:Nat) (s s':FmS):Prop:=∀ k,lp formula_Reader_formula_1_L0 (k+c) s=lp formula_Reader_formula_1_L0 k s'
theorem Goes.trans {c d:Nat} {s s' s'':FmS} (h:Goes c s s') (h':Goes d s' s''):Goes (d+c) s s'':=fun k=>by
 rw[← Nat.add_assoc,h (k+d),h' k]
end
end Go.Abs.Q
namespace Go.Abs.Q
open Go Go.Abs
section
end
end Go.Abs.Q
namespace Go.Abs.Q
open Go Go.Abs
section
end
end Go.Abs.Q
namespace Go.Abs.Q
open Go Go.Abs
section
end
end Go.Abs.Q
namespace Go.Abs.Q
open Go Go.Abs
section
end
end Go.Abs.Q
namespace Go.Abs.Q
open Go Go.Abs
section
theorem sk_app {a0:List QSym}:{xs:List Int}→{n m:Nat}→{ys:List Int}→sk a0 n xs=some xs.length→sk a0 m ys=some ys.length→sk a0 (n+m) (xs++ys)=some (xs++ys).length
 | [],0,m,ys,_,h=>by rw[Nat.zero_add]; exact h
 | [],n+1,m,ys,h,_=>by simp [sk] at h
 | x::xs,0,m,ys,h,_=>by simp [sk] at h
 | x::xs,n+1,m,ys,h,h'=>by
  unfold sk at h
  cases ha:arity a0 x with
  | none=>rw[ha] at h; cases h
  | some k =>
   rw[ha] at h
   simp only[Option.map_eq_some_iff,List.length_cons] at h
   obtain⟨j,hj,hjl⟩:=h
   have hj2:j=xs.length:=by omega
   subst hj2
   have ih:=sk_app hj h'
   rw[show n+1+m=(n+m)+1 from by omega,List.cons_append]
   unfold sk
   rw[ha]
   simp only
   rw[show n+m+k=n+k+m from by omega,ih]
   rfl
end
end Go.Abs.Q
namespace Go.Abs.Q
open Go Go.Abs
section
theorem arity_top {a0:List QSym} {x:Int} {q:Nat} (h:arity a0 x=some q):x<0∨x<a0.length:=by
 by_cases hx:x<0
 ·exact .inl hx
 ·obtain⟨e,-,he,-⟩:=arity_pos h hx
  have:=(List.getElem?_eq_some_iff.1 he).1
  exact .inr (by omega)
theorem sk_le_codes {a0:List QSym}:{xs:List Int}→{n k:Nat}→sk a0 n xs=some k→∀ c∈xs.take k,c<0∨c<a0.length
 | [],n,k,h,c,hc=>by simp at hc
 | x::xs,0,k,h,c,hc=>by
  simp [sk] at h; subst h; simp at hc
 | x::xs,n+1,k,h,c,hc=>by
  unfold sk at h
  cases ha:arity a0 x with
  | none=>rw[ha] at h; cases h
  | some m =>
   rw[ha] at h
   simp only[Option.map_eq_some_iff] at h
   obtain⟨j,hj,rfl⟩:=h
   rw[List.take_succ_cons] at hc
   rcases List.mem_cons.1 hc with rfl | hc
   ·exact arity_top ha
   ·exact sk_le_codes hj c hc
theorem cuts_near {a0:List QSym} (hs:SignOk a0) {xs:List Int} {ps:List (List Int)} (h:cuts a0 xs=some ps):∀ c∈xs,-24≤c∧c<20:=by
 obtain⟨h1,h2⟩:=cuts_flat xs.length xs ps (Nat.le_refl _) h
 have hl:=hs.len
 intro c hc
 refine ⟨cuts_small h c hc,?_⟩
 rw[← h1] at hc
 obtain⟨p,hp,hcp⟩:=List.mem_flatten.1 hc
 have:=sk_le_codes (h2 p hp).2 c
 rw[List.take_length] at this
 rcases this hcp with h | h<;>omega
theorem atomB_near {a0:List QSym} (hs:SignOk a0) {xs:List Int} (h:atomB a0 xs=true):NearR xs:=by
 obtain⟨x,r,e,ps,rfl,h0,he,-,-,-,hl,hc,-⟩:=atomB_spec h
 have:=(List.getElem?_eq_some_iff.1 he).1
 have hl2:=hs.len
 refine ⟨by simp; omega,fun c hcm => ?_⟩
 rcases List.mem_cons.1 hcm with rfl | hcm
 ·omega
 ·have:=cuts_near hs hc c hcm; omega
theorem litsB_near {a0:List QSym} (hs:SignOk a0) {ls:List QLit} (h:litsB a0 ls=true):∀ l∈ls,NearR l.2:=fun l hl=>atomB_near hs (List.all_eq_true.1 h l hl)
theorem rowsB_near {a0:List QSym} (hs:SignOk a0) {rs:List (List Int)} (h:rowsB a0 rs=true):∀ r∈rs,NearR r:=fun r hr=>by
 obtain⟨n,hn⟩:=rowsB_all h
 obtain⟨ps,hc,-,hl,-⟩:=rowW_spec (hn r hr)
 exact ⟨by omega,fun c hcm=>by have:=cuts_near hs hc c hcm; omega⟩
end
end Go.Abs.Q
namespace Go.Abs.Q
open Go Go.Abs
end Go.Abs.Q
namespace Go.Abs.Q
open Go Go.Abs
end Go.Abs.Q
namespace Go.Abs.Q
open Go Go.Abs
section
inductive Tm where
 | v (n:Nat)
 | f (c:Nat) (as:List Tm)
mutual
def Tm.codes:Tm→List Int
 | .v n=>[-1 - (n:Int)]
 | .f c as=>(c:Int)::codesR as
def codesR:List Tm→List Int
 | []=>[]
 | t::ts=>t.codes++codesR ts
end
mutual
def Tm.size:Tm→Nat
 | .v _=>1
 | .f _ as=>sizeR as+1
def sizeR:List Tm→Nat
 | []=>0
 | t::ts=>t.size+sizeR ts
end
abbrev Sb:=Nat→Tm
mutual
def Tm.sub (s:Sb):Tm→Tm
 | .v n=>s n
 | .f c as=>.f c (subR s as)
def subR (s:Sb):List Tm→List Tm
 | []=>[]
 | t::ts=>t.sub s::subR s ts
end
mutual
def Tm.has (x:Nat):Tm→Prop
 | .v n=>n=x
 | .f _ as=>hasR x as
def hasR (x:Nat):List Tm→Prop
 | []=>False
 | t::ts=>t.has x∨hasR x ts
end
mutual
def Tm.ok (a0:List QSym) (N:Nat):Tm→Prop
 | .v n=>n<N
 | .f c as=>arity a0 (c:Int)=some as.length∧okR a0 N as
def okR (a0:List QSym) (N:Nat):List Tm→Prop
 | []=>True
 | t::ts=>t.ok a0 N∧okR a0 N ts
end
theorem subR_length (s:Sb):(ts:List Tm)→(subR s ts).length=ts.length
 | []=>rfl
 | t::ts=>by simp [subR,subR_length s ts]
mutual
theorem Tm.codes_len:(t:Tm)→t.codes.length=t.size
 | .v _=>rfl
 | .f c as=>by simp [Tm.codes,Tm.size,codesR_len as]
theorem codesR_len:(ts:List Tm)→(codesR ts).length=sizeR ts
 | []=>rfl
 | t::ts=>by simp [codesR,sizeR,Tm.codes_len t,codesR_len ts]
end
theorem Tm.size_pos (t:Tm):0<t.size:=by cases t<;>simp [Tm.size]
mutual
theorem Tm.sub_ext {s u:Sb}:(t:Tm)→(∀ x,t.has x→s x=u x)→t.sub s=t.sub u
 | .v n,h=>h n rfl
 | .f c as,h=>by rw[Tm.sub,Tm.sub,subR_ext as h]
theorem subR_ext {s u:Sb}:(ts:List Tm)→(∀ x,hasR x ts→s x=u x)→subR s ts=subR u ts
 | [],_=>rfl
 | t::ts,h=>by rw[subR,subR,Tm.sub_ext t fun x hx=>h x (.inl hx),subR_ext ts fun x hx=>h x (.inr hx)]
end
mutual
theorem Tm.sub_sub (s u:Sb):(t:Tm)→(t.sub s).sub u=t.sub fun x=>(s x).sub u
 | .v n=>rfl
 | .f c as=>by rw[Tm.sub,Tm.sub,Tm.sub,subR_subR s u as]
theorem subR_subR (s u:Sb):(ts:List Tm)→subR u (subR s ts)=subR (fun x=>(s x).sub u) ts
 | []=>rfl
 | t::ts=>by rw[subR,subR,subR,Tm.sub_sub s u t,subR_subR s u ts]
end
mutual
theorem Tm.sub_v:(t:Tm)→t.sub .v=t
 | .v n=>rfl
 | .f c as=>by rw[Tm.sub,subR_v as]
theorem subR_v:(ts:List Tm)→subR .v ts=ts
 | []=>rfl
 | t::ts=>by rw[subR,Tm.sub_v t,subR_v ts]
end
mutual
theorem Tm.has_sub {s:Sb} {y:Nat}:(t:Tm)→((t.sub s).has y↔∃ x,t.has x∧(s x).has y)
 | .v n=>⟨fun h=>⟨n,rfl,h⟩,fun ⟨x,hx,h⟩=>by cases hx; exact h⟩
 | .f c as=>by show hasR y (subR s as)↔_; rw[hasR_sub as]; rfl
theorem hasR_sub {s:Sb} {y:Nat}:(ts:List Tm)→(hasR y (subR s ts)↔∃ x,hasR x ts∧(s x).has y)
 | []=>⟨fun h=>h.elim,fun ⟨_,h,_⟩=>h.elim⟩
 | t::ts=>by
  show (t.sub s).has y∨hasR y (subR s ts)↔∃ x,(t.has x∨hasR x ts)∧_
  rw[Tm.has_sub t,hasR_sub ts]
  constructor
  ·rintro (⟨x,h1,h2⟩ | ⟨x,h1,h2⟩)
   ·exact ⟨x,.inl h1,h2⟩
   ·exact ⟨x,.inr h1,h2⟩
  ·rintro⟨x,h1 | h1,h2⟩
   ·exact .inl ⟨x,h1,h2⟩
   ·exact .inr ⟨x,h1,h2⟩
end
mutual
theorem Tm.size_has {s:Sb} {x:Nat}:(t:Tm)→t.has x→(s x).size≤(t.sub s).size
 | .v n,h=>by cases h; exact Nat.le_refl _
 | .f c as,h=>by have:=sizeR_has (s:=s) as h; show _≤sizeR (subR s as)+1; omega
theorem sizeR_has {s:Sb} {x:Nat}:(ts:List Tm)→hasR x ts→(s x).size≤sizeR (subR s ts)
 | [],h=>h.elim
 | t::ts,h=>by
  show _≤(t.sub s).size+sizeR (subR s ts)
  rcases h with h | h
  ·have:=Tm.size_has (s:=s) t h; omega
  ·have:=sizeR_has (s:=s) ts h; omega
end
mutual
theorem Tm.size_sub {s:Sb} {M:Nat}:(t:Tm)→(1≤M)→(∀ x,t.has x→(s x).size≤M)→(t.sub s).size≤t.size*M
 | .v n,_,h=>by have:=h n rfl; simpa[Tm.sub,Tm.size] using this
 | .f c as,hM,h=>by
  have:=sizeR_sub (s:=s) as hM h
  show sizeR (subR s as)+1≤(sizeR as+1)*M
  rw[Nat.add_mul]; omega
theorem sizeR_sub {s:Sb} {M:Nat}:(ts:List Tm)→(1≤M)→(∀ x,hasR x ts→(s x).size≤M)→sizeR (subR s ts)≤sizeR ts*M
 | [],_,_=>by simp [subR,sizeR]
 | t::ts,hM,h=>by
  have h1:=Tm.size_sub (s:=s) t hM fun x hx=>h x (.inl hx)
  have h2:=sizeR_sub (s:=s) ts hM fun x hx=>h x (.inr hx)
  show (t.sub s).size+sizeR (subR s ts)≤(t.size+sizeR ts)*M
  rw[Nat.add_mul]; omega
end
mutual
theorem Tm.ok_sub {a0:List QSym} {N M:Nat} {s:Sb}:(t:Tm)→t.ok a0 N→(∀ x,t.has x→(s x).ok a0 M)→(t.sub s).ok a0 M
 | .v n,_,h=>h n rfl
 | .f c as,ho,h=>⟨by rw[subR_length]; exact ho.1,okR_sub as ho.2 h⟩
theorem okR_sub {a0:List QSym} {N M:Nat} {s:Sb}:(ts:List Tm)→okR a0 N ts→(∀ x,hasR x ts→(s x).ok a0 M)→okR a0 M (subR s ts)
 | [],_,_=>trivial
 | t::ts,ho,h=>⟨Tm.ok_sub t ho.1 fun x hx=>h x (.inl hx),okR_sub ts ho.2 fun x hx=>h x (.inr hx)⟩
end
mutual
theorem Tm.ok_has {a0:List QSym} {N x:Nat}:(t:Tm)→t.ok a0 N→t.has x→x<N
 | .v n,ho,h=>by cases h; exact ho
 | .f c as,ho,h=>okR_has as ho.2 h
theorem okR_has {a0:List QSym} {N x:Nat}:(ts:List Tm)→okR a0 N ts→hasR x ts→x<N
 | [],_,h=>h.elim
 | t::ts,ho,h=>h.elim (Tm.ok_has t ho.1) (okR_has ts ho.2)
end
mutual
theorem Tm.ok_mono {a0:List QSym} {N M:Nat} (hNM:N≤M):(t:Tm)→t.ok a0 N→t.ok a0 M
 | .v n,ho=>Nat.lt_of_lt_of_le ho hNM
 | .f c as,ho=>⟨ho.1,okR_mono hNM as ho.2⟩
theorem okR_mono {a0:List QSym} {N M:Nat} (hNM:N≤M):(ts:List Tm)→okR a0 N ts→okR a0 M ts
 | [],_=>trivial
 | t::ts,ho=>⟨Tm.ok_mono hNM t ho.1,okR_mono hNM ts ho.2⟩
end
mutual
theorem Tm.mem_codes {c:Int} (hc:c<0):(t:Tm)→(c∈t.codes↔t.has (-1 - c).toNat)
 | .v n=>by
  show c∈[-1 - (n:Int)]↔n=_
  rw[List.mem_singleton]
  omega
 | .f d as=>by
  show c∈(d:Int)::codesR as↔hasR _ as
  rw[List.mem_cons,← mem_codesR hc as]
  have:c≠(d:Int):=by omega
  simp [this]
theorem mem_codesR {c:Int} (hc:c<0):(ts:List Tm)→(c∈codesR ts↔hasR (-1 - c).toNat ts)
 | []=>by simp [codesR,hasR]
 | t::ts=>by
  show c∈t.codes++codesR ts↔_∨_
  rw[List.mem_append,Tm.mem_codes hc t,mem_codesR hc ts]
end
theorem arity_var {a0:List QSym} {n:Nat} (h:n<24):arity a0 (-1 - (n:Int))=some 0:=by
 unfold arity
 rw[decide_eq_true (show -1 - (n:Int)<0 by omega),cond_true,decide_eq_true (show -24 ≤ -1 - (n:Int) by omega)]
 rfl
mutual
theorem Tm.sk_codes {a0:List QSym}:(t:Tm)→t.ok a0 24→sk a0 1 t.codes=some t.codes.length
 | .v n,h=>by
  show sk a0 1 [-1 - (n:Int)]=some 1
  unfold sk
  rw[arity_var h]
  rfl
 | .f c as,h=>by
  have:=sk_codesR as h.2
  show sk a0 1 ((c:Int)::codesR as)=some (codesR as).length.succ
  unfold sk
  rw[h.1]
  simp only[Nat.zero_add,this,Option.map_some]
theorem sk_codesR {a0:List QSym}:(ts:List Tm)→okR a0 24 ts→sk a0 ts.length (codesR ts)=some (codesR ts).length
 | [],_=>rfl
 | t::ts,h=>by
  show sk a0 (ts.length+1) (t.codes++codesR ts)=_
  rw[Nat.add_comm]
  exact sk_app (Tm.sk_codes t h.1) (sk_codesR ts h.2)
end
def Tm.up (d:Nat) (t:Tm):Tm:=t.sub fun n=>.v (n+d)
theorem Tm.up_size (d:Nat) (t:Tm):(t.up d).size=t.size:=by
 have h1:(t.up d).size≤t.size*1:=Tm.size_sub t (Nat.le_refl _) fun x _=>Nat.le_refl _
 have h2:((t.up d).sub fun n=>.v (n - d)).size≤(t.up d).size*1:=Tm.size_sub _ (Nat.le_refl _) fun x _=>Nat.le_refl _
 have h3:(t.up d).sub (fun n=>.v (n - d))=t:=by
  unfold Tm.up
  rw[Tm.sub_sub,show (fun x=>(Tm.v (x+d)).sub fun n=>.v (n - d))=Tm.v from by
   funext x
   show Tm.v (x+d - d)=_
   rw[Nat.add_sub_cancel],Tm.sub_v]
 rw[h3] at h2
 omega
theorem Tm.up_ok {a0:List QSym} {N d:Nat} {t:Tm} (h:t.ok a0 N):(t.up d).ok a0 (N+d):=Tm.ok_sub t h fun x hx=>by
 have:=Tm.ok_has t h hx
 show x+d<N+d
 omega
theorem Tm.up_has {d y:Nat} {t:Tm}:(t.up d).has y↔∃ x,t.has x∧x+d=y:=Tm.has_sub t
end
end Go.Abs.Q
namespace Go.Abs.Q
open Go Go.Abs
section
abbrev Bd:=Nat→Option Tm
def SolB (θ:Sb) (B:Bd):Prop:=∀ x t,B x=some t→θ x=t.sub θ
def Sol (θ:Sb) (E:List (Tm×Tm)):Prop:=∀ p∈E,p.1.sub θ=p.2.sub θ
theorem Sol.nil {θ:Sb}:Sol θ []:=fun _ h=>nomatch h
theorem Sol.cons {θ:Sb} {p:Tm×Tm} {E:List (Tm×Tm)}:Sol θ (p::E)↔p.1.sub θ=p.2.sub θ∧Sol θ E:=by simp [Sol]
theorem Sol.append {θ:Sb} {E F:List (Tm×Tm)}:Sol θ (E++F)↔Sol θ E∧Sol θ F:=by
 simp only[Sol,List.mem_append]
 exact ⟨fun h=>⟨fun p hp=>h p (.inl hp),fun p hp=>h p (.inr hp)⟩,fun h p hp=>hp.elim (h.1 p) (h.2 p)⟩
theorem Sol.zip {θ:Sb}:{ts us:List Tm}→ts.length=us.length→(Sol θ (ts.zip us)↔subR θ ts=subR θ us)
 | [],[],_=>by simp [Sol,subR]
 | [],_::_,h=>by simp at h
 | _::_,[],h=>by simp at h
 | t::ts,u::us,h=>by
  rw[List.zip_cons_cons,Sol.cons,Sol.zip (by simpa using h)]
  simp [subR]
structure Good (B:Bd) (σ:Sb):Prop where
 free:∀ x,B x=none→σ x = .v x
 bound:∀ x t,B x=some t→σ x=t.sub σ
 down:∀ x y,B x=some (.v y)→y<x
theorem Good.ind {B:Bd} {σ:Sb} (h:Good B σ) {P:Nat→Prop} (hf:∀ x,B x=none→P x) (hb:∀ x t,B x=some t→(∀ y,t.has y→P y)→P x):∀ x,P x:=by
 have key:∀ n x,(σ x).size=n→P x:=by
  intro n
  induction n using Nat.strongRecOn with
  | _ n ihn =>
   intro x
   induction x using Nat.strongRecOn with
   | _ x ihx =>
    intro hn
    cases hx:B x with
    | none=>exact hf x hx
    | some t =>
     refine hb x t hx fun y hy => ?_
     have hs:=h.bound x t hx
     cases t with
     | v z =>
      have hz:z=y:=hy
      subst hz
      exact ihx z (h.down x z hx) (by rw[← hn,hs]; rfl)
     | f c as =>
      have:=sizeR_has (s:=σ) as hy
      refine ihn (σ y).size ?_ y rfl
      rw[← hn,hs]
      show _<sizeR (subR σ as)+1
      omega
 exact fun x=>key _ x rfl
theorem Good.fac {B:Bd} {σ θ:Sb} (h:Good B σ) (hθ:SolB θ B):∀ x,(σ x).sub θ=θ x:=by
 refine h.ind (fun x hx=>by rw[h.free x hx]; rfl) fun x t hx ih => ?_
 rw[h.bound x t hx,Tm.sub_sub,hθ x t hx]
 exact Tm.sub_ext t fun y hy=>ih y hy
theorem Good.facT {B:Bd} {σ θ:Sb} (h:Good B σ) (hθ:SolB θ B) (t:Tm):(t.sub σ).sub θ=t.sub θ:=by
 rw[Tm.sub_sub]
 exact Tm.sub_ext t fun y _=>h.fac hθ y
theorem Good.idem {B:Bd} {σ:Sb} (h:Good B σ) (t:Tm):(t.sub σ).sub σ=t.sub σ:=h.facT h.bound t
theorem Good.le {B:Bd} {σ:Sb} (h:Good B σ):∀ x y,σ x = .v y→y≤x:=by
 refine h.ind (fun x hx y hy => ?_) fun x t hx ih y hy => ?_
 ·rw[h.free x hx] at hy; injection hy with hy; omega
 ·rw[h.bound x t hx] at hy
  cases t with
  | v z =>
   have h1:=h.down x z hx
   have h2:=ih z rfl y hy
   omega
  | f c as=>cases hy
def one (x:Nat) (u:Tm):Sb:=fun y=>if y=x then u else .v y
def updB (B:Bd) (x:Nat) (t:Tm):Bd:=fun y=>if y=x then some t else B y
theorem updB_same (B:Bd) (x:Nat) (t:Tm):updB B x t x=some t:=by simp [updB]
theorem updB_ne (B:Bd) {x y:Nat} (t:Tm) (h:y≠x):updB B x t y=B y:=by simp [updB,h]
theorem one_off {x:Nat} {u t:Tm} (h:¬ t.has x):t.sub (one x u)=t:=by
 conv=>rhs; rw[← Tm.sub_v t]
 refine Tm.sub_ext t fun y hy => ?_
 have hne:y≠x:=fun e=>h (e▸hy)
 unfold one
 rw[if_neg hne]
theorem Good.bind {B:Bd} {σ:Sb} (h:Good B σ) {x:Nat} {t:Tm} (hx:B x=none) (hn:¬(t.sub σ).has x) (hd:∀ y,t = .v y→y<x):Good (updB B x t) fun y=>(σ y).sub (one x (t.sub σ)) where
 free:=fun y hy=>by
  have hne:y≠x:=fun e=>by rw[e,updB_same] at hy; cases hy
  rw[updB_ne _ _ hne] at hy
  rw[h.free y hy]
  show one x _ y=_
  simp [one,hne]
 bound:=fun y u hy=>by
  by_cases he:y=x
  ·subst he
   rw[updB_same] at hy
   injection hy with hy
   subst hy
   rw[h.free y hx,← Tm.sub_sub,one_off hn]
   show one y _ y=_
   simp [one]
  ·rw[updB_ne _ _ he] at hy
   rw[h.bound y u hy,Tm.sub_sub]
 down:=fun y z hy=>by
  by_cases he:y=x
  ·subst he
   rw[updB_same] at hy
   injection hy with hy
   exact hd z hy
  ·rw[updB_ne _ _ he] at hy
   exact h.down y z hy
def Small (B:Bd):Prop:=∀ x t,B x=some t→x<48∧t.size≤48
def Good.less (σ:Sb) (y x:Nat):Bool:=decide ((σ y).size<(σ x).size)||(decide ((σ y).size=(σ x).size)&&decide (y<x))
def Good.rank (σ:Sb) (x:Nat):Nat:=(List.range 48).countP fun y=>Good.less σ y x
theorem countP_lt {α:Type} {p q:α→Bool} {a:α}:{l:List α}→a∈l→(∀ x∈l,p x=true→q x=true)→p a=false→q a=true→l.countP p<l.countP q
 | [],h,_,_,_=>nomatch h
 | b::l,hm,hi,hp,hq=>by
  have h2:l.countP p≤l.countP q:=List.countP_mono_left fun x hx h=>hi x (List.mem_cons_of_mem _ hx) h
  rcases List.mem_cons.1 hm with rfl | hm
  ·rw[List.countP_cons_of_neg (by simp [hp]),List.countP_cons_of_pos hq]
   omega
  ·have h1:=countP_lt hm (fun x hx=>hi x (List.mem_cons_of_mem _ hx)) hp hq
   cases hb:p b with
   | true=>rw[List.countP_cons_of_pos hb,List.countP_cons_of_pos (hi b (List.mem_cons_self ..) hb)]; omega
   | false =>
    rw[List.countP_cons_of_neg (by simp [hb])]
    cases hc:q b with
    | true=>rw[List.countP_cons_of_pos hc]; omega
    | false=>rw[List.countP_cons_of_neg (by simp [hc])]; exact h1
theorem Good.small {B:Bd} {σ:Sb} (h:Good B σ) (hb:Small B):∀ x,(σ x).size≤48 ^ 49:=by
 have key:∀ x,B x≠none→(σ x).size≤48 ^ (Good.rank σ x+1):=by
  refine h.ind (fun x hx hn=>absurd hx hn) fun x t hx ih _ => ?_
  obtain⟨hx48,ht⟩:=hb x t hx
  rw[h.bound x t hx]
  have h1:1≤48 ^ Good.rank σ x:=Nat.pow_pos (by omega)
  refine Nat.le_trans (Tm.size_sub t h1 fun y hy => ?_) ?_
  ·cases hy0:B y with
   | none=>rw[h.free y hy0]; exact h1
   | some u =>
    refine Nat.le_trans (ih y hy (by rw[hy0]; simp)) (Nat.pow_le_pow_right (by omega) ?_)
    have hlt:Good.less σ y x=true:=by
     unfold Good.less
     have hs:=h.bound x t hx
     cases t with
     | v z =>
      have hz:z=y:=hy
      subst hz
      have h2:=h.down x z hx
      have h3:(σ z).size=(σ x).size:=by rw[hs]; rfl
      simp [h3,h2]
     | f c as =>
      have h2:=sizeR_has (s:=σ) as hy
      have h3:(σ x).size=sizeR (subR σ as)+1:=by rw[hs]; rfl
      rw[decide_eq_true (show (σ y).size<(σ x).size by omega)]
      rfl
    refine countP_lt (a:=y) (List.mem_range.2 (hb y u hy0).1) (fun z _ hz => ?_) (by simp [Good.less]) hlt
    simp only[Good.less,Bool.or_eq_true,Bool.and_eq_true,decide_eq_true_eq] at hz hlt ⊢
    omega
  ·rw[Nat.pow_succ,Nat.mul_comm]
   exact Nat.mul_le_mul_left _ ht
 intro x
 by_cases hx:B x=none
 ·rw[h.free x hx]
  exact Nat.pow_pos (by omega)
 ·refine Nat.le_trans (key x hx) (Nat.pow_le_pow_right (by omega) ?_)
  have:Good.rank σ x≤(List.range 48).length:=List.countP_le_length
  rw[List.length_range] at this
  omega
end
end Go.Abs.Q
namespace Go.Abs.Q
open Go Go.Abs
section
abbrev PI:=List Int×Int
abbrev PO:=Option (List Int)×Int
def Pc (a0:List QSym) (N:Nat) (p:List Int) (d:Int) (t:Tm):Prop:=∃ u n,Tm.ok a0 24 u∧p=u.codes∧d=((n:Nat):Int)∧n≤N∧t=u.up n∧p.length≤48
theorem Pc.size {a0:List QSym} {N:Nat} {p:List Int} {d:Int} {t:Tm} (h:Pc a0 N p d t):t.size=p.length∧t.size≤48:=by
 obtain⟨u,n,h1,rfl,h2,h3,rfl,h4⟩:=h
 rw[Tm.up_size,Tm.codes_len]
 rw[Tm.codes_len] at h4
 exact ⟨rfl,h4⟩
theorem Pc.lt {a0:List QSym} {N:Nat} (hN:N≤24) {p:List Int} {d:Int} {t:Tm} (h:Pc a0 N p d t) {x:Nat} (hx:t.has x):x<48:=by
 obtain⟨u,n,h1,rfl,h2,h3,rfl,h4⟩:=h
 have:=Tm.ok_has _ (Tm.up_ok (d:=n) h1) hx
 omega
def Pq (a0:List QSym) (N:Nat) (q:List Int×Int×List Int×Int) (e:Tm×Tm):Prop:=Pc a0 N q.1 q.2.1 e.1∧Pc a0 N q.2.2.1 q.2.2.2 e.2
def PqL (a0:List QSym) (N:Nat):List (List Int×Int×List Int×Int)→List (Tm×Tm)→Prop
 | [],es=>es=[]
 | q::qs,es=>∃ e es',es=e::es'∧Pq a0 N q e∧PqL a0 N qs es'
theorem PqL.append {a0:List QSym} {N:Nat}:{qs:List (List Int×Int×List Int×Int)}→{es:List (Tm×Tm)}→{qs':List (List Int×Int×List Int×Int)}→{es':List (Tm×Tm)}→PqL a0 N qs es→PqL a0 N qs' es'→PqL a0 N (qs++qs') (es++es')
 | [],_,_,_,h,h'=>by have h:_=[]:=h; subst h; exact h'
 | q::qs,_,_,_,h,h'=>by
  obtain⟨e,es,rfl,h1,h2⟩:=h
  exact ⟨e,_,rfl,h1,PqL.append h2 h'⟩
theorem PqL.length {a0:List QSym} {N:Nat}:{qs:List (List Int×Int×List Int×Int)}→{es:List (Tm×Tm)}→PqL a0 N qs es→es.length=qs.length
 | [],_,h=>by have h:_=[]:=h; subst h; rfl
 | q::qs,_,h=>by
  obtain⟨e,es,rfl,h1,h2⟩:=h
  simp [PqL.length h2]
theorem PqL.split {a0:List QSym} {N:Nat}:{qs:List (List Int×Int×List Int×Int)}→{qs':List (List Int×Int×List Int×Int)}→{es:List (Tm×Tm)}→PqL a0 N (qs++qs') es→∃ e1 e2,es=e1++e2∧PqL a0 N qs e1∧PqL a0 N qs' e2
 | [],_,es,h=>⟨[],es,rfl,rfl,h⟩
 | q::qs,_,_,h=>by
  obtain⟨e,es,rfl,h1,h2⟩:=h
  obtain⟨e1,e2,rfl,h3,h4⟩:=PqL.split h2
  exact ⟨e::e1,e2,rfl,⟨e,e1,rfl,h1,h3⟩,h4⟩
def PcO (a0:List QSym) (N:Nat) (e:PO) (o:Option Tm):Prop:=match e.1 with
 | none=>o=none
 | some p=>∃ t,o=some t∧Pc a0 N p e.2 t
structure RepT (a0:List QSym) (N:Nat) (to:List PO) (B:Bd):Prop where
 len:to.length=48
 at_:∀ x e,to[x]? = some e→PcO a0 N e (B x)
 out:∀ x,48≤x→B x=none
theorem RepT.small {a0:List QSym} {N:Nat} {to:List PO} {B:Bd} (h:RepT a0 N to B):Small B:=by
 intro x t hx
 have hlt:x<48:=by
  rcases Nat.lt_or_ge x 48 with h' | h'
  ·exact h'
  ·rw[h.out x h'] at hx; cases hx
 refine ⟨hlt,?_⟩
 have hl:x<to.length:=by rw[h.len]; exact hlt
 have hg:to[x]? = some to[x]:=List.getElem?_eq_getElem hl
 have:=h.at_ x _ hg
 unfold PcO at this
 split at this
 ·rw[hx] at this; cases this
 ·obtain⟨u,h1,h2⟩:=this
  rw[hx] at h1; injection h1 with h1; subst h1
  exact h2.size.2
theorem RepT.get {a0:List QSym} {N:Nat} {to:List PO} {B:Bd} (h:RepT a0 N to B) {x:Nat} (hx:x<48):∃ e,to[x]? = some e∧PcO a0 N e (B x):=by
 have hl:x<to.length:=by rw[h.len]; exact hx
 have hg:to[x]? = some to[x]:=List.getElem?_eq_getElem hl
 exact ⟨_,hg,h.at_ x _ hg⟩
theorem RepT.set {a0:List QSym} {N:Nat} {to:List PO} {B:Bd} (h:RepT a0 N to B) {x:Nat} (hx:x<48) {p:List Int} {d:Int} {t:Tm} (hp:Pc a0 N p d t):RepT a0 N (to.set x (some p,d)) (updB B x t) where
 len:=by rw[List.length_set]; exact h.len
 at_:=fun y e hy=>by
  by_cases he:y=x
  ·subst he
   rw[List.getElem?_set_self (by rw[h.len]; exact hx)] at hy
   injection hy with hy
   subst hy
   rw[updB_same]
   exact ⟨t,rfl,hp⟩
  ·rw[List.getElem?_set_ne (Ne.symm he)] at hy
   rw[updB_ne _ _ he]
   exact h.at_ y e hy
 out:=fun y hy=>by
  rw[updB_ne _ _ (by omega)]
  exact h.out y hy
section
variable {a0:List QSym} {N:Nat} {to:List PO} {B:Bd} {σ:Sb} {v:Nat}
def DoneV (B:Bd) (v:Nat) (seen:List Bool) (y:Nat):Prop:=y≠v∧(B y≠none→seen[y]? = some true)
def PcL (a0:List QSym) (N:Nat):List PI→List Tm→Prop
 | [],ts=>ts=[]
 | p::ps,ts=>∃ t ts',ts=t::ts'∧Pc a0 N p.1 p.2 t∧PcL a0 N ps ts'
theorem PcL.append:{ps:List PI}→{ts:List Tm}→{ps':List PI}→{ts':List Tm}→PcL a0 N ps ts→PcL a0 N ps' ts'→PcL a0 N (ps++ps') (ts++ts')
 | [],_,_,_,h,h'=>by have h:_=[]:=h; subst h; exact h'
 | q::qs,_,_,_,h,h'=>by
  obtain⟨e,es,rfl,h1,h2⟩:=h
  exact ⟨e,_,rfl,h1,PcL.append h2 h'⟩
theorem PcL.split:{ps:List PI}→{ps':List PI}→{ts:List Tm}→PcL a0 N (ps++ps') ts→∃ t1 t2,ts=t1++t2∧PcL a0 N ps t1∧PcL a0 N ps' t2
 | [],_,ts,h=>⟨[],ts,rfl,rfl,h⟩
 | q::qs,_,_,h=>by
  obtain⟨e,es,rfl,h1,h2⟩:=h
  obtain⟨e1,e2,rfl,h3,h4⟩:=PcL.split h2
  exact ⟨e::e1,e2,rfl,⟨e,e1,rfl,h1,h3⟩,h4⟩
theorem PcL.length:{ps:List PI}→{ts:List Tm}→PcL a0 N ps ts→ts.length=ps.length
 | [],_,h=>by have h:_=[]:=h; subst h; rfl
 | q::qs,_,h=>by
  obtain⟨e,es,rfl,h1,h2⟩:=h
  simp [PcL.length h2]
theorem Pc.vars {p:List Int} {d:Int} {t:Tm} (h:Pc a0 N p d t):∃ n:Nat,d=(n:Int)∧n≤N∧(∀ c∈p,-24≤c)∧∀ y,t.has y↔∃ c∈p,c<0∧(-1 - c).toNat+n=y:=by
 obtain⟨u,n,h1,rfl,h2,h3,rfl,h4⟩:=h
 refine ⟨n,h2,h3,fun c hc => ?_,fun y => ?_⟩
 ·by_cases h0:c<0
  ·have:=Tm.ok_has u h1 ((Tm.mem_codes h0 u).1 hc); omega
  ·omega
 ·rw[Tm.up_has]
  constructor
  ·rintro⟨x,hx,rfl⟩
   have hc:(-1 - (x:Int))<0:=by omega
   refine ⟨-1 - (x:Int),(Tm.mem_codes hc u).2 (by rw[show (-1 - (-1 - (x:Int))).toNat=x from by omega]; exact hx),hc,by omega⟩
  ·rintro⟨c,hc,h0,rfl⟩
   exact ⟨_,(Tm.mem_codes h0 u).1 hc,rfl⟩
theorem DoneV.mono {seen seen':List Bool} (h:∀ y:Nat,seen[y]? = some true→seen'[y]? = some true) {y:Nat} (hd:DoneV B v seen y):DoneV B v seen' y:=⟨hd.1,fun hb=>h y (hd.2 hb)⟩
end
end
end Go.Abs.Q
namespace Go.Abs.Q
open Go Go.Abs
section
mutual
def Tm.ht:Tm→Nat
 | .v _=>1
 | .f _ as=>htR as+1
def htR:List Tm→Nat
 | []=>0
 | t::ts=>max t.ht (htR ts)
end
mutual
theorem Tm.ht_size:(t:Tm)→t.ht≤t.size
 | .v _=>Nat.le_refl _
 | .f _ as=>by have:=htR_size as; simp only[Tm.ht,Tm.size]; omega
theorem htR_size:(ts:List Tm)→htR ts≤sizeR ts
 | []=>Nat.le_refl _
 | t::ts=>by have:=t.ht_size; have:=htR_size ts; simp only[htR,sizeR]; omega
end
mutual
theorem Tm.ht_sub {s:Sb} {M:Nat}:(t:Tm)→(∀ x,t.has x→(s x).ht≤M)→(t.sub s).ht≤t.ht+M
 | .v n,h=>by have:=h n rfl; simp only[Tm.sub,Tm.ht]; omega
 | .f _ as,h=>by have:=htR_sub as h; simp only[Tm.sub,Tm.ht]; omega
theorem htR_sub {s:Sb} {M:Nat}:(ts:List Tm)→(∀ x,hasR x ts→(s x).ht≤M)→htR (subR s ts)≤htR ts+M
 | [],_=>by simp [subR,htR]
 | t::ts,h=>by
  have h1:=Tm.ht_sub t fun x hx=>h x (.inl hx)
  have h2:=htR_sub ts fun x hx=>h x (.inr hx)
  simp only[subR,htR]; omega
end
theorem Good.rank_lt {B:Bd} {σ:Sb} (h:Good B σ) {x y:Nat} {t:Tm} (hx:B x=some t) (hy:t.has y) (h48:y<48):Good.rank σ y<Good.rank σ x:=by
 have hlt:Good.less σ y x=true:=by
  unfold Good.less
  have hs:=h.bound x t hx
  cases t with
  | v z =>
   have hz:z=y:=hy
   subst hz
   have h2:=h.down x z hx
   have h3:(σ z).size=(σ x).size:=by rw[hs]; rfl
   simp [h3,h2]
  | f c as =>
   have h2:=sizeR_has (s:=σ) as hy
   have h3:(σ x).size=sizeR (subR σ as)+1:=by rw[hs]; rfl
   rw[decide_eq_true (show (σ y).size<(σ x).size by omega)]
   rfl
 refine countP_lt (a:=y) (List.mem_range.2 h48) (fun z _ hz => ?_) (by simp [Good.less]) hlt
 simp only[Good.less,Bool.or_eq_true,Bool.and_eq_true,decide_eq_true_eq] at hz hlt ⊢
 omega
theorem Good.rank_le (σ:Sb) (x:Nat):Good.rank σ x≤48:=by
 have:Good.rank σ x≤(List.range 48).length:=List.countP_le_length
 rwa [List.length_range] at this
theorem Good.low {B:Bd} {σ:Sb} (h:Good B σ) (hb:Small B):∀ x,(σ x).ht≤49*49:=by
 have key:∀ x,B x≠none→(σ x).ht≤49*(Good.rank σ x+1):=by
  refine h.ind (fun x hx hn=>absurd hx hn) fun x t hx ih _ => ?_
  obtain⟨hx48,ht⟩:=hb x t hx
  rw[h.bound x t hx]
  have h0:=t.ht_size
  have:=Tm.ht_sub (s:=σ) (M:=49*Good.rank σ x+1) t fun y hy=>(by
   cases hy0:B y with
   | none=>rw[h.free y hy0]; simp only[Tm.ht]; omega
   | some u =>
    have h1:=ih y hy (by rw[hy0]; simp)
    have h2:=h.rank_lt hx hy (hb y u hy0).1
    have:49*(Good.rank σ y+1)≤49*Good.rank σ x:=Nat.mul_le_mul_left _ (by omega)
    omega)
  omega
 intro x
 by_cases hx:B x=none
 ·rw[h.free x hx]; simp [Tm.ht]
 ·have h1:=key x hx
  have h2:=Good.rank_le σ x
  have:49*(Good.rank σ x+1)≤49*49:=Nat.mul_le_mul_left _ (by omega)
  omega
end
end Go.Abs.Q
namespace Go.Abs.Q
open Go Go.Abs
section
def wt (σ:Sb) (E:List (Tm×Tm)):Nat:=(E.map fun e=>(e.1.sub σ).size).sum
def HtOk (R:List Tm) (B:Bd) (i:Nat) (t:Tm):Prop:=∃ δ:Nat,i≤47+3*δ∧∀ θ,SolB θ B→∃ c∈R,δ+(t.sub θ).ht≤(c.sub θ).ht
def StkOk (R:List Tm) (B:Bd) (E:List (Tm×Tm)):Prop:=∀(i:Nat) e,E[i]? = some e→HtOk R B i e.1
theorem HtOk.mono {R:List Tm} {B B':Bd} {i:Nat} {t:Tm} (h:HtOk R B i t) (hB:∀ θ,SolB θ B'→SolB θ B):HtOk R B' i t:=by
 obtain⟨δ,h1,h2⟩:=h
 exact ⟨δ,h1,fun θ hθ=>h2 θ (hB θ hθ)⟩
theorem StkOk.mono {R:List Tm} {B B':Bd} {E:List (Tm×Tm)} (h:StkOk R B E) (hB:∀ θ,SolB θ B'→SolB θ B):StkOk R B' E:=fun i e he=>(h i e he).mono hB
theorem StkOk.left {R:List Tm} {B:Bd} {E F:List (Tm×Tm)} (h:StkOk R B (E++F)):StkOk R B E:=fun i e he=>h i e (by
 rw[List.getElem?_append_left (List.getElem?_eq_some_iff.1 he).1]; exact he)
theorem StkOk.len {R:List Tm} {B:Bd} {σ:Sb} {E:List (Tm×Tm)} (h:StkOk R B E) (hG:Good B σ) (hS:Small B) (hR:∀ c∈R,c.size≤48):E.length≤8000:=by
 rcases Nat.eq_zero_or_pos E.length with h0 | h0
 ·omega
 ·obtain⟨δ,h1,h2⟩:=h (E.length - 1) E[E.length - 1] (List.getElem?_eq_getElem (by omega))
  obtain⟨c,hc,h3⟩:=h2 σ hG.bound
  have h4:=Tm.ht_sub (s:=σ) c fun x _=>hG.low hS x
  have h5:=c.ht_size
  have h6:=hR c hc
  omega
theorem ht_pos (t:Tm):0<t.ht:=by cases t<;>simp [Tm.ht]
end
end Go.Abs.Q
namespace Go.Abs.Q
open Go Go.Abs
section
def expC (s:Sb) (c:Int):List Int:=if c<0 then (s (-1 - c).toNat).codes else [c]
mutual
theorem Tm.codes_sub (s:Sb):(t:Tm)→(t.sub s).codes=t.codes.flatMap (expC s)
 | .v n=>by
  show (s n).codes=[-1 - (n:Int)].flatMap (expC s)
  simp only[List.flatMap_cons,List.flatMap_nil,List.append_nil,expC]
  rw[if_pos (by omega),show (-1 - (-1 - (n:Int))).toNat=n from by omega]
 | .f c as=>by
  show (c:Int)::codesR (subR s as)=((c:Int)::codesR as).flatMap (expC s)
  rw[List.flatMap_cons,codesR_sub s as]
  unfold expC
  rw[if_neg (by omega)]
  rfl
theorem codesR_sub (s:Sb):(ts:List Tm)→codesR (subR s ts)=(codesR ts).flatMap (expC s)
 | []=>rfl
 | t::ts=>by
  show (t.sub s).codes++codesR (subR s ts)=(t.codes++codesR ts).flatMap (expC s)
  rw[Tm.codes_sub s t,codesR_sub s ts,List.flatMap_append]
end
section
variable {a0:List QSym} {to:List PO} {B:Bd} {σ:Sb}
end
structure Mgu (σ:Sb) (E:List (Tm×Tm)):Prop where
 sol:Sol σ E
 gen:∀ θ,Sol θ E→∀ x,(σ x).sub θ=θ x
 le:∀ x y,σ x = .v y→y≤x
 idem:∀ x,(σ x).sub σ=σ x
theorem Mgu.of {B:Bd} {σ:Sb} {E:List (Tm×Tm)} (hG:Good B σ) (h:∀ θ,SolB θ B↔SolB θ (fun _=>none)∧Sol θ E):Mgu σ E where
 sol:=((h σ).1 hG.bound).2
 gen:=fun θ hθ=>hG.fac ((h θ).2 ⟨fun _ _ h=>(nomatch h),hθ⟩)
 le:=hG.le
 idem:=fun x=>by rw[← hG.fac hG.bound x]; exact hG.idem _
end
end Go.Abs.Q
namespace Go.Abs.Q
open Go Go.Abs
section
abbrev Rise (xs:List Int):Prop:=xs.Pairwise (· < ·)
theorem Rise.lt {xs:List Int} (h:Rise xs) {i j:Nat} {x y:Int} (hi:xs[i]? = some x) (hj:xs[j]? = some y) (hij:i<j):x<y:=by
 obtain⟨h1,rfl⟩:=List.getElem?_eq_some_iff.1 hi
 obtain⟨h2,rfl⟩:=List.getElem?_eq_some_iff.1 hj
 exact List.pairwise_iff_getElem.1 h i j h1 h2 hij
def VarC (r:List Int) (x:Int):Prop:=∃ c∈r,c<0∧x = -1 - c
def VarR (rs:List (List Int)) (x:Int):Prop:=∃ r∈rs,VarC r x
theorem VarR_cons {r:List Int} {rs:List (List Int)} {x:Int}:VarR (r::rs) x↔VarC r x∨VarR rs x:=by simp [VarR]
theorem sumLen_append (rs ss:List (List Int)):sumLen (rs++ss)=sumLen rs+sumLen ss:=by simp [sumLen]
def rowsOf (L:List QLit) (T:List (List Int)) (C:List QLit):List (List Int):=L.map (·.2)++C.map (·.2)++T
end
end Go.Abs.Q
namespace Go.Abs.Q
open Go Go.Abs
section
def subCs (s:Sb) (r:List Int):List Int:=r.flatMap (expC s)
def subLs (s:Sb) (ls:List QLit):List QLit:=ls.map fun l=>(l.1,subCs s l.2)
end
end Go.Abs.Q
namespace Go.Abs.Q
open Go Go.Abs
section
theorem may_small {a0:List QSym} {L:List QLit} {T:List (List Int)} {C:List QLit} (h:mayB a0 L T C=true):∀ r∈rowsOf L T C,SmallR r:=by
 obtain⟨-,-,-,-,h4,h5,h6,-⟩:=mayB_spec h
 intro r hr
 unfold rowsOf at hr
 rcases List.mem_append.1 hr with hr | hr
 ·rcases List.mem_append.1 hr with hr | hr
  ·obtain⟨l,hl,rfl⟩:=List.mem_map.1 hr; exact litsB_small h4 l hl
  ·obtain⟨l,hl,rfl⟩:=List.mem_map.1 hr; exact litsB_small h6 l hl
 ·exact rowsB_small h5 r hr
end
end Go.Abs.Q
namespace Go.Abs.Q
open Go Go.Abs
section
def Cds (r:List Int):Prop:=r.length≤1000∧∀ c∈r,-24≤c∧c≤1000000
theorem Cds.near {r:List Int} (h:Cds r):NearR r:=⟨h.1,fun c hc=>by have:=h.2 c hc; omega⟩
theorem may_cds {a0:List QSym} (hs:SignOk a0) {L:List QLit} {T:List (List Int)} {C:List QLit} (h:mayB a0 L T C=true):∀ r∈rowsOf L T C,Cds r:=by
 intro r hr
 have h1:=may_small h r hr
 obtain⟨-,-,-,-,h4,h5,h6,-⟩:=mayB_spec h
 have h2:NearR r:=by
  unfold rowsOf at hr
  rcases List.mem_append.1 hr with hr | hr
  ·rcases List.mem_append.1 hr with hr | hr
   ·obtain⟨l,hl,rfl⟩:=List.mem_map.1 hr; exact litsB_near hs h4 l hl
   ·obtain⟨l,hl,rfl⟩:=List.mem_map.1 hr; exact litsB_near hs h6 l hl
  ·exact rowsB_near hs h5 r hr
 exact ⟨h2.1,fun c hc=>⟨h1.2 c hc,(h2.2 c hc).2⟩⟩
theorem mem_rows_lit {L:List QLit} {T:List (List Int)} {C:List QLit} {l:QLit} (h:l∈L):l.2∈rowsOf L T C:=by
 unfold rowsOf
 exact List.mem_append_left _ (List.mem_append_left _ (List.mem_map_of_mem h))
theorem mem_rows_cond {L:List QLit} {T:List (List Int)} {C:List QLit} {l:QLit} (h:l∈C):l.2∈rowsOf L T C:=by
 unfold rowsOf
 exact List.mem_append_left _ (List.mem_append_right _ (List.mem_map_of_mem h))
theorem mem_rows_row {L:List QLit} {T:List (List Int)} {C:List QLit} {r:List Int} (h:r∈T):r∈rowsOf L T C:=by
 unfold rowsOf
 exact List.mem_append_right _ h
end
end Go.Abs.Q
namespace Go.Abs.Q
open Go Go.Abs
section
end
end Go.Abs.Q
namespace Go.Abs.Q
open Go Go.Abs
section
end
end Go.Abs.Q
namespace Go.Abs.Q
open Go Go.Abs
def ref1_In_L0 (rec:((List Int)×Int×Int)→Option (Unit⊕Bool)) (x:((List Int)×Int×Int)):Option (Unit⊕Bool) :=
 cond (decide (x.2.2<((List.length x.1:Nat):Int)))
 ((gx x.1 x.2.2).bind fun e2 =>
  cond (e2==(IntKind.wrap .i64 ((-1) - x.2.1)))
  (some (Sum.inr true))
  (rec (x.1,x.2.1,(IntKind.wrap .i64 (x.2.2+1)))))
 (some (Sum.inl ()))
def ref1_In (a0:(List Int)) (a1:Int):Option Bool :=
 ((lp ref1_In_L0 fuel) (a0,a1,0)).bind fun r6 =>
 caseS r6
 (fun z7=>some false)
 (fun z8=>some z8)
def ref9_Model_look_L0 (rec:((List Int)×Int×Int×Int×(List Int))→Option Int) (x:((List Int)×Int×Int×Int×(List Int))):Option Int :=
 cond (decide (x.2.2.1<((List.length x.1:Nat):Int)))
 ((gx x.1 x.2.2.1).bind fun e2 =>
  rec (x.1,(IntKind.wrap .u64 ((IntKind.wrap .u64 ((IntKind.wrap .u64 (x.2.1*5))+(IntKind.wrap .u64 e2)))+3)),(IntKind.wrap .i64 (x.2.2.1+1)),x.2.2.2.1,x.2.2.2.2))
 (some x.2.1)
def ref9_Model_look (a0:Int) (a1:(List Int)) (a2:Int) (a3:(List Int)):Option Int :=
 cond (((List.length a1:Nat):Int)==0)
 (some 0)
 (((lp ref9_Model_look_L0 fuel) (a3,(IntKind.wrap .u64 (IntKind.wrap .i64 ((IntKind.wrap .i64 (a2*7))+1))),0,a0,a1)).bind fun r6 =>
  cond (decide ((IntKind.wrap .u64 ((List.length a1:Nat):Int))=0))
  (none)
  ((gx a1 (IntKind.wrap .i64 (Int.tmod r6 (IntKind.wrap .u64 ((List.length a1:Nat):Int))))).bind fun e7 =>
   (bitI .and .i64 e7 255).bind fun b8 =>
   some b8))
end Go.Abs.Q
namespace Go.Abs.Q
open Go Go.Abs
def ref1_In_L0_go (s1:Int):List Int→Option (Unit⊕Bool)
 | []=>some (Sum.inl ())
 | e::es =>
  cond (e==(IntKind.wrap .i64 ((-1) - s1)))
  (some (Sum.inr true))
  (ref1_In_L0_go s1 es)
theorem ref1_In_L0_go_eq (s0:(List Int)) (s1:Int) (hl:List.length s0≤maxLen):∀(es:List Int) (i:Nat) (k:Nat),s0.drop i=es→es.length<k→lp ref1_In_L0 k (s0,s1,(i:Int))=ref1_In_L0_go s1 es:=by
 intro es
 induction es with
 | nil =>
  intro i k h hk
  obtain⟨k,rfl⟩:∃ k',k=k'+1:=⟨k - 1,by omega⟩
  rw[lp_succ]
  generalize lp ref1_In_L0 k=rec
  unfold ref1_In_L0 ref1_In_L0_go
  simp only[lt_false (drop_nil_le h),cond_false]
 | cons e es ih =>
  intro i k h hk
  obtain⟨k,rfl⟩:∃ k',k=k'+1:=⟨k - 1,by omega⟩
  rw[lp_succ]
  have hi:=drop_cons_lt h
  have hk2:es.length<k:=Nat.lt_of_succ_lt_succ hk
  have key:=fun (_:Unit)=>ih (i+1) k (drop_cons_next h) hk2
  generalize lp ref1_In_L0 k=rec at key ⊢
  unfold ref1_In_L0 ref1_In_L0_go
  simp only[lt_true hi,cond_true,gx_nat,drop_cons_get h,Option.bind_some,wrap_i1 hi hl,key ()]
theorem ref1_In_L0_go_at0 (s0:(List Int)) (s1:Int) (hl:List.length s0≤maxLen):lp ref1_In_L0 fuel (s0,s1,0)=ref1_In_L0_go s1 s0 :=
 ref1_In_L0_go_eq s0 s1 hl s0 0 fuel rfl (Nat.lt_of_le_of_lt hl (by decide))
end Go.Abs.Q
namespace Go.Abs.Q
open Go Go.Abs
section
def NumsOk (nums:List Int):Prop:=nums≠[]∧nums.length≤9223372036854775807
def lookF (m:Int) (nums:List Int) (c:Int) (xs:List Int):Int:=(ref9_Model_look m nums c xs).getD 0
section
variable (m:Int) (nums:List Int)
mutual
def valT (env:Nat→Int):Tm→Int
 | .v n=>env n
 | .f c ts=>Int.tmod (lookF m nums (c:Int) (valR env ts)) m
def valR (env:Nat→Int):List Tm→List Int
 | []=>[]
 | t::ts=>valT env t::valR env ts
end
mutual
theorem valT_sub (env:Nat→Int) (s:Sb):(t:Tm)→valT m nums env (t.sub s)=valT m nums (fun n=>valT m nums env (s n)) t
 | .v n=>rfl
 | .f c ts=>by
  show Int.tmod (lookF m nums (c:Int) (valR m nums env (subR s ts))) m=_
  rw[valR_sub env s ts]
  rfl
theorem valR_sub (env:Nat→Int) (s:Sb):(ts:List Tm)→valR m nums env (subR s ts)=valR m nums (fun n=>valT m nums env (s n)) ts
 | []=>rfl
 | t::ts=>by
  show valT m nums env (t.sub s)::valR m nums env (subR s ts)=_
  rw[valT_sub env s t,valR_sub env s ts]
  rfl
end
mutual
theorem valT_ext {e e':Nat→Int}:(t:Tm)→(∀ x,t.has x→e x=e' x)→valT m nums e t=valT m nums e' t
 | .v n,h=>h n rfl
 | .f c ts,h=>by
  show Int.tmod (lookF m nums (c:Int) (valR m nums e ts)) m=Int.tmod (lookF m nums (c:Int) (valR m nums e' ts)) m
  rw[valR_ext ts h]
theorem valR_ext {e e':Nat→Int}:(ts:List Tm)→(∀ x,hasR x ts→e x=e' x)→valR m nums e ts=valR m nums e' ts
 | [],_=>rfl
 | t::ts,h=>by
  show valT m nums e t::valR m nums e ts=valT m nums e' t::valR m nums e' ts
  rw[valT_ext t fun x hx=>h x (.inl hx),valR_ext ts fun x hx=>h x (.inr hx)]
end
end
structure EnvOk (m:Int) (E:List Int):Prop where
 len:E.length=24
 rng:∀ x∈E,0≤x∧x<m
def envF (E:List Int) (n:Nat):Int:=E.getD n 0
theorem EnvOk.get {m:Int} {E:List Int} (h:EnvOk m E) {n:Nat} (hn:n<24):E[n]? = some (envF E n):=by
 unfold envF
 rw[List.getD_eq_getElem?_getD,List.getElem?_eq_getElem (by rw[h.len]; exact hn)]
 rfl
theorem EnvOk.val {m:Int} {E:List Int} (h:EnvOk m E) {n:Nat} (hn:n<24):0≤envF E n∧envF E n<m:=h.rng _ (List.mem_of_getElem? (h.get hn))
end
end Go.Abs.Q
namespace Go.Abs.Q
open Go Go.Abs
section
section
variable {m:Int} (hm:0<m) {nums:List Int} (hn:NumsOk nums) {a0:List QSym} (hs:SignOk a0) {E:List Int} (hE:EnvOk m E)
include hm hn hs hE
end
theorem EnvOk.set {m:Int} {E:List Int} (h:EnvOk m E) {v:Nat} {x:Int} (hx:0≤x∧x<m):EnvOk m (E.set v x) where
 len:=by rw[List.length_set]; exact h.len
 rng:=fun y hy=>by
  rcases List.mem_or_eq_of_mem_set hy with hy | hy
  ·exact h.rng y hy
  ·rw[hy]; exact hx
end
end Go.Abs.Q
namespace Go.Abs.Q
open Go Go.Abs
section
theorem In_go (v:Nat) (hv:v<24):(es:List Int)→ref1_In_L0_go (v:Int) es=some (cond (decide (-1 - (v:Int)∈es)) (.inr true) (.inl ()))
 | []=>rfl
 | e::es=>by
  unfold ref1_In_L0_go
  have w:IntKind.wrap .i64 ((-1) - (v:Int)) = -1 - (v:Int):=by rw[wrap64]<;>omega
  rw[w,In_go v hv es]
  by_cases he:e = -1 - (v:Int)
  ·rw[show (e == -1 - (v:Int))=true from by simp [he],decide_eq_true (show -1 - (v:Int)∈e::es by rw[he]; exact List.mem_cons_self ..)]
   rfl
  ·rw[show (e == -1 - (v:Int))=false from by simp [he],cond_false]
   by_cases hm:(-1 - (v:Int))∈es
   ·rw[decide_eq_true hm,decide_eq_true (List.mem_cons_of_mem _ hm)]
   ·rw[decide_eq_false hm,decide_eq_false fun h=>(List.mem_cons.1 h).elim (fun h=>he h.symm) hm]
end
end Go.Abs.Q
namespace Go.Abs.Q
open Go Go.Abs
section
abbrev RenS:=List Int×Int
def rho (s:RenS) (v:Nat):Nat:=(s.1.getD v 0).toNat - 1
structure RenI (s:RenS):Prop where
 len:s.1.length=24
 rng:∀ v,0≤s.1.getD v 0∧s.1.getD v 0≤s.2
 inj:∀ v w,s.1.getD v 0=s.1.getD w 0→s.1.getD v 0≠0→v=w
 cnt:((s.1.countP (fun x=>x != 0):Nat):Int)=s.2
def ExtS (s s':RenS):Prop:=∀ v,s.1.getD v 0≠0→s'.1.getD v 0=s.1.getD v 0
theorem ExtS.refl (s:RenS):ExtS s s:=fun _ _=>rfl
theorem ExtS.trans {s t u:RenS} (h:ExtS s t) (h':ExtS t u):ExtS s u:=fun v hv=>(h' v (by rw[h v hv]; exact hv)).trans (h v hv)
theorem RenI.next {s:RenS} (h:RenI s):0≤s.2∧s.2≤24:=by
 have h1:=h.cnt
 have h2:s.1.countP (fun x=>x != 0)≤s.1.length:=List.countP_le_length
 rw[h.len] at h2
 omega
theorem ren0:RenI (List.replicate 24 (0:Int),0) where
 len:=by simp
 rng:=fun v=>by
  rw[List.getD_eq_getElem?_getD,List.getElem?_replicate]
  split<;>simp
 inj:=fun v w _ h=>by
  exfalso
  apply h
  rw[List.getD_eq_getElem?_getD,List.getElem?_replicate]
  split<;>rfl
 cnt:=by decide
theorem countP_set {xs:List Int} {v:Nat} {y:Int} (hv:xs[v]? = some 0) (hy:y≠0):(xs.set v y).countP (fun x=>x != 0)=xs.countP (fun x=>x != 0)+1:=by
 obtain⟨hx,he⟩:=List.getElem?_eq_some_iff.1 hv
 have h1:=List.take_append_drop v xs
 have h2:xs.drop v=0::xs.drop (v+1):=by rw[List.drop_eq_getElem_cons hx,he]
 have h3:xs.set v y=xs.take v++y::xs.drop (v+1):=by rw[List.set_eq_take_append_cons_drop,if_pos hx]
 conv=>rhs; rw[← h1,h2]
 rw[h3]
 simp [List.countP_append,List.countP_cons,hy]
 omega
theorem getD_set {xs:List Int} {v w:Nat} {y:Int} (hv:v<xs.length):(xs.set v y).getD w 0=if w=v then y else xs.getD w 0:=by
 rw[List.getD_eq_getElem?_getD,List.getD_eq_getElem?_getD]
 by_cases h:w=v
 ·subst h; rw[List.getElem?_set_self hv,if_pos rfl]; rfl
 ·rw[List.getElem?_set_ne (Ne.symm h),if_neg h]
theorem ren1_spec {s:RenS} (h:RenI s) {c:Int} (hc : -24≤c):RenI (ren1 s c).2∧ExtS s (ren1 s c).2∧(c<0→(ren1 s c).2.1.getD (-1 - c).toNat 0≠0)∧∀ f,ExtS (ren1 s c).2 f→[(ren1 s c).1]=expC (fun v=>.v (rho f v)) c:=by
 unfold ren1
 by_cases h0:c≥0
 ·rw[decide_eq_true h0,cond_true]
  refine ⟨h,ExtS.refl s,fun h1=>by omega,fun f _ => ?_⟩
  unfold expC
  rw[if_neg (by omega)]
 ·rw[decide_eq_false h0,cond_false]
  have hv:(-1 - c).toNat<s.1.length:=by rw[h.len]; omega
  have hexp:∀ f:RenS,expC (fun v=>.v (rho f v)) c=[-1 - ((rho f (-1 - c).toNat:Nat):Int)]:=fun f=>by
   unfold expC
   rw[if_pos (by omega)]
   rfl
  by_cases hz:s.1.getD (-1 - c).toNat 0=0
  ·rw[show (s.1.getD (-1 - c).toNat 0==0)=true from by rw[hz]; rfl,cond_true]
   have hn:=h.next
   have hget:s.1[(-1 - c).toNat]? = some 0:=by
    rw[List.getD_eq_getElem?_getD,List.getElem?_eq_getElem hv] at hz
    rw[List.getElem?_eq_getElem hv]
    exact congrArg some hz
   refine ⟨⟨by simpa using h.len,fun v => ?_,fun v w he hnz => ?_,?_⟩,fun v hvz => ?_,fun _ => ?_,fun f hf => ?_⟩
   ·show 0≤(s.1.set _ _).getD v 0∧(s.1.set _ _).getD v 0≤s.2+1
    rw[getD_set hv]
    have:=h.rng v
    split<;>omega
   ·have he:(s.1.set (-1 - c).toNat (s.2+1)).getD v 0=(s.1.set (-1 - c).toNat (s.2+1)).getD w 0:=he
    have hnz:(s.1.set (-1 - c).toNat (s.2+1)).getD v 0≠0:=hnz
    rw[getD_set hv] at he hnz
    rw[getD_set hv] at he
    have h1:=h.rng v
    have h2:=h.rng w
    by_cases e1:v=(-1 - c).toNat
    ·rw[if_pos e1] at he hnz
     by_cases e2:w=(-1 - c).toNat
     ·rw[e1,e2]
     ·rw[if_neg e2] at he; omega
    ·rw[if_neg e1] at he hnz
     by_cases e2:w=(-1 - c).toNat
     ·rw[if_pos e2] at he; omega
     ·rw[if_neg e2] at he
      exact h.inj v w he hnz
   ·show (((s.1.set (-1 - c).toNat (s.2+1)).countP (fun x=>x != 0):Nat):Int)=s.2+1
    rw[countP_set hget (by omega),← h.cnt]
    omega
   ·show (s.1.set _ _).getD v 0=_
    rw[getD_set hv]
    split
    ·rename_i e; rw[e,hz] at hvz; exact absurd rfl hvz
    ·rfl
   ·show (s.1.set _ _).getD _ 0≠0
    rw[getD_set hv,if_pos rfl]
    omega
   ·rw[hexp]
    have hf2:=hf (-1 - c).toNat (by
     show (s.1.set _ _).getD _ 0≠0
     rw[getD_set hv,if_pos rfl]
     omega)
    have hf2:f.1.getD (-1 - c).toNat 0=(s.1.set (-1 - c).toNat (s.2+1)).getD (-1 - c).toNat 0:=hf2
    rw[getD_set hv,if_pos rfl] at hf2
    unfold rho
    rw[hf2]
    show [-(s.2+1)]=_
    congr 1
    omega
  ·rw[show (s.1.getD (-1 - c).toNat 0==0)=false from by simpa using hz,cond_false]
   refine ⟨h,ExtS.refl s,fun _=>hz,fun f hf => ?_⟩
   rw[hexp]
   have hf2:f.1.getD (-1 - c).toNat 0=s.1.getD (-1 - c).toNat 0:=hf _ hz
   have:=h.rng (-1 - c).toNat
   unfold rho
   rw[hf2]
   show [-(s.1.getD (-1 - c).toNat 0)]=_
   congr 1
   omega
theorem renR_spec:(r:List Int)→{s:RenS}→RenI s→(∀ c∈r,-24≤c)→RenI (renR s r).2∧ExtS s (renR s r).2∧(∀ x,VarC r x→(renR s r).2.1.getD x.toNat 0≠0)∧∀ f,ExtS (renR s r).2 f→(renR s r).1=subCs (fun v=>.v (rho f v)) r
 | [],s,h,_=>⟨h,ExtS.refl s,fun x ⟨c,hc,_⟩=>(nomatch hc),fun _ _=>rfl⟩
 | c::r,s,h,hc=>by
  obtain⟨h1,h2,h3,h4⟩:=ren1_spec h (hc c (List.mem_cons_self ..))
  obtain⟨g1,g2,g3,g4⟩:=renR_spec r h1 fun d hd=>hc d (List.mem_cons_of_mem _ hd)
  refine ⟨g1,h2.trans g2,fun x ⟨d,hd,hd0,hx⟩ => ?_,fun f hf => ?_⟩
  ·rcases List.mem_cons.1 hd with rfl | hd
   ·subst hx
    show (renR (ren1 s d).2 r).2.1.getD (-1 - d).toNat 0≠0
    rw[g2 _ (h3 hd0)]
    exact h3 hd0
   ·exact g3 x ⟨d,hd,hd0,hx⟩
  ·have hf:ExtS (renR (ren1 s c).2 r).2 f:=hf
   show (ren1 s c).1::(renR (ren1 s c).2 r).1=_
   unfold subCs
   rw[List.flatMap_cons,← h4 f (g2.trans hf),g4 f hf]
   rfl
theorem renLs_spec:(ls:List QLit)→{s:RenS}→RenI s→(∀ l∈ls,∀ c∈l.2,-24≤c)→RenI (renLs s ls).2∧ExtS s (renLs s ls).2∧(∀ x,VarR (ls.map (·.2)) x→(renLs s ls).2.1.getD x.toNat 0≠0)∧∀ f,ExtS (renLs s ls).2 f→(renLs s ls).1=subLs (fun v=>.v (rho f v)) ls
 | [],s,h,_=>⟨h,ExtS.refl s,fun x ⟨c,hc,_⟩=>(nomatch hc),fun _ _=>rfl⟩
 | l::ls,s,h,hc=>by
  obtain⟨h1,h2,h3,h4⟩:=renR_spec l.2 h (hc l (List.mem_cons_self ..))
  obtain⟨g1,g2,g3,g4⟩:=renLs_spec ls h1 fun d hd=>hc d (List.mem_cons_of_mem _ hd)
  refine ⟨g1,h2.trans g2,fun x hx => ?_,fun f hf => ?_⟩
  ·rw[List.map_cons,VarR_cons] at hx
   rcases hx with hx | hx
   ·show (renLs (renR s l.2).2 ls).2.1.getD x.toNat 0≠0
    rw[g2 _ (h3 x hx)]
    exact h3 x hx
   ·exact g3 x hx
  ·have hf:ExtS (renLs (renR s l.2).2 ls).2 f:=hf
   show (l.1,(renR s l.2).1)::(renLs (renR s l.2).2 ls).1=_
   rw[h4 f (g2.trans hf),g4 f hf]
   rfl
theorem renRs_spec:(ls:List (List Int))→{s:RenS}→RenI s→(∀ l∈ls,∀ c∈l,-24≤c)→RenI (renRs s ls).2∧ExtS s (renRs s ls).2∧(∀ x,VarR ls x→(renRs s ls).2.1.getD x.toNat 0≠0)∧∀ f,ExtS (renRs s ls).2 f→(renRs s ls).1=ls.map (subCs (fun v=>.v (rho f v)))
 | [],s,h,_=>⟨h,ExtS.refl s,fun x ⟨c,hc,_⟩=>(nomatch hc),fun _ _=>rfl⟩
 | l::ls,s,h,hc=>by
  obtain⟨h1,h2,h3,h4⟩:=renR_spec l h (hc l (List.mem_cons_self ..))
  obtain⟨g1,g2,g3,g4⟩:=renRs_spec ls h1 fun d hd=>hc d (List.mem_cons_of_mem _ hd)
  refine ⟨g1,h2.trans g2,fun x hx => ?_,fun f hf => ?_⟩
  ·rw[VarR_cons] at hx
   rcases hx with hx | hx
   ·show (renRs (renR s l).2 ls).2.1.getD x.toNat 0≠0
    rw[g2 _ (h3 x hx)]
    exact h3 x hx
   ·exact g3 x hx
  ·have hf:ExtS (renRs (renR s l).2 ls).2 f:=hf
   show (renR s l).1::(renRs (renR s l).2 ls).1=_
   rw[h4 f (g2.trans hf),g4 f hf]
   rfl
end
end Go.Abs.Q
namespace Go.Abs.Q
open Go Go.Abs
section
theorem once_sum {α:Type} [DecidableEq α] (f:α→Nat):(es out:List α)→((onceL es out).map f).sum≤(out.map f).sum+(es.map f).sum
 | [],out=>by simp [onceL]
 | e::es,out=>by
  unfold onceL
  by_cases h:e∈out
  ·rw[decide_eq_true h,cond_true]
   have:=once_sum f es out
   simp only[List.map_cons,List.sum_cons]
   omega
  ·rw[decide_eq_false h,cond_false]
   have:=once_sum f es (out++[e])
   simp only[List.map_cons,List.sum_cons,List.map_append,List.sum_append,List.map_nil,List.sum_nil] at this ⊢
   omega
end
end Go.Abs.Q
namespace Go.Abs.Q
open Go Go.Abs
section
mutual
theorem Tm.sub_id:(t:Tm)→t.sub (fun n=>Tm.v n)=t
 | .v n=>rfl
 | .f c as=>by rw[Tm.sub,subR_id as]
theorem subR_id:(ts:List Tm)→subR (fun n=>Tm.v n) ts=ts
 | []=>rfl
 | t::ts=>by rw[subR,Tm.sub_id t,subR_id ts]
end
section
variable {m:Nat} (hm:0<m) (hm3:m≤3) {nums:List Int} (hn:NumsOk nums) {a0:List QSym} (hs:SignOk a0)
include hm hm3 hn hs
end
end
end Go.Abs.Q
namespace Go.Abs.Q
open Go Go.Abs
section
section
variable {m:Nat} (hm:0<m) (hm3:m≤3) {nums:List Int} (hn:NumsOk nums) {a0:List QSym} (hs:SignOk a0)
include hm hm3 hn hs
end
end
end Go.Abs.Q
namespace Go.Abs.Q
open Go Go.Abs
section
theorem index_go (x:Int):(es:List Int)→(i:Nat)→(x∈es→∃ j:Nat,slices_Index_L0_go x es i=some (.inr (j:Int)))∧(x∉es→slices_Index_L0_go x es i=some (.inl ()))
 | [],i=>⟨fun h=>(nomatch h),fun _=>rfl⟩
 | e::es,i=>by
  obtain⟨h1,h2⟩:=index_go x es (i+1)
  unfold slices_Index_L0_go
  by_cases he:x=e
  ·rw[show (x==e)=true from by simp [he],cond_true]
   exact ⟨fun _=>⟨i,rfl⟩,fun h=>absurd (by rw[he]; exact List.mem_cons_self ..) h⟩
  ·rw[show (x==e)=false from by simp [he],cond_false]
   refine ⟨fun h=>h1 ?_,fun h=>h2 fun h'=>h (List.mem_cons_of_mem _ h')⟩
   rcases List.mem_cons.1 h with h | h
   ·exact absurd h he
   ·exact h
theorem contains_eq {xs:List Int} (x:Int) (hl:xs.length≤maxLen):slices_Contains xs x=some (decide (x∈xs)):=by
 unfold slices_Contains slices_Index
 rw[slices_Index_L0_go_at0 _ _ hl]
 obtain⟨h1,h2⟩:=index_go x xs 0
 by_cases h:x∈xs
 ·obtain⟨j,hj⟩:=h1 h
  rw[hj,decide_eq_true h]
  show some (decide ((j:Int)≥0))=_
  rw[decide_eq_true (by omega)]
 ·rw[h2 h,decide_eq_false h]
  rfl
theorem slc_take {α:Type} (xs:List α) {i:Nat} (h:i≤xs.length):slc2 xs none (some (i:Int))=some (xs.take i):=by
 show slc xs 0 (i:Int)=some _
 unfold slc
 rw[decide_eq_true (show (0:Int)≤0 by omega),decide_eq_true (show (0:Int)≤(i:Int) by omega),decide_eq_true (show (i:Int)≤((xs.length:Nat):Int) by omega)]
 simp
def oppL (l:QLit):QLit:=(!l.1,l.2)
theorem goal_L0:(es out:List QLit)→(∀ l∈es,l.2.length≤1048576)→out.length+es.length≤1000000→ask_Goal_L0_go es out=some (out++es.map oppL)
 | [],out,_,_=>by simp [ask_Goal_L0_go]
 | e::es,out,h,hl=>by
  have he:=h e (List.mem_cons_self ..)
  simp only[List.length_cons] at hl
  unfold ask_Goal_L0_go lit_Opposite
  rw[slices_CloneN_eq (by omega),Option.bind_some,Option.bind_some,room_ok (by simp; omega),cond_true,goal_L0 es _ (fun l hl=>h l (List.mem_cons_of_mem _ hl)) (by simp; omega)]
  simp [oppL]
theorem goal_L1:(es:List Int)→(i:Nat)→(ds:List Int)→(∀ e∈es,0≤e∧e≤23)→ds.length=i→ask_Goal_L1_go es i (ds++List.replicate es.length 0)=some (ds++es.map fun e => -1 - e)
 | [],i,ds,_,_=>by simp [ask_Goal_L1_go]
 | e::es,i,ds,h,hd=>by
  have he:=h e (List.mem_cons_self ..)
  unfold ask_Goal_L1_go
  have e1:inR (i:Int) (ds++List.replicate (e::es).length 0).length=some i:=inR_nat (by simp; omega)
  have e2:(ds++List.replicate (e::es).length (0:Int))[i]? = some 0:=by
   rw[List.getElem?_append_right (by omega),hd]
   simp
  rw[term_Number_eq (by omega) (by omega),Option.bind_some,e1,Option.bind_some,e2,Option.bind_some]
  have e3:(ds++List.replicate (e::es).length (0:Int)).set i (-1 - e)=(ds++[-1 - e])++List.replicate es.length 0:=by
   simp [List.set_append,hd,List.replicate_succ]
  rw[e3,goal_L1 es (i+1) _ (fun x hx=>h x (List.mem_cons_of_mem _ hx)) (by simp; omega)]
  simp
abbrev GoalT:=List QLit×List (List Int)×Int×List QLit
end
end Go.Abs.Q
namespace Go.Abs.Q
open Go Go.Abs
section
section
variable {m:Nat} (hm:0<m) (hm3:m≤3) {nums:List Int} (hn:NumsOk nums) {a0:List QSym} (hs:SignOk a0)
include hm hm3 hn hs
end
end
end Go.Abs.Q
namespace Go.Abs.Q
open Go Go.Abs
section
end
end Go.Abs.Q
