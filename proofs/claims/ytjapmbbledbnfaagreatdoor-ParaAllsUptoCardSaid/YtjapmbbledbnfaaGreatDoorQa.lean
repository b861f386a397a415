import Derived.Test.YtjapmbbledbnfaaGreatDoorFc
/-
  What the functions make of plain values, and what the law says of that.
-/
open Bool renaming and_eq_true -> aw, and_false -> co, and_true -> dU, false_and -> bn, not_false -> bJ, not_true -> aA, or_false -> en, true_and -> aY
open Go.IntKind renaming bits -> dh, signed -> eB, wrap -> ah
open Int renaming fdiv -> gB, le_refl -> d5, toNat -> bP, toNat_natCast -> bq
open List renaming all_cons -> cd, all_eq_true -> aF, drop_drop -> cm, drop_eq_getElem_cons -> aX, drop_eq_nil_iff -> cK, drop_length -> eQ, drop_take -> ez, drop_zero -> bV, flatten_cons -> eJ, getD_eq_getElem?_getD -> aD, getElem?_cons_zero -> aC, getElem?_eq_getElem -> al, getElem?_eq_none -> aP, getElem?_eq_some_iff -> aq, length -> aa, length_append -> ax, length_cons -> aj, length_drop -> bH, length_eq_zero_iff -> cM, length_nil -> bb, length_pos_iff -> eu, length_singleton -> aZ, map -> cD, map_cons -> aJ, mem_cons -> aB, mem_cons_of_mem -> ai, mem_cons_self -> ak, mem_flatten -> eV, nil_append -> bx, replicate -> az, set -> cP, sum_cons -> cE, take_length -> ek, take_succ_cons -> ew
open Nat renaming add_assoc -> bI, add_comm -> cN, beq -> ay, le_refl -> aE, lt_of_le_of_lt -> bW, lt_of_succ_lt_succ -> cg, min_eq_left -> dA, strongRecOn -> cQ, sub_self -> d9, zero_add -> aN, zero_le -> b6
open Option renaming bind_some -> af, getD -> bX, getD_some -> bp, isNone -> cB, isNone_some -> cH, map_eq_some_iff -> bg, map_some -> bD
open Option.some renaming injEq -> au
open Prod.mk renaming injEq -> aI
open Sum renaming inl -> aU, inr -> aG
open UInt8 renaming toNat -> bG
namespace Go.Abs.Q
open Go Go.Abs
abbrev zj:=Str×Int×Int×Int
abbrev Dz:Tys:=.cons .str (.cons (.int .i64) (.cons (.int .i64) (.one (.int .i64))))
abbrev zd:=Bool×List Int
abbrev sR:Tys:=.cons .bool (.one (.sl (.one (.int .i64))))
abbrev jR:=List (List Int)
abbrev jI:=List Int
abbrev jQ:=List zd
abbrev jS:=List zj
abbrev jT:=List (Int×Int×Int×Int×Int×Int×Int×jQ×jR×jQ)
abbrev jU:=Int×Int×Int×Int×Int×Int×Int×jQ×jR×jQ
def rC (a0:Int):Option Bool :=
 cond (decide (a0≥97))
 (some (decide (a0<=122)))
 (some false)
def vl (rec:(Str×Int×Int)->Option (Unit⊕Bool)) (x:(Str×Int×Int)):Option (Unit⊕Bool) :=
 cond (decide (x.2.2<x.2.1))
 ((gx x.1 x.2.2).bind fun c7 =>
  (rC ((bG c7:Nat):Int)).bind fun r8 =>
  cond (!r8)
  ((gx x.1 x.2.2).bind fun c9 =>
   cond (decide (((bG c9:Nat):Int)<48))
   (some (aG false))
   ((gx x.1 x.2.2).bind fun c10 =>
    cond (decide (((bG c10:Nat):Int)>57))
    (some (aG false))
    (rec (x.1,x.2.1,(ah .i64 (x.2.2+1))))))
  (rec (x.1,x.2.1,(ah .i64 (x.2.2+1)))))
 (some (aU ()))
def ju (a0:Str):Option Bool :=
 cond (a0==([]:Str))
 (some false)
 (cond (decide (((aa a0:Nat):Int)>8))
  (some false)
  ((gx a0 0).bind fun c14 =>
   (rC ((bG c14:Nat):Int)).bind fun r15 =>
   cond (!r15)
   (some false)
   (((lp vl ze) (a0,((aa a0:Nat):Int),0)).bind fun r16 =>
    yA r16
    (fun _z17=>some true)
    (fun z18=>some z18))))
def ke (a0:Str) (a1:Int) (a2:Int) (a3:Int):Option Bool :=
 (ju a0).bind fun r2 =>
 cond r2
 (cond (decide (a1≥0))
  (cond (decide (a1<=2))
   (cond (decide (a2≥0))
    (cond (decide (a2<=3))
     (cond (decide (a3≥1))
      (some (decide (a3<=20)))
      (some false))
     (some false))
    (some false))
   (some false))
  (some false))
 (some false)
def uK (rec:(jS×Str×Int×Int)->Option (Unit⊕Int)) (x:(jS×Str×Int×Int)):Option (Unit⊕Int) :=
 cond (decide (x.2.2.2<x.2.2.1))
 ((gx x.1 x.2.2.2).bind fun e2 =>
  cond (e2.1==x.2.1)
  (some (aG x.2.2.2))
  (rec (x.1,x.2.1,x.2.2.1,(ah .i64 (x.2.2.2+1)))))
 (some (aU ()))
def ZT (a0:jS) (a1:Str):Option Int :=
 ((lp uK ze) (a0,a1,((aa a0:Nat):Int),0)).bind fun r6 =>
 yA r6
 (fun _z7=>some (-1))
 (fun z8=>some z8)
def uq (rec:(jS×Int)->Option (Unit⊕Bool)) (x:(jS×Int)):Option (Unit⊕Bool) :=
 cond (decide (x.2<((aa x.1:Nat):Int)))
 ((gx x.1 x.2).bind fun e6 =>
  (ke e6.1 e6.2.1 e6.2.2.1 e6.2.2.2).bind fun r7 =>
  cond (!r7)
  (some (aG false))
  ((gx x.1 x.2).bind fun e8 =>
   (ZT x.1 e8.1).bind fun r9 =>
   cond (r9 != x.2)
   (some (aG false))
   (rec (x.1,(ah .i64 (x.2+1))))))
 (some (aU ()))
def YD (a0:jS):Option Bool :=
 cond (decide (((aa a0:Nat):Int)<1))
 (some false)
 (cond (decide (((aa a0:Nat):Int)>20))
  (some false)
  ((gx a0 0).bind fun e13 =>
   cond (!(cond (eqS e13.1 [61]) (cond (eqI e13.2.1 0) (cond (eqI e13.2.2.1 2) (cond (eqI e13.2.2.2 1) true false) false) false) false))
   (some false)
   (((lp uq ze) (a0,1)).bind fun r14 =>
    yA r14
    (fun _z15=>some true)
    (fun z16=>some z16))))
def Yp (a0:(Option jI)):Option jI :=
 cond (cB a0)
 (some ([]:jI))
 (cond (yM (aa ([]:List Int)+aa (bX a0 [])) 8)
  (some (([]:List Int)++(bX a0 [])))
  (none))
def KX:Option jI :=
 some ([]:jI)
def vN (a0:jI):Option jI:=Yp (some a0)
def yd (a0:Int):Option Int :=
 some (ah .i64 ((-1) - a0))
def Yd (a0:jS) (a1:Int):Option (Int×Bool) :=
 cond (decide (a1<0))
 ((yd 23).bind fun r4 =>
  some (0,(decide (a1≥r4))))
 (cond (decide (a1≥((aa a0:Nat):Int)))
  (some (0,false))
  ((gx a0 a1).bind fun e5 =>
   cond (e5.2.1==0)
   (some (0,false))
   ((gx a0 a1).bind fun e6 =>
    some (e6.2.2.1,true))))
def vG (rec:(jS×jI×Int×Int)->Option (Int×Bool)) (x:(jS×jI×Int×Int)):Option (Int×Bool) :=
 cond (decide (x.2.2.1≥((aa x.2.1:Nat):Int)))
 (some (0,false))
 ((gx x.2.1 x.2.2.1).bind fun e5 =>
  (Yd x.1 e5).bind fun r6 =>
  cond (!r6.2)
  (some (0,false))
  (cond (decide ((ah .i64 (x.2.2.2+(ah .i64 (r6.1 - 1))))>0))
   (rec (x.1,x.2.1,(ah .i64 (x.2.2.1+1)),(ah .i64 (x.2.2.2+(ah .i64 (r6.1 - 1))))))
   (some ((ah .i64 (x.2.2.1+1)),true))))
def tv (a0:jS) (a1:jI) (a2:Int):Option (Int×Bool) :=
 cond (decide (a2≥((aa a1:Nat):Int)))
 (some (0,false))
 ((gx a1 a2).bind fun e8 =>
  (Yd a0 e8).bind fun r9 =>
  cond (!r9.2)
  (some (0,false))
  (cond (decide ((ah .i64 (1+(ah .i64 (r9.1 - 1))))>0))
   ((((lp vG ze) (a0,a1,(ah .i64 (a2+1)),(ah .i64 (1+(ah .i64 (r9.1 - 1))))))).bind fun r10 =>
    some (r10.1,r10.2))
   (some ((ah .i64 (a2+1)),true))))
def v6 (rec:(jS×jI×Int×jI)->Option zd) (x:(jS×jI×Int×jI)):Option zd :=
 cond (x.2.2.1==((aa x.2.1:Nat):Int))
 (some (true,x.2.2.2))
 ((tv x.1 x.2.1 x.2.2.1).bind fun r4 =>
  cond (!r4.2)
  (some (false,([]:jI)))
  (cond (yM (aa x.2.2.2+aa ([x.2.2.1]:List Int)) 8)
   (rec (x.1,x.2.1,r4.1,(x.2.2.2++([x.2.2.1]:List Int))))
   (none)))
def tZ (a0:jS) (a1:jI):Option zd :=
 (YD a0).bind fun r6 =>
 cond (!r6)
 (some (false,([]:jI)))
 (cond (decide (((aa a1:Nat):Int)>48))
  (some (false,([]:jI)))
  (cond (0==((aa a1:Nat):Int))
   (some (true,([]:jI)))
   ((tv a0 a1 0).bind fun r7 =>
    cond (!r7.2)
    (some (false,([]:jI)))
    (cond (yM (aa ([0]:List Int)) 8)
     ((((lp v6 ze) (a0,a1,r7.1,([0]:List Int)))).bind fun r8 =>
      some (r8.1,r8.2))
     (none)))))
def wV (a0:jS) (a1:jI):Option Bool :=
 cond (((aa a1:Nat):Int)==0)
 (some false)
 ((gx a1 0).bind fun e9 =>
  cond (decide (e9<0))
  (some false)
  ((gx a1 0).bind fun e10 =>
   cond (decide (e10≥((aa a0:Nat):Int)))
   (some false)
   ((gx a1 0).bind fun e11 =>
    (gx a0 e11).bind fun e12 =>
    cond (e12.2.1 != 0)
    (some false)
    ((vU a1 (some 1) none).bind fun y13 =>
     (tZ a0 y13).bind fun r14 =>
     cond r14.1
     ((gx a1 0).bind fun e15 =>
      (gx a0 e15).bind fun e16 =>
      some (((aa r14.2:Nat):Int)==e16.2.2.1))
     (some false)))))
def Zm (a0:jS) (_a1:Bool) (a2:jI):Option Bool :=
 (wV a0 a2).bind fun r2 =>
 some r2
def xl (rec:(jS×Int×jQ×Int×Int)->Option (Int⊕(Int×Bool))) (x:(jS×Int×jQ×Int×Int)):Option (Int⊕(Int×Bool)) :=
 cond (decide (x.2.2.2.2<x.2.2.2.1))
 ((gx x.2.2.1 x.2.2.2.2).bind fun e3 =>
  (Zm x.1 e3.1 e3.2).bind fun r4 =>
  cond (!r4)
  (some (aG (0,false)))
  (rec (x.1,(ah .i64 (x.2.1+((aa e3.2:Nat):Int))),x.2.2.1,x.2.2.2.1,(ah .i64 (x.2.2.2.2+1)))))
 (some (aU x.2.1))
def ub (a0:jS) (a1:jQ):Option (Int×Bool) :=
 ((lp xl ze) (a0,0,a1,((aa a1:Nat):Int),0)).bind fun r8 =>
 yA r8
 (fun z9=>some (z9,true))
 (fun z10=>some (z10.1,z10.2))
def j9 (a0:jS) (a1:jI):Option (Int×Int) :=
 (tZ a0 a1).bind fun r2 =>
 cond (!r2.1)
 (some (0,200))
 (some (((aa r2.2:Nat):Int),0))
def xn (rec:(jS×Int×Int×jR×Int×Int)->Option (Int⊕(Int×Bool))) (x:(jS×Int×Int×jR×Int×Int)):Option (Int⊕(Int×Bool)) :=
 cond (decide (x.2.2.2.2.2<x.2.2.2.2.1))
 ((gx x.2.2.2.1 x.2.2.2.2.2).bind fun e3 =>
  (j9 x.1 e3).bind fun r4 =>
  cond (x.2.2.2.2.2==0)
  (cond (r4.2 != 0)
   (some (aG (0,false)))
   (cond (r4.1 != r4.1)
    (some (aG (0,false)))
    (rec (x.1,(ah .i64 (x.2.1+((aa e3:Nat):Int))),r4.1,x.2.2.2.1,x.2.2.2.2.1,(ah .i64 (x.2.2.2.2.2+1))))))
  (cond (r4.2 != 0)
   (some (aG (0,false)))
   (cond (r4.1 != x.2.2.1)
    (some (aG (0,false)))
    (rec (x.1,(ah .i64 (x.2.1+((aa e3:Nat):Int))),x.2.2.1,x.2.2.2.1,x.2.2.2.2.1,(ah .i64 (x.2.2.2.2.2+1)))))))
 (some (aU x.2.1))
def su (a0:jS) (a1:jR):Option (Int×Bool) :=
 ((lp xn ze) (a0,0,0,a1,((aa a1:Nat):Int),0)).bind fun r8 =>
 yA r8
 (fun z9=>some (z9,true))
 (fun z10=>some (z10.1,z10.2))
def wG (a0:jS) (a1:jQ) (a2:jR) (a3:jQ):Option Bool :=
 (YD a0).bind fun r5 =>
 cond (!r5)
 (some false)
 (cond (decide (((aa a1:Nat):Int)>5))
  (some false)
  (cond (decide (((aa a2:Nat):Int)>3))
   (some false)
   (cond (decide (((aa a3:Nat):Int)>3))
    (some false)
    ((ub a0 a1).bind fun r6 =>
     (su a0 a2).bind fun r7 =>
     (ub a0 a3).bind fun r8 =>
     cond r6.2
     (cond r7.2
      (cond r8.2
       (some (decide ((ah .i64 ((ah .i64 (r6.1+r7.1))+r8.1))<=240)))
       (some false))
      (some false))
     (some false)))))
def wJ (rec:(jI×jI×Int×Int)->Option (Unit⊕Bool)) (x:(jI×jI×Int×Int)):Option (Unit⊕Bool) :=
 cond (decide (x.2.2.2<x.2.2.1))
 ((gx x.1 x.2.2.2).bind fun e3 =>
  (gx x.2.1 x.2.2.2).bind fun e4 =>
  cond (e3 != e4)
  (some (aG false))
  (rec (x.1,x.2.1,x.2.2.1,(ah .i64 (x.2.2.2+1)))))
 (some (aU ()))
def yk (a0:jI) (a1:jI):Option Bool :=
 cond (((aa a0:Nat):Int) != ((aa a1:Nat):Int))
 (some false)
 (((lp wJ ze) (a0,a1,((aa a0:Nat):Int),0)).bind fun r8 =>
  yA r8
  (fun _z9=>some true)
  (fun z10=>some z10))
def WX (a0:Bool) (a1:jI) (a2:Bool) (a3:jI):Option Bool :=
 cond (a0==a2)
 ((yk a1 a3).bind fun r2 =>
  some r2)
 (some false)
def so (a0:Bool) (a1:jI) (a2:Bool) (a3:jI):Option Bool :=
 (WX a2 a3 a0 a1).bind fun r2 =>
 some r2
def qA (rec:(jQ×Int×Int×Bool×jI)->Option (Unit⊕Int)) (x:(jQ×Int×Int×Bool×jI)):Option (Unit⊕Int) :=
 cond (decide (x.2.2.1<x.2.1))
 ((gx x.1 x.2.2.1).bind fun e3 =>
  (so e3.1 e3.2 x.2.2.2.1 x.2.2.2.2).bind fun r4 =>
  cond r4
  (some (aG x.2.2.1))
  (rec (x.1,x.2.1,(ah .i64 (x.2.2.1+1)),x.2.2.2.1,x.2.2.2.2)))
 (some (aU ()))
def ra (a0:jQ) (a1:Bool) (a2:jI):Option Int :=
 ((lp qA ze) (a0,((aa a0:Nat):Int),0,a1,a2)).bind fun r8 =>
 yA r8
 (fun _z9=>some (-1))
 (fun z10=>some z10)
def xq (a0:jQ) (a1:Bool) (a2:jI):Option Bool :=
 (ra a0 a1 a2).bind fun r2 =>
 some (decide (r2≥0))
def vu (rec:(jQ×Int×Int×jQ)->Option jQ) (x:(jQ×Int×Int×jQ)):Option jQ :=
 cond (decide (x.2.2.1<x.2.1))
 ((gx x.1 x.2.2.1).bind fun e5 =>
  (xq x.2.2.2 e5.1 e5.2).bind fun r6 =>
  cond (!r6)
  (cond (yM (aa x.2.2.2+aa ([(e5.1,e5.2)]:List zd)) 32)
   (rec (x.1,x.2.1,(ah .i64 (x.2.2.1+1)),(x.2.2.2++([(e5.1,e5.2)]:List zd))))
   (none))
  (rec (x.1,x.2.1,(ah .i64 (x.2.2.1+1)),x.2.2.2)))
 (some x.2.2.2)
def rQ (a0:jQ):Option jQ :=
 ((lp vu ze) (a0,((aa a0:Nat):Int),0,([]:jQ))).bind fun r8 =>
 some r8
def sq (a0:jI) (a1:jI):Option Bool :=
 (yk a1 a0).bind fun r2 =>
 some r2
def yW (rec:(jR×Int×Int×jI)->Option (Unit⊕Int)) (x:(jR×Int×Int×jI)):Option (Unit⊕Int) :=
 cond (decide (x.2.2.1<x.2.1))
 ((gx x.1 x.2.2.1).bind fun e3 =>
  (sq e3 x.2.2.2).bind fun r4 =>
  cond r4
  (some (aG x.2.2.1))
  (rec (x.1,x.2.1,(ah .i64 (x.2.2.1+1)),x.2.2.2)))
 (some (aU ()))
def tq (a0:jR) (a1:jI):Option Int :=
 ((lp yW ze) (a0,((aa a0:Nat):Int),0,a1)).bind fun r8 =>
 yA r8
 (fun _z9=>some (-1))
 (fun z10=>some z10)
def qM (a0:jR) (a1:jI):Option Bool :=
 (tq a0 a1).bind fun r2 =>
 some (decide (r2≥0))
def yQ (rec:(Int×Int×jI×Int×jI)->Option (jI×Int×jI)) (x:(Int×Int×jI×Int×jI)):Option (jI×Int×jI) :=
 cond (decide (x.2.1<x.1))
 ((inR x.2.1 (aa x.2.2.2.2)).bind fun k33 =>
  (x.2.2.2.2[k33]?).bind fun x34 =>
  cond (decide (x34≥0))
  (rec (x.1,(ah .i64 (x.2.1+1)),x.2.2.1,x.2.2.2.1,x.2.2.2.2))
  ((yd x34).bind fun r35 =>
   (inR r35 24).bind fun k36 =>
   (x.2.2.1[k36]?).bind fun x37 =>
   cond (x37==0)
   ((yd x34).bind fun r38 =>
    (inR r38 24).bind fun k39 =>
    (x.2.2.1[k39]?).bind fun _x40 =>
    (yd x34).bind fun r41 =>
    (inR r41 24).bind fun k42 =>
    ((cP x.2.2.1 k39 (ah .i64 (x.2.2.2.1+1)))[k42]?).bind fun x43 =>
    (inR x.2.1 (aa x.2.2.2.2)).bind fun k44 =>
    (x.2.2.2.2[k44]?).bind fun _x45 =>
    rec (x.1,(ah .i64 (x.2.1+1)),(cP x.2.2.1 k39 (ah .i64 (x.2.2.2.1+1))),(ah .i64 (x.2.2.2.1+1)),(cP x.2.2.2.2 k44 (zbB .i64 x43))))
   ((yd x34).bind fun r46 =>
    (inR r46 24).bind fun k47 =>
    (x.2.2.1[k47]?).bind fun x48 =>
    (inR x.2.1 (aa x.2.2.2.2)).bind fun k49 =>
    (x.2.2.2.2[k49]?).bind fun _x50 =>
    rec (x.1,(ah .i64 (x.2.1+1)),x.2.2.1,x.2.2.2.1,(cP x.2.2.2.2 k49 (zbB .i64 x48))))))
 (some (x.2.2.1,x.2.2.2.1,x.2.2.2.2))
def yP (a0:jI) (a1:jI) (a2:Int):Option (jI×jI×Int) :=
 (vN a0).bind fun r52 =>
 ((lp yQ ze) (((aa r52:Nat):Int),0,a1,a2,r52)).bind fun r53 =>
 cond (ay (aa a1) (aa r53.1)&&true)
 (some (r53.2.2,r53.1,r53.2.1))
 (none)
def xZ (rec:(jQ×Int×Int×jI×Int×jQ×jR×jQ)->Option (jI×Int×jQ×jR×jQ)) (x:(jQ×Int×Int×jI×Int×jQ×jR×jQ)):Option (jI×Int×jQ×jR×jQ) :=
 cond (decide (x.2.2.1<x.2.1))
 ((gx x.1 x.2.2.1).bind fun e19 =>
  (yP e19.2 x.2.2.2.1 x.2.2.2.2.1).bind fun r20 =>
  cond (yM (aa x.2.2.2.2.2.2.2+aa ([(e19.1,r20.1)]:List zd)) 32)
  (rec (x.1,x.2.1,(ah .i64 (x.2.2.1+1)),r20.2.1,r20.2.2,x.2.2.2.2.2.1,x.2.2.2.2.2.2.1,(x.2.2.2.2.2.2.2++([(e19.1,r20.1)]:List zd))))
  (none))
 (some (x.2.2.2.1,x.2.2.2.2.1,x.2.2.2.2.2.1,x.2.2.2.2.2.2.1,x.2.2.2.2.2.2.2))
def xV (rec:(jR×Int×Int×jI×Int×jQ×jR×jQ×jQ×jR)->Option (jI×Int×jQ×jR)) (x:(jR×Int×Int×jI×Int×jQ×jR×jQ×jQ×jR)):Option (jI×Int×jQ×jR) :=
 cond (decide (x.2.2.1<x.2.1))
 ((gx x.1 x.2.2.1).bind fun e12 =>
  (yP e12 x.2.2.2.1 x.2.2.2.2.1).bind fun r13 =>
  cond (yM (aa x.2.2.2.2.2.2.2.2.2+aa ([r13.1]:List jI)) 24)
  (rec (x.1,x.2.1,(ah .i64 (x.2.2.1+1)),r13.2.1,r13.2.2,x.2.2.2.2.2.1,x.2.2.2.2.2.2.1,x.2.2.2.2.2.2.2.1,x.2.2.2.2.2.2.2.2.1,(x.2.2.2.2.2.2.2.2.2++([r13.1]:List jI))))
  (none))
 (some (x.2.2.2.1,x.2.2.2.2.1,x.2.2.2.2.2.2.2.2.1,x.2.2.2.2.2.2.2.2.2))
def xP (rec:(jQ×Int×Int×jI×Int×jQ×jR×jQ×jQ)->Option (jI×Int×jQ)) (x:(jQ×Int×Int×jI×Int×jQ×jR×jQ×jQ)):Option (jI×Int×jQ) :=
 cond (decide (x.2.2.1<x.2.1))
 ((gx x.1 x.2.2.1).bind fun e5 =>
  (yP e5.2 x.2.2.2.1 x.2.2.2.2.1).bind fun r6 =>
  cond (yM (aa x.2.2.2.2.2.2.2.2+aa ([(e5.1,r6.1)]:List zd)) 32)
  (rec (x.1,x.2.1,(ah .i64 (x.2.2.1+1)),r6.2.1,r6.2.2,x.2.2.2.2.2.1,x.2.2.2.2.2.2.1,x.2.2.2.2.2.2.2.1,(x.2.2.2.2.2.2.2.2++([(e5.1,r6.1)]:List zd))))
  (none))
 (some (x.2.2.2.1,x.2.2.2.2.1,x.2.2.2.2.2.2.2.2))
def Zf (a0:jQ) (a1:jR) (a2:jQ) (a3:jI) (a4:Int):Option (jQ×jR×jQ×jI×Int) :=
 ((lp xP ze) (a0,((aa a0:Nat):Int),0,a3,a4,a0,a1,a2,([]:jQ))).bind fun r22 =>
 ((lp xV ze) (a1,((aa a1:Nat):Int),0,r22.1,r22.2.1,a0,a1,a2,r22.2.2,([]:jR))).bind fun r23 =>
 ((lp xZ ze) (a2,((aa a2:Nat):Int),0,r23.1,r23.2.1,r23.2.2.1,r23.2.2.2,([]:jQ))).bind fun r24 =>
 cond (ay (aa a3) (aa r24.1)&&true)
 (some (r24.2.2.1,r24.2.2.2.1,r24.2.2.2.2,r24.1,r24.2.1))
 (none)
def vd (rec:(jR×Int×Int×jQ×jQ×jR)->Option (jQ×jQ×jR)) (x:(jR×Int×Int×jQ×jQ×jR)):Option (jQ×jQ×jR) :=
 cond (decide (x.2.2.1<x.2.1))
 ((gx x.1 x.2.2.1).bind fun e7 =>
  (qM x.2.2.2.2.2 e7).bind fun r8 =>
  cond (!r8)
  (cond (yM (aa x.2.2.2.2.2+aa ([e7]:List jI)) 24)
   (rec (x.1,x.2.1,(ah .i64 (x.2.2.1+1)),x.2.2.2.1,x.2.2.2.2.1,(x.2.2.2.2.2++([e7]:List jI))))
   (none))
  (rec (x.1,x.2.1,(ah .i64 (x.2.2.1+1)),x.2.2.2.1,x.2.2.2.2.1,x.2.2.2.2.2)))
 (some (x.2.2.2.1,x.2.2.2.2.1,x.2.2.2.2.2))
def jA (a0:jQ) (a1:jR) (a2:jQ):Option (jQ×jR×jQ) :=
 (rQ a0).bind fun r11 =>
 (rQ a2).bind fun r12 =>
 ((lp vd ze) (a1,((aa a1:Nat):Int),0,r11,r12,([]:jR))).bind fun r13 =>
 (Zf r13.1 r13.2.2 r13.2.1 (az 24 (0:Int)) 0).bind fun r14 =>
 some (r14.1,r14.2.1,r14.2.2.1)
def tx (a0:jS) (a1:jQ) (a2:jR) (a3:jQ):Option (jQ×jR×Int×jQ) :=
 (wG a0 a1 a2 a3).bind fun r3 =>
 cond (!r3)
 (some (([]:jQ),([]:jR),800,([]:jQ)))
 ((jA a1 a2 a3).bind fun r4 =>
  some (r4.1,r4.2.1,0,r4.2.2))
def v7 (rec:(jS×jI×Int×jR)->Option (jR⊕jR)) (x:(jS×jI×Int×jR)):Option (jR⊕jR) :=
 cond (decide (x.2.2.1<((aa x.2.1:Nat):Int)))
 ((tv x.1 x.2.1 x.2.2.1).bind fun r5 =>
  cond (!r5.2)
  (some (aG x.2.2.2))
  ((vU x.2.1 (some x.2.2.1) (some r5.1)).bind fun y6 =>
   cond (yM (aa x.2.2.2+aa ([y6]:List jI)) 24)
   (rec (x.1,x.2.1,r5.1,(x.2.2.2++([y6]:List jI))))
   (none)))
 (some (aU x.2.2.2))
def wN (a0:jS) (a1:jI):Option jR :=
 ((lp v7 ze) (a0,a1,0,([]:jR))).bind fun r10 =>
 yA r10
 (fun z11=>some z11)
 (fun z12=>some z12)
def ku (a0:Int):Option Int :=
 some a0
def xO (rec:(jI×jI×Int)->Option (Unit⊕Bool)) (x:(jI×jI×Int)):Option (Unit⊕Bool) :=
 cond (decide (x.2.2<((aa x.1:Nat):Int)))
 ((gx x.1 x.2.2).bind fun e3 =>
  (gx x.2.1 x.2.2).bind fun e4 =>
  cond (e3 != e4)
  (some (aG false))
  (rec (x.1,x.2.1,(ah .i64 (x.2.2+1)))))
 (some (aU ()))
def wR (a0:jI) (a1:jI):Option Bool :=
 cond (((aa a0:Nat):Int) != ((aa a1:Nat):Int))
 (some false)
 (((lp xO ze) (a0,a1,0)).bind fun r8 =>
  yA r8
  (fun _z9=>some true)
  (fun z10=>some z10))
def xW (rec:(jQ×jQ×Int)->Option (Unit⊕Bool)) (x:(jQ×jQ×Int)):Option (Unit⊕Bool) :=
 cond (decide (x.2.2<((aa x.1:Nat):Int)))
 ((gx x.1 x.2.2).bind fun e6 =>
  (gx x.2.1 x.2.2).bind fun e7 =>
  cond (!(e6.1==e7.1))
  (some (aG false))
  ((gx x.1 x.2.2).bind fun e8 =>
   (gx x.2.1 x.2.2).bind fun e9 =>
   (wR e8.2 e9.2).bind fun r10 =>
   cond (!r10)
   (some (aG false))
   (rec (x.1,x.2.1,(ah .i64 (x.2.2+1))))))
 (some (aU ()))
def tf (a0:jQ) (a1:jQ):Option Bool :=
 cond (((aa a0:Nat):Int) != ((aa a1:Nat):Int))
 (some false)
 (((lp xW ze) (a0,a1,0)).bind fun r14 =>
  yA r14
  (fun _z15=>some true)
  (fun z16=>some z16))
def xQ (rec:(jR×jR×Int)->Option (Unit⊕Bool)) (x:(jR×jR×Int)):Option (Unit⊕Bool) :=
 cond (decide (x.2.2<((aa x.1:Nat):Int)))
 ((gx x.1 x.2.2).bind fun e4 =>
  (gx x.2.1 x.2.2).bind fun e5 =>
  (wR e4 e5).bind fun r6 =>
  cond (!r6)
  (some (aG false))
  (rec (x.1,x.2.1,(ah .i64 (x.2.2+1)))))
 (some (aU ()))
def rA (a0:jR) (a1:jR):Option Bool :=
 cond (((aa a0:Nat):Int) != ((aa a1:Nat):Int))
 (some false)
 (((lp xQ ze) (a0,a1,0)).bind fun r10 =>
  yA r10
  (fun _z11=>some true)
  (fun z12=>some z12))
def yJ (a0:jQ) (a1:jR) (a2:jQ) (a3:jQ) (a4:jR) (a5:jQ):Option Bool :=
 (tf a0 a3).bind fun r4 =>
 cond r4
 ((rA a1 a4).bind fun r5 =>
  cond r5
  ((tf a2 a5).bind fun r6 =>
   some r6)
  (some false))
 (some false)
theorem zr {X Y:Type} (s:(X->Option Y)->X->Option Y) (k:Nat):lp s (k+1)=s (lp s k):=rfl
theorem qr {α:Type} (xs:List α) (i:Nat):gx xs (i:Int)=xs[i]? := by
 unfold gx;rw[show decide ((0:Int)<=(i:Int))=true from by simp]
 rfl
theorem qm {α:Type} (xs:List α):gx xs 0=xs[0]? := qr xs 0
theorem WH {α:Type} {xs:List α} {i:Int} (h0:0<=i) (h:i<xs.length):∃ x,gx xs i=some x∧x∈xs∧xs[i.toNat]? = some x:=by
 have hi:i.toNat<xs.length:=by omega
 refine ⟨xs[i.toNat],?_,List.getElem_mem hi,al hi⟩;unfold gx;rw[show decide ((0:Int)<=i)=true from by simp; omega,cond_true,al hi]
theorem qd {i l:Nat} (h:i<l):inR (i:Int) l=some i:=by
 unfold inR;simp [h]
theorem zu {n:Int} (h1 : -9223372036854775808<=n) (h2:n<=9223372036854775807):ah .i64 n=n:=by
 simp [ah,eB,dh];omega
theorem vZ {i l:Nat} (h:i<l) (hl:l<=maxLen):ah .i64 ((i:Int)+1)=((i+1:Nat):Int):=by
 unfold maxLen at hl;rw[zu]<;>omega
theorem uj {i l:Nat} (h:i<l):decide ((i:Int)<(l:Int))=true:=by simp [h]
theorem vy {i l:Nat} (h:l<=i):decide ((i:Int)<(l:Int))=false:=by simp; omega
theorem qG {α:Type} {xs:List α} {i:Nat} (h:xs.drop i=[]):xs.length<=i:=by simpa using h
theorem zL {α:Type} {xs es:List α} {e:α} {i:Nat} (h:xs.drop i=e::es):i<xs.length:=by
 rw[← Nat.not_le];intro hn;rw[cK.2 hn] at h;cases h
theorem zn {α:Type} {xs es:List α} {e:α} {i:Nat} (h:xs.drop i=e::es):xs[i]? = some e:=by
 have:=congrArg (·[0]?) h;simpa using this
theorem zi {α:Type} {xs es:List α} {e:α} {i:Nat} (h:xs.drop i=e::es):xs.drop (i+1)=es:=by
 rw[← cm,h];rfl
theorem tW {A R T:Type} {xs:List A} (f:(T->Option R)->T->Option R) (mk:Int->T) (go:List A->Nat->Option R) (hl:aa xs<=maxLen)
  (h0:∀(r:T->Option R) (i:Nat),decide ((i:Int)<((aa xs:Nat):Int))=false->f r (mk (i:Int))=go [] i)
  (h1:∀(r:T->Option R) (i:Nat) e es,decide ((i:Int)<((aa xs:Nat):Int))=true->gx xs (i:Int)=some e->ah .i64 ((i:Int)+1)=((i+1:Nat):Int)->(r (mk ((i+1:Nat):Int))=go es (i+1))->f r (mk (i:Int))=go (e::es) i)
   : lp f ze (mk 0)=go xs 0:=by
 have key:∀(es:List A) (i k:Nat),xs.drop i=es->es.length<k->lp f k (mk (i:Int))=go es i:=by
  intro es
  induction es with
  | nil =>
   intro i k h hk;obtain⟨k,rfl⟩:∃ k',k=k'+1:=⟨k - 1,by omega⟩
   exact h0 _ i (vy (qG h))
  | cons e es ih =>
   intro i k h hk;obtain⟨k,rfl⟩:∃ k',k=k'+1:=⟨k - 1,by omega⟩
   have hi:=zL h;exact h1 _ i e es (uj hi) ((qr xs i).trans (zn h)) (vZ hi hl) (ih (i+1) k (zi h) (cg hk))
 exact key xs 0 ze rfl (bW hl (by decide))
theorem xG {A S0 R T:Type} {xs:List A} (f:(T->Option R)->T->Option R) (mk:Int->S0->T) (go:List A->Nat->S0->Option R) (hl:aa xs<=maxLen)
  (h0:∀(r:T->Option R) (i:Nat) s0,decide ((i:Int)<((aa xs:Nat):Int))=false->f r (mk (i:Int) s0)=go [] i s0)
  (h1:∀(r:T->Option R) (i:Nat) s0 e es,decide ((i:Int)<((aa xs:Nat):Int))=true->gx xs (i:Int)=some e->ah .i64 ((i:Int)+1)=((i+1:Nat):Int)->(∀ s0,r (mk ((i+1:Nat):Int) s0)=go es (i+1) s0)->f r (mk (i:Int) s0)=go (e::es) i s0)
  (s0:S0):lp f ze (mk 0 s0)=go xs 0 s0:=by
 have key:∀(es:List A) (i k:Nat) s0,xs.drop i=es->es.length<k->lp f k (mk (i:Int) s0)=go es i s0:=by
  intro es
  induction es with
  | nil =>
   intro i k s0 h hk;obtain⟨k,rfl⟩:∃ k',k=k'+1:=⟨k - 1,by omega⟩
   exact h0 _ i s0 (vy (qG h))
  | cons e es ih =>
   intro i k s0 h hk;obtain⟨k,rfl⟩:∃ k',k=k'+1:=⟨k - 1,by omega⟩
   have hi:=zL h;exact h1 _ i s0 e es (uj hi) ((qr xs i).trans (zn h)) (vZ hi hl) (fun s0=>ih (i+1) k s0 (zi h) (cg hk))
 exact key xs 0 ze s0 rfl (bW hl (by decide))
theorem zf8 {A S0 S1 R T:Type} {xs:List A} (f:(T->Option R)->T->Option R) (mk:Int->S0->S1->T) (go:List A->Nat->S0->S1->Option R) (hl:aa xs<=maxLen)
  (h0:∀(r:T->Option R) (i:Nat) s0 s1,decide ((i:Int)<((aa xs:Nat):Int))=false->f r (mk (i:Int) s0 s1)=go [] i s0 s1)
  (h1:∀(r:T->Option R) (i:Nat) s0 s1 e es,decide ((i:Int)<((aa xs:Nat):Int))=true->gx xs (i:Int)=some e->ah .i64 ((i:Int)+1)=((i+1:Nat):Int)->(∀ s0 s1,r (mk ((i+1:Nat):Int) s0 s1)=go es (i+1) s0 s1)->f r (mk (i:Int) s0 s1)=go (e::es) i s0 s1)
  (s0:S0) (s1:S1):lp f ze (mk 0 s0 s1)=go xs 0 s0 s1:=by
 have key:∀(es:List A) (i k:Nat) s0 s1,xs.drop i=es->es.length<k->lp f k (mk (i:Int) s0 s1)=go es i s0 s1:=by
  intro es
  induction es with
  | nil =>
   intro i k s0 s1 h hk;obtain⟨k,rfl⟩:∃ k',k=k'+1:=⟨k - 1,by omega⟩
   exact h0 _ i s0 s1 (vy (qG h))
  | cons e es ih =>
   intro i k s0 s1 h hk;obtain⟨k,rfl⟩:∃ k',k=k'+1:=⟨k - 1,by omega⟩
   have hi:=zL h;exact h1 _ i s0 s1 e es (uj hi) ((qr xs i).trans (zn h)) (vZ hi hl) (fun s0 s1=>ih (i+1) k s0 s1 (zi h) (cg hk))
 exact key xs 0 ze s0 s1 rfl (bW hl (by decide))
theorem Po {A S0 S1 S2 R T:Type} {xs:List A} (f:(T->Option R)->T->Option R) (mk:Int->S0->S1->S2->T) (go:List A->Nat->S0->S1->S2->Option R) (hl:aa xs<=maxLen)
  (h0:∀(r:T->Option R) (i:Nat) s0 s1 s2,decide ((i:Int)<((aa xs:Nat):Int))=false->f r (mk (i:Int) s0 s1 s2)=go [] i s0 s1 s2)
  (h1:∀(r:T->Option R) (i:Nat) s0 s1 s2 e es,decide ((i:Int)<((aa xs:Nat):Int))=true->gx xs (i:Int)=some e->ah .i64 ((i:Int)+1)=((i+1:Nat):Int)->(∀ s0 s1 s2,r (mk ((i+1:Nat):Int) s0 s1 s2)=go es (i+1) s0 s1 s2)->f r (mk (i:Int) s0 s1 s2)=go (e::es) i s0 s1 s2)
  (s0:S0) (s1:S1) (s2:S2):lp f ze (mk 0 s0 s1 s2)=go xs 0 s0 s1 s2:=by
 have key:∀(es:List A) (i k:Nat) s0 s1 s2,xs.drop i=es->es.length<k->lp f k (mk (i:Int) s0 s1 s2)=go es i s0 s1 s2:=by
  intro es
  induction es with
  | nil =>
   intro i k s0 s1 s2 h hk;obtain⟨k,rfl⟩:∃ k',k=k'+1:=⟨k - 1,by omega⟩
   exact h0 _ i s0 s1 s2 (vy (qG h))
  | cons e es ih =>
   intro i k s0 s1 s2 h hk;obtain⟨k,rfl⟩:∃ k',k=k'+1:=⟨k - 1,by omega⟩
   have hi:=zL h;exact h1 _ i s0 s1 s2 e es (uj hi) ((qr xs i).trans (zn h)) (vZ hi hl) (fun s0 s1 s2=>ih (i+1) k s0 s1 s2 (zi h) (cg hk))
 exact key xs 0 ze s0 s1 s2 rfl (bW hl (by decide))
def z6:List UInt8->Option (Unit⊕Bool)
 | []=>some (aU ())
 | e::es =>
  (rC ((bG e:Nat):Int)).bind fun r8 =>
  cond (!r8)
  (cond (decide (((bG e:Nat):Int)<48))
   (some (aG false))
   (cond (decide (((bG e:Nat):Int)>57))
    (some (aG false))
    (z6 es)))
  (z6 es)
theorem Yy (s0:Str) (hl:aa s0<=maxLen):lp vl ze (s0,((aa s0:Nat):Int),0)=z6 s0:=tW vl (fun i=>(s0,((aa s0:Nat):Int),i)) (fun es i=>z6 es) hl (fun r i h=>by unfold vl z6; simp only[h,cond_false]) (fun r i e es h g w k=>by unfold vl z6; simp only[h,cond_true,g,af,w,k])
def ql (s1:Str):List zj->Nat->Option (Unit⊕Int)
 | [],_i=>some (aU ())
 | e::es,i =>
  cond (e.1==s1)
  (some (aG (i:Int)))
  (ql s1 es (i+1))
theorem Qk (s0:jS) (s1:Str) (hl:aa s0<=maxLen):lp uK ze (s0,s1,((aa s0:Nat):Int),0)=ql s1 s0 0:=tW uK (fun i=>(s0,s1,((aa s0:Nat):Int),i)) (fun es i=>ql s1 es i) hl (fun r i h=>by unfold uK ql; simp only[h,cond_false]) (fun r i e es h g w k=>by unfold uK ql; simp only[h,cond_true,g,af,w,k])
def vm (s0:jS):List zj->Nat->Option (Unit⊕Bool)
 | [],_i=>some (aU ())
 | e::es,i =>
  (ke e.1 e.2.1 e.2.2.1 e.2.2.2).bind fun r7 =>
  cond (!r7)
  (some (aG false))
  ((ZT s0 e.1).bind fun r9 =>
   cond (r9 != (i:Int))
   (some (aG false))
   (vm s0 es (i+1)))
theorem XN (s0:jS) (hl:aa s0<=maxLen):∀(es:List zj) (i:Nat) (k:Nat),s0.drop i=es->es.length<k->lp uq k (s0,(i:Int))=vm s0 es i:=by
 intro es
 induction es with
 | nil =>
  intro i k h hk;obtain⟨k,rfl⟩:∃ k',k=k'+1:=⟨k - 1,by omega⟩
  rw[zr];generalize lp uq k=rec;unfold uq vm;simp only[vy (qG h),cond_false]
 | cons e es ih =>
  intro i k h hk;obtain⟨k,rfl⟩:∃ k',k=k'+1:=⟨k - 1,by omega⟩
  rw[zr];have hi:=zL h;have hk2:es.length<k:=cg hk;have key:=fun (_:Unit)=>ih (i+1) k (zi h) hk2;generalize lp uq k=rec at key ⊢;unfold uq vm;simp only[uj hi,cond_true,qr,zn h,af,vZ hi hl,key ()]
def ya (s0:jS):List zd->Int->Option (Int⊕(Int×Bool))
 | [],s1=>some (aU s1)
 | e::es,s1 =>
  (Zm s0 e.1 e.2).bind fun r4 =>
  cond (!r4)
  (some (aG (0,false)))
  (ya s0 es (ah .i64 (s1+((aa e.2:Nat):Int))))
theorem jb (s0:jS) (s2:jQ) (s1:Int) (hl:aa s2<=maxLen):lp xl ze (s0,s1,s2,((aa s2:Nat):Int),0)=ya s0 s2 s1:=xG xl (fun i s1=>(s0,s1,s2,((aa s2:Nat):Int),i)) (fun es i s1=>ya s0 es s1) hl (fun r i s1 h=>by unfold xl ya; simp only[h,cond_false]) (fun r i s1 e es h g w k=>by unfold xl ya; simp only[h,cond_true,g,af,w,k]) s1
def zE (s0:jS):List jI->Nat->Int->Int->Option (Int⊕(Int×Bool))
 | [],_i,s1,_s2=>some (aU s1)
 | e::es,i,s1,s2 =>
  (j9 s0 e).bind fun r4 =>
  cond ((i:Int)==0)
  (cond (r4.2 != 0)
   (some (aG (0,false)))
   (cond (r4.1 != r4.1)
    (some (aG (0,false)))
    (zE s0 es (i+1) (ah .i64 (s1+((aa e:Nat):Int))) r4.1)))
  (cond (r4.2 != 0)
   (some (aG (0,false)))
   (cond (r4.1 != s2)
    (some (aG (0,false)))
    (zE s0 es (i+1) (ah .i64 (s1+((aa e:Nat):Int))) s2)))
theorem jj (s0:jS) (s3:jR) (s1:Int) (s2:Int) (hl:aa s3<=maxLen):lp xn ze (s0,s1,s2,s3,((aa s3:Nat):Int),0)=zE s0 s3 0 s1 s2:=zf8 xn (fun i s1 s2=>(s0,s1,s2,s3,((aa s3:Nat):Int),i)) (fun es i s1 s2=>zE s0 es i s1 s2) hl (fun r i s1 s2 h=>by unfold xn zE; simp only[h,cond_false]) (fun r i s1 s2 e es h g w k=>by unfold xn zE; simp only[h,cond_true,g,af,w,k]) s1 s2
def qk (s1:jI):List Int->Nat->Option (Unit⊕Bool)
 | [],_i=>some (aU ())
 | e::es,i =>
  (gx s1 (i:Int)).bind fun e4 =>
  cond (e != e4)
  (some (aG false))
  (qk s1 es (i+1))
theorem ZJ (s0:jI) (s1:jI) (hl:aa s0<=maxLen):lp wJ ze (s0,s1,((aa s0:Nat):Int),0)=qk s1 s0 0:=tW wJ (fun i=>(s0,s1,((aa s0:Nat):Int),i)) (fun es i=>qk s1 es i) hl (fun r i h=>by unfold wJ qk; simp only[h,cond_false]) (fun r i e es h g w k=>by unfold wJ qk; simp only[h,cond_true,g,af,w,k])
def yb (s3:Bool) (s4:jI):List zd->Nat->Option (Unit⊕Int)
 | [],_i=>some (aU ())
 | e::es,i =>
  (so e.1 e.2 s3 s4).bind fun r4 =>
  cond r4
  (some (aG (i:Int)))
  (yb s3 s4 es (i+1))
theorem ki (s0:jQ) (s3:Bool) (s4:jI) (hl:aa s0<=maxLen):lp qA ze (s0,((aa s0:Nat):Int),0,s3,s4)=yb s3 s4 s0 0:=tW qA (fun i=>(s0,((aa s0:Nat):Int),i,s3,s4)) (fun es i=>yb s3 s4 es i) hl (fun r i h=>by unfold qA yb; simp only[h,cond_false]) (fun r i e es h g w k=>by unfold qA yb; simp only[h,cond_true,g,af,w,k])
def y5:List zd->jQ->Option jQ
 | [],s3=>some s3
 | e::es,s3 =>
  (xq s3 e.1 e.2).bind fun r6 =>
  cond (!r6)
  (cond (yM (aa s3+aa ([(e.1,e.2)]:List zd)) 32)
   (y5 es (s3++([(e.1,e.2)]:List zd)))
   (none))
  (y5 es s3)
theorem Yi (s0:jQ) (s3:jQ) (hl:aa s0<=maxLen):lp vu ze (s0,((aa s0:Nat):Int),0,s3)=y5 s0 s3:=xG vu (fun i s3=>(s0,((aa s0:Nat):Int),i,s3)) (fun es i s3=>y5 es s3) hl (fun r i s3 h=>by unfold vu y5; simp only[h,cond_false]) (fun r i s3 e es h g w k=>by unfold vu y5; simp only[h,cond_true,g,af,w,k]) s3
def zP (s3:jI):List jI->Nat->Option (Unit⊕Int)
 | [],_i=>some (aU ())
 | e::es,i =>
  (sq e s3).bind fun r4 =>
  cond r4
  (some (aG (i:Int)))
  (zP s3 es (i+1))
theorem ri (s0:jR) (s3:jI) (hl:aa s0<=maxLen):lp yW ze (s0,((aa s0:Nat):Int),0,s3)=zP s3 s0 0:=tW yW (fun i=>(s0,((aa s0:Nat):Int),i,s3)) (fun es i=>zP s3 es i) hl (fun r i h=>by unfold yW zP; simp only[h,cond_false]) (fun r i e es h g w k=>by unfold yW zP; simp only[h,cond_true,g,af,w,k])
def yp (s5:jQ) (s6:jR):List zd->jI->Int->jQ->Option (jI×Int×jQ×jR×jQ)
 | [],s3,s4,s7=>some (s3,s4,s5,s6,s7)
 | e::es,s3,s4,s7 =>
  (yP e.2 s3 s4).bind fun r20 =>
  cond (yM (aa s7+aa ([(e.1,r20.1)]:List zd)) 32)
  (yp s5 s6 es r20.2.1 r20.2.2 (s7++([(e.1,r20.1)]:List zd)))
  (none)
theorem jY (s0:jQ) (s5:jQ) (s6:jR) (s3:jI) (s4:Int) (s7:jQ) (hl:aa s0<=maxLen):lp xZ ze (s0,((aa s0:Nat):Int),0,s3,s4,s5,s6,s7)=yp s5 s6 s0 s3 s4 s7:=Po xZ (fun i s3 s4 s7=>(s0,((aa s0:Nat):Int),i,s3,s4,s5,s6,s7)) (fun es i s3 s4 s7=>yp s5 s6 es s3 s4 s7) hl (fun r i s3 s4 s7 h=>by unfold xZ yp; simp only[h,cond_false]) (fun r i s3 s4 s7 e es h g w k=>by unfold xZ yp; simp only[h,cond_true,g,af,w,k]) s3 s4 s7
def yo (s8:jQ):List jI->jI->Int->jR->Option (jI×Int×jQ×jR)
 | [],s3,s4,s9=>some (s3,s4,s8,s9)
 | e::es,s3,s4,s9 =>
  (yP e s3 s4).bind fun r13 =>
  cond (yM (aa s9+aa ([r13.1]:List jI)) 24)
  (yo s8 es r13.2.1 r13.2.2 (s9++([r13.1]:List jI)))
  (none)
theorem Zh (s0:jR) (s5:jQ) (s6:jR) (s7:jQ) (s8:jQ) (s3:jI) (s4:Int) (s9:jR) (hl:aa s0<=maxLen):lp xV ze (s0,((aa s0:Nat):Int),0,s3,s4,s5,s6,s7,s8,s9)=yo s8 s0 s3 s4 s9:=Po xV (fun i s3 s4 s9=>(s0,((aa s0:Nat):Int),i,s3,s4,s5,s6,s7,s8,s9)) (fun es i s3 s4 s9=>yo s8 es s3 s4 s9) hl (fun r i s3 s4 s9 h=>by unfold xV yo; simp only[h,cond_false]) (fun r i s3 s4 s9 e es h g w k=>by unfold xV yo; simp only[h,cond_true,g,af,w,k]) s3 s4 s9
def yj:List zd->jI->Int->jQ->Option (jI×Int×jQ)
 | [],s3,s4,s8=>some (s3,s4,s8)
 | e::es,s3,s4,s8 =>
  (yP e.2 s3 s4).bind fun r6 =>
  cond (yM (aa s8+aa ([(e.1,r6.1)]:List zd)) 32)
  (yj es r6.2.1 r6.2.2 (s8++([(e.1,r6.1)]:List zd)))
  (none)
theorem jv (s0:jQ) (s5:jQ) (s6:jR) (s7:jQ) (s3:jI) (s4:Int) (s8:jQ) (hl:aa s0<=maxLen):lp xP ze (s0,((aa s0:Nat):Int),0,s3,s4,s5,s6,s7,s8)=yj s0 s3 s4 s8:=Po xP (fun i s3 s4 s8=>(s0,((aa s0:Nat):Int),i,s3,s4,s5,s6,s7,s8)) (fun es i s3 s4 s8=>yj es s3 s4 s8) hl (fun r i s3 s4 s8 h=>by unfold xP yj; simp only[h,cond_false]) (fun r i s3 s4 s8 e es h g w k=>by unfold xP yj; simp only[h,cond_true,g,af,w,k]) s3 s4 s8
def qa (s3:jQ) (s4:jQ):List jI->jR->Option (jQ×jQ×jR)
 | [],s5=>some (s3,s4,s5)
 | e::es,s5 =>
  (qM s5 e).bind fun r8 =>
  cond (!r8)
  (cond (yM (aa s5+aa ([e]:List jI)) 24)
   (qa s3 s4 es (s5++([e]:List jI)))
   (none))
  (qa s3 s4 es s5)
theorem Yc (s0:jR) (s3:jQ) (s4:jQ) (s5:jR) (hl:aa s0<=maxLen):lp vd ze (s0,((aa s0:Nat):Int),0,s3,s4,s5)=qa s3 s4 s0 s5:=xG vd (fun i s5=>(s0,((aa s0:Nat):Int),i,s3,s4,s5)) (fun es i s5=>qa s3 s4 es s5) hl (fun r i s5 h=>by unfold vd qa; simp only[h,cond_false]) (fun r i s5 e es h g w k=>by unfold vd qa; simp only[h,cond_true,g,af,w,k]) s5
def yU (s1:jI):List Int->Nat->Option (Unit⊕Bool)
 | [],_i=>some (aU ())
 | e::es,i =>
  (gx s1 (i:Int)).bind fun e4 =>
  cond (e != e4)
  (some (aG false))
  (yU s1 es (i+1))
theorem jX (s0:jI) (s1:jI) (hl:aa s0<=maxLen):lp xO ze (s0,s1,0)=yU s1 s0 0:=tW xO (fun i=>(s0,s1,i)) (fun es i=>yU s1 es i) hl (fun r i h=>by unfold xO yU; simp only[h,cond_false]) (fun r i e es h g w k=>by unfold xO yU; simp only[h,cond_true,g,af,w,k])
def yT (s1:jQ):List zd->Nat->Option (Unit⊕Bool)
 | [],_i=>some (aU ())
 | e::es,i =>
  (gx s1 (i:Int)).bind fun e7 =>
  cond (!(e.1==e7.1))
  (some (aG false))
  ((gx s1 (i:Int)).bind fun e9 =>
   (wR e.2 e9.2).bind fun r10 =>
   cond (!r10)
   (some (aG false))
   (yT s1 es (i+1)))
theorem Zb (s0:jQ) (s1:jQ) (hl:aa s0<=maxLen):lp xW ze (s0,s1,0)=yT s1 s0 0:=tW xW (fun i=>(s0,s1,i)) (fun es i=>yT s1 es i) hl (fun r i h=>by unfold xW yT; simp only[h,cond_false]) (fun r i e es h g w k=>by unfold xW yT; simp only[h,cond_true,g,af,w,k])
def yS (s1:jR):List jI->Nat->Option (Unit⊕Bool)
 | [],_i=>some (aU ())
 | e::es,i =>
  (gx s1 (i:Int)).bind fun e5 =>
  (wR e e5).bind fun r6 =>
  cond (!r6)
  (some (aG false))
  (yS s1 es (i+1))
theorem jy (s0:jR) (s1:jR) (hl:aa s0<=maxLen):lp xQ ze (s0,s1,0)=yS s1 s0 0:=tW xQ (fun i=>(s0,s1,i)) (fun es i=>yS s1 es i) hl (fun r i h=>by unfold xQ yS; simp only[h,cond_false]) (fun r i e es h g w k=>by unfold xQ yS; simp only[h,cond_true,g,af,w,k])
def Xt (n:Int):Bool:=decide (97<=n)&&decide (n<=122)
theorem rg (n:Int):rC n=some (Xt n):=by
 unfold rC Xt;by_cases h:n≥97<;>simp [h]
def CM (e:UInt8):Bool:=Xt ((bG e:Nat):Int)||(decide (48<=((bG e:Nat):Int))&&decide (((bG e:Nat):Int)<=57))
theorem IX (es:List UInt8):z6 es=some (cond (es.all CM) (.inl ()) (.inr false)):=by
 induction es with
 | nil=>rfl
 | cons e es ih =>
  unfold z6;rw[rg,af,ih,cd];unfold CM;cases h:Xt ((bG e:Nat):Int) with
  | true=>simp
  | false =>
   by_cases h1:((bG e:Nat):Int)<48
   ·have:¬(48<=((bG e:Nat):Int)):=by omega
    simp only[bJ,cond_true,decide_eq_true h1,decide_eq_false this,bn,en,cond_false]
   ·have h3:48<=((bG e:Nat):Int):=by omega
    by_cases h2:((bG e:Nat):Int)>57
    ·have:¬(((bG e:Nat):Int)<=57):=by omega
     simp only[bJ,cond_true,decide_eq_false h1,decide_eq_true h2,decide_eq_false this,co,bn,en,cond_false]
    ·have h4:((bG e:Nat):Int)<=57:=by omega
     simp only[bJ,cond_true,decide_eq_false h1,decide_eq_false h2,decide_eq_true h3,decide_eq_true h4,dU,aY,Bool.or_true,cond_false]
def Ym (s:Str):Bool:=match s with
 | []=>false
 | c::_=>decide (s.length<=8)&&Xt ((bG c:Nat):Int)&&s.all CM
theorem KH (s:Str):ju s=some (Ym s):=by
 unfold ju Ym;cases s with
 | nil=>rfl
 | cons c r =>
  rw[show ((c::r:Str)==([]:Str))=false from rfl,cond_false]
  by_cases h:(c::r).length<=8
  ·have h1:¬(((aa (c::r):Nat):Int)>8):=by omega
   rw[decide_eq_false h1,cond_false,qm,aC,af,rg,af,Yy _ (by unfold maxLen; omega),IX,decide_eq_true h]
   dsimp only;cases Xt ((bG c:Nat):Int) with
   | false=>rfl
   | true=>cases (c::r).all CM<;>rfl
  ·have h1:((aa (c::r):Nat):Int)>8:=by omega
   rw[decide_eq_true h1,decide_eq_false h];rfl
def LI (e:zj):Bool:=Ym e.1&&decide (0<=e.2.1)&&decide (e.2.1<=2)&&decide (0<=e.2.2.1)&&decide (e.2.2.1<=3)&&decide (1<=e.2.2.2)&&decide (e.2.2.2<=20)
theorem KD (e:zj):ke e.1 e.2.1 e.2.2.1 e.2.2.2=some (LI e):=by
 unfold ke LI;rw[KH,af];cases Ym e.1<;>simp only[cond_true,cond_false,aY,bn,ge_iff_le]
 cases decide (0<=e.2.1)<;>simp only[cond_true,cond_false,aY,bn]
 cases decide (e.2.1<=2)<;>simp only[cond_true,cond_false,aY,bn]
 cases decide (0<=e.2.2.1)<;>simp only[cond_true,cond_false,aY,bn]
 cases decide (e.2.2.1<=3)<;>simp only[cond_true,cond_false,aY,bn]
 cases decide (1<=e.2.2.2)<;>simp only[cond_true,cond_false,aY,bn]
def PM (o:Option Nat):Int:=match o with
 | some i=>(i:Int)
 | none => -1
theorem HX (nm:Str) (es:List zj) (i:Nat):ql nm es i=some (match es.findIdx? (fun e=>e.1==nm) with
  | some j=>.inr ((i+j:Nat):Int)
  | none=>.inl ()):=by
 induction es generalizing i with
 | nil=>rfl
 | cons e es ih =>
  unfold ql;rw[List.findIdx?_cons];cases h:(e.1==nm) with
  | true=>simp
  | false =>
   rw[cond_false,ih];cases es.findIdx? (fun e=>e.1==nm) with
   | none=>rfl
   | some j=>simp; omega
theorem IP (a0:List zj) (nm:Str) (h:a0.length<=maxLen):ZT a0 nm=some (PM (a0.findIdx? (fun e=>e.1==nm))):=by
 unfold ZT;rw[Qk _ _ h,HX];cases a0.findIdx? (fun e=>e.1==nm) with
 | none=>rfl
 | some j=>simp [yA,PM]
def XU (a0:List zj):List zj->Nat->Bool
 | [],_=>true
 | e::es,i=>LI e&&(PM (a0.findIdx? (fun d=>d.1==e.1))==(i:Int))&&XU a0 es (i+1)
theorem zeo (a0:List zj) (h:a0.length<=maxLen) (es:List zj) (i:Nat):vm a0 es i=some (cond (XU a0 es i) (.inl ()) (.inr false)):=by
 induction es generalizing i with
 | nil=>rfl
 | cons e es ih =>
  unfold vm XU;rw[KD,af,IP _ _ h,af,ih,bne];cases LI e with
  | false=>rfl
  | true =>
   cases (PM (a0.findIdx? (fun d=>d.1==e.1))==(i:Int)) with
   | false=>rfl
   | true=>simp
def DB:zj:=([61],0,2,1)
def eqQ (e:zj):Bool:=cond (eqS e.1 [61]) (cond (eqI e.2.1 0) (cond (eqI e.2.2.1 2) (cond (eqI e.2.2.2 1) true false) false) false) false
theorem za9 (e:zj):eqQ e=true↔e=DB:=by
 obtain⟨a,b,c,d⟩:=e;unfold eqQ DB eqS eqI;cases h1:(a==([61]:List UInt8))<;>cases h2:(b==0)<;>cases h3:(c==2)<;>cases h4:(d==1)<;>simp_all
def uT (a0:List zj):Bool:=match a0 with
 | []=>false
 | e::es=>decide (a0.length<=20)&&eqQ e&&XU a0 es 1
theorem QB (a0:List zj):YD a0=some (uT a0):=by
 unfold YD uT;cases a0 with
 | nil=>rfl
 | cons e es =>
  rw[decide_eq_false (show ¬(((aa (e::es):Nat):Int)<1) by rw[aj]; omega),cond_false]
  by_cases h:(e::es).length<=20
  ·have h1:¬(((aa (e::es):Nat):Int)>20):=by omega
   have hm:(e::es).length<=maxLen:=by unfold maxLen; omega
   rw[decide_eq_false h1,cond_false,qm,aC,af,decide_eq_true h];show cond (!(eqQ e)) _ _=some (true&&eqQ e&&XU (e::es) es 1);cases eqQ e with
   | false=>rfl
   | true =>
    have:=XN (e::es) hm es 1 ze rfl (by simp [ze]; simp at h; omega)
    simp only[aA,cond_false];rw[show ((1:Int))=((1:Nat):Int) from rfl,this,zeo _ hm]
    cases XU (e::es) es 1<;>rfl
  ·have h1:((aa (e::es):Nat):Int)>20:=by omega
   rw[decide_eq_true h1,decide_eq_false h];rfl
theorem Aq {a0:List zj}:{es:List zj}->{i:Nat}->XU a0 es i=true->∀(j:Nat) e,es[j]? = some e->LI e=true∧PM (a0.findIdx? (fun d=>d.1==e.1))=((i+j:Nat):Int)
 | [],_,_,j,e,he=>by simp at he
 | d::es,i,h,0,e,he=>by
  injection he with he; subst he;simp only[XU,aw] at h;exact ⟨h.1.1,by simpa using h.1.2⟩
 | d::es,i,h,j+1,e,he=>by
  simp only[XU,aw] at h;have:=Aq h.2 j e (by simpa using he)
  exact ⟨this.1,by rw[this.2]; omega⟩
structure SignOk (a0:List zj):Prop where
 pos:1<=a0.length
 len:a0.length<=20
 eq:a0[0]? = some DB
 sym:∀(i:Nat) e,a0[i+1]? = some e->LI e=true∧PM (a0.findIdx? (fun d=>d.1==e.1))=((i+1:Nat):Int)
theorem tz {a0:List zj} (h:uT a0=true):SignOk a0:=by
 unfold uT at h;cases a0 with
 | nil=>cases h
 | cons e es =>
  simp only[aw,decide_eq_true_eq] at h;exact ⟨by simp,h.1.1,by rw[aC,(za9 e).1 h.1.2],fun i d hd=>by
   have:=Aq h.2 i d (by simpa using hd)
   exact ⟨this.1,by rw[this.2]; omega⟩⟩
theorem SignOk.max {a0:List zj} (h:SignOk a0):a0.length<=maxLen:=Nat.le_trans h.len (by unfold maxLen; omega)
theorem M3 {e:zj} (h:LI e=true):Ym e.1=true∧0<=e.2.1∧e.2.1<=2∧0<=e.2.2.1∧e.2.2.1<=3∧1<=e.2.2.2∧e.2.2.2<=20:=by
 unfold LI at h;simp only[aw,decide_eq_true_eq] at h;exact ⟨h.1.1.1.1.1.1,h.1.1.1.1.1.2,h.1.1.1.1.2,h.1.1.1.2,h.1.1.2,h.1.2,h.2⟩
theorem DE {s:Str} (h:Ym s=true):1<=s.length∧s.length<=8:=by
 unfold Ym at h;cases s with
 | nil=>cases h
 | cons c r =>
  simp only[aw,decide_eq_true_eq] at h;exact ⟨by simp,h.1.1⟩
theorem SignOk.at {a0:List zj} (h:SignOk a0) {i:Nat} {e:zj} (he:a0[i]? = some e):1<=e.1.length∧e.1.length<=8∧0<=e.2.1∧e.2.1<=2∧0<=e.2.2.1∧e.2.2.1<=3:=by
 cases i with
 | zero =>
  rw[h.eq] at he;injection he with he; subst he;decide
 | succ i =>
  obtain⟨h1,h2,h3,h4,h5,_⟩:=M3 (h.sym i e he).1;have:=DE h1;exact ⟨this.1,this.2,h2,h3,h4,h5⟩
def uk (a0:List zj) (x:Int):Option Nat :=
 cond (decide (x<0)) (cond (decide (-24<=x)) (some 0) none) (match a0[x.toNat]? with
  | some e=>cond (e.2.1==0) none (some e.2.2.1.toNat)
  | none=>none)
def nOk (o:Option Nat):Int×Bool:=match o with
 | some k=>((k:Int),true)
 | none=>(0,false)
theorem we {x:Int} (h1 : -9223372036854775808<=x) (h2:x<=9223372036854775807):yd x=some (-1 - x):=by
 unfold yd;rw[zu]<;>omega
theorem Wz {a0:List zj} (h:SignOk a0) (x:Int):Yd a0 x=some (nOk (uk a0 x)):=by
 unfold Yd uk;by_cases h0:x<0
 ·rw[decide_eq_true h0,cond_true,cond_true,we (by omega) (by omega),af]
  by_cases h1 : -24<=x
  ·rw[decide_eq_true h1,decide_eq_true (show x ≥ -1 - 23 by omega)]; rfl
  ·rw[decide_eq_false h1,decide_eq_false (show ¬(x ≥ -1 - 23) by omega)]; rfl
 ·rw[decide_eq_false h0,cond_false,cond_false];by_cases h1:x≥((aa a0:Nat):Int)
  ·rw[decide_eq_true h1,cond_true,aP (by omega)]; rfl
  ·obtain⟨e,he1,he2,he3⟩:=WH (xs:=a0) (i:=x) (by omega) (by omega)
   have:=h.at he3;rw[decide_eq_false h1,cond_false,he1,af,he3];cases he:(e.2.1==0) with
   | true=>simp only[he,cond_true]; rfl
   | false =>
    simp only[he,cond_false,af];unfold nOk;simp only[au,aI,and_true];omega
theorem Gv {a0:List zj} (h:SignOk a0) {x:Int} {k:Nat} (hk:uk a0 x=some k):k<=3:=by
 unfold uk at hk;by_cases h0:x<0
 ·rw[decide_eq_true h0,cond_true] at hk;by_cases h1 : -24<=x
  ·rw[decide_eq_true h1] at hk; injection hk with hk; omega
  ·rw[decide_eq_false h1] at hk; cases hk
 ·rw[decide_eq_false h0,cond_false] at hk;cases he:a0[x.toNat]? with
  | none=>rw[he] at hk; cases hk
  | some e =>
   rw[he] at hk;have:=h.at he;simp only at hk;cases hz:(e.2.1==0) with
   | true=>rw[hz] at hk; cases hk
   | false=>rw[hz] at hk; injection hk with hk; omega
def sk (a0:List zj):Nat->List Int->Option Nat
 | 0,_=>some 0
 | _+1,[]=>none
 | n+1,x::xs=>match uk a0 x with
  | none=>none
  | some k=>(sk a0 (n+k) xs).map (· + 1)
theorem V2 {a0:List zj}:{xs:List Int}->{n k:Nat}->sk a0 n xs=some k->k<=xs.length∧(0<n->0<k)∧n<=k
 | [],0,k,h=>by simp [sk] at h; omega
 | [],n+1,k,h=>by simp [sk] at h
 | x::xs,0,k,h=>by simp [sk] at h; omega
 | x::xs,n+1,k,h=>by
  unfold sk at h;cases ha:uk a0 x with
  | none=>rw[ha] at h; cases h
  | some m =>
   rw[ha] at h;simp only[bg] at h;obtain⟨j,hj,rfl⟩:=h;have:=V2 hj;rw[aj];omega
theorem Ej {a0:List zj} (h:SignOk a0) (a1:List Int) (hl:a1.length<=1099511627776):∀(m i n:Nat) (k:Nat),a1.length - i=m->0<n->n<=1+3*i->m<k ->
  lp vG k (a0,a1,(i:Int),(n:Int))=some (match sk a0 n (a1.drop i) with
   | some j=>(((i+j:Nat):Int),true)
   | none=>(0,false)):=by
 intro m
 induction m with
 | zero =>
  intro i n k hm hn hni hk;obtain⟨k,rfl⟩:∃ k',k=k'+1:=⟨k - 1,by omega⟩
  rw[zr];generalize lp vG k=rec;unfold vG;simp only[decide_eq_true (show ((i:Int)≥((aa a1:Nat):Int)) by omega),cond_true,cK.2 (show a1.length<=i by omega)]
  obtain⟨n,rfl⟩:∃ n',n=n'+1:=⟨n - 1,by omega⟩
  rfl
 | succ m ih =>
  intro i n k hm hn hni hk;obtain⟨k,rfl⟩:∃ k',k=k'+1:=⟨k - 1,by omega⟩
  have hi:i<a1.length:=by omega
  rw[zr];have key:=fun n' h1 h2=>ih (i+1) n' k (by omega) h1 h2 (by omega)
  generalize lp vG k=rec at key ⊢;unfold vG;obtain⟨n,rfl⟩:∃ n',n=n'+1:=⟨n - 1,by omega⟩
  simp only[decide_eq_false (show ¬((i:Int)≥((aa a1:Nat):Int)) by omega),cond_false,qr,al hi,af,Wz h,aX hi,sk]
  cases ha:uk a0 a1[i] with
  | none=>simp [nOk]
  | some q =>
   have hq:=Gv h ha;have e1:ah .i64 ((q:Int) - 1)=(q:Int) - 1:=zu (by omega) (by omega)
   have e2:ah .i64 (((n+1:Nat):Int)+((q:Int) - 1))=((n+q:Nat):Int):=by rw[zu]<;>omega
   have e3:ah .i64 ((i:Int)+1)=((i+1:Nat):Int):=by rw[zu]<;>omega
   simp only[nOk,aA,cond_false,e1,e2,e3];by_cases hp:0<n+q
   ·rw[decide_eq_true (show ((n+q:Nat):Int)>0 by omega),cond_true,key _ hp (by omega)]
    cases sk a0 (n+q) (a1.drop (i+1)) with
    | none=>rfl
    | some j=>simp only[bD]; rw[show i+1+j=i+(j+1) from by omega]
   ·rw[decide_eq_false (show ¬(((n+q:Nat):Int)>0) by omega),cond_false]
    have:n+q=0:=by omega
    rw[this];simp [sk]
theorem kn {a0:List zj} (h:SignOk a0) (a1:List Int) (hl:a1.length<=1099511627776) (i:Nat):tv a0 a1 (i:Int)=some (match sk a0 1 (a1.drop i) with
   | some j=>(((i+j:Nat):Int),true)
   | none=>(0,false)):=by
 unfold tv;by_cases hi:i<a1.length
 ·simp only[decide_eq_false (show ¬((i:Int)≥((aa a1:Nat):Int)) by omega),cond_false,qr,al hi,af,Wz h,aX hi,sk]
  cases ha:uk a0 a1[i] with
  | none=>simp [nOk]
  | some q =>
   have hq:=Gv h ha;have e1:ah .i64 ((q:Int) - 1)=(q:Int) - 1:=zu (by omega) (by omega)
   have e2:ah .i64 (1+((q:Int) - 1))=((q:Nat):Int):=by rw[zu]<;>omega
   have e3:ah .i64 ((i:Int)+1)=((i+1:Nat):Int):=by rw[zu]<;>omega
   simp only[nOk,aA,cond_false,e1,e2,e3];by_cases hp:0<q
   ·rw[decide_eq_true (show (q:Int)>0 by omega),cond_true,Ej h a1 hl (a1.length - (i+1)) (i+1) q ze rfl hp (by omega) (by unfold ze; omega),aN]
    cases sk a0 q (a1.drop (i+1)) with
    | none=>rfl
    | some j=>simp only[bD,af]; rw[show i+1+j=i+(j+1) from by omega]
   ·rw[decide_eq_false (show ¬((q:Int)>0) by omega),cond_false]
    have:q=0:=by omega
    subst this;simp [sk]
 ·simp only[decide_eq_true (show ((i:Int)≥((aa a1:Nat):Int)) by omega),cond_true,cK.2 (show a1.length<=i by omega)]
  rfl
def DV (a0:List zj):Nat->List Int->Option jR
 | _,[]=>some []
 | 0,_::_=>none
 | n+1,x::xs=>match sk a0 1 (x::xs) with
  | none=>none
  | some k=>(DV a0 n ((x::xs).drop k)).map ((x::xs).take k :: ·)
def WG (a0:List zj) (xs:List Int):Option jR:=DV a0 xs.length xs
theorem K8 {a0:List zj}:{n m:Nat}->{xs:List Int}->xs.length<=n->n<=m->DV a0 m xs=DV a0 n xs
 | n,m,[],_,_=>by cases n<;>cases m<;>rfl
 | 0,_,_::_,h,_=>by simp at h
 | n+1,0,_::_,_,h=>by omega
 | n+1,m+1,x::xs,h,hm=>by
  unfold DV;cases hk:sk a0 1 (x::xs) with
  | none=>rfl
  | some k =>
   have:=V2 hk;simp only;rw[K8 (n:=n) (m:=m) (by simp at h ⊢; omega) (by omega)]
theorem WW (a0:List zj):WG a0 []=some []:=rfl
theorem sP {a0:List zj} {xs:List Int} (h:xs≠[]):WG a0 xs=match sk a0 1 xs with
  | none=>none
  | some k=>(WG a0 (xs.drop k)).map (xs.take k :: ·):=by
 cases xs with
 | nil=>exact absurd rfl h
 | cons x xs =>
  show DV a0 (xs.length+1) (x::xs)=_;unfold DV;cases hk:sk a0 1 (x::xs) with
  | none=>rfl
  | some k =>
   have:=V2 hk;simp only;unfold WG;rw[K8 (n:=((x::xs).drop k).length) (m:=xs.length) (aE _) (by simp; omega)]
theorem Nl {a0:List zj}:{xs:List Int}->{n k:Nat}->sk a0 n xs=some k->sk a0 n (xs.take k)=some k
 | [],0,k,h=>by simp [sk] at h; subst h; rfl
 | [],n+1,k,h=>by simp [sk] at h
 | x::xs,0,k,h=>by simp [sk] at h; subst h; rfl
 | x::xs,n+1,k,h=>by
  unfold sk at h;cases ha:uk a0 x with
  | none=>rw[ha] at h; cases h
  | some m =>
   rw[ha] at h;simp only[bg] at h;obtain⟨j,hj,rfl⟩:=h;rw[ew];unfold sk;rw[ha];simp only[Nl hj,bD]
theorem Z8 {a0:List zj}:∀(n:Nat) (xs:List Int) (ps:List jI),xs.length<=n->WG a0 xs=some ps->ps.flatten=xs∧∀ p∈ps,p≠[]∧sk a0 1 p=some p.length:=by
 intro n
 induction n with
 | zero =>
  intro xs ps h hc;obtain rfl:xs=[]:=cM.1 (by omega)
  injection hc with hc; subst hc;exact ⟨rfl,fun p hp=>by cases hp⟩
 | succ n ih =>
  intro xs ps h hc;by_cases hx:xs=[]
  ·subst hx;injection hc with hc; subst hc;exact ⟨rfl,fun p hp=>by cases hp⟩
  ·rw[sP hx] at hc;cases hk:sk a0 1 xs with
   | none=>rw[hk] at hc; cases hc
   | some k =>
    rw[hk] at hc;simp only[bg] at hc;obtain⟨qs,hq,rfl⟩:=hc;have hle:=V2 hk;obtain⟨h1,h2⟩:=ih _ qs (by simp; omega) hq
    refine ⟨by rw[eJ,h1,List.take_append_drop],fun p hp => ?_⟩
    rcases aB.1 hp with rfl | hp
    ·have hl:(xs.take k).length=k:=by simp; omega
     exact ⟨fun e=>by rw[e] at hl; simp at hl; omega,by rw[hl]; exact Nl hk⟩
    ·exact h2 p hp
def kw:Nat->List jI->List Int
 | _,[]=>[]
 | i,p::ps=>(i:Int)::kw (i+p.length) ps
theorem Yx:(i:Nat)->(ps:List jI)->(kw i ps).length=ps.length
 | _,[]=>rfl
 | i,p::ps=>by simp [kw,Yx (i+p.length) ps]
theorem zp {n b:Nat} (h:n*b<=140737488351232):yM n b=true:=by simpa[yM] using h
theorem GZ {a0:List zj} (h:SignOk a0) (a1:List Int) (hl:a1.length<=1099511627776):∀(m i:Nat) (acc:List Int) (k:Nat),a1.length - i=m->i<=a1.length->acc.length<=i->m<k ->
  lp v6 k (a0,a1,(i:Int),acc)=some (match WG a0 (a1.drop i) with
   | some ps=>(true,acc++kw i ps)
   | none=>(false,[])):=by
 intro m
 induction m using cQ with
 | _ m ih =>
  intro i acc k hm hi hacc hk;obtain⟨k,rfl⟩:∃ k',k=k'+1:=⟨k - 1,by omega⟩
  rw[zr];have key:=fun j acc' (h1:i<j) h2 h3=>ih (a1.length - j) (by omega) j acc' k rfl h2 h3 (by omega)
  generalize lp v6 k=rec at key ⊢;unfold v6;by_cases he:i=a1.length
  ·subst he;simp [WW,kw]
  ·have hlt:i<a1.length:=by omega
   have hne:a1.drop i≠[]:=by simp; omega
   simp only[show (((i:Int))==((aa a1:Nat):Int))=false from by simp; omega,cond_false,kn h a1 hl,af,sP hne]
   cases hs:sk a0 1 (a1.drop i) with
   | none=>rfl
   | some j =>
    have hj:=V2 hs;rw[bH] at hj;simp only[aA,cond_false,aZ,zp (show (acc.length+1)*8<=140737488351232 by omega),cond_true]
    rw[key (i+j) _ (by omega) (by omega) (by simp; omega),cm]
    cases WG a0 (a1.drop (i+j)) with
    | none=>rfl
    | some ps =>
     simp only[bD,kw];rw[List.length_take,bH,dA (by omega)]
     simp
def wX (a0:List zj) (a1:List Int):Option jR:=cond (uT a0&&decide (a1.length<=48)) (WG a0 a1) none
theorem sn (a0:List zj) (a1:List Int):tZ a0 a1=some (match wX a0 a1 with
  | some ps=>(true,kw 0 ps)
  | none=>(false,[])):=by
 unfold tZ wX;rw[QB,af];cases hs:uT a0 with
 | false=>rfl
 | true =>
  have h:=tz hs;by_cases hl:a1.length<=48
  ·simp only[aA,cond_false,decide_eq_false (show ¬(((aa a1:Nat):Int)>48) by omega),decide_eq_true hl,dU,cond_true]
   by_cases h0:a1=[]
   ·subst h0; rfl
   ·have hpos:0<a1.length:=eu.2 h0;simp only[show ((0:Int)==((aa a1:Nat):Int))=false from by simp; omega,cond_false]
    have e:=kn h a1 (by omega) 0
    rw[show ((0:Nat):Int)=0 from rfl] at e
    rw[e,af,bV,sP h0];cases hk:sk a0 1 a1 with
    | none=>rfl
    | some j =>
     have hj:=V2 hk;simp only[aA,cond_false,aN,aZ,zp (show 1*8<=140737488351232 by omega),cond_true]
     rw[GZ h a1 (by omega) (a1.length - j) j [0] ze rfl (by omega) (by simp; omega) (by unfold ze; omega)]
     cases WG a0 (a1.drop j) with
     | none=>rfl
     | some ps=>simp [kw,dA hj.1]
  ·simp only[aA,cond_false,decide_eq_true (show (((aa a1:Nat):Int)>48) by omega),decide_eq_false hl,co,cond_true]
def qL (a0:List zj) (xs:List Int):Bool:=match xs with
 | []=>false
 | x::r=>decide (0<=x)&&(match a0[x.toNat]? with
  | none=>false
  | some e=>(e.2.1==0)&&(match wX a0 r with
   | none=>false
   | some ps=>((ps.length:Nat):Int)==e.2.2.1))
theorem u9 {α:Type} (x:α) (r:List α):vU (x::r) (some 1) none=some r:=by
 show slc (x::r) 1 ((x::r).length:Int)=some r;unfold slc;simp only[aj];rw[decide_eq_true (show (0:Int)<=1 by omega),decide_eq_true (show (1:Int)<=((r.length+1:Nat):Int) by omega),decide_eq_true (show ((r.length+1:Nat):Int)<=((r.length+1:Nat):Int) by omega)]
 simp
theorem ua (a0:List zj) (xs:List Int):wV a0 xs=some (qL a0 xs):=by
 unfold wV qL;cases xs with
 | nil=>rfl
 | cons x r =>
  simp only[show ((((x::r).length:Nat):Int)==0)=false from by simp; omega,cond_false,qm,aC,af]
  by_cases h0:x<0
  ·rw[decide_eq_true h0,decide_eq_false (show ¬(0<=x) by omega)]; rfl
  ·rw[decide_eq_false h0,decide_eq_true (show 0<=x by omega),cond_false,aY]
   by_cases h1:x≥((aa a0:Nat):Int)
   ·rw[decide_eq_true h1,aP (by omega)]; rfl
   ·obtain⟨e,he1,he2,he3⟩:=WH (xs:=a0) (i:=x) (by omega) (by omega)
    simp only[decide_eq_false h1,cond_false,he1,he3,af,bne];cases hk:(e.2.1==0) with
    | false=>rfl
    | true =>
     simp only[aA,cond_false,u9,af,sn,aY];cases wX a0 r with
     | none=>rfl
     | some ps=>simp [Yx]
def zo (xs:List jI):Nat:=(xs.map aa).sum
def sU (a0:List zj) (ls:List zd):Bool:=ls.all fun l=>qL a0 l.2
theorem v9 {a0:List zj} {xs:List Int} (h:qL a0 xs=true):xs.length<=49:=by
 unfold qL at h;cases xs with
 | nil=>cases h
 | cons x r =>
  simp only[aw] at h;cases he:a0[x.toNat]? with
  | none=>rw[he] at h; simp at h
  | some e =>
   rw[he] at h;simp only[aw] at h;cases hb:wX a0 r with
   | none=>rw[hb] at h; simp at h
   | some ps =>
    unfold wX at hb;cases hl:decide (r.length<=48) with
    | false=>rw[hl,co] at hb; cases hb
    | true=>rw[decide_eq_true_eq] at hl; simp; omega
theorem FA (a0:List zj):(es:List zd)->(t:Nat)->t+49*es.length<=1099511627776->ya a0 es (t:Int)=some (cond (sU a0 es) (.inl ((t+zo (es.map (·.2)):Nat):Int)) (.inr (0,false)))
 | [],t,_=>by simp [ya,sU,zo]
 | e::es,t,h=>by
  unfold ya Zm sU;rw[ua,af,af,cd];cases ha:qL a0 e.2 with
  | false=>rfl
  | true =>
   have hl:=v9 ha;rw[aj] at h;have e1:ah .i64 ((t:Int)+((aa e.2:Nat):Int))=((t+e.2.length:Nat):Int):=by rw[zu]<;>omega
   rw[e1];have:=FA a0 es (t+e.2.length) (by omega)
   unfold sU at this;simp only[aA,cond_false,aY,this];rw[show t+e.2.length+zo (es.map (·.2))=t+zo ((e::es).map (·.2)) from by simp [zo]; omega]
theorem kT (a0:List zj) (ls:List zd) (h:ls.length<=1000000000):ub a0 ls=some (cond (sU a0 ls) (((zo (ls.map (·.2)):Nat):Int),true) (0,false)):=by
 unfold ub;rw[jb _ _ _ (by unfold maxLen; omega),show ((0:Int))=((0:Nat):Int) from rfl,FA a0 ls 0 (by omega)]
 cases sU a0 ls with
 | false=>rfl
 | true=>simp [yA]
def ZC (a0:List zj) (xs:List Int):Option Nat:=(wX a0 xs).map aa
theorem j8 (a0:List zj) (xs:List Int):j9 a0 xs=some (match ZC a0 xs with
  | some n=>((n:Int),0)
  | none=>(0,200)):=by
 unfold j9 ZC;rw[sn,af];cases wX a0 xs with
 | none=>rfl
 | some ps=>simp [Yx]
theorem Xf {a0:List zj} {xs:List Int} {n:Nat} (h:ZC a0 xs=some n):xs.length<=48:=by
 unfold ZC wX at h;cases hl:decide (xs.length<=48) with
 | false=>rw[hl,co] at h; cases h
 | true=>rw[decide_eq_true_eq] at hl; exact hl
def jt (a0:List zj) (rs:List jI):Bool:=match rs with
 | []=>true
 | r::rs=>match ZC a0 r with
  | none=>false
  | some n=>rs.all fun q=>ZC a0 q==some n
theorem OO (a0:List zj) (w:Nat):(es:List jI)->(i t:Nat)->t+49*es.length<=1099511627776->zE a0 es (i+1) (t:Int) (w:Int)=some (cond (es.all fun q=>ZC a0 q==some w) (.inl ((t+zo es:Nat):Int)) (.inr (0,false)))
 | [],i,t,_=>by simp [zE,zo]
 | e::es,i,t,h=>by
  unfold zE;rw[j8,af,cd];rw[show ((((i+1:Nat):Int))==0)=false from by simp; omega,cond_false]
  cases hr:ZC a0 e with
  | none=>rfl
  | some n =>
   have hl:=Xf hr;rw[aj] at h;have e1:ah .i64 ((t:Int)+((aa e:Nat):Int))=((t+e.length:Nat):Int):=by rw[zu]<;>omega
   have:=OO a0 w es (i+1) (t+e.length) (by omega)
   simp only[e1,this];by_cases hn:n=w
   ·subst hn;simp [zo,bI]
   ·have h1:((n:Int) != (w:Int))=true:=by simp; omega
    have h2:(some n==some w)=false:=by simpa using hn
    simp [h1,h2]
theorem X2 (a0:List zj) (rs:List jI) (h:rs.length<=1000000000):su a0 rs=some (cond (jt a0 rs) (((zo rs:Nat):Int),true) (0,false)):=by
 unfold su;rw[jj _ _ _ _ (by unfold maxLen; omega)]
 cases rs with
 | nil=>rfl
 | cons r rs =>
  unfold zE jt;rw[j8,af];rw[show ((((0:Nat):Int))==0)=true from rfl,cond_true]
  dsimp only;cases hr:ZC a0 r with
  | none=>rfl
  | some n =>
   have hl:=Xf hr;rw[aj] at h;have e1:ah .i64 (0+((aa r:Nat):Int))=((r.length:Nat):Int):=by rw[zu]<;>omega
   have:=OO a0 n rs 0 r.length (by omega)
   simp only[e1,this];cases hb:rs.all fun q=>ZC a0 q==some n with
   | false=>simp [yA]
   | true=>simp [yA,zo]
def tJ (a0:List zj) (a1:List zd) (a2:List jI) (a3:List zd):Bool :=
 uT a0&&decide (a1.length<=5)&&decide (a2.length<=3)&&decide (a3.length<=3)&&sU a0 a1&&jt a0 a2&&sU a0 a3&&decide (zo (a1.map (·.2))+zo a2+zo (a3.map (·.2))<=240)
theorem QU {a0:List zj}:(ls:List zd)->sU a0 ls=true->zo (ls.map (·.2))<=49*ls.length
 | [],_=>by simp [zo]
 | l::ls,h=>by
  unfold sU at h;rw[cd,aw] at h;have h1:=v9 h.1;have h2:=QU ls h.2;unfold zo at h2 ⊢;simp only[aJ,cE,aj];omega
theorem AY {a0:List zj} (rs:List jI) (h:jt a0 rs=true):zo rs<=49*rs.length:=by
 cases rs with
 | nil=>simp [zo]
 | cons r rs =>
  unfold jt at h;dsimp only at h;cases hr:ZC a0 r with
  | none=>rw[hr] at h; cases h
  | some n =>
   rw[hr] at h;have h1:=Xf hr;have h2:∀ qs:List jI,(qs.all fun q=>ZC a0 q==some n)=true->zo qs<=49*qs.length:=by
    intro qs
    induction qs with
    | nil=>intro _; simp [zo]
    | cons q qs ih =>
     intro hq;rw[cd,aw] at hq;have h3:=ih hq.2;have h4:=Xf (by simpa using hq.1)
     unfold zo at h3 ⊢;simp only[aJ,cE,aj];omega
   have h5:=h2 rs h;unfold zo at h5 ⊢;simp only[aJ,cE,aj];omega
theorem zX (a0:List zj) (a1:List zd) (a2:List jI) (a3:List zd):wG a0 a1 a2 a3=some (tJ a0 a1 a2 a3):=by
 unfold wG tJ;rw[QB,af];cases uT a0 with
 | false=>rfl
 | true =>
  by_cases h1:a1.length<=5
  ·by_cases h2:a2.length<=3
   ·by_cases h3:a3.length<=3
    ·simp only[aA,cond_false,decide_eq_false (show ¬(((aa a1:Nat):Int)>5) by omega),decide_eq_false (show ¬(((aa a2:Nat):Int)>3) by omega),decide_eq_false (show ¬(((aa a3:Nat):Int)>3) by omega),
      decide_eq_true h1,decide_eq_true h2,decide_eq_true h3,kT a0 a1 (by omega),X2 a0 a2 (by omega),kT a0 a3 (by omega),af,aY]
     cases hb1:sU a0 a1 with
     | false=>rfl
     | true =>
      cases hb2:jt a0 a2 with
      | false=>rfl
      | true =>
       cases hb3:sU a0 a3 with
       | false=>rfl
       | true =>
        have s1:=QU a1 hb1;have s2:=AY a2 hb2;have s3:=QU a3 hb3;simp only[cond_true,aY];have e1:ah .i64 (((zo (a1.map (·.2)):Nat):Int)+((zo a2:Nat):Int))=((zo (a1.map (·.2))+zo a2:Nat):Int):=by rw[zu]<;>omega
        have e2:ah .i64 (((zo (a1.map (·.2))+zo a2:Nat):Int)+((zo (a3.map (·.2)):Nat):Int))=((zo (a1.map (·.2))+zo a2+zo (a3.map (·.2)):Nat):Int):=by rw[zu]<;>omega
        simp only[e1,e2,au,decide_eq_decide];omega
    ·simp only[aA,cond_false,decide_eq_false (show ¬(((aa a1:Nat):Int)>5) by omega),decide_eq_false (show ¬(((aa a2:Nat):Int)>3) by omega),decide_eq_true (show (((aa a3:Nat):Int)>3) by omega),decide_eq_false h3,cond_true,co,bn]
   ·simp only[aA,cond_false,decide_eq_false (show ¬(((aa a1:Nat):Int)>5) by omega),decide_eq_true (show (((aa a2:Nat):Int)>3) by omega),decide_eq_false h2,cond_true,co,bn]
  ·simp only[aA,cond_false,decide_eq_true (show (((aa a1:Nat):Int)>5) by omega),decide_eq_false h1,cond_true,co,bn]
theorem UP {a0:List zj}:{xs:List Int}->{n m k:Nat}->sk a0 (n+m) xs=some k->∃ j,sk a0 n xs=some j∧j<=k∧sk a0 m (xs.drop j)=some (k - j)
 | xs,0,m,k,h=>⟨0,by cases xs<;>rfl,b6 _,by simpa using h⟩
 | [],n+1,m,k,h=>by rw[show n+1+m=n+m+1 from by omega] at h; simp [sk] at h
 | x::xs,n+1,m,k,h=>by
  rw[show n+1+m=n+m+1 from by omega] at h
  unfold sk at h;cases ha:uk a0 x with
  | none=>rw[ha] at h; cases h
  | some q =>
   rw[ha] at h;simp only[bg] at h;obtain⟨j,hj,rfl⟩:=h;rw[show n+m+q=(n+q)+m from by omega] at hj
   obtain⟨i,h1,h2,h3⟩:=UP hj;refine ⟨i+1,?_,by omega,?_⟩
   ·unfold sk; rw[ha]; simp only[h1,bD]
   ·rw[List.drop_succ_cons,h3]; congr 1; omega
theorem zb7 {a0:List zj}:∀(n:Nat) (xs:List Int),sk a0 n xs=some xs.length->∃ ps,WG a0 xs=some ps∧ps.length=n:=by
 intro n
 induction n with
 | zero =>
  intro xs h;have:xs.length=0:=by cases xs<;>simp [sk] at h ⊢
  obtain rfl:=cM.1 this;exact ⟨[],rfl,rfl⟩
 | succ n ih =>
  intro xs h;rw[cN] at h;obtain⟨j,h1,h2,h3⟩:=UP h;have hj:=V2 h1;have hne:xs≠[]:=fun e=>by subst e; simp at hj; omega
  obtain⟨ps,h4,h5⟩:=ih (xs.drop j) (by rw[h3,bH])
  refine ⟨xs.take j::ps,?_,by simp [h5]⟩
  rw[sP hne,h1];dsimp only;rw[h4]; rfl
theorem DK {a0:List zj} {p:List Int} (h:sk a0 1 p=some p.length):∃ x r q,p=x::r∧uk a0 x=some q∧sk a0 q r=some r.length:=by
 cases p with
 | nil=>simp [sk] at h
 | cons x r =>
  unfold sk at h;cases ha:uk a0 x with
  | none=>rw[ha] at h; cases h
  | some q =>
   rw[ha] at h;simp only[bg,aN] at h;obtain⟨j,hj,he⟩:=h;rw[aj] at he;exact ⟨x,r,q,rfl,ha,by rw[hj]; congr 1; omega⟩
theorem Da {a0:List zj} (h:SignOk a0) (a1:List Int) (hl:a1.length<=1099511627776):∀(m i:Nat) (acc ps:List jI) (k:Nat),a1.length - i=m->i<=a1.length->acc.length<=i->WG a0 (a1.drop i)=some ps->m<k ->
  lp v7 k (a0,a1,(i:Int),acc)=some (.inl (acc++ps)):=by
 intro m
 induction m using cQ with
 | _ m ih =>
  intro i acc ps k hm hi hacc hc hk;obtain⟨k,rfl⟩:∃ k',k=k'+1:=⟨k - 1,by omega⟩
  rw[zr];have key:=fun j acc' ps' (h1:i<j) h2 h3 h4=>ih (a1.length - j) (by omega) j acc' ps' k rfl h2 h3 h4 (by omega)
  generalize lp v7 k=rec at key ⊢;unfold v7;by_cases he:i=a1.length
  ·subst he;rw[eQ,WW] at hc;injection hc with hc; subst hc;simp
  ·have hlt:i<a1.length:=by omega
   have hne:a1.drop i≠[]:=by simp; omega
   rw[sP hne] at hc;simp only[decide_eq_true (show (i:Int)<((aa a1:Nat):Int) by omega),cond_true,kn h a1 hl,af]
   cases hs:sk a0 1 (a1.drop i) with
   | none=>rw[hs] at hc; cases hc
   | some j =>
    rw[hs] at hc;simp only[bg] at hc;obtain⟨qs,hq,rfl⟩:=hc;have hj:=V2 hs;rw[bH] at hj;have e1:vU a1 (some (i:Int)) (some ((i+j:Nat):Int))=some ((a1.drop i).take j):=by
     show slc a1 _ _=_;unfold slc;rw[decide_eq_true (show (0:Int)<=(i:Int) by omega),decide_eq_true (show (i:Int)<=((i+j:Nat):Int) by omega),decide_eq_true (show ((i+j:Nat):Int)<=((a1.length:Nat):Int) by omega)]
     simp only[cond_true,bq,au];rw[ez]; congr 1; omega
    simp only[aA,cond_false,e1,af,aZ,zp (show (acc.length+1)*24<=140737488351232 by omega),cond_true]
    rw[cm] at hq;rw[key (i+j) _ qs (by omega) (by omega) (by simp; omega) hq]
    simp
theorem vn {a0:List zj} (h:SignOk a0) {a1:List Int} (hl:a1.length<=1099511627776) {ps:List jI} (hc:WG a0 a1=some ps):wN a0 a1=some ps:=by
 unfold wN;have:=Da h a1 hl a1.length 0 [] ps ze rfl (b6 _) (b6 _) hc (by unfold ze; omega)
 rw[show ((0:Nat):Int)=0 from rfl] at this
 rw[this];rfl
theorem YJ {a0:List zj} {xs:List Int} {ps:List jI} (h:WG a0 xs=some ps):ps.length<=xs.length:=by
 obtain⟨h1,h2⟩:=Z8 xs.length xs ps (aE _) h;have h3:∀ qs:List jI,(∀ p∈qs,p≠[])->qs.length<=qs.flatten.length:=by
  intro qs
  induction qs with
  | nil=>intro _; simp
  | cons q qs ih =>
   intro hq;have:=ih fun p hp=>hq p (by simp [hp])
   have h4:=eu.2 (hq q (by simp))
   simp only[eJ,ax,aj];omega
 have:=h3 ps fun p hp=>(h2 p hp).1;rw[h1] at this;exact this
theorem Io {a0:List zj} {x:Int} {q:Nat} (h:uk a0 x=some q) (hx:x<0) : -24<=x∧q=0:=by
 unfold uk at h;rw[decide_eq_true hx,cond_true] at h;cases hd:decide (-24<=x) with
 | false=>rw[hd] at h; cases h
 | true=>rw[hd] at h; injection h with h; exact ⟨of_decide_eq_true hd,h.symm⟩
theorem I2 {a0:List zj} {x:Int} {q:Nat} (h:uk a0 x=some q) (hx:¬ x<0):∃ e,gx a0 x=some e∧a0[x.toNat]? = some e∧e.2.1≠0∧q=e.2.2.1.toNat:=by
 unfold uk at h;rw[decide_eq_false hx,cond_false] at h;cases he:a0[x.toNat]? with
 | none=>rw[he] at h; cases h
 | some e =>
  rw[he] at h;have hg:gx a0 x=some e:=by
   unfold gx;rw[decide_eq_true (show 0<=x by omega),cond_true,he]
  dsimp only at h;cases hz:(e.2.1==0) with
  | true=>rw[hz] at h; cases h
  | false=>rw[hz] at h; injection h with h; exact ⟨e,hg,rfl,by simpa using hz,h.symm⟩
theorem YE {a0:List zj} {xs:List Int} (h:qL a0 xs=true):∃ x r e ps,xs=x::r∧0<=x∧a0[x.toNat]? = some e∧gx a0 x=some e∧e.2.1=0∧uT a0=true∧r.length<=48∧WG a0 r=some ps∧((ps.length:Nat):Int)=e.2.2.1:=by
 unfold qL at h;cases xs with
 | nil=>cases h
 | cons x r =>
  simp only[aw,decide_eq_true_eq] at h;obtain⟨h0,h⟩:=h;cases he:a0[x.toNat]? with
  | none=>rw[he] at h; cases h
  | some e =>
   rw[he] at h;simp only[aw] at h;obtain⟨h1,h⟩:=h;cases hb:wX a0 r with
   | none=>rw[hb] at h; cases h
   | some ps =>
    rw[hb] at h;unfold wX at hb;cases hs:uT a0 with
    | false=>rw[hs] at hb; cases hb
    | true =>
     cases hl:decide (r.length<=48) with
     | false=>rw[hs,hl] at hb; cases hb
     | true =>
      rw[hs,hl] at hb;refine ⟨x,r,e,ps,rfl,h0,he,?_,by simpa using h1,rfl,of_decide_eq_true hl,hb,by simpa using h⟩
      unfold gx;rw[decide_eq_true h0,cond_true,he]
theorem Ve {a0:List zj} {r:List Int} {n:Nat} (h:ZC a0 r=some n):∃ ps,WG a0 r=some ps∧ps.length=n∧r.length<=48∧uT a0=true:=by
 have hl:=Xf h;unfold ZC wX at h;cases hs:uT a0 with
 | false=>rw[hs] at h; cases h
 | true =>
  rw[hs,decide_eq_true hl] at h;simp only[dU,cond_true,bg] at h;obtain⟨ps,h1,h2⟩:=h;exact ⟨ps,h1,h2,hl,rfl⟩
theorem Xs {a0:List zj} {rs:List jI} (h:jt a0 rs=true):∃ n,∀ r∈rs,ZC a0 r=some n:=by
 cases rs with
 | nil=>exact ⟨0,fun r hr=>by cases hr⟩
 | cons r rs =>
  unfold jt at h;dsimp only at h;cases hr:ZC a0 r with
  | none=>rw[hr] at h; cases h
  | some n =>
   rw[hr] at h;refine ⟨n,fun q hq => ?_⟩;rcases aB.1 hq with rfl | hq
   ·exact hr
   ·simpa using aF.1 h q hq
theorem zF {a0:List zj} {a1:List zd} {a2:List jI} {a3:List zd} (h:tJ a0 a1 a2 a3=true):uT a0=true∧a1.length<=5∧a2.length<=3∧a3.length<=3∧sU a0 a1=true∧jt a0 a2=true∧sU a0 a3=true∧zo (a1.map (·.2))+zo a2+zo (a3.map (·.2))<=240:=by
 unfold tJ at h;simp only[aw,decide_eq_true_eq] at h;exact ⟨h.1.1.1.1.1.1.1,h.1.1.1.1.1.1.2,h.1.1.1.1.1.2,h.1.1.1.1.2,h.1.1.1.2,h.1.1.2,h.1.2,h.2⟩
theorem zbL {a0:List zj} {a1:List zd} {a2:List jI} {a3:List zd} (h1:uT a0=true) (h2:a1.length<=5) (h3:a2.length<=3) (h4:a3.length<=3) (h5:sU a0 a1=true) (h6:jt a0 a2=true) (h7:sU a0 a3=true)
  (h8:zo (a1.map (·.2))+zo a2+zo (a3.map (·.2))<=240):tJ a0 a1 a2 a3=true:=by
 unfold tJ;simp only[h1,decide_eq_true h2,decide_eq_true h3,decide_eq_true h4,h5,h6,h7,decide_eq_true h8,Bool.and_self]
def bad (t:UInt8):Bool:=t==111||t==114||t==105||t==102||t==38
theorem zdo {α:Type} (s:List α) {i j:Nat} (hij:i<=j) (h:j<=s.length):vU s (some (i:Int)) (some (j:Int))=some ((s.drop i).take (j - i)):=by
 show slc s _ _=_;unfold slc;rw[decide_eq_true (show (0:Int)<=(i:Int) by omega),decide_eq_true (show (i:Int)<=(j:Int) by omega),decide_eq_true (show (j:Int)<=((s.length:Nat):Int) by omega)]
 simp only[cond_true,bq,au];rw[ez]
def wS (a0:jI):Option jI :=
 cond (yM (aa ([]:List Int)+aa a0) 8)
 (some (([]:List Int)++a0))
 (none)
def xS (rec:(jQ×Int×jQ)->Option jQ) (x:(jQ×Int×jQ)):Option jQ :=
 cond (decide (x.2.1<((aa x.1:Nat):Int)))
 ((gx x.1 x.2.1).bind fun e7 =>
  (gx x.1 x.2.1).bind fun e8 =>
  (wS e8.2).bind fun r9 =>
  cond (yM (aa x.2.2+aa ([(e7.1,r9)]:List zd)) 32)
  (rec (x.1,(ah .i64 (x.2.1+1)),(x.2.2++([(e7.1,r9)]:List zd))))
  (none))
 (some x.2.2)
def tn (a0:jQ):Option jQ :=
 ((lp xS ze) (a0,0,([]:jQ))).bind fun r11 =>
 some r11
def xN (rec:(jR×Int×jR)->Option jR) (x:(jR×Int×jR)):Option jR :=
 cond (decide (x.2.1<((aa x.1:Nat):Int)))
 ((gx x.1 x.2.1).bind fun e5 =>
  (wS e5).bind fun r6 =>
  cond (yM (aa x.2.2+aa ([r6]:List jI)) 24)
  (rec (x.1,(ah .i64 (x.2.1+1)),(x.2.2++([r6]:List jI))))
  (none))
 (some x.2.2)
def rj (a0:jR):Option jR :=
 ((lp xN ze) (a0,0,([]:jR))).bind fun r8 =>
 some r8
def qZ (a0:jQ) (a1:jR) (a2:jQ):Option (jQ×jR×jQ) :=
 (tn a0).bind fun r4 =>
 (rj a1).bind fun r5 =>
 (tn a2).bind fun r6 =>
 some (r4,r5,r6)
def jq (a0:Int):Option Bool :=
 cond (decide (a0≥97))
 (some (decide (a0<=122)))
 (some false)
def vq (rec:(Int×Str×Int×Int×Int)->Option (Unit⊕Bool)) (x:(Int×Str×Int×Int×Int)):Option (Unit⊕Bool) :=
 cond (decide (x.1<((aa x.2.1:Nat):Int)))
 ((gx x.2.1 x.1).bind fun c7 =>
  (jq ((bG c7:Nat):Int)).bind fun r8 =>
  cond (!r8)
  ((gx x.2.1 x.1).bind fun c9 =>
   cond (decide (((bG c9:Nat):Int)<48))
   (some (aG false))
   ((gx x.2.1 x.1).bind fun c10 =>
    cond (decide (((bG c10:Nat):Int)>57))
    (some (aG false))
    (rec ((ah .i64 (x.1+1)),x.2.1,x.2.2.1,x.2.2.2.1,x.2.2.2.2))))
  (rec ((ah .i64 (x.1+1)),x.2.1,x.2.2.1,x.2.2.2.1,x.2.2.2.2)))
 (some (aU ()))
def kf (a0:Str) (a1:Int) (a2:Int) (a3:Int):Option Bool :=
 cond (decide (((aa a0:Nat):Int)<1))
 (some false)
 (cond (decide (((aa a0:Nat):Int)>8))
  (some false)
  ((gx a0 0).bind fun c14 =>
   (jq ((bG c14:Nat):Int)).bind fun r15 =>
   cond (!r15)
   (some false)
   (((lp vq ze) (0,a0,a1,a2,a3)).bind fun r16 =>
    yA r16
    (fun _z17=>cond (decide (a1≥0))
     (cond (decide (a1<=2))
      (cond (decide (a2≥0))
       (cond (decide (a2<=3))
        (cond (decide (a3≥1))
         (some (decide (a3<=20)))
         (some false))
        (some false))
       (some false))
      (some false))
     (some false))
    (fun z18=>some z18))))
def uB (rec:(jS×Str×Int)->Option (Unit⊕Int)) (x:(jS×Str×Int)):Option (Unit⊕Int) :=
 cond (decide (x.2.2<((aa x.1:Nat):Int)))
 ((gx x.1 x.2.2).bind fun e2 =>
  cond (e2.1==x.2.1)
  (some (aG x.2.2))
  (rec (x.1,x.2.1,(ah .i64 (x.2.2+1)))))
 (some (aU ()))
def Yo (a0:jS) (a1:Str):Option Int :=
 ((lp uB ze) (a0,a1,0)).bind fun r6 =>
 yA r6
 (fun _z7=>some (-1))
 (fun z8=>some z8)
def xy (rec:(jS×Int)->Option (Unit⊕Bool)) (x:(jS×Int)):Option (Unit⊕Bool) :=
 cond (decide (x.2<((aa x.1:Nat):Int)))
 ((gx x.1 x.2).bind fun e6 =>
  (kf e6.1 e6.2.1 e6.2.2.1 e6.2.2.2).bind fun r7 =>
  cond (!r7)
  (some (aG false))
  ((gx x.1 x.2).bind fun e8 =>
   (Yo x.1 e8.1).bind fun r9 =>
   cond (r9 != x.2)
   (some (aG false))
   (rec (x.1,(ah .i64 (x.2+1))))))
 (some (aU ()))
def sI (a0:jS):Option Bool :=
 cond (decide (((aa a0:Nat):Int)<1))
 (some false)
 (cond (decide (((aa a0:Nat):Int)>20))
  (some false)
  ((gx a0 0).bind fun e13 =>
   cond (!(cond (eqS e13.1 ([61]:Str)) (cond (eqI e13.2.1 0) (cond (eqI e13.2.2.1 2) (cond (eqI e13.2.2.2 1) true false) false) false) false))
   (some false)
   (((lp xy ze) (a0,1)).bind fun r14 =>
    yA r14
    (fun _z15=>some true)
    (fun z16=>some z16))))
def un (rec:(jS×jI×Int×Int)->Option (Int⊕Int)) (x:(jS×jI×Int×Int)):Option (Int⊕Int) :=
 cond (decide (x.2.2.1>0))
 (cond (decide (x.2.2.2≥((aa x.2.1:Nat):Int)))
  (some (aG (-1)))
  ((gx x.2.1 x.2.2.2).bind fun e8 =>
   cond (decide (e8<(-24)))
   (some (aG (-1)))
   ((gx x.2.1 x.2.2.2).bind fun e9 =>
    cond (decide (e9≥((aa x.1:Nat):Int)))
    (some (aG (-1)))
    ((gx x.2.1 x.2.2.2).bind fun e10 =>
     cond (decide (e10≥0))
     ((gx x.2.1 x.2.2.2).bind fun e11 =>
      (gx x.1 e11).bind fun e12 =>
      cond (e12.2.1==0)
      (some (aG (-1)))
      ((gx x.2.1 x.2.2.2).bind fun e13 =>
       (gx x.1 e13).bind fun e14 =>
       rec (x.1,x.2.1,(ah .i64 ((ah .i64 (x.2.2.1 - 1))+e14.2.2.1)),(ah .i64 (x.2.2.2+1)))))
     (rec (x.1,x.2.1,(ah .i64 (x.2.2.1 - 1)),(ah .i64 (x.2.2.2+1))))))))
 (some (aU x.2.2.2))
def jG (a0:jS) (a1:jI) (a2:Int):Option Int :=
 ((lp un ze) (a0,a1,1,a2)).bind fun r18 =>
 yA r18
 (fun z19=>some z19)
 (fun z20=>some z20)
def tw (rec:(jS×jI×Int×Int)->Option (Int⊕Int)) (x:(jS×jI×Int×Int)):Option (Int⊕Int) :=
 cond (decide (x.2.2.2<((aa x.2.1:Nat):Int)))
 ((jG x.1 x.2.1 x.2.2.2).bind fun r2 =>
  cond (decide (r2<0))
  (some (aG (-1)))
  (rec (x.1,x.2.1,(ah .i64 (x.2.2.1+1)),r2)))
 (some (aU x.2.2.1))
def uG (a0:jS) (a1:jI):Option Int :=
 cond (decide (((aa a1:Nat):Int)>48))
 (some (-1))
 (((lp tw ze) (a0,a1,0,0)).bind fun r6 =>
  yA r6
  (fun z7=>some z7)
  (fun z8=>some z8))
def j6 (a0:jS) (a1:jI):Option Bool :=
 cond (decide (((aa a1:Nat):Int)>0))
 ((gx a1 0).bind fun e9 =>
  cond (decide (e9≥0))
  ((gx a1 0).bind fun e10 =>
   cond (decide (e10<((aa a0:Nat):Int)))
   ((gx a1 0).bind fun e11 =>
    (gx a0 e11).bind fun e12 =>
    cond (e12.2.1==0)
    ((vU a1 (some 1) none).bind fun y13 =>
     (uG a0 y13).bind fun r14 =>
     (gx a1 0).bind fun e15 =>
     (gx a0 e15).bind fun e16 =>
     some (r14==e16.2.2.1))
    (some false))
   (some false))
  (some false))
 (some false)
def ut (a0:jS) (_a1:Bool) (a2:jI):Option Bool :=
 (sI a0).bind fun r3 =>
 cond r3
 ((j6 a0 a2).bind fun r4 =>
  some r4)
 (some false)
def uD (rec:(Int×jQ×jR×jQ×jR)->Option jR) (x:(Int×jQ×jR×jQ×jR)):Option jR :=
 cond (decide (x.1<((aa x.2.2.2.1:Nat):Int)))
 ((gx x.2.2.2.1 x.1).bind fun e9 =>
  cond (yM (aa x.2.2.2.2+aa ([e9.2]:List jI)) 24)
  (rec ((ah .i64 (x.1+1)),x.2.1,x.2.2.1,x.2.2.2.1,(x.2.2.2.2++([e9.2]:List jI))))
  (none))
 (some x.2.2.2.2)
def uL (rec:(Int×jQ×jR×jQ×jR)->Option jR) (x:(Int×jQ×jR×jQ×jR)):Option jR :=
 cond (decide (x.1<((aa x.2.2.1:Nat):Int)))
 ((gx x.2.2.1 x.1).bind fun e6 =>
  cond (yM (aa x.2.2.2.2+aa ([e6]:List jI)) 24)
  (rec ((ah .i64 (x.1+1)),x.2.1,x.2.2.1,x.2.2.2.1,(x.2.2.2.2++([e6]:List jI))))
  (none))
 (some x.2.2.2.2)
def uQ (rec:(Int×jQ×jR×jQ×jR)->Option jR) (x:(Int×jQ×jR×jQ×jR)):Option jR :=
 cond (decide (x.1<((aa x.2.1:Nat):Int)))
 ((gx x.2.1 x.1).bind fun e3 =>
  cond (yM (aa x.2.2.2.2+aa ([e3.2]:List jI)) 24)
  (rec ((ah .i64 (x.1+1)),x.2.1,x.2.2.1,x.2.2.2.1,(x.2.2.2.2++([e3.2]:List jI))))
  (none))
 (some x.2.2.2.2)
def kV (a0:jQ) (a1:jR) (a2:jQ):Option jR :=
 ((lp uQ ze) (0,a0,a1,a2,([]:jR))).bind fun r11 =>
 ((lp uL ze) (0,a0,a1,a2,r11)).bind fun r12 =>
 ((lp uD ze) (0,a0,a1,a2,r12)).bind fun r13 =>
 some r13
def si (rec:(jR×Int×Int)->Option Int) (x:(jR×Int×Int)):Option Int :=
 cond (decide (x.2.2<((aa x.1:Nat):Int)))
 ((gx x.1 x.2.2).bind fun e26 =>
  rec (x.1,(ah .i64 (x.2.1+((aa e26:Nat):Int))),(ah .i64 (x.2.2+1))))
 (some x.2.1)
def tV (rec:(jS×Int×jQ×jR×jQ)->Option (Unit⊕Bool)) (x:(jS×Int×jQ×jR×jQ)):Option (Unit⊕Bool) :=
 cond (decide (x.2.1<((aa x.2.2.2.1:Nat):Int)))
 ((gx x.2.2.2.1 x.2.1).bind fun e18 =>
  (uG x.1 e18).bind fun r19 =>
  cond (decide (r19<0))
  (some (aG false))
  ((gx x.2.2.2.1 0).bind fun e20 =>
   (uG x.1 e20).bind fun r21 =>
   cond (r19 != r21)
   (some (aG false))
   (rec (x.1,(ah .i64 (x.2.1+1)),x.2.2.1,x.2.2.2.1,x.2.2.2.2))))
 (some (aU ()))
def tU (rec:(jS×Int×jQ×jR×jQ)->Option (Unit⊕Bool)) (x:(jS×Int×jQ×jR×jQ)):Option (Unit⊕Bool) :=
 cond (decide (x.2.1<((aa x.2.2.2.2:Nat):Int)))
 ((gx x.2.2.2.2 x.2.1).bind fun e10 =>
  (ut x.1 e10.1 e10.2).bind fun r11 =>
  cond (!r11)
  (some (aG false))
  (rec (x.1,(ah .i64 (x.2.1+1)),x.2.2.1,x.2.2.2.1,x.2.2.2.2)))
 (some (aU ()))
def tP (rec:(jS×Int×jQ×jR×jQ)->Option (Unit⊕Bool)) (x:(jS×Int×jQ×jR×jQ)):Option (Unit⊕Bool) :=
 cond (decide (x.2.1<((aa x.2.2.1:Nat):Int)))
 ((gx x.2.2.1 x.2.1).bind fun e4 =>
  (ut x.1 e4.1 e4.2).bind fun r5 =>
  cond (!r5)
  (some (aG false))
  (rec (x.1,(ah .i64 (x.2.1+1)),x.2.2.1,x.2.2.2.1,x.2.2.2.2)))
 (some (aU ()))
def kp (a0:jS) (a1:jQ) (a2:jR) (a3:jQ):Option Bool :=
 (sI a0).bind fun r31 =>
 cond (!r31)
 (some false)
 (cond (decide (((aa a1:Nat):Int)>5))
  (some false)
  (cond (decide (((aa a3:Nat):Int)>3))
   (some false)
   (cond (decide (((aa a2:Nat):Int)>3))
    (some false)
    (((lp tP ze) (a0,0,a1,a2,a3)).bind fun r32 =>
     yA r32
     (fun _z33=>((lp tU ze) (a0,0,a1,a2,a3)).bind fun r34 =>
      yA r34
      (fun _z35=>((lp tV ze) (a0,0,a1,a2,a3)).bind fun r36 =>
       yA r36
       (fun _z37=>(kV a1 a2 a3).bind fun r38 =>
        ((lp si ze) (r38,0,0)).bind fun r39 =>
        some (decide (r39<=240)))
       (fun z40=>some z40))
      (fun z41=>some z41))
     (fun z42=>some z42)))))
def wo (rec:(jS×jI×Int×Int)->Option Int) (x:(jS×jI×Int×Int)):Option Int :=
 cond (decide (x.2.2.1>0))
 ((gx x.2.1 x.2.2.2).bind fun e4 =>
  cond (decide (e4≥0))
  ((gx x.2.1 x.2.2.2).bind fun e5 =>
   (gx x.1 e5).bind fun e6 =>
   rec (x.1,x.2.1,(ah .i64 ((ah .i64 (x.2.2.1 - 1))+e6.2.2.1)),(ah .i64 (x.2.2.2+1))))
  (rec (x.1,x.2.1,(ah .i64 (x.2.2.1 - 1)),(ah .i64 (x.2.2.2+1)))))
 (some x.2.2.2)
def jK (a0:jS) (a1:jI) (a2:Int):Option Int :=
 ((lp wo ze) (a0,a1,1,a2)).bind fun r8 =>
 some r8
def tF (rec:(jS×jI×Int×jR)->Option jR) (x:(jS×jI×Int×jR)):Option jR :=
 cond (decide (x.2.2.1<((aa x.2.1:Nat):Int)))
 ((jK x.1 x.2.1 x.2.2.1).bind fun r5 =>
  (vU x.2.1 (some x.2.2.1) (some r5)).bind fun y6 =>
  cond (yM (aa x.2.2.2+aa ([y6]:List jI)) 24)
  (rec (x.1,x.2.1,r5,(x.2.2.2++([y6]:List jI))))
  (none))
 (some x.2.2.2)
def zK (a0:jS) (a1:jI):Option jR :=
 ((lp tF ze) (a0,a1,0,([]:jR))).bind fun r8 =>
 some r8
def yr:List zd->jQ->Option jQ
 | [],s2=>some s2
 | e::es,s2 =>
  (wS e.2).bind fun r9 =>
  cond (yM (aa s2+aa ([(e.1,r9)]:List zd)) 32)
  (yr es (s2++([(e.1,r9)]:List zd)))
  (none)
theorem j3 (s0:jQ) (s2:jQ) (hl:aa s0<=maxLen):lp xS ze (s0,0,s2)=yr s0 s2:=xG xS (fun i s2=>(s0,i,s2)) (fun es i s2=>yr es s2) hl (fun r i s2 h=>by unfold xS yr; simp only[h,cond_false]) (fun r i s2 e es h g w k=>by unfold xS yr; simp only[h,cond_true,g,af,w,k]) s2
def yh:List jI->jR->Option jR
 | [],s2=>some s2
 | e::es,s2 =>
  (wS e).bind fun r6 =>
  cond (yM (aa s2+aa ([r6]:List jI)) 24)
  (yh es (s2++([r6]:List jI)))
  (none)
theorem j5 (s0:jR) (s2:jR) (hl:aa s0<=maxLen):lp xN ze (s0,0,s2)=yh s0 s2:=xG xN (fun i s2=>(s0,i,s2)) (fun es i s2=>yh es s2) hl (fun r i s2 h=>by unfold xN yh; simp only[h,cond_false]) (fun r i s2 e es h g w k=>by unfold xN yh; simp only[h,cond_true,g,af,w,k]) s2
def yw:List UInt8->Option (Unit⊕Bool)
 | []=>some (aU ())
 | e::es =>
  (jq ((bG e:Nat):Int)).bind fun r8 =>
  cond (!r8)
  (cond (decide (((bG e:Nat):Int)<48))
   (some (aG false))
   (cond (decide (((bG e:Nat):Int)>57))
    (some (aG false))
    (yw es)))
  (yw es)
theorem Yf (s1:Str) (s2:Int) (s3:Int) (s4:Int) (hl:aa s1<=maxLen):lp vq ze (0,s1,s2,s3,s4)=yw s1:=tW vq (fun i=>(i,s1,s2,s3,s4)) (fun es i=>yw es) hl (fun r i h=>by unfold vq yw; simp only[h,cond_false]) (fun r i e es h g w k=>by unfold vq yw; simp only[h,cond_true,g,af,w,k])
def xw (s1:Str):List zj->Nat->Option (Unit⊕Int)
 | [],_i=>some (aU ())
 | e::es,i =>
  cond (e.1==s1)
  (some (aG (i:Int)))
  (xw s1 es (i+1))
theorem Qa (s0:jS) (s1:Str) (hl:aa s0<=maxLen):lp uB ze (s0,s1,0)=xw s1 s0 0:=tW uB (fun i=>(s0,s1,i)) (fun es i=>xw s1 es i) hl (fun r i h=>by unfold uB xw; simp only[h,cond_false]) (fun r i e es h g w k=>by unfold uB xw; simp only[h,cond_true,g,af,w,k])
def q4 (s0:jS):List zj->Nat->Option (Unit⊕Bool)
 | [],_i=>some (aU ())
 | e::es,i =>
  (kf e.1 e.2.1 e.2.2.1 e.2.2.2).bind fun r7 =>
  cond (!r7)
  (some (aG false))
  ((Yo s0 e.1).bind fun r9 =>
   cond (r9 != (i:Int))
   (some (aG false))
   (q4 s0 es (i+1)))
theorem Yt (s0:jS) (hl:aa s0<=maxLen):∀(es:List zj) (i:Nat) (k:Nat),s0.drop i=es->es.length<k->lp xy k (s0,(i:Int))=q4 s0 es i:=by
 intro es
 induction es with
 | nil =>
  intro i k h hk;obtain⟨k,rfl⟩:∃ k',k=k'+1:=⟨k - 1,by omega⟩
  rw[zr];generalize lp xy k=rec;unfold xy q4;simp only[vy (qG h),cond_false]
 | cons e es ih =>
  intro i k h hk;obtain⟨k,rfl⟩:∃ k',k=k'+1:=⟨k - 1,by omega⟩
  rw[zr];have hi:=zL h;have hk2:es.length<k:=cg hk;have key:=fun (_:Unit)=>ih (i+1) k (zi h) hk2;generalize lp xy k=rec at key ⊢;unfold xy q4;simp only[uj hi,cond_true,qr,zn h,af,vZ hi hl,key ()]
def qW:List zd->jR->Option jR
 | [],s4=>some s4
 | e::es,s4 =>
  cond (yM (aa s4+aa ([e.2]:List jI)) 24)
  (qW es (s4++([e.2]:List jI)))
  (none)
theorem Qd (s1:jQ) (s2:jR) (s3:jQ) (s4:jR) (hl:aa s3<=maxLen):lp uD ze (0,s1,s2,s3,s4)=qW s3 s4:=xG uD (fun i s4=>(i,s1,s2,s3,s4)) (fun es i s4=>qW es s4) hl (fun r i s4 h=>by unfold uD qW; simp only[h,cond_false]) (fun r i s4 e es h g w k=>by unfold uD qW; simp only[h,cond_true,g,af,w,k]) s4
def qR:List jI->jR->Option jR
 | [],s4=>some s4
 | e::es,s4 =>
  cond (yM (aa s4+aa ([e]:List jI)) 24)
  (qR es (s4++([e]:List jI)))
  (none)
theorem QA (s1:jQ) (s2:jR) (s3:jQ) (s4:jR) (hl:aa s2<=maxLen):lp uL ze (0,s1,s2,s3,s4)=qR s2 s4:=xG uL (fun i s4=>(i,s1,s2,s3,s4)) (fun es i s4=>qR es s4) hl (fun r i s4 h=>by unfold uL qR; simp only[h,cond_false]) (fun r i s4 e es h g w k=>by unfold uL qR; simp only[h,cond_true,g,af,w,k]) s4
def qN:List zd->jR->Option jR
 | [],s4=>some s4
 | e::es,s4 =>
  cond (yM (aa s4+aa ([e.2]:List jI)) 24)
  (qN es (s4++([e.2]:List jI)))
  (none)
theorem QG (s1:jQ) (s2:jR) (s3:jQ) (s4:jR) (hl:aa s1<=maxLen):lp uQ ze (0,s1,s2,s3,s4)=qN s1 s4:=xG uQ (fun i s4=>(i,s1,s2,s3,s4)) (fun es i s4=>qN es s4) hl (fun r i s4 h=>by unfold uQ qN; simp only[h,cond_false]) (fun r i s4 e es h g w k=>by unfold uQ qN; simp only[h,cond_true,g,af,w,k]) s4
def xg:List jI->Int->Option Int
 | [],s1=>some s1
 | e::es,s1 =>
  xg es (ah .i64 (s1+((aa e:Nat):Int)))
theorem Q1 (s0:jR) (s1:Int) (hl:aa s0<=maxLen):lp si ze (s0,s1,0)=xg s0 s1:=xG si (fun i s1=>(s0,s1,i)) (fun es i s1=>xg es s1) hl (fun r i s1 h=>by unfold si xg; simp only[h,cond_false]) (fun r i s1 e es h g w k=>by unfold si xg; simp only[h,cond_true,g,af,w,k]) s1
def xi (s0:jS) (s3:jR):List jI->Option (Unit⊕Bool)
 | []=>some (aU ())
 | e::es =>
  (uG s0 e).bind fun r19 =>
  cond (decide (r19<0))
  (some (aG false))
  ((gx s3 0).bind fun e20 =>
   (uG s0 e20).bind fun r21 =>
   cond (r19 != r21)
   (some (aG false))
   (xi s0 s3 es))
theorem Q8 (s0:jS) (s2:jQ) (s3:jR) (s4:jQ) (hl:aa s3<=maxLen):lp tV ze (s0,0,s2,s3,s4)=xi s0 s3 s3:=tW tV (fun i=>(s0,i,s2,s3,s4)) (fun es i=>xi s0 s3 es) hl (fun r i h=>by unfold tV xi; simp only[h,cond_false]) (fun r i e es h g w k=>by unfold tV xi; simp only[h,cond_true,g,af,w,k])
def wh (s0:jS):List zd->Option (Unit⊕Bool)
 | []=>some (aU ())
 | e::es =>
  (ut s0 e.1 e.2).bind fun r11 =>
  cond (!r11)
  (some (aG false))
  (wh s0 es)
theorem QT (s0:jS) (s2:jQ) (s3:jR) (s4:jQ) (hl:aa s4<=maxLen):lp tU ze (s0,0,s2,s3,s4)=wh s0 s4:=tW tU (fun i=>(s0,i,s2,s3,s4)) (fun es i=>wh s0 es) hl (fun r i h=>by unfold tU wh; simp only[h,cond_false]) (fun r i e es h g w k=>by unfold tU wh; simp only[h,cond_true,g,af,w,k])
def wl (s0:jS):List zd->Option (Unit⊕Bool)
 | []=>some (aU ())
 | e::es =>
  (ut s0 e.1 e.2).bind fun r5 =>
  cond (!r5)
  (some (aG false))
  (wl s0 es)
theorem Xo (s0:jS) (s2:jQ) (s3:jR) (s4:jQ) (hl:aa s2<=maxLen):lp tP ze (s0,0,s2,s3,s4)=wl s0 s2:=tW tP (fun i=>(s0,i,s2,s3,s4)) (fun es i=>wl s0 es) hl (fun r i h=>by unfold tP wl; simp only[h,cond_false]) (fun r i e es h g w k=>by unfold tP wl; simp only[h,cond_true,g,af,w,k])
theorem QP (n:Int):jq n=some (Xt n):=rg n
theorem CL (es:List UInt8):yw es=some (cond (es.all CM) (.inl ()) (.inr false)):=by
 have:∀ es,yw es=z6 es:=by
  intro es
  induction es with
  | nil=>rfl
  | cons e es ih =>
   unfold yw z6;rw[QP,rg,ih]
 rw[this,IX]
theorem KR (e:zj):kf e.1 e.2.1 e.2.2.1 e.2.2.2=some (LI e):=by
 obtain⟨s,a,b,c⟩:=e;unfold kf LI Ym;dsimp only;cases s with
 | nil=>rfl
 | cons x r =>
  rw[decide_eq_false (show ¬(((aa (x::r):Nat):Int)<1) by rw[aj]; omega),cond_false]
  by_cases h:(x::r).length<=8
  ·rw[decide_eq_false (show ¬(((aa (x::r):Nat):Int)>8) by omega),cond_false,qm,aC,af,QP,af,Yf _ _ _ _ (by unfold maxLen; omega),CL,decide_eq_true h]
   dsimp only;cases Xt ((bG x:Nat):Int) with
   | false=>rfl
   | true =>
    cases (x::r).all CM with
    | false=>rfl
    | true =>
     simp only[aA,cond_false,cond_true,af,tB,aY,dU,ge_iff_le];cases decide (0<=a)<;>simp only[cond_true,cond_false,aY,bn]
     cases decide (a<=2)<;>simp only[cond_true,cond_false,aY,bn]
     cases decide (0<=b)<;>simp only[cond_true,cond_false,aY,bn]
     cases decide (b<=3)<;>simp only[cond_true,cond_false,aY,bn]
     cases decide (1<=c)<;>simp only[cond_true,cond_false,aY,bn]
  ·rw[decide_eq_true (show (((aa (x::r):Nat):Int)>8) by omega),decide_eq_false h]
   rfl
theorem Ig (a0:List zj) (nm:Str) (h:a0.length<=maxLen):Yo a0 nm=some (PM (a0.findIdx? (fun e=>e.1==nm))):=by
 have:∀ es i,xw nm es i=ql nm es i:=by
  intro es
  induction es with
  | nil=>intro i; rfl
  | cons e es ih=>intro i; unfold xw ql; rw[ih]
 unfold Yo;rw[Qa _ _ h,this,HX];cases a0.findIdx? (fun e=>e.1==nm) with
 | none=>rfl
 | some j=>simp [yA,PM]
theorem zb4 (a0:List zj) (h:a0.length<=maxLen) (es:List zj) (i:Nat):q4 a0 es i=some (cond (XU a0 es i) (.inl ()) (.inr false)):=by
 induction es generalizing i with
 | nil=>rfl
 | cons e es ih =>
  unfold q4 XU;rw[KR,af,Ig _ _ h,af,ih,bne];cases LI e with
  | false=>rfl
  | true =>
   cases (PM (a0.findIdx? (fun d=>d.1==e.1))==(i:Int)) with
   | false=>rfl
   | true=>simp
theorem ZZ (a0:List zj):sI a0=some (uT a0):=by
 unfold sI uT;cases a0 with
 | nil=>rfl
 | cons e es =>
  rw[decide_eq_false (show ¬(((aa (e::es):Nat):Int)<1) by rw[aj]; omega),cond_false]
  by_cases h:(e::es).length<=20
  ·have h1:¬(((aa (e::es):Nat):Int)>20):=by omega
   have hm:(e::es).length<=maxLen:=by unfold maxLen; omega
   rw[decide_eq_false h1,cond_false,qm,aC,af,decide_eq_true h];show cond (!(eqQ e)) _ _=some (true&&eqQ e&&XU (e::es) es 1);cases eqQ e with
   | false=>rfl
   | true =>
    have:=Yt (e::es) hm es 1 ze rfl (by simp [ze]; simp at h; omega)
    simp only[aA,cond_false];rw[show ((1:Int))=((1:Nat):Int) from rfl,this,zb4 _ hm]
    cases XU (e::es) es 1<;>rfl
  ·have h1:((aa (e::es):Nat):Int)>20:=by omega
   rw[decide_eq_true h1,decide_eq_false h];rfl
theorem Ln {a0:List zj} (h:SignOk a0) (a1:List Int) (hl:a1.length<=1099511627776):∀(m i n:Nat) (k:Nat),a1.length - i=m->i<=a1.length->n<=1+3*i->m+1<k ->
  lp un k (a0,a1,(n:Int),(i:Int))=some (match sk a0 n (a1.drop i) with
   | some j=>.inl ((i+j:Nat):Int)
   | none=>.inr (-1)):=by
 intro m
 induction m with
 | zero =>
  intro i n k hm hi hni hk;obtain⟨k,rfl⟩:∃ k',k=k'+1:=⟨k - 1,by omega⟩
  rw[zr];generalize lp un k=rec;unfold un;rw[cK.2 (show a1.length<=i by omega)]
  cases n with
  | zero=>simp [sk]
  | succ n =>
   simp only[decide_eq_true (show ((n+1:Nat):Int)>0 by omega),cond_true,decide_eq_true (show ((i:Int)≥((aa a1:Nat):Int)) by omega)]
   rfl
 | succ m ih =>
  intro i n k hm hi hni hk;obtain⟨k,rfl⟩:∃ k',k=k'+1:=⟨k - 1,by omega⟩
  have hi:i<a1.length:=by omega
  rw[zr];have key:=fun n' h1=>ih (i+1) n' k (by omega) (by omega) h1 (by omega)
  generalize lp un k=rec at key ⊢;unfold un;cases n with
  | zero=>simp [sk]
  | succ n =>
   have e1:ah .i64 (((n+1:Nat):Int) - 1)=(n:Int):=by rw[zu]<;>omega
   have e3:ah .i64 ((i:Int)+1)=((i+1:Nat):Int):=by rw[zu]<;>omega
   simp only[decide_eq_true (show ((n+1:Nat):Int)>0 by omega),cond_true,decide_eq_false (show ¬((i:Int)≥((aa a1:Nat):Int)) by omega),cond_false,qr,al hi,af,aX hi,sk,e1,e3]
   generalize a1[i]=x;unfold uk;by_cases h0:x<0
   ·rw[decide_eq_true h0,cond_true];by_cases h1 : -24<=x
    ·rw[decide_eq_false (show ¬(x < -24) by omega),cond_false,decide_eq_false (show ¬(x≥((aa a0:Nat):Int)) by omega),cond_false,decide_eq_false (show ¬(x≥0) by omega),cond_false,decide_eq_true h1,cond_true,key n (by omega)]
     dsimp only;rw[Nat.add_zero];cases sk a0 n (a1.drop (i+1)) with
     | none=>rfl
     | some j=>simp only[bD]; rw[show i+1+j=i+(j+1) from by omega]
    ·rw[decide_eq_true (show x < -24 by omega),decide_eq_false h1]; rfl
   ·rw[decide_eq_false h0,decide_eq_false (show ¬(x < -24) by omega),cond_false,cond_false]
    by_cases h1:x≥((aa a0:Nat):Int)
    ·rw[decide_eq_true h1,cond_true,aP (by omega)]
    ·obtain⟨e,he1,he2,he3⟩:=WH (xs:=a0) (i:=x) (by omega) (by omega)
     have hat:=h.at he3;rw[decide_eq_false h1,cond_false,decide_eq_true (show x≥0 by omega),cond_true,he1,af,he3]
     dsimp only;cases hk0:(e.2.1==0) with
     | true=>rfl
     | false =>
      have e2:ah .i64 ((n:Int)+e.2.2.1)=((n+e.2.2.1.toNat:Nat):Int):=by rw[zu]<;>omega
      simp only[cond_false,af,e2];rw[key _ (by omega)]
      cases sk a0 (n+e.2.2.1.toNat) (a1.drop (i+1)) with
      | none=>rfl
      | some j=>simp only[bD]; rw[show i+1+j=i+(j+1) from by omega]
def F6 (o:Option Nat):Int:=match o with
 | some k=>(k:Int)
 | none => -1
theorem VV {a0:List zj} (h:SignOk a0) (a1:List Int) (hl:a1.length<=1099511627776) (i:Nat) (hi:i<=a1.length):jG a0 a1 (i:Int)=some (F6 ((sk a0 1 (a1.drop i)).map (i + ·))):=by
 unfold jG;rw[show (1:Int)=((1:Nat):Int) from rfl,Ln h a1 hl (a1.length - i) i 1 ze rfl hi (by omega) (by unfold ze; omega)]
 cases sk a0 1 (a1.drop i) with
 | none=>rfl
 | some j=>rfl
theorem Bx {a0:List zj} (h:SignOk a0) (a1:List Int) (hl:a1.length<=1099511627776):∀(m i n k:Nat),a1.length - i=m->i<=a1.length->n<=i->m<k ->
  lp tw k (a0,a1,(n:Int),(i:Int))=some (match WG a0 (a1.drop i) with
   | some ps=>.inl ((n+ps.length:Nat):Int)
   | none=>.inr (-1)):=by
 intro m
 induction m using cQ with
 | _ m ih =>
  intro i n k hm hi hn hk;obtain⟨k,rfl⟩:∃ k',k=k'+1:=⟨k - 1,by omega⟩
  rw[zr];have key:=fun j n' (h1:i<j) h2 h3=>ih (a1.length - j) (by omega) j n' k rfl h2 h3 (by omega)
  generalize lp tw k=rec at key ⊢;unfold tw;by_cases he:i=a1.length
  ·subst he;simp [WW]
  ·have hlt:i<a1.length:=by omega
   have hne:a1.drop i≠[]:=by simp; omega
   simp only[uj hlt,cond_true,VV h a1 hl i hi,af,sP hne];cases hs:sk a0 1 (a1.drop i) with
   | none=>rfl
   | some j =>
    have hj:=V2 hs;rw[bH] at hj;have e1:ah .i64 ((n:Int)+1)=((n+1:Nat):Int):=by rw[zu]<;>omega
    rw[show F6 (Option.map (fun x=>i+x) (some j))=((i+j:Nat):Int) from rfl,decide_eq_false (show ¬(((i+j:Nat):Int)<0) by omega),cond_false,e1]
    rw[key (i+j) (n+1) (by omega) (by omega) (by omega)]
    dsimp only;rw[cm];cases WG a0 (a1.drop (i+j)) with
    | none=>rfl
    | some ps=>simp only[bD,aj]; rw[show n+1+ps.length=n+(ps.length+1) from by omega]
theorem jz {a0:List zj} (hs:uT a0=true) (a1:List Int):uG a0 a1=some (F6 (ZC a0 a1)):=by
 have h:=tz hs;unfold uG ZC wX;rw[hs,aY];by_cases hl:a1.length<=48
 ·have:=Bx h a1 (by omega) a1.length 0 0 ze rfl (b6 _) (aE _) (by unfold ze; omega)
  rw[show ((0:Nat):Int)=0 from rfl,bV] at this
  rw[decide_eq_false (show ¬(((aa a1:Nat):Int)>48) by omega),decide_eq_true hl,cond_false,cond_true,this]
  cases WG a0 a1 with
  | none=>rfl
  | some ps=>simp [yA,F6]
 ·rw[decide_eq_true (show (((aa a1:Nat):Int)>48) by omega),decide_eq_false hl]; rfl
theorem KS {a0:List zj} (hs:uT a0=true) (xs:List Int):j6 a0 xs=some (qL a0 xs):=by
 have h:=tz hs;unfold j6 qL;cases xs with
 | nil=>rfl
 | cons x r =>
  simp only[decide_eq_true (show (((x::r).length:Nat):Int)>0 by simp<;>omega),cond_true,qm,aC,af]
  by_cases h0:x<0
  ·rw[decide_eq_false (show ¬(x≥0) by omega)]; rfl
  ·rw[decide_eq_true (show x≥0 by omega),cond_true,aY]
   by_cases h1:x≥((aa a0:Nat):Int)
   ·rw[decide_eq_false (show ¬(x<((aa a0:Nat):Int)) by omega),aP (by omega)]; rfl
   ·obtain⟨e,he1,he2,he3⟩:=WH (xs:=a0) (i:=x) (by omega) (by omega)
    have hat:=h.at he3;simp only[decide_eq_true (show x<((aa a0:Nat):Int) by omega),cond_true,he1,he3,af]
    cases hk:(e.2.1==0) with
    | false=>rfl
    | true =>
     simp only[cond_true,u9,af,jz hs,aY];unfold ZC;cases wX a0 r with
     | none =>
      have:((-1:Int)==e.2.2.1)=false:=by simp; omega
      simp [F6,this]
     | some ps=>rfl
theorem EQ {a0:List zj} {xs:List Int} (h:qL a0 xs=true):uT a0=true:=by
 obtain⟨_,_,_,_,_,_,_,_,_,hs,_⟩:=YE h;exact hs
theorem K2 (a0:List zj) (b:Bool) (xs:List Int):ut a0 b xs=some (qL a0 xs):=by
 unfold ut;rw[ZZ,af];cases hs:uT a0 with
 | true=>rw[cond_true,KS hs]; rfl
 | false =>
  cases ha:qL a0 xs with
  | false=>rfl
  | true=>rw[EQ ha] at hs; cases hs
theorem L3 (s:List zd):(es:List zd)->(acc:List jI)->acc.length+es.length<=1000000->qW es acc=some (acc++es.map (·.2))∧qN es acc=some (acc++es.map (·.2))
 | [],acc,_=>⟨by simp [qW],by simp [qN]⟩
 | e::es,acc,h=>by
  rw[aj] at h;obtain⟨k1,k2⟩:=L3 s es (acc++[e.2]) (by simp; omega)
  unfold qW qN;rw[zp (show (acc.length+[e.2].length)*24<=140737488351232 by simp; omega),cond_true,cond_true,k1,k2]
  simp
theorem T7:(es:List jI)->(acc:List jI)->acc.length+es.length<=1000000->qR es acc=some (acc++es)
 | [],acc,_=>by simp [qR]
 | e::es,acc,h=>by
  rw[aj] at h;have k1:=T7 es (acc++[e]) (by simp; omega)
  unfold qR;rw[zp (show (acc.length+[e].length)*24<=140737488351232 by simp; omega),cond_true,k1]
  simp
theorem Yw (a1:List zd) (a2:List jI) (a3:List zd) (h1:a1.length<=1000) (h2:a2.length<=1000) (h3:a3.length<=1000):kV a1 a2 a3=some (a1.map (·.2)++a2++a3.map (·.2)):=by
 unfold kV;rw[QG _ _ _ _ (by unfold maxLen; omega),(L3 [] a1 [] (by simp; omega)).2,af,QA _ _ _ _ (by unfold maxLen; omega),T7 a2 _ (by simp; omega),af,
  Qd _ _ _ _ (by unfold maxLen; omega),(L3 [] a3 _ (by simp; omega)).1]
 simp
theorem MR:(es:List jI)->(t:Nat)->t+zo es<=1000000000000->xg es (t:Int)=some ((t+zo es:Nat):Int)
 | [],t,_=>by simp [xg,zo]
 | e::es,t,h=>by
  have hs:zo (e::es)=e.length+zo es:=by simp [zo]
  rw[hs] at h;unfold xg;have e1:ah .i64 ((t:Int)+((aa e:Nat):Int))=((t+e.length:Nat):Int):=by rw[zu]<;>omega
  rw[e1,MR es (t+e.length) (by omega),hs]
  congr 2
  omega
theorem Gi (a0:List zj):(es:List zd)->wl a0 es=some (cond (sU a0 es) (.inl ()) (.inr false))∧wh a0 es=some (cond (sU a0 es) (.inl ()) (.inr false))
 | []=>⟨rfl,rfl⟩
 | e::es=>by
  obtain⟨k1,k2⟩:=Gi a0 es;unfold wl wh;rw[K2,k1,k2];unfold sU;rw[cd];cases qL a0 e.2<;>exact ⟨rfl,rfl⟩
theorem AL {a0:List zj} (hs:uT a0=true) (s3:List jI) (r:List Int) (h0:s3[0]? = some r):(es:List jI)->xi a0 s3 es=some (cond (es.all fun q=>(ZC a0 q).isSome&&(ZC a0 q==ZC a0 r)) (.inl ()) (.inr false))
 | []=>rfl
 | e::es=>by
  unfold xi;rw[jz hs,af,qm,h0,af,jz hs,af,AL hs s3 r h0 es,cd];cases h1:ZC a0 e with
  | none=>rfl
  | some n =>
   rw[show F6 (some n)=(n:Int) from rfl,decide_eq_false (show ¬((n:Int)<0) by omega),cond_false]
   cases h2:ZC a0 r with
   | none =>
    rw[show (((n:Int)) != F6 none)=true from by simp [F6]<;>omega]
    rfl
   | some k =>
    by_cases hn:n=k
    ·subst hn; simp [F6]
    ·have e1:(((n:Int)) != F6 (some k))=true:=by simp [F6]; omega
     have e2:(some n==some k)=false:=by simpa using hn
     rw[e1,e2]; simp
theorem C9 {a0:List zj} (r:List Int) (rs:List jI):((r::rs).all fun q=>(ZC a0 q).isSome&&(ZC a0 q==ZC a0 r))=jt a0 (r::rs):=by
 unfold jt;dsimp only;cases hr:ZC a0 r with
 | none=>simp [hr]
 | some n =>
  rw[cd,hr];simp only[Option.isSome_some,beq_self_eq_true,aY]
  congr 1
  funext q
  cases ZC a0 q<;>simp
theorem zJ (a0:List zj) (a1:List zd) (a2:List jI) (a3:List zd):kp a0 a1 a2 a3=some (tJ a0 a1 a2 a3):=by
 unfold kp tJ;rw[ZZ,af];cases hs:uT a0 with
 | false=>rfl
 | true =>
  by_cases h1:a1.length<=5
  ·by_cases h3:a3.length<=3
   ·by_cases h2:a2.length<=3
    ·simp only[aA,cond_false,decide_eq_false (show ¬(((aa a1:Nat):Int)>5) by omega),decide_eq_false (show ¬(((aa a2:Nat):Int)>3) by omega),decide_eq_false (show ¬(((aa a3:Nat):Int)>3) by omega),
      decide_eq_true h1,decide_eq_true h2,decide_eq_true h3,aY]
     rw[Xo _ _ _ _ (by unfold maxLen; omega),(Gi a0 a1).1]
     cases hb1:sU a0 a1 with
     | false=>rfl
     | true =>
      simp only[cond_true,af,tB,aY];rw[QT _ _ _ _ (by unfold maxLen; omega),(Gi a0 a3).2]
      cases hb3:sU a0 a3 with
      | false=>simp [yA]
      | true =>
       simp only[cond_true,af,tB,dU];rw[Q8 _ _ _ _ (by unfold maxLen; omega)]
       have hrows:xi a0 a2 a2=some (cond (jt a0 a2) (.inl ()) (.inr false)):=by
        cases a2 with
        | nil=>rfl
        | cons r rs=>rw[AL hs (r::rs) r rfl (r::rs),C9]
       rw[hrows];cases hb2:jt a0 a2 with
       | false=>rfl
       | true =>
        have s1:=QU a1 hb1;have s2:=AY a2 hb2;have s3:=QU a3 hb3;have hsum:zo (a1.map (·.2)++a2++a3.map (·.2))=zo (a1.map (·.2))+zo a2+zo (a3.map (·.2)):=by simp [zo]; omega
        simp only[cond_true,af,tB,Yw a1 a2 a3 (by omega) (by omega) (by omega),aY]
        rw[Q1 _ _ (by simp only[ax,List.length_map]; unfold maxLen; omega),show (0:Int)=((0:Nat):Int) from rfl,MR _ 0 (by rw[hsum]; omega),af,aN,hsum]
        simp only[au,decide_eq_decide];omega
    ·simp only[aA,cond_false,decide_eq_false (show ¬(((aa a1:Nat):Int)>5) by omega),decide_eq_false (show ¬(((aa a3:Nat):Int)>3) by omega),decide_eq_true (show (((aa a2:Nat):Int)>3) by omega),decide_eq_false h2,cond_true,co,bn]
   ·simp only[aA,cond_false,decide_eq_false (show ¬(((aa a1:Nat):Int)>5) by omega),decide_eq_true (show (((aa a3:Nat):Int)>3) by omega),decide_eq_false h3,cond_true,co,bn]
  ·simp only[aA,cond_false,decide_eq_true (show (((aa a1:Nat):Int)>5) by omega),decide_eq_false h1,cond_true,co,bn]
theorem Iq {a0:List zj} (h:SignOk a0) (a1:List Int) (hl:a1.length<=1099511627776):∀(m i n j k:Nat),a1.length - i=m->i<=a1.length->n<=1+3*i->sk a0 n (a1.drop i)=some j->m+1<k ->
  lp wo k (a0,a1,(n:Int),(i:Int))=some ((i+j:Nat):Int):=by
 intro m
 induction m with
 | zero =>
  intro i n j k hm hi hni hs hk;obtain⟨k,rfl⟩:∃ k',k=k'+1:=⟨k - 1,by omega⟩
  rw[zr];generalize lp wo k=rec;unfold wo;rw[cK.2 (show a1.length<=i by omega)] at hs
  cases n with
  | zero =>
   simp [sk] at hs;subst hs;simp
  | succ n=>simp [sk] at hs
 | succ m ih =>
  intro i n j k hm hi hni hs hk;obtain⟨k,rfl⟩:∃ k',k=k'+1:=⟨k - 1,by omega⟩
  have hi:i<a1.length:=by omega
  rw[zr];have key:=fun n' j' h1 h2=>ih (i+1) n' j' k (by omega) (by omega) h1 h2 (by omega)
  generalize lp wo k=rec at key ⊢;unfold wo;cases n with
  | zero =>
   simp [sk] at hs;subst hs;simp
  | succ n =>
   have e1:ah .i64 (((n+1:Nat):Int) - 1)=(n:Int):=by rw[zu]<;>omega
   have e3:ah .i64 ((i:Int)+1)=((i+1:Nat):Int):=by rw[zu]<;>omega
   rw[aX hi] at hs;simp only[sk] at hs;simp only[decide_eq_true (show ((n+1:Nat):Int)>0 by omega),cond_true,qr,al hi,af,e1,e3]
   generalize a1[i]=x at hs;cases ha:uk a0 x with
   | none=>rw[ha] at hs; cases hs
   | some q =>
    rw[ha] at hs;simp only[bg] at hs;obtain⟨j',hj',rfl⟩:=hs;by_cases h0:x<0
    ·obtain⟨_,rfl⟩:=Io ha h0;rw[decide_eq_false (show ¬(x≥0) by omega),cond_false,key n j' (by omega) hj']
     rw[show i+1+j'=i+(j'+1) from by omega]
    ·obtain⟨e,he1,he2,he3,rfl⟩:=I2 ha h0;have hat:=h.at he2;have e2:ah .i64 ((n:Int)+e.2.2.1)=((n+e.2.2.1.toNat:Nat):Int):=by rw[zu]<;>omega
     rw[decide_eq_true (show x≥0 by omega),cond_true,he1,af,e2,key _ j' (by omega) hj']
     rw[show i+1+j'=i+(j'+1) from by omega]
theorem KJ {a0:List zj} (h:SignOk a0) (a1:List Int) (hl:a1.length<=1099511627776) (i j:Nat) (hi:i<=a1.length) (hs:sk a0 1 (a1.drop i)=some j):jK a0 a1 (i:Int)=some ((i+j:Nat):Int):=by
 unfold jK;rw[show (1:Int)=((1:Nat):Int) from rfl,Iq h a1 hl (a1.length - i) i 1 j ze rfl hi (by omega) hs (by unfold ze; omega)]
 rfl
theorem BW {a0:List zj} (h:SignOk a0) (a1:List Int) (hl:a1.length<=1099511627776):∀(m i:Nat) (acc ps:List jI) (k:Nat),a1.length - i=m->i<=a1.length->acc.length<=i->WG a0 (a1.drop i)=some ps->m<k ->
  lp tF k (a0,a1,(i:Int),acc)=some (acc++ps):=by
 intro m
 induction m using cQ with
 | _ m ih =>
  intro i acc ps k hm hi hacc hc hk;obtain⟨k,rfl⟩:∃ k',k=k'+1:=⟨k - 1,by omega⟩
  rw[zr];have key:=fun j acc' ps' (h1:i<j) h2 h3 h4=>ih (a1.length - j) (by omega) j acc' ps' k rfl h2 h3 h4 (by omega)
  generalize lp tF k=rec at key ⊢;unfold tF;by_cases he:i=a1.length
  ·subst he;rw[eQ,WW] at hc;injection hc with hc; subst hc;simp
  ·have hlt:i<a1.length:=by omega
   have hne:a1.drop i≠[]:=by simp; omega
   rw[sP hne] at hc;cases hs:sk a0 1 (a1.drop i) with
   | none=>rw[hs] at hc; cases hc
   | some j =>
    rw[hs] at hc;simp only[bg] at hc;obtain⟨qs,hq,rfl⟩:=hc;have hj:=V2 hs;rw[bH] at hj;have e1:vU a1 (some (i:Int)) (some ((i+j:Nat):Int))=some ((a1.drop i).take j):=by
     rw[zdo a1 (by omega) (by omega),show i+j - i=j from by omega]
    simp only[decide_eq_true (show (i:Int)<((aa a1:Nat):Int) by omega),cond_true,KJ h a1 hl i j hi hs,af,e1,aZ,zp (show (acc.length+1)*24<=140737488351232 by omega)]
    rw[cm] at hq;rw[key (i+j) _ qs (by omega) (by omega) (by simp; omega) hq]
    simp
theorem wd {a0:List zj} (h:SignOk a0) {a1:List Int} (hl:a1.length<=1099511627776) {ps:List jI} (hc:WG a0 a1=some ps):zK a0 a1=some ps:=by
 unfold zK;have:=BW h a1 hl a1.length 0 [] ps ze rfl (b6 _) (b6 _) hc (by unfold ze; omega)
 rw[show ((0:Nat):Int)=0 from rfl] at this
 rw[this];rfl
def InB (a0:List zj) (xs:List Int):Prop:=∀ x∈xs,x<(a0.length:Int)
theorem Zw {xs:List Int} (h:xs.length<=1000000000):wS xs=some xs:=by
 unfold wS;rw[zp (by simp only[bb]; omega)]; rfl
theorem W6:(es acc:List zd)->(∀ l∈es,l.2.length<=1000000000)->acc.length+es.length<=1000000000->yr es acc=some (acc++es)
 | [],acc,_,_=>by simp [yr]
 | e::es,acc,h,hl=>by
  rw[aj] at hl;unfold yr;rw[Zw (h e (by simp)),af,zp (by simp only[aj,bb]; omega),cond_true,W6 es _ (fun l hl=>h l (by simp [hl])) (by simp; omega)]
  simp
theorem Zy {ls:List zd} (h:∀ l∈ls,l.2.length<=1000000000) (hl:ls.length<=1000000000):tn ls=some ls:=by
 unfold tn;rw[j3 _ _ (by unfold maxLen; omega),W6 ls [] h (by simp; omega)]
 rfl
theorem W8:(es acc:List jI)->(∀ l∈es,l.length<=1000000000)->acc.length+es.length<=1000000000->yh es acc=some (acc++es)
 | [],acc,_,_=>by simp [yh]
 | e::es,acc,h,hl=>by
  rw[aj] at hl;unfold yh;rw[Zw (h e (by simp)),af,zp (by simp only[aj,bb]; omega),cond_true,W8 es _ (fun l hl=>h l (by simp [hl])) (by simp; omega)]
  simp
theorem WC {ls:List jI} (h:∀ l∈ls,l.length<=1000000000) (hl:ls.length<=1000000000):rj ls=some ls:=by
 unfold rj;rw[j5 _ _ (by unfold maxLen; omega),W8 ls [] h (by simp; omega)]
 rfl
theorem Vk (ys:List Int):(es:List Int)->(i:Nat)->es.length=(ys.drop i).length->yU ys es i=some (cond (decide (es=ys.drop i)) (.inl ()) (.inr false))
 | [],i,h=>by
  have:ys.drop i=[]:=cM.1 h.symm;rw[this]; rfl
 | e::es,i,h=>by
  unfold yU;rw[aj,bH] at h;have hi:i<ys.length:=by omega
  rw[qr,al hi,af,aX hi,Vk ys es (i+1) (by rw[bH]; omega)]
  generalize ys[i]=y;by_cases he:e=y
  ·subst he;rw[show (e != e)=false from by simp,cond_false]
   simp
  ·rw[show (e != y)=true from by simpa using he,cond_true]
   rw[decide_eq_false (by intro h; injection h with h1 h2; exact he h1)]
   rfl
theorem Zr {xs ys:List Int} (h:xs.length<=maxLen):wR xs ys=some (decide (xs=ys)):=by
 unfold wR;by_cases hl:xs.length=ys.length
 ·rw[show (((aa xs:Nat):Int) != ((aa ys:Nat):Int))=false from by simp [hl],cond_false,jX _ _ h,Vk ys xs 0 hl,bV]
  cases decide (xs=ys)<;>rfl
 ·rw[show (((aa xs:Nat):Int) != ((aa ys:Nat):Int))=true from by simp; omega,cond_true,decide_eq_false (by intro h; subst h; exact hl rfl)]
theorem V9 (ys:List zd):(es:List zd)->(i:Nat)->es.length=(ys.drop i).length->(∀ e∈es,e.2.length<=maxLen)->yT ys es i=some (cond (decide (es=ys.drop i)) (.inl ()) (.inr false))
 | [],i,h,_=>by
  have:ys.drop i=[]:=cM.1 h.symm;rw[this]; rfl
 | e::es,i,h,hm=>by
  unfold yT;rw[aj,bH] at h;have hi:i<ys.length:=by omega
  rw[qr,al hi,af,aX hi,V9 ys es (i+1) (by rw[bH]; omega) (fun x hx=>hm x (by simp [hx]))]
  generalize ys[i]=y;obtain⟨a,b⟩:=e;obtain⟨c,d⟩:=y;have hb:b.length<=maxLen:=hm (a,b) (by simp)
  simp only[af,Zr hb];by_cases h1:a=c
  ·subst h1;by_cases h2:b=d
   ·subst h2;simp
   ·have:¬((a,b)::es=(a,d)::ys.drop (i+1)):=fun h=>by injection h with h _; injection h with _ h; exact h2 h
    simp [h2,this]
  ·have:¬((a,b)::es=(c,d)::ys.drop (i+1)):=fun h=>by injection h with h _; injection h with h _; exact h1 h
   have h3:(a==c)=false:=by simpa using h1
   rw[h3,decide_eq_false this]; rfl
theorem Zs {xs ys:List zd} (h:xs.length<=maxLen) (hm:∀ e∈xs,e.2.length<=maxLen):tf xs ys=some (decide (xs=ys)):=by
 unfold tf;by_cases hl:xs.length=ys.length
 ·rw[show (((aa xs:Nat):Int) != ((aa ys:Nat):Int))=false from by simp [hl],cond_false,Zb _ _ h,V9 ys xs 0 hl hm,bV]
  cases decide (xs=ys)<;>rfl
 ·rw[show (((aa xs:Nat):Int) != ((aa ys:Nat):Int))=true from by simp; omega,cond_true,decide_eq_false (by intro h; subst h; exact hl rfl)]
theorem VS (ys:List jI):(es:List jI)->(i:Nat)->es.length=(ys.drop i).length->(∀ e∈es,e.length<=maxLen)->yS ys es i=some (cond (decide (es=ys.drop i)) (.inl ()) (.inr false))
 | [],i,h,_=>by
  have:ys.drop i=[]:=cM.1 h.symm;rw[this]; rfl
 | e::es,i,h,hm=>by
  unfold yS;rw[aj,bH] at h;have hi:i<ys.length:=by omega
  rw[qr,al hi,af,aX hi,Zr (hm e (by simp)),af,VS ys es (i+1) (by rw[bH]; omega) (fun x hx=>hm x (by simp [hx]))]
  generalize ys[i]=y;by_cases h1:e=y
  ·subst h1;simp
  ·have:¬(e::es=y::ys.drop (i+1)):=fun h=>by injection h with h _; exact h1 h
   rw[decide_eq_false h1,decide_eq_false this]; rfl
theorem WF {xs ys:List jI} (h:xs.length<=maxLen) (hm:∀ e∈xs,e.length<=maxLen):rA xs ys=some (decide (xs=ys)):=by
 unfold rA;by_cases hl:xs.length=ys.length
 ·rw[show (((aa xs:Nat):Int) != ((aa ys:Nat):Int))=false from by simp [hl],cond_false,jy _ _ h,VS ys xs 0 hl hm,bV]
  cases decide (xs=ys)<;>rfl
 ·rw[show (((aa xs:Nat):Int) != ((aa ys:Nat):Int))=true from by simp; omega,cond_true,decide_eq_false (by intro h; subst h; exact hl rfl)]
theorem vY {a0:List zd} {a1:List jI} {a2:List zd} (h0:a0.length<=maxLen) (h0m:∀ e∈a0,e.2.length<=maxLen) (h1:a1.length<=maxLen) (h1m:∀ e∈a1,e.length<=maxLen) (h2:a2.length<=maxLen) (h2m:∀ e∈a2,e.2.length<=maxLen) :
  yJ a0 a1 a2 a0 a1 a2=some true:=by
 unfold yJ;rw[Zs h0 h0m,WF h1 h1m,Zs h2 h2m];simp
theorem Tx {α:Type} {f:α->Nat} {xs:List α} {x:α} (h:x∈xs):f x<=(xs.map f).sum:=by
 induction xs with
 | nil=>cases h
 | cons y ys ih =>
  simp only[aJ,cE];rcases aB.1 h with rfl | h
  ·omega
  ·have:=ih h; omega
theorem T6 {α:Type} {f:α->Nat} (hf:∀ x,1<=f x) (xs:List α):xs.length<=(xs.map f).sum:=by
 induction xs with
 | nil=>simp
 | cons y ys ih =>
  simp only[aJ,cE,aj];have:=hf y;omega
theorem L0 (xs:List Int):wt (.sl (.one (.int .i64))) xs=xs.length+1:=by
 show (cD (fun _=>1) xs).sum+1=_
 congr 1
 induction xs with
 | nil=>rfl
 | cons y ys ih=>simp only[aJ,cE,aj,ih]; omega
theorem zaA (l:zd):wtT sR l=l.2.length+2:=by
 show 1+wt (.sl (.one (.int .i64))) l.2=_;rw[L0]; omega
theorem Oa {ls:List zd} {b:Nat} (h:wt (.sl sR) ls<=b):ls.length<=b∧∀ l∈ls,l.2.length<=b:=by
 have e:(wtT sR:zd->Nat)=fun l=>l.2.length+2:=funext zaA;have h:(cD (wtT sR:zd->Nat) ls).sum+1<=b:=h;rw[e] at h
 replace h:(cD (fun l:zd=>l.2.length+2) ls).sum+1<=b:=h
 have h1:=T6 (f:=fun l:zd=>l.2.length+2) (fun l=>by omega) ls
 refine ⟨by omega,fun l hl => ?_⟩
 have:=Tx (f:=fun l:zd=>l.2.length+2) hl;omega
theorem zbn {rs:List jI} {b:Nat} (h:wt (.sl (.one (.sl (.one (.int .i64))))) rs<=b):rs.length<=b∧∀ l∈rs,l.length<=b:=by
 have e:(wtT (.one (.sl (.one (.int .i64)))):List Int->Nat)=fun l=>l.length+1:=funext L0;have h:(cD (wtT (.one (.sl (.one (.int .i64)))):List Int->Nat) rs).sum+1<=b:=h;rw[e] at h
 replace h:(cD (fun l:List Int=>l.length+1) rs).sum+1<=b:=h
 have h1:=T6 (f:=fun l:List Int=>l.length+1) (fun l=>by omega) rs
 refine ⟨by omega,fun l hl => ?_⟩
 have:=Tx (f:=fun l:List Int=>l.length+1) hl;omega
def qv (rec:(jR×jR×Int×Int×(List (jI×Int×jI×Int))×jI×Int×jI×Int)->Option (List (jI×Int×jI×Int))) (x:(jR×jR×Int×Int×(List (jI×Int×jI×Int))×jI×Int×jI×Int)):Option (List (jI×Int×jI×Int)) :=
 cond (decide (x.2.2.2.1<x.2.2.1))
 ((gx x.1 x.2.2.2.1).bind fun e7 =>
  (gx x.2.1 x.2.2.2.1).bind fun e8 =>
  cond (yM (aa x.2.2.2.2.1+aa ([(e7,x.2.2.2.2.2.2.1,e8,x.2.2.2.2.2.2.2.2)]:List (jI×Int×jI×Int))) 64)
  (rec (x.1,x.2.1,x.2.2.1,(ah .i64 (x.2.2.2.1+1)),(x.2.2.2.2.1++([(e7,x.2.2.2.2.2.2.1,e8,x.2.2.2.2.2.2.2.2)]:List (jI×Int×jI×Int))),x.2.2.2.2.2.1,x.2.2.2.2.2.2.1,x.2.2.2.2.2.2.2.1,x.2.2.2.2.2.2.2.2))
  (none))
 (some x.2.2.2.2.1)
def qB (a0:jI) (a1:Int) (a2:jI) (a3:Int) (a4:jS) (_a5:(List ((Option jI)×Int))) (a6:(List (jI×Int×jI×Int))):Option (List (jI×Int×jI×Int)) :=
 (wN a4 a0).bind fun r10 =>
 (wN a4 a2).bind fun r11 =>
 ((lp qv ze) (r10,r11,((aa r10:Nat):Int),0,a6,a0,a1,a2,a3)).bind fun r12 =>
 some r12
def yF (_a0:jI) (a1:Int) (a2:Int):Option Int :=
 (yd a2).bind fun r2 =>
 some (ah .i64 (r2+a1))
def wA (rec:(jS×(List ((Option jI)×Int))×jI×Int×Int)->Option (jI×Int)) (x:(jS×(List ((Option jI)×Int))×jI×Int×Int)):Option (jI×Int) :=
 (gx x.2.2.1 0).bind fun e6 =>
 cond (decide (e6<0))
 ((gx x.2.2.1 0).bind fun e7 =>
  (yF x.2.2.1 x.2.2.2.1 e7).bind fun r8 =>
  (inR r8 48).bind fun k9 =>
  (x.2.1[k9]?).bind fun x10 =>
  cond (cB x10.1)
  (some (x.2.2.1,x.2.2.2.1))
  (rec (x.1,x.2.1,(bX x10.1 []),x10.2,x.2.2.2.2)))
 (some (x.2.2.1,x.2.2.2.1))
def wi (a0:jI) (a1:Int) (a2:jS) (a3:(List ((Option jI)×Int))):Option (jI×Int) :=
 ((lp wA ze) (a2,a3,a0,a1,0)).bind fun r12 =>
 some (r12.1,r12.2)
def qD (rec:(Int×jI×Int×Int×jS×(List ((Option jI)×Int))×jI×Int×(List Bool)×(List (jI×Int)))->Option (((List Bool)×(List (jI×Int)))⊕Bool)) (x:(Int×jI×Int×Int×jS×(List ((Option jI)×Int))×jI×Int×(List Bool)×(List (jI×Int)))):Option (((List Bool)×(List (jI×Int)))⊕Bool) :=
 cond (decide (x.2.2.2.1<x.2.2.1))
 ((gx x.2.1 x.2.2.2.1).bind fun e14 =>
  cond (decide (e14≥0))
  (rec (x.1,x.2.1,x.2.2.1,(ah .i64 (x.2.2.2.1+1)),x.2.2.2.2.1,x.2.2.2.2.2.1,x.2.2.2.2.2.2.1,x.2.2.2.2.2.2.2.1,x.2.2.2.2.2.2.2.2.1,x.2.2.2.2.2.2.2.2.2))
  ((yF x.2.2.2.2.2.2.1 x.2.2.2.2.2.2.2.1 e14).bind fun r15 =>
   cond (r15==x.1)
   (some (aG true))
   ((inR r15 48).bind fun k16 =>
    (x.2.2.2.2.2.2.2.2.1[k16]?).bind fun x17 =>
    cond (!x17)
    ((inR r15 48).bind fun k18 =>
     (x.2.2.2.2.2.1[k18]?).bind fun x19 =>
     cond (!(cB x19.1))
     ((inR r15 48).bind fun k20 =>
      (x.2.2.2.2.2.2.2.2.1[k20]?).bind fun _x21 =>
      (inR r15 48).bind fun k22 =>
      (x.2.2.2.2.2.1[k22]?).bind fun x23 =>
      cond (yM (aa x.2.2.2.2.2.2.2.2.2+aa ([((bX x23.1 []),x23.2)]:List (jI×Int))) 32)
      (rec (x.1,x.2.1,x.2.2.1,(ah .i64 (x.2.2.2.1+1)),x.2.2.2.2.1,x.2.2.2.2.2.1,x.2.2.2.2.2.2.1,x.2.2.2.2.2.2.2.1,(cP x.2.2.2.2.2.2.2.2.1 k20 true),(x.2.2.2.2.2.2.2.2.2++([((bX x23.1 []),x23.2)]:List (jI×Int)))))
      (none))
     (rec (x.1,x.2.1,x.2.2.1,(ah .i64 (x.2.2.2.1+1)),x.2.2.2.2.1,x.2.2.2.2.2.1,x.2.2.2.2.2.2.1,x.2.2.2.2.2.2.2.1,x.2.2.2.2.2.2.2.2.1,x.2.2.2.2.2.2.2.2.2)))
    (rec (x.1,x.2.1,x.2.2.1,(ah .i64 (x.2.2.2.1+1)),x.2.2.2.2.1,x.2.2.2.2.2.1,x.2.2.2.2.2.2.1,x.2.2.2.2.2.2.2.1,x.2.2.2.2.2.2.2.2.1,x.2.2.2.2.2.2.2.2.2)))))
 (some (aU (x.2.2.2.2.2.2.2.2.1,x.2.2.2.2.2.2.2.2.2)))
def xB (rec:(Int×jS×(List ((Option jI)×Int))×jI×Int×(List Bool)×(List (jI×Int)))->Option (Unit⊕Bool)) (x:(Int×jS×(List ((Option jI)×Int))×jI×Int×(List Bool)×(List (jI×Int)))):Option (Unit⊕Bool) :=
 cond (decide (((aa x.2.2.2.2.2.2:Nat):Int)>0))
 ((inR (ah .i64 (((aa x.2.2.2.2.2.2:Nat):Int) - 1)) (aa x.2.2.2.2.2.2)).bind fun k32 =>
  (x.2.2.2.2.2.2[k32]?).bind fun x33 =>
  (vU x.2.2.2.2.2.2 none (some (ah .i64 (((aa x.2.2.2.2.2.2:Nat):Int) - 1)))).bind fun y34 =>
  ((lp qD ze) (x.1,x33.1,((aa x33.1:Nat):Int),0,x.2.1,x.2.2.1,x33.1,x33.2,x.2.2.2.2.2.1,y34)).bind fun r35 =>
  yA r35
  (fun z36=>rec (x.1,x.2.1,x.2.2.1,x33.1,x33.2,z36.1,z36.2))
  (fun z37=>some (aG z37)))
 (some (aU ()))
def ue (a0:Int) (a1:jI) (a2:Int) (a3:jS) (a4:(List ((Option jI)×Int))):Option Bool :=
 ((lp xB ze) (a0,a3,a4,a1,a2,(az 48 false),([(a1,a2)]:List (jI×Int)))).bind fun r41 =>
 yA r41
 (fun _z42=>some false)
 (fun z43=>some z43)
def qp (a0:jI) (a1:Int) (a2:jI) (a3:Int) (a4:jS) (a5:(List ((Option jI)×Int))):Option (Bool×jS×(List ((Option jI)×Int))) :=
 (gx a0 0).bind fun e16 =>
 (yF a0 a1 e16).bind fun r17 =>
 (gx a2 0).bind fun e18 =>
 cond (decide (e18≥0))
 ((ue r17 a2 a3 a4 a5).bind fun r19 =>
  cond r19
  (some (false,a4,a5))
  ((inR r17 48).bind fun k20 =>
   (a5[k20]?).bind fun _x21 =>
   (nn a2).bind fun p22 =>
   some (true,a4,(cP a5 k20 ((some p22),a3)))))
 ((gx a2 0).bind fun e23 =>
  (yF a2 a3 e23).bind fun r24 =>
  cond (decide (r24>r17))
  ((inR r24 48).bind fun k25 =>
   (a5[k25]?).bind fun _x26 =>
   (nn a0).bind fun p27 =>
   some (true,a4,(cP a5 k25 ((some p27),a1))))
  (cond (decide (r24<r17))
   ((inR r17 48).bind fun k28 =>
    (a5[k28]?).bind fun _x29 =>
    (nn a2).bind fun p30 =>
    some (true,a4,(cP a5 k28 ((some p30),a3))))
   (some (true,a4,a5))))
def zx (rec:(jS×(List ((Option jI)×Int))×(List (jI×Int×jI×Int)))->Option (Bool×jS×(List ((Option jI)×Int)))) (x:(jS×(List ((Option jI)×Int))×(List (jI×Int×jI×Int)))):Option (Bool×jS×(List ((Option jI)×Int))) :=
 cond (((aa x.2.2:Nat):Int)==0)
 (some (true,x.1,x.2.1))
 ((inR (ah .i64 (((aa x.2.2:Nat):Int) - 1)) (aa x.2.2)).bind fun k27 =>
  (x.2.2[k27]?).bind fun x28 =>
  (wi x28.1 x28.2.1 x.1 x.2.1).bind fun r29 =>
  (inR (ah .i64 (((aa x.2.2:Nat):Int) - 1)) (aa x.2.2)).bind fun k30 =>
  (x.2.2[k30]?).bind fun x31 =>
  (wi x31.2.2.1 x31.2.2.2 x.1 x.2.1).bind fun r32 =>
  (vU x.2.2 none (some (ah .i64 (((aa x.2.2:Nat):Int) - 1)))).bind fun y33 =>
  (gx r29.1 0).bind fun e34 =>
  cond (decide (e34<0))
  ((qp r29.1 r29.2 r32.1 r32.2 x.1 x.2.1).bind fun r35 =>
   cond r35.1
   (rec (r35.2.1,r35.2.2,y33))
   (some (false,r35.2.1,r35.2.2)))
  ((gx r32.1 0).bind fun e36 =>
   cond (decide (e36<0))
   ((qp r32.1 r32.2 r29.1 r29.2 x.1 x.2.1).bind fun r37 =>
    cond r37.1
    (rec (r37.2.1,r37.2.2,y33))
    (some (false,r37.2.1,r37.2.2)))
   ((gx r29.1 0).bind fun e38 =>
    (gx r32.1 0).bind fun e39 =>
    cond (e38 != e39)
    (some (false,x.1,x.2.1))
    ((vU r29.1 (some 1) none).bind fun y40 =>
     (vU r32.1 (some 1) none).bind fun y41 =>
     (qB y40 r29.2 y41 r32.2 x.1 x.2.1 y33).bind fun r42 =>
     rec (x.1,x.2.1,r42)))))
def xM (a0:jI) (a1:Int) (a2:jI) (a3:Int) (a4:jS) (a5:(List ((Option jI)×Int))):Option (Bool×jS×(List ((Option jI)×Int))) :=
 (qB a0 a1 a2 a3 a4 a5 ([]:(List (jI×Int×jI×Int)))).bind fun r53 =>
 cond (((aa r53:Nat):Int)==0)
 (some (true,a4,a5))
 ((inR (ah .i64 (((aa r53:Nat):Int) - 1)) (aa r53)).bind fun k54 =>
  (r53[k54]?).bind fun x55 =>
  (wi x55.1 x55.2.1 a4 a5).bind fun r56 =>
  (inR (ah .i64 (((aa r53:Nat):Int) - 1)) (aa r53)).bind fun k57 =>
  (r53[k57]?).bind fun x58 =>
  (wi x58.2.2.1 x58.2.2.2 a4 a5).bind fun r59 =>
  (vU r53 none (some (ah .i64 (((aa r53:Nat):Int) - 1)))).bind fun y60 =>
  (gx r56.1 0).bind fun e61 =>
  cond (decide (e61<0))
  ((qp r56.1 r56.2 r59.1 r59.2 a4 a5).bind fun r62 =>
   cond r62.1
   ((((lp zx ze) (r62.2.1,r62.2.2,y60))).bind fun r63 =>
    some (r63.1,r63.2.1,r63.2.2))
   (some (false,r62.2.1,r62.2.2)))
  ((gx r59.1 0).bind fun e64 =>
   cond (decide (e64<0))
   ((qp r59.1 r59.2 r56.1 r56.2 a4 a5).bind fun r65 =>
    cond r65.1
    ((((lp zx ze) (r65.2.1,r65.2.2,y60))).bind fun r66 =>
     some (r66.1,r66.2.1,r66.2.2))
    (some (false,r65.2.1,r65.2.2)))
   ((gx r56.1 0).bind fun e67 =>
    (gx r59.1 0).bind fun e68 =>
    cond (e67 != e68)
    (some (false,a4,a5))
    ((vU r56.1 (some 1) none).bind fun y69 =>
     (vU r59.1 (some 1) none).bind fun y70 =>
     (qB y69 r56.2 y70 r59.2 a4 a5 y60).bind fun r71 =>
     (((lp zx ze) (a4,a5,r71))).bind fun r72 =>
     some (r72.1,r72.2.1,r72.2.2)))))
def xb (_a0:(Option jI)) (a1:Int) (a2:Int):Option Int :=
 (yd a2).bind fun r2 =>
 some (ah .i64 (r2+a1))
def yG (rf:(((Option jI)×Int×jS×(List ((Option jI)×Int)))->Option (Option jI))) (rec:((Option jI)×Int×Int×jS×(List ((Option jI)×Int))×(Option jI)×Int×jI)->Option (jI⊕Unit)) (x:((Option jI)×Int×Int×jS×(List ((Option jI)×Int))×(Option jI)×Int×jI)):Option (jI⊕Unit) :=
 cond (decide (x.2.2.1<x.2.1))
 ((gx (bX x.1 []) x.2.2.1).bind fun e27 =>
  cond (decide (e27<0))
  ((xb x.2.2.2.2.2.1 x.2.2.2.2.2.2.1 e27).bind fun r28 =>
   (inR r28 48).bind fun k29 =>
   (x.2.2.2.2.1[k29]?).bind fun x30 =>
   cond (!(cB x30.1))
   ((xb x.2.2.2.2.2.1 x.2.2.2.2.2.2.1 e27).bind fun r31 =>
    (inR r31 48).bind fun k32 =>
    (x.2.2.2.2.1[k32]?).bind fun x33 =>
    (rf (x33.1,x33.2,x.2.2.2.1,x.2.2.2.2.1)).bind fun r34 =>
    cond (cB r34)
    (some (aG ()))
    (cond (decide ((ah .i64 (((aa x.2.2.2.2.2.2.2:Nat):Int)+((aa (bX r34 []):Nat):Int)))>48))
     (some (aG ()))
     (cond (yM (aa x.2.2.2.2.2.2.2+aa (bX r34 [])) 8)
      (rec (x.1,x.2.1,(ah .i64 (x.2.2.1+1)),x.2.2.2.1,x.2.2.2.2.1,x.2.2.2.2.2.1,x.2.2.2.2.2.2.1,(x.2.2.2.2.2.2.2++(bX r34 []))))
      (none))))
   ((((nn ([e27]:List Int)).bind fun _ =>
     some false)).bind fun z35 =>
    cond z35
    (some (aG ()))
    (cond (decide ((ah .i64 (((aa x.2.2.2.2.2.2.2:Nat):Int)+((aa ([e27]:List Int):Nat):Int)))>48))
     (some (aG ()))
     (cond (yM (aa x.2.2.2.2.2.2.2+aa ([e27]:List Int)) 8)
      (rec (x.1,x.2.1,(ah .i64 (x.2.2.1+1)),x.2.2.2.1,x.2.2.2.2.1,x.2.2.2.2.2.1,x.2.2.2.2.2.2.1,(x.2.2.2.2.2.2.2++([e27]:List Int))))
      (none)))))
  ((((nn ([e27]:List Int)).bind fun _ =>
    some false)).bind fun z36 =>
   cond z36
   (some (aG ()))
   (cond (decide ((ah .i64 (((aa x.2.2.2.2.2.2.2:Nat):Int)+((aa ([e27]:List Int):Nat):Int)))>48))
    (some (aG ()))
    (cond (yM (aa x.2.2.2.2.2.2.2+aa ([e27]:List Int)) 8)
     (rec (x.1,x.2.1,(ah .i64 (x.2.2.1+1)),x.2.2.2.1,x.2.2.2.2.1,x.2.2.2.2.2.1,x.2.2.2.2.2.2.1,(x.2.2.2.2.2.2.2++([e27]:List Int))))
     (none)))))
 (some (aU x.2.2.2.2.2.2.2))
def sd (rf:(((Option jI)×Int×jS×(List ((Option jI)×Int)))->Option (Option jI))) (a0:(Option jI)) (a1:Int) (a2:jS) (a3:(List ((Option jI)×Int))):Option (Option jI) :=
 ((lp (yG rf) ze) (a0,((aa (bX a0 []):Nat):Int),0,a2,a3,a0,a1,([]:jI))).bind fun r40 =>
 yA r40
 (fun z41=>((nn z41).bind fun z=>some ((2:Nat),some z)).bind fun p42 =>
  some p42.2)
 (fun _z43=>some (none:(Option jI)))
def ZD (rf:(((Option jI)×Int×jS×(List ((Option jI)×Int)))->Option (Option jI))):(((Option jI)×Int×jS×(List ((Option jI)×Int)))->Option (Option jI)) :=
 fun (x:((Option jI)×Int×jS×(List ((Option jI)×Int))))=>sd rf x.1 x.2.1 x.2.2.1 x.2.2.2
def ZA:(((Option jI)×Int×jS×(List ((Option jI)×Int)))->Option (Option jI)):=fun _=>none
def qF (k:Nat):(((Option jI)×Int×jS×(List ((Option jI)×Int)))->Option (Option jI)):=lpR ZA ZD k
def rR (a0:(Option jI)) (a1:Int) (a2:jS) (a3:(List ((Option jI)×Int))):Option (Option jI):=(qF ze) (a0,a1,a2,a3)
def wm (rec:(Int×jS×(List ((Option jI)×Int))×(List (Int×jI)))->Option ((List (Int×jI))⊕(Bool×Int))) (x:(Int×jS×(List ((Option jI)×Int))×(List (Int×jI)))):Option ((List (Int×jI))⊕(Bool×Int)) :=
 cond (decide (x.1<24))
 ((inR x.1 48).bind fun k16 =>
  (x.2.2.1[k16]?).bind fun x17 =>
  cond (cB x17.1)
  (rec ((ah .i64 (x.1+1)),x.2.1,x.2.2.1,x.2.2.2))
  ((inR x.1 48).bind fun k18 =>
   (x.2.2.1[k18]?).bind fun x19 =>
   (rR x19.1 x19.2 x.2.1 x.2.2.1).bind fun r20 =>
   cond (cB r20)
   (some (aG (false,401)))
   ((vN (bX r20 [])).bind fun r21 =>
    cond (yM (aa x.2.2.2+aa ([(x.1,r21)]:List (Int×jI))) 32)
    (rec ((ah .i64 (x.1+1)),x.2.1,x.2.2.1,(x.2.2.2++([(x.1,r21)]:List (Int×jI)))))
    (none))))
 (some (aU x.2.2.2))
def tS (a0:jS) (a1:jI) (a2:jI):Option (Bool×Int×(List (Int×jI))) :=
 (j9 a0 a1).bind fun r25 =>
 (j9 a0 a2).bind fun r26 =>
 cond (r25.2 != 0)
 (some (false,400,([]:(List (Int×jI)))))
 (cond (r26.2 != 0)
  (some (false,400,([]:(List (Int×jI)))))
  (cond (r25.1 != r26.1)
   (some (false,0,([]:(List (Int×jI)))))
   ((xM a1 0 a2 0 a0 (az 48 ((none:(Option jI)),(0:Int)))).bind fun r27 =>
    cond (!r27.1)
    (some (false,0,([]:(List (Int×jI)))))
    (((lp wm ze) (0,r27.2.1,r27.2.2,([]:(List (Int×jI))))).bind fun r28 =>
     yA r28
     (fun z29=>some (true,0,z29))
     (fun z30=>some (z30.1,z30.2,([]:(List (Int×jI)))))))))
def jP (a0:Int):Option jR :=
 cond (decide (a0<0))
 (none)
 (cond (decide ((ah .i64 (a0 - 0))>0))
  (cond (eqI 0 0&&eqI 0 0)
   (cond (Cg (ah .i64 (a0 - 0)))
    (cond (yM (bP (ah .i64 (a0 - 0))) 24)
     ((vU (az (bP (ah .i64 (a0 - 0))) ([]:jI)) none (some 0)).bind fun y2 =>
      some y2)
     (none))
    (none))
   (none))
  (some ([]:jR)))
def xK (rec:((List jR)×Int×Int×jR)->Option jR) (x:((List jR)×Int×Int×jR)):Option jR :=
 cond (decide (x.2.2.1<x.2.1))
 ((gx x.1 x.2.2.1).bind fun e7 =>
  cond (yM (aa x.2.2.2+aa e7) 24)
  (rec (x.1,x.2.1,(ah .i64 (x.2.2.1+1)),(x.2.2.2++e7)))
  (none))
 (some x.2.2.2)
def xU (rec:((List jR)×Int×(List jR)×Int×Int)->Option Int) (x:((List jR)×Int×(List jR)×Int×Int)):Option Int :=
 cond (decide (x.2.2.2.2<x.2.2.2.1))
 ((gx x.2.2.1 x.2.2.2.2).bind fun e2 =>
  cond (decide ((ah .i64 (x.2.1+((aa e2:Nat):Int)))<0))
  (none)
  (rec (x.1,(ah .i64 (x.2.1+((aa e2:Nat):Int))),x.2.2.1,x.2.2.2.1,(ah .i64 (x.2.2.2.2+1)))))
 (some x.2.1)
def rz (a0:(List jR)):Option jR :=
 ((lp xU ze) (a0,0,a0,((aa a0:Nat):Int),0)).bind fun r9 =>
 (jP r9).bind fun r10 =>
 ((lp xK ze) (a0,((aa a0:Nat):Int),0,r10)).bind fun r11 =>
 some r11
def rk (a0:Int):Option jQ :=
 cond (decide (a0<0))
 (none)
 (cond (decide ((ah .i64 (a0 - 0))>0))
  (cond (eqI 0 0&&eqI 0 0)
   (cond (Cg (ah .i64 (a0 - 0)))
    (cond (yM (bP (ah .i64 (a0 - 0))) 32)
     ((vU (az (bP (ah .i64 (a0 - 0))) (false,([]:jI))) none (some 0)).bind fun y2 =>
      some y2)
     (none))
    (none))
   (none))
  (some ([]:jQ)))
def q8 (rec:((List jQ)×Int×Int×jQ)->Option jQ) (x:((List jQ)×Int×Int×jQ)):Option jQ :=
 cond (decide (x.2.2.1<x.2.1))
 ((gx x.1 x.2.2.1).bind fun e7 =>
  cond (yM (aa x.2.2.2+aa e7) 32)
  (rec (x.1,x.2.1,(ah .i64 (x.2.2.1+1)),(x.2.2.2++e7)))
  (none))
 (some x.2.2.2)
def q6 (rec:((List jQ)×Int×(List jQ)×Int×Int)->Option Int) (x:((List jQ)×Int×(List jQ)×Int×Int)):Option Int :=
 cond (decide (x.2.2.2.2<x.2.2.2.1))
 ((gx x.2.2.1 x.2.2.2.2).bind fun e2 =>
  cond (decide ((ah .i64 (x.2.1+((aa e2:Nat):Int)))<0))
  (none)
  (rec (x.1,(ah .i64 (x.2.1+((aa e2:Nat):Int))),x.2.2.1,x.2.2.2.1,(ah .i64 (x.2.2.2.2+1)))))
 (some x.2.1)
def vF (a0:(List jQ)):Option jQ :=
 ((lp q6 ze) (a0,0,a0,((aa a0:Nat):Int),0)).bind fun r9 =>
 (rk r9).bind fun r10 =>
 ((lp q8 ze) (a0,((aa a0:Nat):Int),0,r10)).bind fun r11 =>
 some r11
def wy (rec:(Int×jQ×Int×Int×jR×jQ×jQ)->Option (jR×jQ×jQ)) (x:(Int×jQ×Int×Int×jR×jQ×jQ)):Option (jR×jQ×jQ) :=
 cond (decide (x.2.2.2.1<x.2.2.1))
 ((gx x.2.1 x.2.2.2.1).bind fun e8 =>
  cond (x.2.2.2.1 != x.1)
  (cond (yM (aa x.2.2.2.2.2.1+aa ([(e8.1,e8.2)]:List zd)) 32)
   (rec (x.1,x.2.1,x.2.2.1,(ah .i64 (x.2.2.2.1+1)),x.2.2.2.2.1,(x.2.2.2.2.2.1++([(e8.1,e8.2)]:List zd)),x.2.2.2.2.2.2))
   (none))
  (rec (x.1,x.2.1,x.2.2.1,(ah .i64 (x.2.2.2.1+1)),x.2.2.2.2.1,x.2.2.2.2.2.1,x.2.2.2.2.2.2)))
 (some (x.2.2.2.2.1,x.2.2.2.2.2.1,x.2.2.2.2.2.2))
def wx (rec:(Int×Int×jQ×Int×Int×jQ×jR×jQ×jR×jQ×jQ)->Option (jR×jQ×jQ)) (x:(Int×Int×jQ×Int×Int×jQ×jR×jQ×jR×jQ×jQ)):Option (jR×jQ×jQ) :=
 cond (decide (x.2.2.2.2.1<x.2.2.2.1))
 ((gx x.2.2.1 x.2.2.2.2.1).bind fun e5 =>
  cond (x.2.2.2.2.1 != x.1)
  (cond (yM (aa x.2.2.2.2.2.2.2.2.2.1+aa ([(e5.1,e5.2)]:List zd)) 32)
   (rec (x.1,x.2.1,x.2.2.1,x.2.2.2.1,(ah .i64 (x.2.2.2.2.1+1)),x.2.2.2.2.2.1,x.2.2.2.2.2.2.1,x.2.2.2.2.2.2.2.1,x.2.2.2.2.2.2.2.2.1,(x.2.2.2.2.2.2.2.2.2.1++([(e5.1,e5.2)]:List zd)),x.2.2.2.2.2.2.2.2.2.2))
   (none))
  (rec (x.1,x.2.1,x.2.2.1,x.2.2.2.1,(ah .i64 (x.2.2.2.2.1+1)),x.2.2.2.2.2.1,x.2.2.2.2.2.2.1,x.2.2.2.2.2.2.2.1,x.2.2.2.2.2.2.2.2.1,x.2.2.2.2.2.2.2.2.2.1,x.2.2.2.2.2.2.2.2.2.2)))
 (some (x.2.2.2.2.2.2.2.2.1,x.2.2.2.2.2.2.2.2.2.1,x.2.2.2.2.2.2.2.2.2.2))
def sG (a0:jQ) (a1:jR) (a2:jQ) (a3:Int) (a4:jQ) (a5:jR) (a6:jQ) (a7:Int):Option (jR×jQ×jQ) :=
 (rz ([a1,a5]:List jR)).bind fun r10 =>
 (vF ([a2,a6]:List jQ)).bind fun r11 =>
 ((lp wx ze) (a3,a7,a0,((aa a0:Nat):Int),0,a4,a5,a6,r10,([]:jQ),r11)).bind fun r12 =>
 ((lp wy ze) (a7,a4,((aa a4:Nat):Int),0,r12.1,r12.2.1,r12.2.2)).bind fun r13 =>
 some (r13.1,r13.2.1,r13.2.2)
def uR (rec:(Int×(List (Int×jI))×Int×Int)->Option (Unit⊕jI)) (x:(Int×(List (Int×jI))×Int×Int)):Option (Unit⊕jI) :=
 cond (decide (x.2.2.2<x.2.2.1))
 ((gx x.2.1 x.2.2.2).bind fun e2 =>
  cond (e2.1==x.1)
  (some (aG e2.2))
  (rec (x.1,x.2.1,x.2.2.1,(ah .i64 (x.2.2.2+1)))))
 (some (aU ()))
def Yh (a0:(List (Int×jI))) (a1:Int):Option (Option jI) :=
 ((lp uR ze) (a1,a0,((aa a0:Nat):Int),0)).bind fun r6 =>
 yA r6
 (fun _z7=>some (none:(Option jI)))
 (fun z8=>(nn z8).bind fun p9 =>
  some (some p9))
def rB (rec:((List (Int×jI))×jI×Int×Int×jI)->Option jI) (x:((List (Int×jI))×jI×Int×Int×jI)):Option jI :=
 cond (decide (x.2.2.2.1<x.2.2.1))
 ((gx x.2.1 x.2.2.2.1).bind fun e10 =>
  (yd e10).bind fun r11 =>
  (Yh x.1 r11).bind fun r12 =>
  cond (decide (e10≥0))
  (cond (yM (aa x.2.2.2.2+aa ([e10]:List Int)) 8)
   (rec (x.1,x.2.1,x.2.2.1,(ah .i64 (x.2.2.2.1+1)),(x.2.2.2.2++([e10]:List Int))))
   (none))
  (cond (cB r12)
   (cond (yM (aa x.2.2.2.2+aa ([e10]:List Int)) 8)
    (rec (x.1,x.2.1,x.2.2.1,(ah .i64 (x.2.2.2.1+1)),(x.2.2.2.2++([e10]:List Int))))
    (none))
   (cond (yM (aa x.2.2.2.2+aa (bX r12 [])) 8)
    (rec (x.1,x.2.1,x.2.2.1,(ah .i64 (x.2.2.2.1+1)),(x.2.2.2.2++(bX r12 []))))
    (none))))
 (some x.2.2.2.2)
def X9 (a0:(List (Int×jI))) (a1:jI):Option jI :=
 ((lp rB ze) (a0,a1,((aa a1:Nat):Int),0,([]:jI))).bind fun r14 =>
 some r14
def xh (a0:jI) (a1:(List (Int×jI))):Option jI :=
 (X9 a1 a0).bind fun r2 =>
 some r2
def vk (rec:(jQ×Int×Int×(List (Int×jI))×jQ×jR×jQ)->Option (jQ×jR×jQ)) (x:(jQ×Int×Int×(List (Int×jI))×jQ×jR×jQ)):Option (jQ×jR×jQ) :=
 cond (decide (x.2.2.1<x.2.1))
 ((gx x.1 x.2.2.1).bind fun e19 =>
  (xh e19.2 x.2.2.2.1).bind fun r20 =>
  cond (yM (aa x.2.2.2.2.2.2+aa ([(e19.1,r20)]:List zd)) 32)
  (rec (x.1,x.2.1,(ah .i64 (x.2.2.1+1)),x.2.2.2.1,x.2.2.2.2.1,x.2.2.2.2.2.1,(x.2.2.2.2.2.2++([(e19.1,r20)]:List zd))))
  (none))
 (some (x.2.2.2.2.1,x.2.2.2.2.2.1,x.2.2.2.2.2.2))
def va (rec:(jR×Int×Int×(List (Int×jI))×jQ×jR×jQ×jQ×jR)->Option (jQ×jR)) (x:(jR×Int×Int×(List (Int×jI))×jQ×jR×jQ×jQ×jR)):Option (jQ×jR) :=
 cond (decide (x.2.2.1<x.2.1))
 ((gx x.1 x.2.2.1).bind fun e12 =>
  (xh e12 x.2.2.2.1).bind fun r13 =>
  cond (yM (aa x.2.2.2.2.2.2.2.2+aa ([r13]:List jI)) 24)
  (rec (x.1,x.2.1,(ah .i64 (x.2.2.1+1)),x.2.2.2.1,x.2.2.2.2.1,x.2.2.2.2.2.1,x.2.2.2.2.2.2.1,x.2.2.2.2.2.2.2.1,(x.2.2.2.2.2.2.2.2++([r13]:List jI))))
  (none))
 (some (x.2.2.2.2.2.2.2.1,x.2.2.2.2.2.2.2.2))
def vp (rec:(jQ×Int×Int×(List (Int×jI))×jQ×jR×jQ×jQ)->Option jQ) (x:(jQ×Int×Int×(List (Int×jI))×jQ×jR×jQ×jQ)):Option jQ :=
 cond (decide (x.2.2.1<x.2.1))
 ((gx x.1 x.2.2.1).bind fun e5 =>
  (xh e5.2 x.2.2.2.1).bind fun r6 =>
  cond (yM (aa x.2.2.2.2.2.2.2+aa ([(e5.1,r6)]:List zd)) 32)
  (rec (x.1,x.2.1,(ah .i64 (x.2.2.1+1)),x.2.2.2.1,x.2.2.2.2.1,x.2.2.2.2.2.1,x.2.2.2.2.2.2.1,(x.2.2.2.2.2.2.2++([(e5.1,r6)]:List zd))))
  (none))
 (some x.2.2.2.2.2.2.2)
def QD (a0:jQ) (a1:jR) (a2:jQ) (a3:(List (Int×jI))):Option (jQ×jR×jQ) :=
 ((lp vp ze) (a0,((aa a0:Nat):Int),0,a3,a0,a1,a2,([]:jQ))).bind fun r22 =>
 ((lp va ze) (a1,((aa a1:Nat):Int),0,a3,a0,a1,a2,r22,([]:jR))).bind fun r23 =>
 ((lp vk ze) (a2,((aa a2:Nat):Int),0,a3,r23.1,r23.2,([]:jQ))).bind fun r24 =>
 some (r24.1,r24.2.1,r24.2.2)
def jo (a0:(List (Int×jI))) (a1:jQ) (a2:jR) (a3:jQ):Option (jQ×jR×jQ) :=
 (QD a1 a2 a3 a0).bind fun r2 =>
 some (r2.1,r2.2.1,r2.2.2)
def j7 (a0:Bool) (a1:jI) (a2:jS):Option Bool :=
 (Zm a2 a0 a1).bind fun r2 =>
 some (!r2)
def y0 (rec:(jQ×Int×Int×jS)->Option (Unit⊕Int)) (x:(jQ×Int×Int×jS)):Option (Unit⊕Int) :=
 cond (decide (x.2.2.1<x.2.1))
 ((gx x.1 x.2.2.1).bind fun e3 =>
  (j7 e3.1 e3.2 x.2.2.2).bind fun r4 =>
  cond r4
  (some (aG x.2.2.1))
  (rec (x.1,x.2.1,(ah .i64 (x.2.2.1+1)),x.2.2.2)))
 (some (aU ()))
def tA (a0:jQ) (a1:jS):Option Int :=
 ((lp y0 ze) (a0,((aa a0:Nat):Int),0,a1)).bind fun r8 =>
 yA r8
 (fun _z9=>some (-1))
 (fun z10=>some z10)
def vz (a0:jQ) (a1:jS):Option Bool :=
 (tA a0 a1).bind fun r2 =>
 some (decide (r2≥0))
def ur (a0:jS) (a1:jI):Option Bool :=
 (tZ a0 a1).bind fun r2 =>
 cond r2.1
 (some (((aa r2.2:Nat):Int)==1))
 (some false)
def vr (rec:(jI×Int×Int×jI)->Option jI) (x:(jI×Int×Int×jI)):Option jI :=
 cond (decide (x.2.2.1<x.2.1))
 ((gx x.1 x.2.2.1).bind fun e7 =>
  cond (decide (e7<0))
  ((yd e7).bind fun r8 =>
   (inR r8 24).bind fun k9 =>
   (x.2.2.2[k9]?).bind fun x10 =>
   (inR r8 24).bind fun k11 =>
   (x.2.2.2[k11]?).bind fun _x12 =>
   rec (x.1,x.2.1,(ah .i64 (x.2.2.1+1)),(cP x.2.2.2 k11 (ah .i64 (x10+1)))))
  (rec (x.1,x.2.1,(ah .i64 (x.2.2.1+1)),x.2.2.2)))
 (some x.2.2.2)
def rO (a0:jI):Option jI :=
 ((lp vr ze) (a0,((aa a0:Nat):Int),0,(az 24 (0:Int)))).bind fun r14 =>
 cond (ay (aa r14) 24)
 (cond (ay (aa r14) 24)
  (cond (ay (aa r14) 24)
   (some r14)
   (none))
  (none))
 (none)
def xF (rec:(Int×jI×jI)->Option (Unit⊕Bool)) (x:(Int×jI×jI)):Option (Unit⊕Bool) :=
 cond (decide (x.1<24))
 ((inR x.1 24).bind fun k11 =>
  (x.2.1[k11]?).bind fun x12 =>
  (inR x.1 24).bind fun k13 =>
  (x.2.2[k13]?).bind fun x14 =>
  cond (decide (x12<x14))
  (some (aG false))
  (rec ((ah .i64 (x.1+1)),x.2.1,x.2.2)))
 (some (aU ()))
def kr (a0:jI) (a1:jI):Option Bool :=
 (rO a0).bind fun r18 =>
 (rO a1).bind fun r19 =>
 cond (ay (aa (az 24 (0:Int))) 24)
 (cond (ay (aa (az 24 (0:Int))) 24)
  (((lp xF ze) (0,r18,r19)).bind fun r20 =>
   yA r20
   (fun _z21=>some true)
   (fun z22=>some z22))
  (none))
 (none)
def t7 (rec:(jS×Int×jI×Int×Int)->Option Int) (x:(jS×Int×jI×Int×Int)):Option Int :=
 cond (decide (x.2.2.2.2<x.2.2.2.1))
 ((gx x.2.2.1 x.2.2.2.2).bind fun e3 =>
  cond (decide (e3<0))
  (rec (x.1,(ah .i64 (x.2.1+1)),x.2.2.1,x.2.2.2.1,(ah .i64 (x.2.2.2.2+1))))
  ((gx x.1 e3).bind fun e4 =>
   rec (x.1,(ah .i64 (x.2.1+e4.2.2.2)),x.2.2.1,x.2.2.2.1,(ah .i64 (x.2.2.2.2+1)))))
 (some x.2.1)
def j4 (a0:jS) (a1:jI):Option Int :=
 ((lp t7 ze) (a0,0,a1,((aa a1:Nat):Int),0)).bind fun r6 =>
 some r6
def wD (rec:(jR×jR×Int×Int)->Option (Unit⊕(jI×jI))) (x:(jR×jR×Int×Int)):Option (Unit⊕(jI×jI)) :=
 cond (decide (x.2.2.2<x.2.2.1))
 ((gx x.2.1 x.2.2.2).bind fun e7 =>
  cond (decide (x.2.2.2<((aa x.1:Nat):Int)))
  ((gx x.1 x.2.2.2).bind fun e8 =>
   (yk e7 e8).bind fun r9 =>
   cond (!r9)
   ((gx x.1 x.2.2.2).bind fun e10 =>
    some (aG (e7,e10)))
   (rec (x.1,x.2.1,x.2.2.1,(ah .i64 (x.2.2.2+1)))))
  (rec (x.1,x.2.1,x.2.2.1,(ah .i64 (x.2.2.2+1)))))
 (some (aU ()))
def Z0 (a0:jS) (a1:jI) (a2:jI):Option (jI×jI) :=
 (wN a0 a2).bind fun r14 =>
 (wN a0 a1).bind fun r15 =>
 ((lp wD ze) (r14,r15,((aa r15:Nat):Int),0)).bind fun r16 =>
 yA r16
 (fun _z17=>some (([]:jI),([]:jI)))
 (fun z18=>some (z18.1,z18.2))
def tH (rec:(jS×jI×jI)->Option (Unit⊕Bool)) (x:(jS×jI×jI)):Option (Unit⊕Bool) :=
 (((nn x.2.1).bind fun _ =>
  some false)).bind fun z23 =>
 cond (!z23)
 ((kr x.2.1 x.2.2).bind fun r24 =>
  cond r24
  ((j4 x.1 x.2.1).bind fun r25 =>
   (j4 x.1 x.2.2).bind fun r26 =>
   cond (r25 != r26)
   (some (aG (decide (r25>r26))))
   ((gx x.2.1 0).bind fun e27 =>
    (gx x.2.2 0).bind fun e28 =>
    cond (e27 != e28)
    ((gx x.2.1 0).bind fun e29 =>
     (gx x.2.2 0).bind fun e30 =>
     some (aG (decide (e29>e30))))
    ((vU x.2.1 (some 1) none).bind fun y31 =>
     (vU x.2.2 (some 1) none).bind fun y32 =>
     (Z0 x.1 y31 y32).bind fun r33 =>
     rec (x.1,r33.1,r33.2))))
  (some (aU ())))
 (some (aU ()))
def xo (a0:jS) (a1:jI) (a2:jI):Option Bool :=
 ((lp tH ze) (a0,a1,a2)).bind fun r37 =>
 yA r37
 (fun _z38=>some false)
 (fun z39=>some z39)
def wc (a0:jS) (a1:jI) (a2:jI):Option (Int×Int) :=
 (ur a0 a1).bind fun r19 =>
 cond r19
 ((ur a0 a2).bind fun r20 =>
  (wV a0 a1).bind fun r21 =>
  cond r21
  ((wV a0 a2).bind fun r22 =>
   cond (!r20)
   (cond (!r22)
    (some (0,600))
    ((yk a1 a2).bind fun r23 =>
     cond r23
     (some (1,0))
     ((xo a0 a1 a2).bind fun r24 =>
      cond r24
      (some (2,0))
      ((xo a0 a2 a1).bind fun r25 =>
       cond r25
       (some (0,0))
       (some (3,0))))))
   ((yk a1 a2).bind fun r26 =>
    cond r26
    (some (1,0))
    ((xo a0 a1 a2).bind fun r27 =>
     cond r27
     (some (2,0))
     ((xo a0 a2 a1).bind fun r28 =>
      cond r28
      (some (0,0))
      (some (3,0))))))
  (cond (!r20)
   (some (0,600))
   ((yk a1 a2).bind fun r29 =>
    cond r29
    (some (1,0))
    ((xo a0 a1 a2).bind fun r30 =>
     cond r30
     (some (2,0))
     ((xo a0 a2 a1).bind fun r31 =>
      cond r31
      (some (0,0))
      (some (3,0)))))))
 ((wV a0 a1).bind fun r32 =>
  cond r32
  ((wV a0 a2).bind fun r33 =>
   cond (!r33)
   (some (0,600))
   ((yk a1 a2).bind fun r34 =>
    cond r34
    (some (1,0))
    ((xo a0 a1 a2).bind fun r35 =>
     cond r35
     (some (2,0))
     ((xo a0 a2 a1).bind fun r36 =>
      cond r36
      (some (0,0))
      (some (3,0))))))
  (some (0,600)))
def Ze (a0:jS) (a1:Bool) (a2:jI) (a3:Bool) (a4:jI):Option (Int×Int) :=
 (Zm a0 a1 a2).bind fun r4 =>
 cond (!r4)
 (some (0,700))
 ((Zm a0 a3 a4).bind fun r5 =>
  cond (!r5)
  (some (0,700))
  ((wc a0 a2 a4).bind fun r6 =>
   cond (r6.1 != 1)
   (some (r6.1,0))
   (cond (a1==a3)
    (some (r6.1,0))
    (cond a1
     (some (2,0))
     (some (0,0))))))
def Zl (a0:Bool) (a1:jI) (a2:jS) (a3:Bool) (a4:jI):Option Bool :=
 (Ze a2 a0 a1 a3 a4).bind fun r2 =>
 some (r2.1==2)
def qb (rec:(jQ×Int×Int×jS×Bool×jI)->Option (Unit⊕Int)) (x:(jQ×Int×Int×jS×Bool×jI)):Option (Unit⊕Int) :=
 cond (decide (x.2.2.1<x.2.1))
 ((gx x.1 x.2.2.1).bind fun e3 =>
  (Zl e3.1 e3.2 x.2.2.2.1 x.2.2.2.2.1 x.2.2.2.2.2).bind fun r4 =>
  cond r4
  (some (aG x.2.2.1))
  (rec (x.1,x.2.1,(ah .i64 (x.2.2.1+1)),x.2.2.2.1,x.2.2.2.2.1,x.2.2.2.2.2)))
 (some (aU ()))
def uY (a0:jQ) (a1:jS) (a2:Bool) (a3:jI):Option Int :=
 ((lp qb ze) (a0,((aa a0:Nat):Int),0,a1,a2,a3)).bind fun r8 =>
 yA r8
 (fun _z9=>some (-1))
 (fun z10=>some z10)
def qV (a0:jQ) (a1:jS) (a2:Bool) (a3:jI):Option Bool :=
 (uY a0 a1 a2 a3).bind fun r2 =>
 some (decide (r2≥0))
def se (rec:(jQ×jQ×Int×Int×jS×jI)->Option jI) (x:(jQ×jQ×Int×Int×jS×jI)):Option jI :=
 cond (decide (x.2.2.2.1<x.2.2.1))
 ((gx x.2.1 x.2.2.2.1).bind fun e7 =>
  (qV x.1 x.2.2.2.2.1 e7.1 e7.2).bind fun r8 =>
  cond (!r8)
  (cond (yM (aa x.2.2.2.2.2+aa ([x.2.2.2.1]:List Int)) 8)
   (rec (x.1,x.2.1,x.2.2.1,(ah .i64 (x.2.2.2.1+1)),x.2.2.2.2.1,(x.2.2.2.2.2++([x.2.2.2.1]:List Int))))
   (none))
  (rec (x.1,x.2.1,x.2.2.1,(ah .i64 (x.2.2.2.1+1)),x.2.2.2.2.1,x.2.2.2.2.2)))
 (some x.2.2.2.2.2)
def Xb (a0:jS) (a1:jQ):Option (Int×jI) :=
 (YD a0).bind fun r10 =>
 cond (!r10)
 (some (700,([]:jI)))
 ((vz a1 a0).bind fun r11 =>
  cond r11
  (some (700,([]:jI)))
  (((lp se ze) (a1,a1,((aa a1:Nat):Int),0,a0,([]:jI))).bind fun r12 =>
   some (0,r12)))
def wz (a0:jS) (a1:Bool) (a2:jI):Option Bool :=
 cond a1
 (some false)
 ((gx a2 0).bind fun e9 =>
  cond (e9 != 0)
  (some false)
  ((vU a2 (some 1) none).bind fun y10 =>
   (wN a0 y10).bind fun r11 =>
   (inR 0 (aa r11)).bind fun k12 =>
   (r11[k12]?).bind fun x13 =>
   (inR 1 (aa r11)).bind fun k14 =>
   (r11[k14]?).bind fun x15 =>
   (yk x13 x15).bind fun r16 =>
   some r16))
def vW (a0:Bool) (a1:jI) (a2:Bool) (a3:jI):Option Bool :=
 cond (!(a2==a0))
 ((yk a3 a1).bind fun r2 =>
  some r2)
 (some false)
def yV (rec:(jQ×Int×Int×Bool×jI)->Option (Unit⊕Int)) (x:(jQ×Int×Int×Bool×jI)):Option (Unit⊕Int) :=
 cond (decide (x.2.2.1<x.2.1))
 ((gx x.1 x.2.2.1).bind fun e3 =>
  (vW e3.1 e3.2 x.2.2.2.1 x.2.2.2.2).bind fun r4 =>
  cond r4
  (some (aG x.2.2.1))
  (rec (x.1,x.2.1,(ah .i64 (x.2.2.1+1)),x.2.2.2.1,x.2.2.2.2)))
 (some (aU ()))
def uX (a0:jQ) (a1:Bool) (a2:jI):Option Int :=
 ((lp yV ze) (a0,((aa a0:Nat):Int),0,a1,a2)).bind fun r8 =>
 yA r8
 (fun _z9=>some (-1))
 (fun z10=>some z10)
def qT (a0:jQ) (a1:Bool) (a2:jI):Option Bool :=
 (uX a0 a1 a2).bind fun r2 =>
 some (decide (r2≥0))
def xp (rec:(jS×jQ×Int×Int×jQ×jR×jQ)->Option (Unit⊕(Bool×Int))) (x:(jS×jQ×Int×Int×jQ×jR×jQ)):Option (Unit⊕(Bool×Int)) :=
 cond (decide (x.2.2.2.1<x.2.2.1))
 ((gx x.2.1 x.2.2.2.1).bind fun e5 =>
  (wz x.1 e5.1 e5.2).bind fun r6 =>
  cond r6
  (some (aG (true,0)))
  ((qT x.2.2.2.2.1 e5.1 e5.2).bind fun r7 =>
   cond r7
   (some (aG (true,0)))
   (rec (x.1,x.2.1,x.2.2.1,(ah .i64 (x.2.2.2.1+1)),x.2.2.2.2.1,x.2.2.2.2.2.1,x.2.2.2.2.2.2))))
 (some (aU ()))
def vt (a0:jS) (a1:jQ) (a2:jR) (a3:jQ):Option (Bool×Int) :=
 (wG a0 a1 a2 a3).bind fun r11 =>
 cond (!r11)
 (some (false,800))
 (((lp xp ze) (a0,a1,((aa a1:Nat):Int),0,a1,a2,a3)).bind fun r12 =>
  yA r12
  (fun _z13=>some (false,0))
  (fun z14=>some (z14.1,z14.2)))
def zS (a0:Int) (a1:Int) (a2:Int) (a3:Int) (a4:Int) (a5:Int) (a6:Int) (_a7:jQ) (_a8:jR) (_a9:jQ) (a10:jQ) (a11:jR) (a12:jQ) (a13:Bool) (a14:Int) (a15:jS) (a16:Int) (a17:jT):Option (jS×Int×jT) :=
 cond (a14 != 0)
 (some (a15,(ah .i64 (a16+1)),a17))
 ((vt a15 a10 a11 a12).bind fun r2 =>
  cond (!a13)
  (some (a15,a16,a17))
  (cond r2.1
   (some (a15,a16,a17))
   (cond (yM (aa a17+aa ([(a0,a1,a2,a3,a4,a5,a6,a10,a11,a12)]:List jU)) 128)
    (some (a15,a16,(a17++([(a0,a1,a2,a3,a4,a5,a6,a10,a11,a12)]:List jU))))
    (none))))
def tG (a0:Int) (a1:Int) (a2:Int) (a3:Int) (a4:Int) (a5:Int) (a6:Int) (a7:jQ) (a8:jR) (a9:jQ) (a10:Int) (a11:Int) (a12:Int) (a13:Int) (a14:Int) (a15:Int) (a16:Int) (a17:jQ) (a18:jR) (a19:jQ):Option Bool :=
 cond (a0==a10)
 (cond (a1==a11)
  (cond (a2==a12)
   (cond (a3==a13)
    (cond (a4==a14)
     (cond (a5==a15)
      (cond (a6==a16)
       ((yJ a7 a8 a9 a17 a18 a19).bind fun r2 =>
        some r2)
       (some false))
      (some false))
     (some false))
    (some false))
   (some false))
  (some false))
 (some false)
def xm (rec:(jT×jT×Int)->Option (Unit⊕Bool)) (x:(jT×jT×Int)):Option (Unit⊕Bool) :=
 cond (decide (x.2.2<((aa x.1:Nat):Int)))
 ((gx x.1 x.2.2).bind fun e4 =>
  (gx x.2.1 x.2.2).bind fun e5 =>
  (tG e4.1 e4.2.1 e4.2.2.1 e4.2.2.2.1 e4.2.2.2.2.1 e4.2.2.2.2.2.1 e4.2.2.2.2.2.2.1 e4.2.2.2.2.2.2.2.1 e4.2.2.2.2.2.2.2.2.1 e4.2.2.2.2.2.2.2.2.2 e5.1 e5.2.1 e5.2.2.1 e5.2.2.2.1 e5.2.2.2.2.1 e5.2.2.2.2.2.1 e5.2.2.2.2.2.2.1 e5.2.2.2.2.2.2.2.1 e5.2.2.2.2.2.2.2.2.1 e5.2.2.2.2.2.2.2.2.2).bind fun r6 =>
  cond (!r6)
  (some (aG false))
  (rec (x.1,x.2.1,(ah .i64 (x.2.2+1)))))
 (some (aU ()))
def vi (a0:jT) (a1:jT):Option Bool :=
 cond (((aa a0:Nat):Int) != ((aa a1:Nat):Int))
 (some false)
 (((lp xm ze) (a0,a1,0)).bind fun r10 =>
  yA r10
  (fun _z11=>some true)
  (fun z12=>some z12))
def zH (s1:jR) (s6:Int) (s8:Int):List jI->Nat->(List (jI×Int×jI×Int))->Option (List (jI×Int×jI×Int))
 | [],_i,s4=>some s4
 | e::es,i,s4 =>
  (gx s1 (i:Int)).bind fun e8 =>
  cond (yM (aa s4+aa ([(e,s6,e8,s8)]:List (jI×Int×jI×Int))) 64)
  (zH s1 s6 s8 es (i+1) (s4++([(e,s6,e8,s8)]:List (jI×Int×jI×Int))))
  (none)
theorem rN (s0:jR) (s1:jR) (s5:jI) (s6:Int) (s7:jI) (s8:Int) (s4:(List (jI×Int×jI×Int))) (hl:aa s0<=maxLen):lp qv ze (s0,s1,((aa s0:Nat):Int),0,s4,s5,s6,s7,s8)=zH s1 s6 s8 s0 0 s4:=xG qv (fun i s4=>(s0,s1,((aa s0:Nat):Int),i,s4,s5,s6,s7,s8)) (fun es i s4=>zH s1 s6 s8 es i s4) hl (fun r i s4 h=>by unfold qv zH; simp only[h,cond_false]) (fun r i s4 e es h g w k=>by unfold qv zH; simp only[h,cond_true,g,af,w,k]) s4
def zk (s0:Int) (s5:(List ((Option jI)×Int))) (s6:jI) (s7:Int):List Int->(List Bool)->(List (jI×Int))->Option (((List Bool)×(List (jI×Int)))⊕Bool)
 | [],s8,s9=>some (aU (s8,s9))
 | e::es,s8,s9 =>
  cond (decide (e≥0))
  (zk s0 s5 s6 s7 es s8 s9)
  ((yF s6 s7 e).bind fun r15 =>
   cond (r15==s0)
   (some (aG true))
   ((inR r15 48).bind fun k16 =>
    (s8[k16]?).bind fun x17 =>
    cond (!x17)
    ((inR r15 48).bind fun k18 =>
     (s5[k18]?).bind fun x19 =>
     cond (!(cB x19.1))
     ((inR r15 48).bind fun k20 =>
      (s8[k20]?).bind fun _x21 =>
      (inR r15 48).bind fun k22 =>
      (s5[k22]?).bind fun x23 =>
      cond (yM (aa s9+aa ([((bX x23.1 []),x23.2)]:List (jI×Int))) 32)
      (zk s0 s5 s6 s7 es (cP s8 k20 true) (s9++([((bX x23.1 []),x23.2)]:List (jI×Int))))
      (none))
     (zk s0 s5 s6 s7 es s8 s9))
    (zk s0 s5 s6 s7 es s8 s9)))
theorem kj (s0:Int) (s1:jI) (s4:jS) (s5:(List ((Option jI)×Int))) (s6:jI) (s7:Int) (s8:(List Bool)) (s9:(List (jI×Int))) (hl:aa s1<=maxLen):lp qD ze (s0,s1,((aa s1:Nat):Int),0,s4,s5,s6,s7,s8,s9)=zk s0 s5 s6 s7 s1 s8 s9:=zf8 qD (fun i s8 s9=>(s0,s1,((aa s1:Nat):Int),i,s4,s5,s6,s7,s8,s9)) (fun es i s8 s9=>zk s0 s5 s6 s7 es s8 s9) hl (fun r i s8 s9 h=>by unfold qD zk; simp only[h,cond_false]) (fun r i s8 s9 e es h g w k=>by unfold qD zk; simp only[h,cond_true,g,af,w,k]) s8 s9
def yt:List jR->jR->Option jR
 | [],s3=>some s3
 | e::es,s3 =>
  cond (yM (aa s3+aa e) 24)
  (yt es (s3++e))
  (none)
theorem jW (s0:(List jR)) (s3:jR) (hl:aa s0<=maxLen):lp xK ze (s0,((aa s0:Nat):Int),0,s3)=yt s0 s3:=xG xK (fun i s3=>(s0,((aa s0:Nat):Int),i,s3)) (fun es i s3=>yt es s3) hl (fun r i s3 h=>by unfold xK yt; simp only[h,cond_false]) (fun r i s3 e es h g w k=>by unfold xK yt; simp only[h,cond_true,g,af,w,k]) s3
def yn:List jR->Int->Option Int
 | [],s1=>some s1
 | e::es,s1 =>
  cond (decide ((ah .i64 (s1+((aa e:Nat):Int)))<0))
  (none)
  (yn es (ah .i64 (s1+((aa e:Nat):Int))))
theorem Zg (s0:(List jR)) (s2:(List jR)) (s1:Int) (hl:aa s2<=maxLen):lp xU ze (s0,s1,s2,((aa s2:Nat):Int),0)=yn s2 s1:=xG xU (fun i s1=>(s0,s1,s2,((aa s2:Nat):Int),i)) (fun es i s1=>yn es s1) hl (fun r i s1 h=>by unfold xU yn; simp only[h,cond_false]) (fun r i s1 e es h g w k=>by unfold xU yn; simp only[h,cond_true,g,af,w,k]) s1
def zU:List jQ->jQ->Option jQ
 | [],s3=>some s3
 | e::es,s3 =>
  cond (yM (aa s3+aa e) 32)
  (zU es (s3++e))
  (none)
theorem kF (s0:(List jQ)) (s3:jQ) (hl:aa s0<=maxLen):lp q8 ze (s0,((aa s0:Nat):Int),0,s3)=zU s0 s3:=xG q8 (fun i s3=>(s0,((aa s0:Nat):Int),i,s3)) (fun es i s3=>zU es s3) hl (fun r i s3 h=>by unfold q8 zU; simp only[h,cond_false]) (fun r i s3 e es h g w k=>by unfold q8 zU; simp only[h,cond_true,g,af,w,k]) s3
def zW:List jQ->Int->Option Int
 | [],s1=>some s1
 | e::es,s1 =>
  cond (decide ((ah .i64 (s1+((aa e:Nat):Int)))<0))
  (none)
  (zW es (ah .i64 (s1+((aa e:Nat):Int))))
theorem kD (s0:(List jQ)) (s2:(List jQ)) (s1:Int) (hl:aa s2<=maxLen):lp q6 ze (s0,s1,s2,((aa s2:Nat):Int),0)=zW s2 s1:=xG q6 (fun i s1=>(s0,s1,s2,((aa s2:Nat):Int),i)) (fun es i s1=>zW es s1) hl (fun r i s1 h=>by unfold q6 zW; simp only[h,cond_false]) (fun r i s1 e es h g w k=>by unfold q6 zW; simp only[h,cond_true,g,af,w,k]) s1
def yf (s0:Int) (s4:jR) (s6:jQ):List zd->Nat->jQ->Option (jR×jQ×jQ)
 | [],_i,s5=>some (s4,s5,s6)
 | e::es,i,s5 =>
  cond ((i:Int) != s0)
  (cond (yM (aa s5+aa ([(e.1,e.2)]:List zd)) 32)
   (yf s0 s4 s6 es (i+1) (s5++([(e.1,e.2)]:List zd)))
   (none))
  (yf s0 s4 s6 es (i+1) s5)
theorem ZG (s0:Int) (s1:jQ) (s4:jR) (s6:jQ) (s5:jQ) (hl:aa s1<=maxLen):lp wy ze (s0,s1,((aa s1:Nat):Int),0,s4,s5,s6)=yf s0 s4 s6 s1 0 s5:=xG wy (fun i s5=>(s0,s1,((aa s1:Nat):Int),i,s4,s5,s6)) (fun es i s5=>yf s0 s4 s6 es i s5) hl (fun r i s5 h=>by unfold wy yf; simp only[h,cond_false]) (fun r i s5 e es h g w k=>by unfold wy yf; simp only[h,cond_true,g,af,w,k]) s5
def ye (s0:Int) (s8:jR) (s10:jQ):List zd->Nat->jQ->Option (jR×jQ×jQ)
 | [],_i,s9=>some (s8,s9,s10)
 | e::es,i,s9 =>
  cond ((i:Int) != s0)
  (cond (yM (aa s9+aa ([(e.1,e.2)]:List zd)) 32)
   (ye s0 s8 s10 es (i+1) (s9++([(e.1,e.2)]:List zd)))
   (none))
  (ye s0 s8 s10 es (i+1) s9)
theorem ZE (s0:Int) (s1:Int) (s2:jQ) (s5:jQ) (s6:jR) (s7:jQ) (s8:jR) (s10:jQ) (s9:jQ) (hl:aa s2<=maxLen):lp wx ze (s0,s1,s2,((aa s2:Nat):Int),0,s5,s6,s7,s8,s9,s10)=ye s0 s8 s10 s2 0 s9:=xG wx (fun i s9=>(s0,s1,s2,((aa s2:Nat):Int),i,s5,s6,s7,s8,s9,s10)) (fun es i s9=>ye s0 s8 s10 es i s9) hl (fun r i s9 h=>by unfold wx ye; simp only[h,cond_false]) (fun r i s9 e es h g w k=>by unfold wx ye; simp only[h,cond_true,g,af,w,k]) s9
def xD (s0:Int):List (Int×jI)->Option (Unit⊕jI)
 | []=>some (aU ())
 | e::es =>
  cond (e.1==s0)
  (some (aG e.2))
  (xD s0 es)
theorem QI (s0:Int) (s1:(List (Int×jI))) (hl:aa s1<=maxLen):lp uR ze (s0,s1,((aa s1:Nat):Int),0)=xD s0 s1:=tW uR (fun i=>(s0,s1,((aa s1:Nat):Int),i)) (fun es i=>xD s0 es) hl (fun r i h=>by unfold uR xD; simp only[h,cond_false]) (fun r i e es h g w k=>by unfold uR xD; simp only[h,cond_true,g,af,w,k])
def qJ (s0:(List (Int×jI))):List Int->jI->Option jI
 | [],s4=>some s4
 | e::es,s4 =>
  (yd e).bind fun r11 =>
  (Yh s0 r11).bind fun r12 =>
  cond (decide (e≥0))
  (cond (yM (aa s4+aa ([e]:List Int)) 8)
   (qJ s0 es (s4++([e]:List Int)))
   (none))
  (cond (cB r12)
   (cond (yM (aa s4+aa ([e]:List Int)) 8)
    (qJ s0 es (s4++([e]:List Int)))
    (none))
   (cond (yM (aa s4+aa (bX r12 [])) 8)
    (qJ s0 es (s4++(bX r12 [])))
    (none)))
theorem XL (s0:(List (Int×jI))) (s1:jI) (s4:jI) (hl:aa s1<=maxLen):lp rB ze (s0,s1,((aa s1:Nat):Int),0,s4)=qJ s0 s1 s4:=xG rB (fun i s4=>(s0,s1,((aa s1:Nat):Int),i,s4)) (fun es i s4=>qJ s0 es s4) hl (fun r i s4 h=>by unfold rB qJ; simp only[h,cond_false]) (fun r i s4 e es h g w k=>by unfold rB qJ; simp only[h,cond_true,g,af,w,k]) s4
def yZ (s3:(List (Int×jI))) (s4:jQ) (s5:jR):List zd->jQ->Option (jQ×jR×jQ)
 | [],s6=>some (s4,s5,s6)
 | e::es,s6 =>
  (xh e.2 s3).bind fun r20 =>
  cond (yM (aa s6+aa ([(e.1,r20)]:List zd)) 32)
  (yZ s3 s4 s5 es (s6++([(e.1,r20)]:List zd)))
  (none)
theorem Ye (s0:jQ) (s3:(List (Int×jI))) (s4:jQ) (s5:jR) (s6:jQ) (hl:aa s0<=maxLen):lp vk ze (s0,((aa s0:Nat):Int),0,s3,s4,s5,s6)=yZ s3 s4 s5 s0 s6:=xG vk (fun i s6=>(s0,((aa s0:Nat):Int),i,s3,s4,s5,s6)) (fun es i s6=>yZ s3 s4 s5 es s6) hl (fun r i s6 h=>by unfold vk yZ; simp only[h,cond_false]) (fun r i s6 e es h g w k=>by unfold vk yZ; simp only[h,cond_true,g,af,w,k]) s6
def y9 (s3:(List (Int×jI))) (s7:jQ):List jI->jR->Option (jQ×jR)
 | [],s8=>some (s7,s8)
 | e::es,s8 =>
  (xh e s3).bind fun r13 =>
  cond (yM (aa s8+aa ([r13]:List jI)) 24)
  (y9 s3 s7 es (s8++([r13]:List jI)))
  (none)
theorem Z6 (s0:jR) (s3:(List (Int×jI))) (s4:jQ) (s5:jR) (s6:jQ) (s7:jQ) (s8:jR) (hl:aa s0<=maxLen):lp va ze (s0,((aa s0:Nat):Int),0,s3,s4,s5,s6,s7,s8)=y9 s3 s7 s0 s8:=xG va (fun i s8=>(s0,((aa s0:Nat):Int),i,s3,s4,s5,s6,s7,s8)) (fun es i s8=>y9 s3 s7 es s8) hl (fun r i s8 h=>by unfold va y9; simp only[h,cond_false]) (fun r i s8 e es h g w k=>by unfold va y9; simp only[h,cond_true,g,af,w,k]) s8
def yY (s3:(List (Int×jI))):List zd->jQ->Option jQ
 | [],s7=>some s7
 | e::es,s7 =>
  (xh e.2 s3).bind fun r6 =>
  cond (yM (aa s7+aa ([(e.1,r6)]:List zd)) 32)
  (yY s3 es (s7++([(e.1,r6)]:List zd)))
  (none)
theorem Z5 (s0:jQ) (s3:(List (Int×jI))) (s4:jQ) (s5:jR) (s6:jQ) (s7:jQ) (hl:aa s0<=maxLen):lp vp ze (s0,((aa s0:Nat):Int),0,s3,s4,s5,s6,s7)=yY s3 s0 s7:=xG vp (fun i s7=>(s0,((aa s0:Nat):Int),i,s3,s4,s5,s6,s7)) (fun es i s7=>yY s3 es s7) hl (fun r i s7 h=>by unfold vp yY; simp only[h,cond_false]) (fun r i s7 e es h g w k=>by unfold vp yY; simp only[h,cond_true,g,af,w,k]) s7
def zO (s3:jS):List zd->Nat->Option (Unit⊕Int)
 | [],_i=>some (aU ())
 | e::es,i =>
  (j7 e.1 e.2 s3).bind fun r4 =>
  cond r4
  (some (aG (i:Int)))
  (zO s3 es (i+1))
theorem re (s0:jQ) (s3:jS) (hl:aa s0<=maxLen):lp y0 ze (s0,((aa s0:Nat):Int),0,s3)=zO s3 s0 0:=tW y0 (fun i=>(s0,((aa s0:Nat):Int),i,s3)) (fun es i=>zO s3 es i) hl (fun r i h=>by unfold y0 zO; simp only[h,cond_false]) (fun r i e es h g w k=>by unfold y0 zO; simp only[h,cond_true,g,af,w,k])
def yX:List Int->jI->Option jI
 | [],s3=>some s3
 | e::es,s3 =>
  cond (decide (e<0))
  ((yd e).bind fun r8 =>
   (inR r8 24).bind fun k9 =>
   (s3[k9]?).bind fun x10 =>
   (inR r8 24).bind fun k11 =>
   (s3[k11]?).bind fun _x12 =>
   yX es (cP s3 k11 (ah .i64 (x10+1))))
  (yX es s3)
theorem ZV (s0:jI) (s3:jI) (hl:aa s0<=maxLen):lp vr ze (s0,((aa s0:Nat):Int),0,s3)=yX s0 s3:=xG vr (fun i s3=>(s0,((aa s0:Nat):Int),i,s3)) (fun es i s3=>yX es s3) hl (fun r i s3 h=>by unfold vr yX; simp only[h,cond_false]) (fun r i s3 e es h g w k=>by unfold vr yX; simp only[h,cond_true,g,af,w,k]) s3
def qf (s0:jS):List Int->Int->Option Int
 | [],s1=>some s1
 | e::es,s1 =>
  cond (decide (e<0))
  (qf s0 es (ah .i64 (s1+1)))
  ((gx s0 e).bind fun e4 =>
   qf s0 es (ah .i64 (s1+e4.2.2.2)))
theorem km (s0:jS) (s2:jI) (s1:Int) (hl:aa s2<=maxLen):lp t7 ze (s0,s1,s2,((aa s2:Nat):Int),0)=qf s0 s2 s1:=xG t7 (fun i s1=>(s0,s1,s2,((aa s2:Nat):Int),i)) (fun es i s1=>qf s0 es s1) hl (fun r i s1 h=>by unfold t7 qf; simp only[h,cond_false]) (fun r i s1 e es h g w k=>by unfold t7 qf; simp only[h,cond_true,g,af,w,k]) s1
def yH (s0:jR):List jI->Nat->Option (Unit⊕(jI×jI))
 | [],_i=>some (aU ())
 | e::es,i =>
  cond (decide ((i:Int)<((aa s0:Nat):Int)))
  ((gx s0 (i:Int)).bind fun e8 =>
   (yk e e8).bind fun r9 =>
   cond (!r9)
   ((gx s0 (i:Int)).bind fun e10 =>
    some (aG (e,e10)))
   (yH s0 es (i+1)))
  (yH s0 es (i+1))
theorem ZB (s0:jR) (s1:jR) (hl:aa s1<=maxLen):lp wD ze (s0,s1,((aa s1:Nat):Int),0)=yH s0 s1 0:=tW wD (fun i=>(s0,s1,((aa s1:Nat):Int),i)) (fun es i=>yH s0 es i) hl (fun r i h=>by unfold wD yH; simp only[h,cond_false]) (fun r i e es h g w k=>by unfold wD yH; simp only[h,cond_true,g,af,w,k])
def zQ (s3:jS) (s4:Bool) (s5:jI):List zd->Nat->Option (Unit⊕Int)
 | [],_i=>some (aU ())
 | e::es,i =>
  (Zl e.1 e.2 s3 s4 s5).bind fun r4 =>
  cond r4
  (some (aG (i:Int)))
  (zQ s3 s4 s5 es (i+1))
theorem rx (s0:jQ) (s3:jS) (s4:Bool) (s5:jI) (hl:aa s0<=maxLen):lp qb ze (s0,((aa s0:Nat):Int),0,s3,s4,s5)=zQ s3 s4 s5 s0 0:=tW qb (fun i=>(s0,((aa s0:Nat):Int),i,s3,s4,s5)) (fun es i=>zQ s3 s4 s5 es i) hl (fun r i h=>by unfold qb zQ; simp only[h,cond_false]) (fun r i e es h g w k=>by unfold qb zQ; simp only[h,cond_true,g,af,w,k])
def qK (s0:jQ) (s4:jS):List zd->Nat->jI->Option jI
 | [],_i,s5=>some s5
 | e::es,i,s5 =>
  (qV s0 s4 e.1 e.2).bind fun r8 =>
  cond (!r8)
  (cond (yM (aa s5+aa ([(i:Int)]:List Int)) 8)
   (qK s0 s4 es (i+1) (s5++([(i:Int)]:List Int)))
   (none))
  (qK s0 s4 es (i+1) s5)
theorem Q5 (s0:jQ) (s1:jQ) (s4:jS) (s5:jI) (hl:aa s1<=maxLen):lp se ze (s0,s1,((aa s1:Nat):Int),0,s4,s5)=qK s0 s4 s1 0 s5:=xG se (fun i s5=>(s0,s1,((aa s1:Nat):Int),i,s4,s5)) (fun es i s5=>qK s0 s4 es i s5) hl (fun r i s5 h=>by unfold se qK; simp only[h,cond_false]) (fun r i s5 e es h g w k=>by unfold se qK; simp only[h,cond_true,g,af,w,k]) s5
def zR (s3:Bool) (s4:jI):List zd->Nat->Option (Unit⊕Int)
 | [],_i=>some (aU ())
 | e::es,i =>
  (vW e.1 e.2 s3 s4).bind fun r4 =>
  cond r4
  (some (aG (i:Int)))
  (zR s3 s4 es (i+1))
theorem ry (s0:jQ) (s3:Bool) (s4:jI) (hl:aa s0<=maxLen):lp yV ze (s0,((aa s0:Nat):Int),0,s3,s4)=zR s3 s4 s0 0:=tW yV (fun i=>(s0,((aa s0:Nat):Int),i,s3,s4)) (fun es i=>zR s3 s4 es i) hl (fun r i h=>by unfold yV zR; simp only[h,cond_false]) (fun r i e es h g w k=>by unfold yV zR; simp only[h,cond_true,g,af,w,k])
def yD (s0:jS) (s4:jQ):List zd->Option (Unit⊕(Bool×Int))
 | []=>some (aU ())
 | e::es =>
  (wz s0 e.1 e.2).bind fun r6 =>
  cond r6
  (some (aG (true,0)))
  ((qT s4 e.1 e.2).bind fun r7 =>
   cond r7
   (some (aG (true,0)))
   (yD s0 s4 es))
theorem kQ (s0:jS) (s1:jQ) (s4:jQ) (s5:jR) (s6:jQ) (hl:aa s1<=maxLen):lp xp ze (s0,s1,((aa s1:Nat):Int),0,s4,s5,s6)=yD s0 s4 s1:=tW xp (fun i=>(s0,s1,((aa s1:Nat):Int),i,s4,s5,s6)) (fun es i=>yD s0 s4 es) hl (fun r i h=>by unfold xp yD; simp only[h,cond_false]) (fun r i e es h g w k=>by unfold xp yD; simp only[h,cond_true,g,af,w,k])
def yE (s1:jT):List jU->Nat->Option (Unit⊕Bool)
 | [],_i=>some (aU ())
 | e::es,i =>
  (gx s1 (i:Int)).bind fun e5 =>
  (tG e.1 e.2.1 e.2.2.1 e.2.2.2.1 e.2.2.2.2.1 e.2.2.2.2.2.1 e.2.2.2.2.2.2.1 e.2.2.2.2.2.2.2.1 e.2.2.2.2.2.2.2.2.1 e.2.2.2.2.2.2.2.2.2 e5.1 e5.2.1 e5.2.2.1 e5.2.2.2.1 e5.2.2.2.2.1 e5.2.2.2.2.2.1 e5.2.2.2.2.2.2.1 e5.2.2.2.2.2.2.2.1 e5.2.2.2.2.2.2.2.2.1 e5.2.2.2.2.2.2.2.2.2).bind fun r6 =>
  cond (!r6)
  (some (aG false))
  (yE s1 es (i+1))
theorem kW (s0:jT) (s1:jT) (hl:aa s0<=maxLen):lp xm ze (s0,s1,0)=yE s1 s0 0:=tW xm (fun i=>(s0,s1,i)) (fun es i=>yE s1 es i) hl (fun r i h=>by unfold xm yE; simp only[h,cond_false]) (fun r i e es h g w k=>by unfold xm yE; simp only[h,cond_true,g,af,w,k])
theorem sV {xs:List Int} (h:xs.length<=1099511627776):vN xs=some xs:=by
 unfold vN Yp;simp only[cH,cond_false,bp,bb,aN,bx];rw[zp (show xs.length*8<=140737488351232 by omega)]
 rfl
theorem CA (ys:List Int):(es:List Int)->(i:Nat)->es.length=(ys.drop i).length->qk ys es i=some (cond (decide (es=ys.drop i)) (.inl ()) (.inr false))
 | [],i,h=>by
  have:ys.drop i=[]:=List.eq_nil_of_length_eq_zero h.symm;rw[this]; rfl
 | e::es,i,h=>by
  cases hd:ys.drop i with
  | nil=>rw[hd] at h; simp at h
  | cons y r =>
   have hn:=zi hd;have:=CA ys es (i+1) (by rw[hn]; rw[hd] at h; simpa using h)
   unfold qk;simp only[qr,zn hd,af,this,hn];by_cases he:e=y
   ·subst he;simp
   ·have h1:(e != y)=true:=by simpa using he
    simp [h1,he]
theorem ww {xs ys:List Int} (h:xs.length<=maxLen):yk xs ys=some (decide (xs=ys)):=by
 unfold yk;by_cases hl:xs.length=ys.length
 ·rw[show (((aa xs:Nat):Int) != ((aa ys:Nat):Int))=false from by simp [hl],cond_false,ZJ _ _ h,CA ys xs 0 hl,bV]
  cases decide (xs=ys)<;>rfl
 ·rw[show (((aa xs:Nat):Int) != ((aa ys:Nat):Int))=true from by simp; omega,cond_true,decide_eq_false (by intro h; subst h; exact hl rfl)]
theorem D6 {a b:Bool} {xs ys:List Int} (h:xs.length<=maxLen):WX a xs b ys=some (decide ((a,xs)=(b,ys))):=by
 unfold WX;cases hab:(a==b) with
 | false =>
  have:a≠b:=by simpa using hab
  simp [this]
 | true =>
  have:a=b:=by simpa using hab
  subst this;rw[cond_true,ww h];simp
theorem A1 (l:zd) (hl:l.2.length<=maxLen):(es:List zd)->(i:Nat)->∃ r,yb l.1 l.2 es i=some r∧(l∈es->∃ j:Nat,r = .inr (j:Int))∧(l∉es->r = .inl ())
 | [],i=>⟨.inl (),rfl,(fun h=>by cases h),fun _=>rfl⟩
 | e::es,i=>by
  unfold yb so;rw[D6 hl];simp only[af];by_cases he:(l.1,l.2)=(e.1,e.2)
  ·rw[decide_eq_true he,cond_true];have he':l=e:=he;exact ⟨_,rfl,fun _=>⟨i,rfl⟩,fun h=>absurd (aB.2 (.inl he')) h⟩
  ·rw[decide_eq_false he,cond_false];obtain⟨r,h1,h2,h3⟩:=A1 l hl es (i+1);have he':l≠e:=he;refine ⟨r,h1,fun h=>h2 ?_,fun h=>h3 fun h'=>h (ai _ h')⟩;rcases aB.1 h with h | h
   ·exact absurd h he'
   ·exact h
theorem ZF {l:zd} {es:List zd} (hl:l.2.length<=maxLen) (h:es.length<=maxLen):xq es l.1 l.2=some (decide (l∈es)):=by
 unfold xq ra;rw[ki _ _ _ h];obtain⟨r,h1,h2,h3⟩:=A1 l hl es 0;rw[h1];by_cases hm:l∈es
 ·obtain⟨j,rfl⟩:=h2 hm;simp [yA,hm]
 ·rw[h3 hm];simp [yA,hm]
def zN {α:Type} [DecidableEq α]:List α->List α->List α
 | [],out=>out
 | e::es,out=>cond (decide (e∈out)) (zN es out) (zN es (out++[e]))
theorem x5 {α:Type} [DecidableEq α]:(es out:List α)->(zN es out).length<=out.length+es.length
 | [],out=>by simp [zN]
 | e::es,out=>by
  unfold zN;cases decide (e∈out) with
  | true=>have:=x5 es out; simp only[cond_true,aj]; omega
  | false=>have:=x5 es (out++[e]); simp only[cond_false,aj,ax,bb] at this ⊢; omega
theorem qP {α:Type} [DecidableEq α] {x:α}:(es out:List α)->(x∈zN es out↔x∈out∨x∈es)
 | [],out=>by simp [zN]
 | e::es,out=>by
  unfold zN;by_cases h:e∈out
  ·rw[decide_eq_true h,cond_true,qP es out,aB];constructor
   ·rintro (h1 | h1)
    ·exact .inl h1
    ·exact .inr (.inr h1)
   ·rintro (h1 | rfl | h1)
    ·exact .inl h1
    ·exact .inl h
    ·exact .inr h1
  ·rw[decide_eq_false h,cond_false,qP es (out++[e])];simp only[List.mem_append,aB,List.not_mem_nil,or_false];constructor
   ·rintro ((h1 | h1) | h1)
    ·exact .inl h1
    ·exact .inr (.inl h1)
    ·exact .inr (.inr h1)
   ·rintro (h1 | h1 | h1)
    ·exact .inl (.inl h1)
    ·exact .inl (.inr h1)
    ·exact .inr h1
theorem Bj:(es out:List zd)->(∀ e∈es,e.2.length<=maxLen)->out.length+es.length<=1000000->y5 es out=some (zN es out)
 | [],out,_,_=>rfl
 | e::es,out,h,hl=>by
  have h1:=h e (ak ..);have hl':out.length+(es.length+1)<=1000000:=hl;unfold y5 zN;rw[ZF h1 (by unfold maxLen; omega),af]
  by_cases hm:e∈out
  ·simp only[hm,decide_true,aA,cond_false,cond_true];exact Bj es out (fun x hx=>h x (ai _ hx)) (by omega)
  ·simp only[hm,decide_false,bJ,cond_false,cond_true];rw[zp (show (out.length+([(e.1,e.2)]:List zd).length)*32<=140737488351232 by simp; omega),cond_true]
   exact Bj es (out++[e]) (fun x hx=>h x (ai _ hx)) (by simp; omega)
theorem Y6 {es:List zd} (h:∀ e∈es,e.2.length<=maxLen) (hl:es.length<=1000000):rQ es=some (zN es []):=by
 unfold rQ;rw[Yi _ _ (by unfold maxLen; omega),Bj es [] h (by simpa using hl)]
 rfl
theorem AD (l:List Int) (hl:l.length<=maxLen):(es:List jI)->(i:Nat)->∃ r,zP l es i=some r∧(l∈es->∃ j:Nat,r = .inr (j:Int))∧(l∉es->r = .inl ())
 | [],i=>⟨.inl (),rfl,(fun h=>by cases h),fun _=>rfl⟩
 | e::es,i=>by
  unfold zP sq;rw[ww hl];simp only[af];by_cases he:l=e
  ·rw[decide_eq_true he,cond_true];exact ⟨_,rfl,fun _=>⟨i,rfl⟩,fun h=>absurd (aB.2 (.inl he)) h⟩
  ·rw[decide_eq_false he,cond_false];obtain⟨r,h1,h2,h3⟩:=AD l hl es (i+1);refine ⟨r,h1,fun h=>h2 ?_,fun h=>h3 fun h'=>h (ai _ h')⟩;rcases aB.1 h with h | h
   ·exact absurd h he
   ·exact h
theorem jl {l:List Int} {es:List jI} (hl:l.length<=maxLen) (h:es.length<=maxLen):qM es l=some (decide (l∈es)):=by
 unfold qM tq;rw[ri _ _ h];obtain⟨r,h1,h2,h3⟩:=AD l hl es 0;rw[h1];by_cases hm:l∈es
 ·obtain⟨j,rfl⟩:=h2 hm;simp [yA,hm]
 ·rw[h3 hm];simp [yA,hm]
theorem D3 (s3 s4:List zd):(es out:List jI)->(∀ e∈es,e.length<=maxLen)->out.length+es.length<=1000000->qa s3 s4 es out=some (s3,s4,zN es out)
 | [],out,_,_=>rfl
 | e::es,out,h,hl=>by
  have h1:=h e (ak ..);have hl':out.length+(es.length+1)<=1000000:=hl;unfold qa zN;rw[jl h1 (by unfold maxLen; omega),af]
  by_cases hm:e∈out
  ·simp only[hm,decide_true,aA,cond_false,cond_true];exact D3 s3 s4 es out (fun x hx=>h x (ai _ hx)) (by omega)
  ·simp only[hm,decide_false,bJ,cond_false,cond_true];rw[zp (show (out.length+([e]:List jI).length)*24<=140737488351232 by simp; omega),cond_true]
   exact D3 s3 s4 es (out++[e]) (fun x hx=>h x (ai _ hx)) (by simp; omega)
def WQ (s:List Int×Int) (c:Int):Int×(List Int×Int) :=
 cond (decide (c≥0)) (c,s) (cond (s.1.getD (-1 - c).toNat 0==0) (-(s.2+1),(s.1.set (-1 - c).toNat (s.2+1),s.2+1)) (-(s.1.getD (-1 - c).toNat 0),s))
def sZ:List Int×Int->List Int->List Int×(List Int×Int)
 | s,[]=>([],s)
 | s,c::cs=>((WQ s c).1::(sZ (WQ s c).2 cs).1,(sZ (WQ s c).2 cs).2)
theorem GA:(s:List Int×Int)->(cs:List Int)->(sZ s cs).1.length=cs.length
 | _,[]=>rfl
 | s,c::cs=>by simp [sZ,GA (WQ s c).2 cs]
structure RenOk (s:List Int×Int) (b:Int):Prop where
 len:s.1.length=24
 lo:0<=s.2
 hi:s.2<=b
 all:∀ x∈s.1,0<=x∧x<=s.2
theorem RenOk.more {s:List Int×Int} {b b':Int} (h:RenOk s b) (hb:b<=b'):RenOk s b':=⟨h.len,h.lo,Int.le_trans h.hi hb,h.all⟩
theorem RenOk.get {s:List Int×Int} {b:Int} (h:RenOk s b) (v:Nat):0<=s.1.getD v 0∧s.1.getD v 0<=s.2:=by
 have h0:=h.lo;rw[aD];cases hv:s.1[v]? with
 | none=>exact ⟨d5 _,h0⟩
 | some x=>exact h.all x (List.mem_of_getElem? hv)
theorem Mt {s:List Int×Int} {b:Int} (h:RenOk s b) (c:Int):RenOk (WQ s c).2 (b+1):=by
 unfold WQ;cases decide (c≥0) with
 | true=>exact h.more (by omega)
 | false =>
  rw[cond_false];cases (s.1.getD (-1 - c).toNat 0==0) with
  | false=>exact h.more (by omega)
  | true =>
   refine ⟨by simpa using h.len,by have:=h.lo; simp; omega,by have:=h.hi; simp; omega,fun x hx => ?_⟩
   simp only[cond_true] at hx ⊢;rcases List.mem_or_eq_of_mem_set hx with hx | rfl
   ·have:=h.all x hx; omega
   ·have:=h.lo; omega
theorem Qu:{s:List Int×Int}->{b:Int}->(cs:List Int)->RenOk s b->RenOk (sZ s cs).2 (b+cs.length)
 | s,b,[],h=>by simpa[sZ] using h
 | s,b,c::cs,h=>by
  have:=Qu cs (Mt h c);simp only[sZ,aj];exact this.more (by omega)
theorem Nj {α:Type} (done es:List α) (e x:α):(done++e::es).set done.length x=done++x::es:=by
 rw[List.set_append_right _ _ (aE _),d9];rfl
theorem Gm {α:Type} (done es:List α) (e:α):(done++e::es)[done.length]? = some e:=by
 rw[List.getElem?_append_right (aE _),d9];rfl
theorem I4:(es done:List Int)->(s:List Int×Int)->(k:Nat)->es.length<k->done.length+es.length<=1000000->RenOk s 1000000->s.2+es.length<=1000000->(∀ c∈es,-24<=c) ->
  lp yQ k (((done.length+es.length:Nat):Int),(done.length:Int),s.1,s.2,done++es)=some ((sZ s es).2.1,(sZ s es).2.2,done++(sZ s es).1)
 | [],done,s,k,hk,hl,hs,hb,hc=>by
  obtain⟨k,rfl⟩:∃ k',k=k'+1:=⟨k - 1,by omega⟩
  rw[zr];generalize lp yQ k=rec;unfold yQ;simp [sZ]
 | e::es,done,s,k,hk,hl,hs,hb,hc=>by
  obtain⟨k,rfl⟩:∃ k',k=k'+1:=⟨k - 1,by omega⟩
  rw[zr];have he:=hc e (ak ..);have hl':done.length+(es.length+1)<=1000000:=hl;have hb':s.2+((es.length+1:Nat):Int)<=1000000:=hb;have key:=fun (e':Int) (s':List Int×Int) (hs':RenOk s' 1000000) (hb2:s'.2+es.length<=1000000)=>I4 es (done++[e']) s' k (cg hk) (by simp; omega) hs' hb2 (fun c hx=>hc c (ai _ hx))
  generalize lp yQ k=rec at key ⊢;unfold yQ;have e1:decide (((done.length:Nat):Int)<((done.length+(e::es).length:Nat):Int))=true:=by rw[decide_eq_true_eq,aj]; omega
  have e2:inR ((done.length:Nat):Int) (aa (done++e::es))=some done.length:=qd (by simp)
  have e3:ah .i64 (((done.length:Nat):Int)+1)=((done.length+1:Nat):Int):=by rw[zu]<;>omega
  have key2:=fun (e':Int) (s':List Int×Int) (hs':RenOk s' 1000000) (hb2:s'.2+es.length<=1000000)=>by
   have:=key e' s' hs' hb2;rw[List.append_assoc,ax,aZ,bI,cN 1 es.length] at this;exact this
  simp only[e1,cond_true,e2,af,Gm,e3];by_cases h0:e≥0
  ·have hr:WQ s e=(e,s):=by unfold WQ; rw[decide_eq_true h0]; rfl
   rw[decide_eq_true h0,cond_true];have:=key2 e s hs (by omega)
   simp only[sZ,hr];exact this.trans (by simp)
  ·rw[decide_eq_false h0,cond_false];have h24:(-1 - e).toNat<24:=by omega
   have e4:inR (-1 - e) 24=some (-1 - e).toNat:=by
    have:=qd h24;rwa [Int.toNat_of_nonneg (by omega)] at this
   have hget:∀ xs:List Int,xs.length=24->xs[(-1 - e).toNat]? = some (xs.getD (-1 - e).toNat 0):=fun xs hx=>by
    rw[aD,al (by omega)]; rfl
   have hg:=hs.get (-1 - e).toNat;have hs1:=hs.hi;have hs0:=hs.lo;simp only[we (x:=e) (by omega) (by omega),af,e4,hget s.1 hs.len]
   by_cases hz:s.1.getD (-1 - e).toNat 0=0
   ·have hr:WQ s e=(-(s.2+1),(s.1.set (-1 - e).toNat (s.2+1),s.2+1)):=by unfold WQ; rw[decide_eq_false h0,hz]; rfl
    have w1:ah .i64 (s.2+1)=s.2+1:=by rw[zu]<;>omega
    have hset:(cP s.1 (-1 - e).toNat (s.2+1)).getD (-1 - e).toNat 0=s.2+1:=by
     rw[aD,List.getElem?_set_self (by rw[hs.len]; exact h24)]; rfl
    have hn:zbB .i64 (s.2+1) = -(s.2+1):=by unfold zbB; rw[zu]<;>omega
    rw[hz];simp only[show (((0:Int)==0))=true from rfl,cond_true,w1,hget (cP s.1 (-1 - e).toNat (s.2+1)) (by simpa using hs.len),af,hset,hn,Nj]
    have hok:=Mt (b:=s.2) ⟨hs.len,hs.lo,d5 _,hs.all⟩ e;rw[hr] at hok;have:=key2 (-(s.2+1)) (s.1.set (-1 - e).toNat (s.2+1),s.2+1) (hok.more (by omega)) (by simp only; omega)
    simp only[sZ,hr];exact this.trans (by simp)
   ·have hr:WQ s e=(-(s.1.getD (-1 - e).toNat 0),s):=by
     unfold WQ;rw[decide_eq_false h0,show (s.1.getD (-1 - e).toNat 0==0)=false from by simpa using hz]; rfl
    have hn:zbB .i64 (s.1.getD (-1 - e).toNat 0) = -(s.1.getD (-1 - e).toNat 0):=by unfold zbB; rw[zu]<;>omega
    rw[show (s.1.getD (-1 - e).toNat 0==0)=false from by simpa using hz,cond_false]
    simp only[hn,Nj];have:=key2 (-(s.1.getD (-1 - e).toNat 0)) s hs (by omega)
    simp only[sZ,hr];exact this.trans (by simp)
theorem uh {r:List Int} {s:List Int×Int} (hl:r.length<=1000) (hs:RenOk s 900000) (hc:∀ c∈r,-24<=c):yP r s.1 s.2=some ((sZ s r).1,(sZ s r).2.1,(sZ s r).2.2):=by
 unfold yP;rw[sV (by omega),af]
 have h1:=hs.hi;have:=I4 r [] s ze (by unfold ze; omega) (by simp; omega) (hs.more (by omega)) (by omega) hc
 simp only[bb,aN,bx] at this;rw[show ((0:Nat):Int)=0 from rfl] at this
 rw[this,af];have hlen:=(Qu r hs).len;simp only[hs.len,hlen];rfl
def wk:List Int×Int->List zd->List zd×(List Int×Int)
 | s,[]=>([],s)
 | s,l::ls=>((l.1,(sZ s l.2).1)::(wk (sZ s l.2).2 ls).1,(wk (sZ s l.2).2 ls).2)
def uS:List Int×Int->List jI->List jI×(List Int×Int)
 | s,[]=>([],s)
 | s,l::ls=>((sZ s l).1::(uS (sZ s l).2 ls).1,(uS (sZ s l).2 ls).2)
def sQ (r:List Int):Prop:=r.length<=1000∧∀ c∈r,-24<=c
theorem J9:{s:List Int×Int}->{b:Int}->(ls:List zd)->(∀ l∈ls,sQ l.2)->RenOk s b->RenOk (wk s ls).2 (b+1000*ls.length)
 | s,b,[],_,h=>by simpa[wk] using h
 | s,b,l::ls,hl,h=>by
  have h1:=hl l (ak ..);have:=J9 ls (fun x hx=>hl x (ai _ hx)) (Qu l.2 h);have h2:=h1.1;simp only[wk,aj];exact this.more (by omega)
theorem AI:{s:List Int×Int}->{b:Int}->(ls:List jI)->(∀ l∈ls,sQ l)->RenOk s b->RenOk (uS s ls).2 (b+1000*ls.length)
 | s,b,[],_,h=>by simpa[uS] using h
 | s,b,l::ls,hl,h=>by
  have h1:=hl l (ak ..);have:=AI ls (fun x hx=>hl x (ai _ hx)) (Qu l h);have h2:=h1.1;simp only[uS,aj];exact this.more (by omega)
theorem JF:(es:List zd)->(s:List Int×Int)->(out:List zd)->(b:Int)->RenOk s b->b+1000*es.length<=900000->(∀ l∈es,sQ l.2)->out.length+es.length<=1000000 ->
  yj es s.1 s.2 out=some ((wk s es).2.1,(wk s es).2.2,out++(wk s es).1)
 | [],s,out,b,_,_,_,_=>by simp [yj,wk]
 | e::es,s,out,b,hs,hb,h,hl=>by
  have he:=h e (ak ..);have h1:=he.1;rw[aj] at hb hl;unfold yj;rw[uh he.1 (hs.more (by omega)) he.2,af]
  rw[zp (show (out.length+([(e.1,(sZ s e.2).1)]:List zd).length)*32<=140737488351232 by simp; omega),cond_true]
  have:=JF es (sZ s e.2).2 (out++[(e.1,(sZ s e.2).1)]) _ (Qu e.2 hs) (by omega) (fun x hx=>h x (ai _ hx)) (by simp; omega)
  exact this.trans (by simp [wk])
theorem JE (s8:List zd):(es:List jI)->(s:List Int×Int)->(out:List jI)->(b:Int)->RenOk s b->b+1000*es.length<=900000->(∀ l∈es,sQ l)->out.length+es.length<=1000000 ->
  yo s8 es s.1 s.2 out=some ((uS s es).2.1,(uS s es).2.2,s8,out++(uS s es).1)
 | [],s,out,b,_,_,_,_=>by simp [yo,uS]
 | e::es,s,out,b,hs,hb,h,hl=>by
  have he:=h e (ak ..);have h1:=he.1;rw[aj] at hb hl;unfold yo;rw[uh he.1 (hs.more (by omega)) he.2,af]
  rw[zp (show (out.length+([(sZ s e).1]:List jI).length)*24<=140737488351232 by simp; omega),cond_true]
  have:=JE s8 es (sZ s e).2 (out++[(sZ s e).1]) _ (Qu e hs) (by omega) (fun x hx=>h x (ai _ hx)) (by simp; omega)
  exact this.trans (by simp [uS])
theorem JD (s5:List zd) (s6:List jI):(es:List zd)->(s:List Int×Int)->(out:List zd)->(b:Int)->RenOk s b->b+1000*es.length<=900000->(∀ l∈es,sQ l.2)->out.length+es.length<=1000000 ->
  yp s5 s6 es s.1 s.2 out=some ((wk s es).2.1,(wk s es).2.2,s5,s6,out++(wk s es).1)
 | [],s,out,b,_,_,_,_=>by simp [yp,wk]
 | e::es,s,out,b,hs,hb,h,hl=>by
  have he:=h e (ak ..);have h1:=he.1;rw[aj] at hb hl;unfold yp;rw[uh he.1 (hs.more (by omega)) he.2,af]
  rw[zp (show (out.length+([(e.1,(sZ s e.2).1)]:List zd).length)*32<=140737488351232 by simp; omega),cond_true]
  have:=JD s5 s6 es (sZ s e.2).2 (out++[(e.1,(sZ s e.2).1)]) _ (Qu e.2 hs) (by omega) (fun x hx=>h x (ai _ hx)) (by simp; omega)
  exact this.trans (by simp [wk])
def zga (L:List zd) (T:List jI) (C:List zd):List zd×List jI×List zd :=
 ((wk (az 24 0,0) L).1,(uS (wk (az 24 0,0) L).2 T).1,(wk (uS (wk (az 24 0,0) L).2 T).2 C).1)
theorem NS:RenOk (az 24 (0:Int),0) 0:=⟨rfl,d5 _,d5 _,fun x hx=>by have:=List.eq_of_mem_replicate hx; omega⟩
def rX (L:List zd) (T:List jI) (C:List zd):List zd×List jI×List zd:=zga (zN L []) (zN T []) (zN C [])
theorem KY {L:List zd} {T:List jI} {C:List zd} (hL:L.length<=100) (hT:T.length<=100) (hC:C.length<=100) (sL:∀ l∈L,sQ l.2) (sT:∀ l∈T,sQ l) (sC:∀ l∈C,sQ l.2) :
  jA L T C=some (rX L T C):=by
 have big:∀ r:List Int,sQ r->r.length<=maxLen:=fun r h=>by have:=h.1; unfold maxLen; omega
 have lL:=x5 L [];have lT:=x5 T [];have lC:=x5 C [];simp only[bb,aN] at lL lT lC;have sL':∀ l∈zN L [],sQ l.2:=fun l h=>sL l (by simpa using (qP L []).1 h)
 have sT':∀ l∈zN T [],sQ l:=fun l h=>sT l (by simpa using (qP T []).1 h)
 have sC':∀ l∈zN C [],sQ l.2:=fun l h=>sC l (by simpa using (qP C []).1 h)
 unfold jA;rw[Y6 (fun e he=>big _ (sL e he)) (by omega),af,Y6 (fun e he=>big _ (sC e he)) (by omega),af,
  Yc _ _ _ _ (by unfold maxLen; omega),D3 _ _ T [] (fun e he=>big _ (sT e he)) (by simp; omega),af]
 simp only;generalize hL2:zN L []=L2 at lL sL';generalize hT2:zN T []=T2 at lT sT';generalize hC2:zN C []=C2 at lC sC';have k0:=J9 L2 sL' NS;have k1:=AI T2 sT' k0;have k2:=J9 C2 sC' k1;have e0:=JF L2 (az 24 0,0) [] 0 NS (by omega) sL' (by simp; omega)
 have e1:=JE (wk (az 24 0,0) L2).1 T2 _ [] _ k0 (by omega) sT' (by simp; omega)
 have e2:=JD (wk (az 24 0,0) L2).1 (uS (wk (az 24 0,0) L2).2 T2).1 C2 _ [] _ k1 (by omega) sC' (by simp; omega)
 simp only[bx] at e0 e1 e2;unfold Zf;rw[jv L2 L2 T2 C2 (az 24 0) 0 [] (by unfold maxLen; omega),e0,af]
 simp only;rw[Zh _ _ _ _ _ _ _ _ (by unfold maxLen; omega),e1,af]
 simp only;rw[jY _ _ _ _ _ _ (by unfold maxLen; omega),e2,af]
 have hlen:=k2.len;simp only[List.length_replicate,hlen];unfold rX zga;rw[hL2,hT2,hC2];rfl
theorem Cn {a0:List zj}:{xs:List Int}->{n k:Nat}->sk a0 n xs=some k->∀ c∈xs.take k,-24<=c
 | [],n,k,h,c,hc=>by simp at hc
 | x::xs,0,k,h,c,hc=>by
  simp [sk] at h; subst h; simp at hc
 | x::xs,n+1,k,h,c,hc=>by
  unfold sk at h;cases ha:uk a0 x with
  | none=>rw[ha] at h; cases h
  | some m =>
   rw[ha] at h;simp only[bg] at h;obtain⟨j,hj,rfl⟩:=h;rw[ew] at hc;rcases aB.1 hc with rfl | hc
   ·by_cases h0:c<0
    ·exact (Io ha h0).1
    ·omega
   ·exact Cn hj c hc
theorem Wd {a0:List zj} {xs:List Int} {ps:List jI} (h:WG a0 xs=some ps):∀ c∈xs,-24<=c:=by
 obtain⟨h1,h2⟩:=Z8 xs.length xs ps (aE _) h;intro c hc;rw[← h1] at hc;obtain⟨p,hp,hcp⟩:=eV.1 hc;have:=Cn (h2 p hp).2 c;rw[ek] at this;exact this hcp
theorem D4 {a0:List zj} {xs:List Int} (h:qL a0 xs=true):sQ xs:=by
 obtain⟨x,r,e,ps,rfl,h0,-,-,-,-,hl,hc,-⟩:=YE h;refine ⟨by simp; omega,fun c hcm => ?_⟩
 rcases aB.1 hcm with rfl | hcm
 ·omega
 ·exact Wd hc c hcm
theorem Ei {a0:List zj} {r:List Int} {n:Nat} (h:ZC a0 r=some n):sQ r:=by
 obtain⟨ps,hc,-,hl,-⟩:=Ve h;exact ⟨by omega,Wd hc⟩
theorem sg {a0:List zj} {ls:List zd} (h:sU a0 ls=true):∀ l∈ls,sQ l.2:=fun l hl =>
 D4 (aF.1 h l hl)
theorem Qe {a0:List zj} {rs:List jI} (h:jt a0 rs=true):∀ r∈rs,sQ r:=fun r hr=>by
 obtain⟨n,hn⟩:=Xs h;exact Ei (hn r hr)
theorem WN (a0:List zj) (L:List zd) (T:List jI) (C:List zd):tx a0 L T C=some (cond (tJ a0 L T C) ((rX L T C).1,(rX L T C).2.1,0,(rX L T C).2.2) ([],[],800,[])):=by
 unfold tx;rw[zX,af];cases h:tJ a0 L T C with
 | false=>rfl
 | true =>
  obtain⟨-,h1,h2,h3,h4,h5,h6,-⟩:=zF h;rw[aA,cond_false,KY (by omega) (by omega) (by omega) (sg h4) (Qe h5) (sg h6),af]
  rfl
theorem V3:(s:List Int×Int)->(ls:List zd)->(wk s ls).1.length=ls.length
 | _,[]=>rfl
 | s,l::ls=>by simp [wk,V3 (sZ s l.2).2 ls]
theorem I9:(s:List Int×Int)->(ls:List jI)->(uS s ls).1.length=ls.length
 | _,[]=>rfl
 | s,l::ls=>by simp [uS,I9 (sZ s l).2 ls]
theorem XV:(s:List Int×Int)->(ls:List zd)->(b:Nat)->(∀ l∈ls,l.2.length<=b)->∀ l∈(wk s ls).1,l.2.length<=b
 | _,[],_,_,l,hl=>by cases hl
 | s,e::es,b,h,l,hl=>by
  simp only[wk] at hl;rcases aB.1 hl with rfl | hl
  ·rw[GA]; exact h e (ak ..)
  ·exact XV _ es b (fun x hx=>h x (ai _ hx)) l hl
theorem Jp:(s:List Int×Int)->(ls:List jI)->(b:Nat)->(∀ l∈ls,l.length<=b)->∀ l∈(uS s ls).1,l.length<=b
 | _,[],_,_,l,hl=>by cases hl
 | s,e::es,b,h,l,hl=>by
  simp only[uS] at hl;rcases aB.1 hl with rfl | hl
  ·rw[GA]; exact h e (ak ..)
  ·exact Jp _ es b (fun x hx=>h x (ai _ hx)) l hl
theorem Fc {a0:List zj} {L:List zd} {T:List jI} {C:List zd} (h:tJ a0 L T C=true) :
  yJ (rX L T C).1 (rX L T C).2.1 (rX L T C).2.2 (rX L T C).1 (rX L T C).2.1 (rX L T C).2.2=some true:=by
 obtain⟨-,h1,h2,h3,h4,h5,h6,-⟩:=zF h;have lL:=x5 L [];have lT:=x5 T [];have lC:=x5 C [];simp only[bb,aN] at lL lT lC;have sL:∀ l∈zN L [],l.2.length<=1000:=fun l h=>(sg h4 l (by simpa using (qP L []).1 h)).1
 have sT:∀ l∈zN T [],l.length<=1000:=fun l h=>(Qe h5 l (by simpa using (qP T []).1 h)).1
 have sC:∀ l∈zN C [],l.2.length<=1000:=fun l h=>(sg h6 l (by simpa using (qP C []).1 h)).1
 unfold rX zga;apply vY
 ·simp only[V3]; unfold maxLen; omega
 ·intro e he;have:=XV _ _ 1000 sL e he;unfold maxLen; omega
 ·simp only[I9]; unfold maxLen; omega
 ·intro e he;have:=Jp _ _ 1000 sT e he;unfold maxLen; omega
 ·simp only[V3]; unfold maxLen; omega
 ·intro e he;have:=XV _ _ 1000 sC e he;unfold maxLen; omega
def zY {α:Type} (s:Int):List α->Nat->List α
 | [],_=>[]
 | e::es,i=>cond ((i:Int) != s) (e::zY s es (i+1)) (zY s es (i+1))
theorem Kk {α:Type} (s:Int):(es:List α)->(i:Nat)->(zY s es i).length<=es.length
 | [],_=>aE _
 | e::es,i=>by
  unfold zY;have:=Kk s es (i+1);cases ((i:Int) != s)<;>simp<;>omega
theorem Bg (s0:Int) (s8:List jI) (s10:List zd):(es:List zd)->(i:Nat)->(out:List zd)->out.length+es.length<=1000000->ye s0 s8 s10 es i out=some (s8,out++zY s0 es i,s10)
 | [],i,out,_=>by simp [ye,zY]
 | e::es,i,out,h=>by
  rw[aj] at h;unfold ye zY;cases ((i:Int) != s0) with
  | true =>
   rw[cond_true,cond_true,zp (show (out.length+([(e.1,e.2)]:List zd).length)*32<=140737488351232 by simp; omega),cond_true,Bg s0 s8 s10 es (i+1) _ (by simp; omega)]
   simp
  | false=>rw[cond_false,cond_false,Bg s0 s8 s10 es (i+1) out (by omega)]
theorem Be (s0:Int) (s8:List jI) (s10:List zd):(es:List zd)->(i:Nat)->(out:List zd)->out.length+es.length<=1000000->yf s0 s8 s10 es i out=some (s8,out++zY s0 es i,s10)
 | [],i,out,_=>by simp [yf,zY]
 | e::es,i,out,h=>by
  rw[aj] at h;unfold yf zY;cases ((i:Int) != s0) with
  | true =>
   rw[cond_true,cond_true,zp (show (out.length+([(e.1,e.2)]:List zd).length)*32<=140737488351232 by simp; omega),cond_true,Be s0 s8 s10 es (i+1) _ (by simp; omega)]
   simp
  | false=>rw[cond_false,cond_false,Be s0 s8 s10 es (i+1) out (by omega)]
theorem KM {n:Nat} (h:n<=1000000):jP (n:Int)=some []:=by
 unfold jP;have e:ah .i64 ((n:Int) - 0)=(n:Int):=by rw[zu]<;>omega
 rw[e,decide_eq_false (show ¬((n:Int)<0) by omega),cond_false]
 by_cases h0:n=0
 ·subst h0; rfl
 ·rw[decide_eq_true (show (n:Int)>0 by omega),cond_true,show (eqI 0 0&&eqI 0 0)=true from rfl,cond_true,show Cg (n:Int)=true from decide_eq_true (by omega),cond_true,bq,zp (by omega),cond_true]
  have:vU (az n ([]:List Int)) none (some 0)=some []:=by
   show slc (az n ([]:List Int)) 0 0=some [];unfold slc;rw[decide_eq_true (show (0:Int)<=0 by omega),decide_eq_true (show (0:Int)<=(((az n ([]:List Int)).length:Nat):Int) by omega)]
   rfl
  rw[this]; rfl
theorem WM {n:Nat} (h:n<=1000000):rk (n:Int)=some []:=by
 unfold rk;have e:ah .i64 ((n:Int) - 0)=(n:Int):=by rw[zu]<;>omega
 rw[e,decide_eq_false (show ¬((n:Int)<0) by omega),cond_false]
 by_cases h0:n=0
 ·subst h0; rfl
 ·rw[decide_eq_true (show (n:Int)>0 by omega),cond_true,show (eqI 0 0&&eqI 0 0)=true from rfl,cond_true,show Cg (n:Int)=true from decide_eq_true (by omega),cond_true,bq,zp (by omega),cond_true]
  have:∀ z:zd,vU (az n z) none (some 0)=some []:=fun z=>by
   show slc (az n z) 0 0=some [];unfold slc;rw[decide_eq_true (show (0:Int)<=0 by omega),decide_eq_true (show (0:Int)<=(((az n z).length:Nat):Int) by omega)]
   rfl
  rw[this]; rfl
theorem Xx {a b:List jI} (h:a.length+b.length<=1000000):rz [a,b]=some (a++b):=by
 have w0:ah .i64 ((0:Int)+((a.length:Nat):Int))=((a.length:Nat):Int):=by rw[zu]<;>omega
 have w1:ah .i64 (((a.length:Nat):Int)+((b.length:Nat):Int))=((a.length+b.length:Nat):Int):=by rw[zu]<;>omega
 have e0:yn [a,b] 0=some ((a.length+b.length:Nat):Int):=by
  unfold yn;rw[w0,decide_eq_false (show ¬(((a.length:Nat):Int)<0) by omega),cond_false]
  unfold yn;rw[w1,decide_eq_false (show ¬(((a.length+b.length:Nat):Int)<0) by omega),cond_false]
  rfl
 have e1:yt [a,b] []=some (a++b):=by
  unfold yt;rw[zp (by simp; omega),cond_true,bx]
  unfold yt;rw[zp (by omega),cond_true]
  rfl
 unfold rz;rw[Zg _ _ _ (by unfold maxLen; simp),e0,af,KM h,af,jW _ _ (by unfold maxLen; simp),e1]
 rfl
theorem kA {a b:List zd} (h:a.length+b.length<=1000000):vF [a,b]=some (a++b):=by
 have w0:ah .i64 ((0:Int)+((a.length:Nat):Int))=((a.length:Nat):Int):=by rw[zu]<;>omega
 have w1:ah .i64 (((a.length:Nat):Int)+((b.length:Nat):Int))=((a.length+b.length:Nat):Int):=by rw[zu]<;>omega
 have e0:zW [a,b] 0=some ((a.length+b.length:Nat):Int):=by
  unfold zW;rw[w0,decide_eq_false (show ¬(((a.length:Nat):Int)<0) by omega),cond_false]
  unfold zW;rw[w1,decide_eq_false (show ¬(((a.length+b.length:Nat):Int)<0) by omega),cond_false]
  rfl
 have e1:zU [a,b] []=some (a++b):=by
  unfold zU;rw[zp (by simp; omega),cond_true,bx]
  unfold zU;rw[zp (by omega),cond_true]
  rfl
 unfold vF;rw[kD _ _ _ (by unfold maxLen; simp),e0,af,WM h,af,kF _ _ (by unfold maxLen; simp),e1]
 rfl
theorem Ke {L:List zd} {T:List jI} {C:List zd} {L':List zd} {T':List jI} {C':List zd} (i j:Int) (h1:L.length<=1000) (h2:T.length<=1000) (h3:C.length<=1000) (h4:L'.length<=1000) (h5:T'.length<=1000) (h6:C'.length<=1000) :
  sG L T C i L' T' C' j=some (T++T',zY i L 0++zY j L' 0,C++C'):=by
 have hw:=Kk i L 0;unfold sG;rw[Xx (by omega),af,kA (by omega),af,
  ZE _ _ _ _ _ _ _ _ _ (by unfold maxLen; omega),Bg _ _ _ _ _ _ (by simp; omega),af]
 simp only[bx];rw[ZG _ _ _ _ _ (by unfold maxLen; omega),Be _ _ _ _ _ _ (by omega),af]
def xI (L:List zd) (i:Int):Bool:=decide (0<=i)&&decide (i<L.length)
theorem Qy {α:Type} {s:Int} {x:α}:(es:List α)->(i:Nat)->x∈zY s es i->x∈es
 | [],_,h=>by cases h
 | e::es,i,h=>by
  unfold zY at h;cases hb:((i:Int) != s) with
  | true =>
   rw[hb,cond_true] at h;rcases aB.1 h with rfl | h
   ·exact ak ..
   ·exact ai _ (Qy es (i+1) h)
  | false=>rw[hb,cond_false] at h; exact ai _ (Qy es (i+1) h)
def to0:List (Option jI×Int):=az 48 ((none:Option jI),(0:Int))
theorem zbz {k:Nat} (h:k<48):to0[k]? = some (none,0):=by
 unfold to0;rw[List.getElem?_replicate,if_pos h]
theorem An {α:Type} (xs:List α) (y:α):vU (xs++[y]) none (some (xs.length:Int))=some xs:=by
 show slc (xs++[y]) 0 (xs.length:Int)=some xs;unfold slc;rw[decide_eq_true (show (0:Int)<=0 by omega),decide_eq_true (show (0:Int)<=(xs.length:Int) by omega),decide_eq_true (show (xs.length:Int)<=(((xs++[y]).length:Nat):Int) by simp; omega)]
 simp
theorem Rt (ps:List jI):zo ps=ps.flatten.length:=by
 induction ps with
 | nil=>rfl
 | cons p ps ih =>
  unfold zo at ih ⊢;simp only[aJ,cE,eJ,ax,ih]
def sW (s:List (Int×List Int)) (v:Int):Option jI:=(s.find? fun b=>b.1==v).map (·.2)
def onC (s:List (Int×List Int)) (c:Int):List Int:=cond (decide (c≥0)) [c] ((sW s (-1 - c)).getD [c])
def onB (s:List (Int×List Int)) (r:List Int):List Int:=r.flatMap (onC s)
structure BindsOk (s:List (Int×List Int)):Prop where
 len:s.length<=1000
 all:∀ b∈s,b.2≠[]∧b.2.length<=1000
theorem A3 (v:Int):(es:List (Int×List Int))->xD v es=some (match sW es v with
  | none=>.inl ()
  | some t=>.inr t)
 | []=>rfl
 | e::es=>by
  unfold xD sW;rw[List.find?_cons];cases he:(e.1==v) with
  | true=>rfl
  | false =>
   rw[cond_false,A3 v es];rfl
theorem G5 {s:List (Int×List Int)} {v:Int} {t:List Int} (h:sW s v=some t):∃ b∈s,b.1=v∧b.2=t:=by
 unfold sW at h;obtain⟨b,hb,rfl⟩:=bg.1 h;exact ⟨b,List.mem_of_find?_eq_some hb,by simpa using List.find?_some hb,rfl⟩
theorem XB {α:Type} {xs:List α} (h:xs≠[]):nn xs=some xs:=by
 cases xs with
 | nil=>exact absurd rfl h
 | cons x xs=>rfl
theorem G8 {s:List (Int×List Int)} (h:BindsOk s) (v:Int):Yh s v=some (sW s v):=by
 unfold Yh;rw[QI _ _ (by have:=h.len; unfold maxLen; omega),A3]
 cases hl:sW s v with
 | none=>rfl
 | some t =>
  obtain⟨b,hb,-,rfl⟩:=G5 hl;show (nn b.2).bind _=_;rw[XB (h.all b hb).1];rfl
theorem zaC {s:List (Int×List Int)} (h:BindsOk s) (c:Int):(onC s c).length<=1000:=by
 unfold onC;cases decide (c≥0) with
 | true=>simp
 | false =>
  cases hl:sW s (-1 - c) with
  | none=>simp
  | some t =>
   obtain⟨b,hb,-,rfl⟩:=G5 hl;exact (h.all b hb).2
theorem GP {s:List (Int×List Int)} (h:BindsOk s):(es:List Int)->(out:List Int)->(∀ c∈es,-1000000<=c∧c<=1000000)->out.length+1000*es.length<=10000000->qJ s es out=some (out++onB s es)
 | [],out,_,_=>by simp [qJ,onB]
 | e::es,out,hc,hl=>by
  rw[aj] at hl;have he:=hc e (ak ..);have ih:=fun out' hl'=>GP h es out' (fun c hx=>hc c (ai _ hx)) hl';have hcl:=zaC h e;have hB:onB s (e::es)=onC s e++onB s es:=by simp [onB]
  unfold qJ;rw[we (by omega) (by omega),af,G8 h,af,hB]
  unfold onC at hcl ⊢;by_cases h0:e≥0
  ·rw[decide_eq_true h0,cond_true,cond_true,zp (show (out.length+([e]:List Int).length)*8<=140737488351232 by simp; omega),cond_true,ih _ (by simp; omega)]
   simp
  ·rw[decide_eq_false h0] at hcl ⊢;simp only[cond_false] at hcl ⊢;cases hl2:sW s (-1 - e) with
   | none =>
    simp only[Option.isNone_none,cond_true,Option.getD_none];rw[zp (show (out.length+([e]:List Int).length)*8<=140737488351232 by simp; omega),cond_true,ih _ (by simp; omega)]
    simp
   | some t =>
    rw[hl2] at hcl;simp only[bp] at hcl;simp only[cH,cond_false,bp];rw[zp (by omega),cond_true,ih _ (by simp; omega)]
    simp
theorem kX {s:List (Int×List Int)} (h:BindsOk s) {r:List Int} (hl:r.length<=1000) (hc:∀ c∈r,-1000000<=c∧c<=1000000):X9 s r=some (onB s r):=by
 unfold X9;rw[XL _ _ _ (by unfold maxLen; omega),GP h r [] hc (by simp; omega)]
 rfl
def uU (r:List Int):Prop:=r.length<=1000∧∀ c∈r,-1000000<=c∧c<=1000000
def KC (s:List (Int×List Int)) (ls:List zd):List zd:=ls.map fun l=>(l.1,onB s l.2)
def Fy (s:List (Int×List Int)) (rs:List jI):List jI:=rs.map (onB s)
theorem I6 {s:List (Int×List Int)} (h:BindsOk s):(es out:List zd)->(∀ l∈es,uU l.2)->out.length+es.length<=1000000->yY s es out=some (out++KC s es)
 | [],out,_,_=>by simp [yY,KC]
 | e::es,out,hn,hl=>by
  rw[aj] at hl;have he:=hn e (ak ..);unfold yY xh;rw[kX h he.1 he.2,af,af,zp (show (out.length+([(e.1,onB s e.2)]:List zd).length)*32<=140737488351232 by simp; omega),cond_true,
   I6 h es _ (fun l hl=>hn l (ai _ hl)) (by simp; omega)]
  simp [KC]
theorem Ix {s:List (Int×List Int)} (h:BindsOk s) (s7:List zd):(es out:List jI)->(∀ l∈es,uU l)->out.length+es.length<=1000000->y9 s s7 es out=some (s7,out++Fy s es)
 | [],out,_,_=>by simp [y9,Fy]
 | e::es,out,hn,hl=>by
  rw[aj] at hl;have he:=hn e (ak ..);unfold y9 xh;rw[kX h he.1 he.2,af,af,zp (show (out.length+([onB s e]:List jI).length)*24<=140737488351232 by simp; omega),cond_true,
   Ix h s7 es _ (fun l hl=>hn l (ai _ hl)) (by simp; omega)]
  simp [Fy]
theorem Iu {s:List (Int×List Int)} (h:BindsOk s) (s4:List zd) (s5:List jI):(es out:List zd)->(∀ l∈es,uU l.2)->out.length+es.length<=1000000->yZ s s4 s5 es out=some (s4,s5,out++KC s es)
 | [],out,_,_=>by simp [yZ,KC]
 | e::es,out,hn,hl=>by
  rw[aj] at hl;have he:=hn e (ak ..);unfold yZ xh;rw[kX h he.1 he.2,af,af,zp (show (out.length+([(e.1,onB s e.2)]:List zd).length)*32<=140737488351232 by simp; omega),cond_true,
   Iu h s4 s5 es _ (fun l hl=>hn l (ai _ hl)) (by simp; omega)]
  simp [KC]
theorem IS {s:List (Int×List Int)} (h:BindsOk s) {L:List zd} {T:List jI} {C:List zd} (hL:∀ l∈L,uU l.2) (hT:∀ l∈T,uU l) (hC:∀ l∈C,uU l.2) (h1:L.length<=1000) (h2:T.length<=1000) (h3:C.length<=1000) :
  jo s L T C=some (KC s L,Fy s T,KC s C):=by
 unfold jo QD;rw[Z5 _ _ _ _ _ _ (by unfold maxLen; omega),I6 h L [] hL (by simp; omega),af,
  Z6 _ _ _ _ _ _ _ (by unfold maxLen; omega),Ix h _ T [] hT (by simp; omega),af,
  Ye _ _ _ _ _ (by unfold maxLen; omega),Iu h _ _ C [] hC (by simp; omega),af]
 simp
def rh (a0:Int):Option jI :=
 cond (decide (a0<0))
 (none)
 (cond (decide ((ah .i64 (a0 - 0))>0))
  (cond (eqI 0 0&&eqI 0 0)
   (cond (Cg (ah .i64 (a0 - 0)))
    (cond (yM (bP (ah .i64 (a0 - 0))) 8)
     ((vU (az (bP (ah .i64 (a0 - 0))) (0:Int)) none (some 0)).bind fun y2 =>
      some y2)
     (none))
    (none))
   (none))
  (some ([]:jI)))
def q7 (rec:(jR×Int×Int×jI)->Option jI) (x:(jR×Int×Int×jI)):Option jI :=
 cond (decide (x.2.2.1<x.2.1))
 ((gx x.1 x.2.2.1).bind fun e7 =>
  cond (yM (aa x.2.2.2+aa e7) 8)
  (rec (x.1,x.2.1,(ah .i64 (x.2.2.1+1)),(x.2.2.2++e7)))
  (none))
 (some x.2.2.2)
def q5 (rec:(jR×Int×jR×Int×Int)->Option Int) (x:(jR×Int×jR×Int×Int)):Option Int :=
 cond (decide (x.2.2.2.2<x.2.2.2.1))
 ((gx x.2.2.1 x.2.2.2.2).bind fun e2 =>
  cond (decide ((ah .i64 (x.2.1+((aa e2:Nat):Int)))<0))
  (none)
  (rec (x.1,(ah .i64 (x.2.1+((aa e2:Nat):Int))),x.2.2.1,x.2.2.2.1,(ah .i64 (x.2.2.2.2+1)))))
 (some x.2.1)
def tt (a0:jR):Option jI :=
 ((lp q5 ze) (a0,0,a0,((aa a0:Nat):Int),0)).bind fun r9 =>
 (rh r9).bind fun r10 =>
 ((lp q7 ze) (a0,((aa a0:Nat):Int),0,r10)).bind fun r11 =>
 some r11
def zI:List jI->jI->Option jI
 | [],s3=>some s3
 | e::es,s3 =>
  cond (yM (aa s3+aa e) 8)
  (zI es (s3++e))
  (none)
theorem kE (s0:jR) (s3:jI) (hl:aa s0<=maxLen):lp q7 ze (s0,((aa s0:Nat):Int),0,s3)=zI s0 s3:=xG q7 (fun i s3=>(s0,((aa s0:Nat):Int),i,s3)) (fun es i s3=>zI es s3) hl (fun r i s3 h=>by unfold q7 zI; simp only[h,cond_false]) (fun r i s3 e es h g w k=>by unfold q7 zI; simp only[h,cond_true,g,af,w,k]) s3
def zG:List jI->Int->Option Int
 | [],s1=>some s1
 | e::es,s1 =>
  cond (decide ((ah .i64 (s1+((aa e:Nat):Int)))<0))
  (none)
  (zG es (ah .i64 (s1+((aa e:Nat):Int))))
theorem kG (s0:jR) (s2:jR) (s1:Int) (hl:aa s2<=maxLen):lp q5 ze (s0,s1,s2,((aa s2:Nat):Int),0)=zG s2 s1:=xG q5 (fun i s1=>(s0,s1,s2,((aa s2:Nat):Int),i)) (fun es i s1=>zG es s1) hl (fun r i s1 h=>by unfold q5 zG; simp only[h,cond_false]) (fun r i s1 e es h g w k=>by unfold q5 zG; simp only[h,cond_true,g,af,w,k]) s1
def ziq (c:UInt8):Bool:=Xt ((bG c:Nat):Int)
def zio (c:UInt8):Bool:=decide (((bG c:Nat):Int)≥48)&&decide (((bG c:Nat):Int)<=57)
def zin (b:Bool) (c:UInt8):Bool:=zio c||(b&&ziq c)
def Stop (c:Str):Prop:=c.takeWhile (zin true)=[]
theorem WI {n:Nat} (h:n<=10000000):rh (n:Int)=some []:=by
 unfold rh;have e:ah .i64 ((n:Int) - 0)=(n:Int):=by rw[zu]<;>omega
 rw[e,decide_eq_false (show ¬((n:Int)<0) by omega),cond_false]
 by_cases h0:n=0
 ·subst h0; rfl
 ·rw[decide_eq_true (show (n:Int)>0 by omega),cond_true,show (eqI 0 0&&eqI 0 0)=true from rfl,cond_true,show Cg (n:Int)=true from decide_eq_true (by omega),cond_true,bq,zp (by omega),cond_true]
  have:∀ z:Int,vU (az n z) none (some 0)=some []:=fun z=>by
   show slc (az n z) 0 0=some [];unfold slc;rw[decide_eq_true (show (0:Int)<=0 by omega),decide_eq_true (show (0:Int)<=(((az n z).length:Nat):Int) by omega)]
   rfl
  rw[this]; rfl
theorem za5 {a b c:List Int} (h:a.length+b.length+c.length<=9000000):tt [a,b,c]=some ((a++b)++c):=by
 have w0:ah .i64 ((0:Int)+((a.length:Nat):Int))=((a.length:Nat):Int):=by rw[zu]<;>omega
 have w1:ah .i64 (((a.length:Nat):Int)+((b.length:Nat):Int))=((a.length+b.length:Nat):Int):=by rw[zu]<;>omega
 have w2:ah .i64 (((a.length+b.length:Nat):Int)+((c.length:Nat):Int))=((a.length+b.length+c.length:Nat):Int):=by rw[zu]<;>omega
 have e0:zG [a,b,c] 0=some ((a.length+b.length+c.length:Nat):Int):=by
  unfold zG;rw[w0,decide_eq_false (show ¬(((a.length:Nat):Int)<0) by omega),cond_false]
  unfold zG;rw[w1,decide_eq_false (show ¬(((a.length+b.length:Nat):Int)<0) by omega),cond_false]
  unfold zG;rw[w2,decide_eq_false (show ¬(((a.length+b.length+c.length:Nat):Int)<0) by omega),cond_false]
  rfl
 have e1:zI [a,b,c] []=some ((a++b)++c):=by
  unfold zI;rw[zp (by simp; omega),cond_true,bx]
  unfold zI;rw[zp (by omega),cond_true]
  unfold zI;rw[zp (by simp; omega),cond_true]
  rfl
 unfold tt;rw[kG _ _ _ (by unfold maxLen; simp),e0,af,WI (by omega),af,kE _ _ (by unfold maxLen; simp),e1]
 rfl
theorem TL {a0:List zj}:{xs:List Int}->{n m:Nat}->{ys:List Int}->sk a0 n xs=some xs.length->sk a0 m ys=some ys.length->sk a0 (n+m) (xs++ys)=some (xs++ys).length
 | [],0,m,ys,_,h=>by rw[aN]; exact h
 | [],n+1,m,ys,h,_=>by simp [sk] at h
 | x::xs,0,m,ys,h,_=>by simp [sk] at h
 | x::xs,n+1,m,ys,h,h'=>by
  unfold sk at h;cases ha:uk a0 x with
  | none=>rw[ha] at h; cases h
  | some k =>
   rw[ha] at h;simp only[bg,aj] at h;obtain⟨j,hj,hjl⟩:=h;have hj2:j=xs.length:=by omega
   subst hj2;have ih:=TL hj h';rw[show n+1+m=(n+m)+1 from by omega,List.cons_append]
   unfold sk;rw[ha];simp only;rw[show n+m+k=n+k+m from by omega,ih]
   rfl
theorem NC {a0:List zj} {x:Int} {q:Nat} (h:uk a0 x=some q):x<0∨x<a0.length:=by
 by_cases hx:x<0
 ·exact .inl hx
 ·obtain⟨e,-,he,-⟩:=I2 h hx;have:=(aq.1 he).1;exact .inr (by omega)
theorem VB {a0:List zj}:{xs:List Int}->{n k:Nat}->sk a0 n xs=some k->∀ c∈xs.take k,c<0∨c<a0.length
 | [],n,k,h,c,hc=>by simp at hc
 | x::xs,0,k,h,c,hc=>by
  simp [sk] at h; subst h; simp at hc
 | x::xs,n+1,k,h,c,hc=>by
  unfold sk at h;cases ha:uk a0 x with
  | none=>rw[ha] at h; cases h
  | some m =>
   rw[ha] at h;simp only[bg] at h;obtain⟨j,hj,rfl⟩:=h;rw[ew] at hc;rcases aB.1 hc with rfl | hc
   ·exact NC ha
   ·exact VB hj c hc
theorem GX {a0:List zj} (hs:SignOk a0) {xs:List Int} {ps:List jI} (h:WG a0 xs=some ps):∀ c∈xs,-24<=c∧c<20:=by
 obtain⟨h1,h2⟩:=Z8 xs.length xs ps (aE _) h;have hl:=hs.len;intro c hc;refine ⟨Wd h c hc,?_⟩;rw[← h1] at hc;obtain⟨p,hp,hcp⟩:=eV.1 hc;have:=VB (h2 p hp).2 c;rw[ek] at this;rcases this hcp with h | h<;>omega
theorem EZ {a0:List zj} (hs:SignOk a0) {xs:List Int} (h:qL a0 xs=true):uU xs:=by
 obtain⟨x,r,e,ps,rfl,h0,he,-,-,-,hl,hc,-⟩:=YE h;have:=(aq.1 he).1;have hl2:=hs.len;refine ⟨by simp; omega,fun c hcm => ?_⟩
 rcases aB.1 hcm with rfl | hcm
 ·omega
 ·have:=GX hs hc c hcm; omega
theorem rD {a0:List zj} (hs:SignOk a0) {ls:List zd} (h:sU a0 ls=true):∀ l∈ls,uU l.2:=fun l hl=>EZ hs (aF.1 h l hl)
theorem XI {a0:List zj} (hs:SignOk a0) {rs:List jI} (h:jt a0 rs=true):∀ r∈rs,uU r:=fun r hr=>by
 obtain⟨n,hn⟩:=Xs h;obtain⟨ps,hc,-,hl,-⟩:=Ve (hn r hr);exact ⟨by omega,fun c hcm=>by have:=GX hs hc c hcm; omega⟩
def Q9 (a0:Int):Option Bool :=
 some (a0 != a0)
def WZ (a0:Int) (a1:Int):Option Bool :=
 (Q9 a0).bind fun r3 =>
 cond r3
 ((Q9 a1).bind fun r4 =>
  cond (!r4)
  (some true)
  (some (decide (a0<a1))))
 (some (decide (a0<a1)))
def sJ (a0:Int):Option Bool :=
 some (a0 != a0)
def yI (rec:(jI×Int×Int×Int×Int)->Option Int) (x:(jI×Int×Int×Int×Int)):Option Int :=
 cond (decide (x.2.2.2.1<x.2.2.2.2))
 ((gx x.1 (ah .i64 (gB (ah .u64 (ah .i64 (x.2.2.2.1+x.2.2.2.2))) (2 ^ min (bP 1) (dh .u64))))).bind fun e3 =>
  (WZ e3 x.2.1).bind fun r4 =>
  cond r4
  (rec (x.1,x.2.1,x.2.2.1,(ah .i64 ((ah .i64 (gB (ah .u64 (ah .i64 (x.2.2.2.1+x.2.2.2.2))) (2 ^ min (bP 1) (dh .u64))))+1)),x.2.2.2.2))
  (rec (x.1,x.2.1,x.2.2.1,x.2.2.2.1,(ah .i64 (gB (ah .u64 (ah .i64 (x.2.2.2.1+x.2.2.2.2))) (2 ^ min (bP 1) (dh .u64)))))))
 (some x.2.2.2.1)
def xt (a0:jI) (a1:Int):Option (Int×Bool) :=
 ((lp yI ze) (a0,a1,((aa a0:Nat):Int),0,((aa a0:Nat):Int))).bind fun r10 =>
 cond (decide (r10<((aa a0:Nat):Int)))
 ((gx a0 r10).bind fun e11 =>
  cond (e11==a1)
  (some (r10,true))
  ((gx a0 r10).bind fun e12 =>
   (sJ e12).bind fun r13 =>
   cond r13
   ((sJ a1).bind fun r14 =>
    some (r10,r14))
   (some (r10,false))))
 (some (r10,false))
def rm (a0:Int) (a1:jI) (a2:jI):Option jI:=zfO a0 a1 a2
def vf (rec:(jI×Int×Int×jI)->Option jI) (x:(jI×Int×Int×jI)):Option jI :=
 cond (decide (x.2.2.1<x.2.1))
 ((gx x.1 x.2.2.1).bind fun e11 =>
  cond (decide (e11≥0))
  (rec (x.1,x.2.1,(ah .i64 (x.2.2.1+1)),x.2.2.2))
  ((yd e11).bind fun r12 =>
   (xt x.2.2.2 r12).bind fun r13 =>
   cond (!r13.2)
   ((yd e11).bind fun r14 =>
    (rm r13.1 x.2.2.2 ([r14]:List Int)).bind fun r15 =>
    rec (x.1,x.2.1,(ah .i64 (x.2.2.1+1)),r15))
   (rec (x.1,x.2.1,(ah .i64 (x.2.2.1+1)),x.2.2.2))))
 (some x.2.2.2)
def uv (a0:jI) (a1:jI):Option jI :=
 ((lp vf ze) (a0,((aa a0:Nat):Int),0,a1)).bind fun r17 =>
 some r17
def vh (rec:(jR×Int×Int×jI)->Option jI) (x:(jR×Int×Int×jI)):Option jI :=
 cond (decide (x.2.2.1<x.2.1))
 ((gx x.1 x.2.2.1).bind fun e12 =>
  (uv e12 x.2.2.2).bind fun r13 =>
  rec (x.1,x.2.1,(ah .i64 (x.2.2.1+1)),r13))
 (some x.2.2.2)
def vo (rec:(jQ×Int×Int×jQ×jR×jQ×jI)->Option jI) (x:(jQ×Int×Int×jQ×jR×jQ×jI)):Option jI :=
 cond (decide (x.2.2.1<x.2.1))
 ((gx x.1 x.2.2.1).bind fun e7 =>
  (uv e7.2 x.2.2.2.2.2.2).bind fun r8 =>
  rec (x.1,x.2.1,(ah .i64 (x.2.2.1+1)),x.2.2.2.1,x.2.2.2.2.1,x.2.2.2.2.2.1,r8))
 (some x.2.2.2.2.2.2)
def qn (a0:jS) (a1:jQ) (a2:jR) (a3:jQ):Option (Int×jI) :=
 (wG a0 a1 a2 a3).bind fun r15 =>
 cond (!r15)
 (some (800,([]:jI)))
 ((vF ([a1,a3]:List jQ)).bind fun r16 =>
  ((lp vo ze) (r16,((aa r16:Nat):Int),0,a1,a2,a3,([]:jI))).bind fun r17 =>
  ((lp vh ze) (a2,((aa a2:Nat):Int),0,r17)).bind fun r18 =>
  some (0,r18))
def qh (rec:(Int×Int×Int×jI)->Option jI) (x:(Int×Int×Int×jI)):Option jI :=
 cond (decide (x.2.1<x.1))
 ((inR x.2.1 (aa x.2.2.2)).bind fun k6 =>
  (x.2.2.2[k6]?).bind fun x7 =>
  cond (decide (x7<0))
  ((inR x.2.1 (aa x.2.2.2)).bind fun k8 =>
   (x.2.2.2[k8]?).bind fun _x9 =>
   rec (x.1,(ah .i64 (x.2.1+1)),x.2.2.1,(cP x.2.2.2 k8 (ah .i64 (x7 - x.2.2.1)))))
  (rec (x.1,(ah .i64 (x.2.1+1)),x.2.2.1,x.2.2.2)))
 (some x.2.2.2)
def qo (a0:jI) (a1:Int):Option jI :=
 (vN a0).bind fun r11 =>
 ((lp qh ze) (((aa r11:Nat):Int),0,a1,r11)).bind fun r12 =>
 some r12
def xR (rec:(jQ×Int×Int×Int×jQ×jR×jQ)->Option (jQ×jR×jQ)) (x:(jQ×Int×Int×Int×jQ×jR×jQ)):Option (jQ×jR×jQ) :=
 cond (decide (x.2.2.1<x.2.1))
 ((gx x.1 x.2.2.1).bind fun e19 =>
  (qo e19.2 x.2.2.2.1).bind fun r20 =>
  cond (yM (aa x.2.2.2.2.2.2+aa ([(e19.1,r20)]:List zd)) 32)
  (rec (x.1,x.2.1,(ah .i64 (x.2.2.1+1)),x.2.2.2.1,x.2.2.2.2.1,x.2.2.2.2.2.1,(x.2.2.2.2.2.2++([(e19.1,r20)]:List zd))))
  (none))
 (some (x.2.2.2.2.1,x.2.2.2.2.2.1,x.2.2.2.2.2.2))
def xX (rec:(jR×Int×Int×Int×jQ×jR×jQ×jQ×jR)->Option (jQ×jR)) (x:(jR×Int×Int×Int×jQ×jR×jQ×jQ×jR)):Option (jQ×jR) :=
 cond (decide (x.2.2.1<x.2.1))
 ((gx x.1 x.2.2.1).bind fun e12 =>
  (qo e12 x.2.2.2.1).bind fun r13 =>
  cond (yM (aa x.2.2.2.2.2.2.2.2+aa ([r13]:List jI)) 24)
  (rec (x.1,x.2.1,(ah .i64 (x.2.2.1+1)),x.2.2.2.1,x.2.2.2.2.1,x.2.2.2.2.2.1,x.2.2.2.2.2.2.1,x.2.2.2.2.2.2.2.1,(x.2.2.2.2.2.2.2.2++([r13]:List jI))))
  (none))
 (some (x.2.2.2.2.2.2.2.1,x.2.2.2.2.2.2.2.2))
def xY (rec:(jQ×Int×Int×Int×jQ×jR×jQ×jQ)->Option jQ) (x:(jQ×Int×Int×Int×jQ×jR×jQ×jQ)):Option jQ :=
 cond (decide (x.2.2.1<x.2.1))
 ((gx x.1 x.2.2.1).bind fun e5 =>
  (qo e5.2 x.2.2.2.1).bind fun r6 =>
  cond (yM (aa x.2.2.2.2.2.2.2+aa ([(e5.1,r6)]:List zd)) 32)
  (rec (x.1,x.2.1,(ah .i64 (x.2.2.1+1)),x.2.2.2.1,x.2.2.2.2.1,x.2.2.2.2.2.1,x.2.2.2.2.2.2.1,(x.2.2.2.2.2.2.2++([(e5.1,r6)]:List zd))))
  (none))
 (some x.2.2.2.2.2.2.2)
def jJ (a0:jQ) (a1:jR) (a2:jQ) (a3:Int):Option (jQ×jR×jQ) :=
 ((lp xY ze) (a0,((aa a0:Nat):Int),0,a3,a0,a1,a2,([]:jQ))).bind fun r22 =>
 ((lp xX ze) (a1,((aa a1:Nat):Int),0,a3,a0,a1,a2,r22,([]:jR))).bind fun r23 =>
 ((lp xR ze) (a2,((aa a2:Nat):Int),0,a3,r23.1,r23.2,([]:jQ))).bind fun r24 =>
 some (r24.1,r24.2.1,r24.2.2)
def zC (a0:jQ) (a1:jR) (a2:jQ) (a3:Int):Option (jQ×jR×jQ) :=
 (jJ a0 a1 a2 a3).bind fun r2 =>
 some (r2.1,r2.2.1,r2.2.2)
def tj (a0:jS) (a1:jQ) (a2:jR) (a3:jQ) (a4:jQ) (a5:jR) (a6:jQ):Option (jQ×jR×Bool×jQ) :=
 (qn a0 a1 a2 a3).bind fun r14 =>
 cond (decide (((aa r14.2:Nat):Int)>0))
 ((inR (ah .i64 (((aa r14.2:Nat):Int) - 1)) (aa r14.2)).bind fun k15 =>
  (r14.2[k15]?).bind fun x16 =>
  (qn a0 a4 a5 a6).bind fun r17 =>
  cond (decide (((aa r17.2:Nat):Int)>0))
  ((inR (ah .i64 (((aa r17.2:Nat):Int) - 1)) (aa r17.2)).bind fun k18 =>
   (r17.2[k18]?).bind fun x19 =>
   cond (decide ((ah .i64 (x19+(ah .i64 (x16+1))))>23))
   (some (([]:jQ),([]:jR),false,([]:jQ)))
   ((zC a4 a5 a6 (ah .i64 (x16+1))).bind fun r20 =>
    some (r20.1,r20.2.1,true,r20.2.2)))
  ((zC a4 a5 a6 (ah .i64 (x16+1))).bind fun r21 =>
   some (r21.1,r21.2.1,true,r21.2.2)))
 ((qn a0 a4 a5 a6).bind fun r22 =>
  cond (decide (((aa r22.2:Nat):Int)>0))
  ((inR (ah .i64 (((aa r22.2:Nat):Int) - 1)) (aa r22.2)).bind fun k23 =>
   (r22.2[k23]?).bind fun x24 =>
   cond (decide ((ah .i64 (x24+0))>23))
   (some (([]:jQ),([]:jR),false,([]:jQ)))
   ((zC a4 a5 a6 0).bind fun r25 =>
    some (r25.1,r25.2.1,true,r25.2.2)))
  ((zC a4 a5 a6 0).bind fun r26 =>
   some (r26.1,r26.2.1,true,r26.2.2)))
def yy:List Int->jI->Option jI
 | [],s3=>some s3
 | e::es,s3 =>
  cond (decide (e≥0))
  (yy es s3)
  ((yd e).bind fun r12 =>
   (xt s3 r12).bind fun r13 =>
   cond (!r13.2)
   ((yd e).bind fun r14 =>
    (rm r13.1 s3 ([r14]:List Int)).bind fun r15 =>
    yy es r15)
   (yy es s3))
theorem ZS (s0:jI) (s3:jI) (hl:aa s0<=maxLen):lp vf ze (s0,((aa s0:Nat):Int),0,s3)=yy s0 s3:=xG vf (fun i s3=>(s0,((aa s0:Nat):Int),i,s3)) (fun es i s3=>yy es s3) hl (fun r i s3 h=>by unfold vf yy; simp only[h,cond_false]) (fun r i s3 e es h g w k=>by unfold vf yy; simp only[h,cond_true,g,af,w,k]) s3
def qE:List jI->jI->Option jI
 | [],s3=>some s3
 | e::es,s3 =>
  (uv e s3).bind fun r13 =>
  qE es r13
theorem ZO (s0:jR) (s3:jI) (hl:aa s0<=maxLen):lp vh ze (s0,((aa s0:Nat):Int),0,s3)=qE s0 s3:=xG vh (fun i s3=>(s0,((aa s0:Nat):Int),i,s3)) (fun es i s3=>qE es s3) hl (fun r i s3 h=>by unfold vh qE; simp only[h,cond_false]) (fun r i s3 e es h g w k=>by unfold vh qE; simp only[h,cond_true,g,af,w,k]) s3
def qC:List zd->jI->Option jI
 | [],s6=>some s6
 | e::es,s6 =>
  (uv e.2 s6).bind fun r8 =>
  qC es r8
theorem ZM (s0:jQ) (s3:jQ) (s4:jR) (s5:jQ) (s6:jI) (hl:aa s0<=maxLen):lp vo ze (s0,((aa s0:Nat):Int),0,s3,s4,s5,s6)=qC s0 s6:=xG vo (fun i s6=>(s0,((aa s0:Nat):Int),i,s3,s4,s5,s6)) (fun es i s6=>qC es s6) hl (fun r i s6 h=>by unfold vo qC; simp only[h,cond_false]) (fun r i s6 e es h g w k=>by unfold vo qC; simp only[h,cond_true,g,af,w,k]) s6
def ym (s3:Int) (s4:jQ) (s5:jR):List zd->jQ->Option (jQ×jR×jQ)
 | [],s6=>some (s4,s5,s6)
 | e::es,s6 =>
  (qo e.2 s3).bind fun r20 =>
  cond (yM (aa s6+aa ([(e.1,r20)]:List zd)) 32)
  (ym s3 s4 s5 es (s6++([(e.1,r20)]:List zd)))
  (none)
theorem jE (s0:jQ) (s3:Int) (s4:jQ) (s5:jR) (s6:jQ) (hl:aa s0<=maxLen):lp xR ze (s0,((aa s0:Nat):Int),0,s3,s4,s5,s6)=ym s3 s4 s5 s0 s6:=xG xR (fun i s6=>(s0,((aa s0:Nat):Int),i,s3,s4,s5,s6)) (fun es i s6=>ym s3 s4 s5 es s6) hl (fun r i s6 h=>by unfold xR ym; simp only[h,cond_false]) (fun r i s6 e es h g w k=>by unfold xR ym; simp only[h,cond_true,g,af,w,k]) s6
def yl (s3:Int) (s7:jQ):List jI->jR->Option (jQ×jR)
 | [],s8=>some (s7,s8)
 | e::es,s8 =>
  (qo e s3).bind fun r13 =>
  cond (yM (aa s8+aa ([r13]:List jI)) 24)
  (yl s3 s7 es (s8++([r13]:List jI)))
  (none)
theorem Zc (s0:jR) (s3:Int) (s4:jQ) (s5:jR) (s6:jQ) (s7:jQ) (s8:jR) (hl:aa s0<=maxLen):lp xX ze (s0,((aa s0:Nat):Int),0,s3,s4,s5,s6,s7,s8)=yl s3 s7 s0 s8:=xG xX (fun i s8=>(s0,((aa s0:Nat):Int),i,s3,s4,s5,s6,s7,s8)) (fun es i s8=>yl s3 s7 es s8) hl (fun r i s8 h=>by unfold xX yl; simp only[h,cond_false]) (fun r i s8 e es h g w k=>by unfold xX yl; simp only[h,cond_true,g,af,w,k]) s8
def yi (s3:Int):List zd->jQ->Option jQ
 | [],s7=>some s7
 | e::es,s7 =>
  (qo e.2 s3).bind fun r6 =>
  cond (yM (aa s7+aa ([(e.1,r6)]:List zd)) 32)
  (yi s3 es (s7++([(e.1,r6)]:List zd)))
  (none)
theorem j2 (s0:jQ) (s3:Int) (s4:jQ) (s5:jR) (s6:jQ) (s7:jQ) (hl:aa s0<=maxLen):lp xY ze (s0,((aa s0:Nat):Int),0,s3,s4,s5,s6,s7)=yi s3 s0 s7:=xG xY (fun i s7=>(s0,((aa s0:Nat):Int),i,s3,s4,s5,s6,s7)) (fun es i s7=>yi s3 es s7) hl (fun r i s7 h=>by unfold xY yi; simp only[h,cond_false]) (fun r i s7 e es h g w k=>by unfold xY yi; simp only[h,cond_true,g,af,w,k]) s7
end Go.Abs.Q
