import Derived.Test.YtgjajclncfhidaaGreatDoorFc
/-
  What the functions make of plain values, and what the law says of that.
-/
open Bool renaming and_eq_true -> ay, and_false -> cA, and_true -> dZ, false_and -> bp, not_false -> bN, not_true -> az, or_false -> et, true_and -> aO
open Go.IntKind renaming bits -> dr, signed -> eN, wrap -> ag
open Int renaming fdiv -> gC, le_refl -> eS, toNat -> bb, toNat_natCast -> bh
open List renaming all_cons -> ce, all_eq_true -> aH, drop_drop -> cq, drop_eq_getElem_cons -> aY, drop_eq_nil_iff -> cO, drop_length -> fb, drop_take -> eJ, drop_zero -> bP, flatten_cons -> eV, getD_eq_getElem?_getD -> aG, getElem?_cons_zero -> aB, getElem?_eq_getElem -> am, getElem?_eq_none -> aQ, getElem?_eq_some_iff -> au, length -> aa, length_append -> al, length_cons -> ak, length_drop -> bz, length_eq_zero_iff -> bS, length_nil -> bc, length_pos_iff -> cR, length_singleton -> aD, map_cons -> aN, mem_cons -> aC, mem_cons_of_mem -> ai, mem_cons_self -> aj, mem_flatten -> fg, mem_of_getElem? -> aP, nil_append -> bj, replicate -> ax, set -> bn, sum_cons -> cB, take_length -> dQ, take_succ_cons -> eF
open Nat renaming add_assoc -> bO, add_comm -> dk, beq -> aA, le_refl -> aE, lt_of_le_of_lt -> co, lt_of_succ_lt_succ -> cn, min_eq_left -> dG, strongRecOn -> cS, sub_self -> dA, zero_add -> aR, zero_le -> bK
open Option renaming bind_some -> af, getD -> bJ, getD_some -> bk, isNone -> cm, isNone_some -> cp, map_eq_some_iff -> bw, map_some -> bx
open Option.some renaming injEq -> aq
open Prod.mk renaming injEq -> aK
open Sum renaming inl -> aW, inr -> aF
open UInt8 renaming toNat -> bE
namespace Go.Abs.Q
open Go Go.Abs
abbrev zh:=Str×Int×Int×Int
abbrev MU:Tys:=.cons .str (.cons (.int .i64) (.cons (.int .i64) (.one (.int .i64))))
abbrev zc:=Bool×List Int
abbrev Er:Tys:=.cons .bool (.one (.sl (.one (.int .i64))))
abbrev jR:=List (List Int)
abbrev jI:=List Int
abbrev jQ:=List zc
abbrev jS:=List zh
abbrev jT:=List (Int×Int×Int×Int×Int×Int×Int×jQ×jR×jQ)
abbrev jU:=Int×Int×Int×Int×Int×Int×Int×jQ×jR×jQ
def ri (a0:Int):Option Bool :=
 cond (decide (a0≥97))
 (some (decide (a0<=122)))
 (some false)
def vz (rec:(Str×Int×Int)->Option (Unit⊕Bool)) (x:(Str×Int×Int)):Option (Unit⊕Bool) :=
 cond (decide (x.2.2<x.2.1))
 ((gx x.1 x.2.2).bind fun c7 =>
  (ri ((bE c7:Nat):Int)).bind fun r8 =>
  cond (!r8)
  ((gx x.1 x.2.2).bind fun c9 =>
   cond (decide (((bE c9:Nat):Int)<48))
   (some (aF false))
   ((gx x.1 x.2.2).bind fun c10 =>
    cond (decide (((bE c10:Nat):Int)>57))
    (some (aF false))
    (rec (x.1,x.2.1,(ag .i64 (x.2.2+1))))))
  (rec (x.1,x.2.1,(ag .i64 (x.2.2+1)))))
 (some (aW ()))
def jN (a0:Str):Option Bool :=
 cond (a0==([]:Str))
 (some false)
 (cond (decide (((aa a0:Nat):Int)>8))
  (some false)
  ((gx a0 0).bind fun c14 =>
   (ri ((bE c14:Nat):Int)).bind fun r15 =>
   cond (!r15)
   (some false)
   (((lp vz zd) (a0,((aa a0:Nat):Int),0)).bind fun r16 =>
    yl r16
    (fun _z17=>some true)
    (fun z18=>some z18))))
def rR (a0:Str) (a1:Int) (a2:Int) (a3:Int):Option Bool :=
 (jN a0).bind fun r2 =>
 cond r2
 (cond (decide (a1≥0))
  (cond (decide (a1<=2))
   (cond (decide (a2≥0))
    (cond (decide (a2<=3))
     (cond (decide (a3≥1))
      (some (decide (a3<=20)))
      (some false))
     (some false))
    (some false))
   (some false))
  (some false))
 (some false)
def uQ (rec:(jS×Str×Int×Int)->Option (Unit⊕Int)) (x:(jS×Str×Int×Int)):Option (Unit⊕Int) :=
 cond (decide (x.2.2.2<x.2.2.1))
 ((gx x.1 x.2.2.2).bind fun e2 =>
  cond (e2.1==x.2.1)
  (some (aF x.2.2.2))
  (rec (x.1,x.2.1,x.2.2.1,(ag .i64 (x.2.2.2+1)))))
 (some (aW ()))
def ZX (a0:jS) (a1:Str):Option Int :=
 ((lp uQ zd) (a0,a1,((aa a0:Nat):Int),0)).bind fun r6 =>
 yl r6
 (fun _z7=>some (-1))
 (fun z8=>some z8)
def uK (rec:(jS×Int)->Option (Unit⊕Bool)) (x:(jS×Int)):Option (Unit⊕Bool) :=
 cond (decide (x.2<((aa x.1:Nat):Int)))
 ((gx x.1 x.2).bind fun e6 =>
  (rR e6.1 e6.2.1 e6.2.2.1 e6.2.2.2).bind fun r7 =>
  cond (!r7)
  (some (aF false))
  ((gx x.1 x.2).bind fun e8 =>
   (ZX x.1 e8.1).bind fun r9 =>
   cond (r9 != x.2)
   (some (aF false))
   (rec (x.1,(ag .i64 (x.2+1))))))
 (some (aW ()))
def YP (a0:jS):Option Bool :=
 cond (decide (((aa a0:Nat):Int)<1))
 (some false)
 (cond (decide (((aa a0:Nat):Int)>20))
  (some false)
  ((gx a0 0).bind fun e13 =>
   cond (!(cond (eqS e13.1 [61]) (cond (eqI e13.2.1 0) (cond (eqI e13.2.2.1 2) (cond (eqI e13.2.2.2 1) true false) false) false) false))
   (some false)
   (((lp uK zd) (a0,1)).bind fun r14 =>
    yl r14
    (fun _z15=>some true)
    (fun z16=>some z16))))
def Yo (a0:(Option jI)):Option jI :=
 cond (cm a0)
 (some ([]:jI))
 (cond (yb (aa ([]:List Int)+aa (bJ a0 [])) 8)
  (some (([]:List Int)++(bJ a0 [])))
  (none))
def KO:Option jI :=
 some ([]:jI)
def zB (a0:jI):Option jI:=Yo (some a0)
def Yy (a0:Bool) (a1:jI):Option zc :=
 (zB a1).bind fun r2 =>
 some ((!a0),r2)
def zP (a0:Int):Option Int :=
 some (ag .i64 ((-1) - a0))
def Z0 (a0:jS) (a1:Int):Option (Int×Bool) :=
 cond (decide (a1<0))
 ((zP 23).bind fun r4 =>
  some (0,(decide (a1≥r4))))
 (cond (decide (a1≥((aa a0:Nat):Int)))
  (some (0,false))
  ((gx a0 a1).bind fun e5 =>
   cond (e5.2.1==0)
   (some (0,false))
   ((gx a0 a1).bind fun e6 =>
    some (e6.2.2.1,true))))
def vT (rec:(jS×jI×Int×Int)->Option (Int×Bool)) (x:(jS×jI×Int×Int)):Option (Int×Bool) :=
 cond (decide (x.2.2.1≥((aa x.2.1:Nat):Int)))
 (some (0,false))
 ((gx x.2.1 x.2.2.1).bind fun e5 =>
  (Z0 x.1 e5).bind fun r6 =>
  cond (!r6.2)
  (some (0,false))
  (cond (decide ((ag .i64 (x.2.2.2+(ag .i64 (r6.1 - 1))))>0))
   (rec (x.1,x.2.1,(ag .i64 (x.2.2.1+1)),(ag .i64 (x.2.2.2+(ag .i64 (r6.1 - 1))))))
   (some ((ag .i64 (x.2.2.1+1)),true))))
def xE (a0:jS) (a1:jI) (a2:Int):Option (Int×Bool) :=
 cond (decide (a2≥((aa a1:Nat):Int)))
 (some (0,false))
 ((gx a1 a2).bind fun e8 =>
  (Z0 a0 e8).bind fun r9 =>
  cond (!r9.2)
  (some (0,false))
  (cond (decide ((ag .i64 (1+(ag .i64 (r9.1 - 1))))>0))
   ((((lp vT zd) (a0,a1,(ag .i64 (a2+1)),(ag .i64 (1+(ag .i64 (r9.1 - 1))))))).bind fun r10 =>
    some (r10.1,r10.2))
   (some ((ag .i64 (a2+1)),true))))
def uu (rec:(jS×jI×Int×jI)->Option zc) (x:(jS×jI×Int×jI)):Option zc :=
 cond (x.2.2.1==((aa x.2.1:Nat):Int))
 (some (true,x.2.2.2))
 ((xE x.1 x.2.1 x.2.2.1).bind fun r4 =>
  cond (!r4.2)
  (some (false,([]:jI)))
  (cond (yb (aa x.2.2.2+aa ([x.2.2.1]:List Int)) 8)
   (rec (x.1,x.2.1,r4.1,(x.2.2.2++([x.2.2.1]:List Int))))
   (none)))
def tR (a0:jS) (a1:jI):Option zc :=
 (YP a0).bind fun r6 =>
 cond (!r6)
 (some (false,([]:jI)))
 (cond (decide (((aa a1:Nat):Int)>48))
  (some (false,([]:jI)))
  (cond (0==((aa a1:Nat):Int))
   (some (true,([]:jI)))
   ((xE a0 a1 0).bind fun r7 =>
    cond (!r7.2)
    (some (false,([]:jI)))
    (cond (yb (aa ([0]:List Int)) 8)
     ((((lp uu zd) (a0,a1,r7.1,([0]:List Int)))).bind fun r8 =>
      some (r8.1,r8.2))
     (none)))))
def vk (a0:jS) (a1:jI):Option Bool :=
 cond (((aa a1:Nat):Int)==0)
 (some false)
 ((gx a1 0).bind fun e9 =>
  cond (decide (e9<0))
  (some false)
  ((gx a1 0).bind fun e10 =>
   cond (decide (e10≥((aa a0:Nat):Int)))
   (some false)
   ((gx a1 0).bind fun e11 =>
    (gx a0 e11).bind fun e12 =>
    cond (e12.2.1 != 0)
    (some false)
    ((vI a1 (some 1) none).bind fun y13 =>
     (tR a0 y13).bind fun r14 =>
     cond r14.1
     ((gx a1 0).bind fun e15 =>
      (gx a0 e15).bind fun e16 =>
      some (((aa r14.2:Nat):Int)==e16.2.2.1))
     (some false)))))
def Yp (a0:jS) (_a1:Bool) (a2:jI):Option Bool :=
 (vk a0 a2).bind fun r2 =>
 some r2
def xC (rec:(jS×Int×jQ×Int×Int)->Option (Int⊕(Int×Bool))) (x:(jS×Int×jQ×Int×Int)):Option (Int⊕(Int×Bool)) :=
 cond (decide (x.2.2.2.2<x.2.2.2.1))
 ((gx x.2.2.1 x.2.2.2.2).bind fun e3 =>
  (Yp x.1 e3.1 e3.2).bind fun r4 =>
  cond (!r4)
  (some (aF (0,false)))
  (rec (x.1,(ag .i64 (x.2.1+((aa e3.2:Nat):Int))),x.2.2.1,x.2.2.2.1,(ag .i64 (x.2.2.2.2+1)))))
 (some (aW x.2.1))
def ur (a0:jS) (a1:jQ):Option (Int×Bool) :=
 ((lp xC zd) (a0,0,a1,((aa a1:Nat):Int),0)).bind fun r8 =>
 yl r8
 (fun z9=>some (z9,true))
 (fun z10=>some (z10.1,z10.2))
def Zd (a0:jS) (a1:jI):Option (Int×Int) :=
 (tR a0 a1).bind fun r2 =>
 cond (!r2.1)
 (some (0,200))
 (some (((aa r2.2:Nat):Int),0))
def xA (rec:(jS×Int×Int×jR×Int×Int)->Option (Int⊕(Int×Bool))) (x:(jS×Int×Int×jR×Int×Int)):Option (Int⊕(Int×Bool)) :=
 cond (decide (x.2.2.2.2.2<x.2.2.2.2.1))
 ((gx x.2.2.2.1 x.2.2.2.2.2).bind fun e3 =>
  (Zd x.1 e3).bind fun r4 =>
  cond (x.2.2.2.2.2==0)
  (cond (r4.2 != 0)
   (some (aF (0,false)))
   (cond (r4.1 != r4.1)
    (some (aF (0,false)))
    (rec (x.1,(ag .i64 (x.2.1+((aa e3:Nat):Int))),r4.1,x.2.2.2.1,x.2.2.2.2.1,(ag .i64 (x.2.2.2.2.2+1))))))
  (cond (r4.2 != 0)
   (some (aF (0,false)))
   (cond (r4.1 != x.2.2.1)
    (some (aF (0,false)))
    (rec (x.1,(ag .i64 (x.2.1+((aa e3:Nat):Int))),x.2.2.1,x.2.2.2.1,x.2.2.2.2.1,(ag .i64 (x.2.2.2.2.2+1)))))))
 (some (aW x.2.1))
def tV (a0:jS) (a1:jR):Option (Int×Bool) :=
 ((lp xA zd) (a0,0,0,a1,((aa a1:Nat):Int),0)).bind fun r8 =>
 yl r8
 (fun z9=>some (z9,true))
 (fun z10=>some (z10.1,z10.2))
def qx (a0:jS) (a1:jQ) (a2:jR) (a3:jQ):Option Bool :=
 (YP a0).bind fun r5 =>
 cond (!r5)
 (some false)
 (cond (decide (((aa a1:Nat):Int)>5))
  (some false)
  (cond (decide (((aa a2:Nat):Int)>3))
   (some false)
   (cond (decide (((aa a3:Nat):Int)>3))
    (some false)
    ((ur a0 a1).bind fun r6 =>
     (tV a0 a2).bind fun r7 =>
     (ur a0 a3).bind fun r8 =>
     cond r6.2
     (cond r7.2
      (cond r8.2
       (some (decide ((ag .i64 ((ag .i64 (r6.1+r7.1))+r8.1))<=240)))
       (some false))
      (some false))
     (some false)))))
def wM (rec:(jI×jI×Int×Int)->Option (Unit⊕Bool)) (x:(jI×jI×Int×Int)):Option (Unit⊕Bool) :=
 cond (decide (x.2.2.2<x.2.2.1))
 ((gx x.1 x.2.2.2).bind fun e3 =>
  (gx x.2.1 x.2.2.2).bind fun e4 =>
  cond (e3 != e4)
  (some (aF false))
  (rec (x.1,x.2.1,x.2.2.1,(ag .i64 (x.2.2.2+1)))))
 (some (aW ()))
def yJ (a0:jI) (a1:jI):Option Bool :=
 cond (((aa a0:Nat):Int) != ((aa a1:Nat):Int))
 (some false)
 (((lp wM zd) (a0,a1,((aa a0:Nat):Int),0)).bind fun r8 =>
  yl r8
  (fun _z9=>some true)
  (fun z10=>some z10))
def Y1 (a0:Bool) (a1:jI) (a2:Bool) (a3:jI):Option Bool :=
 cond (a0==a2)
 ((yJ a1 a3).bind fun r2 =>
  some r2)
 (some false)
def tU (a0:Bool) (a1:jI) (a2:Bool) (a3:jI):Option Bool :=
 (Y1 a2 a3 a0 a1).bind fun r2 =>
 some r2
def qL (rec:(jQ×Int×Int×Bool×jI)->Option (Unit⊕Int)) (x:(jQ×Int×Int×Bool×jI)):Option (Unit⊕Int) :=
 cond (decide (x.2.2.1<x.2.1))
 ((gx x.1 x.2.2.1).bind fun e3 =>
  (tU e3.1 e3.2 x.2.2.2.1 x.2.2.2.2).bind fun r4 =>
  cond r4
  (some (aF x.2.2.1))
  (rec (x.1,x.2.1,(ag .i64 (x.2.2.1+1)),x.2.2.2.1,x.2.2.2.2)))
 (some (aW ()))
def sM (a0:jQ) (a1:Bool) (a2:jI):Option Int :=
 ((lp qL zd) (a0,((aa a0:Nat):Int),0,a1,a2)).bind fun r8 =>
 yl r8
 (fun _z9=>some (-1))
 (fun z10=>some z10)
def xF (a0:jQ) (a1:Bool) (a2:jI):Option Bool :=
 (sM a0 a1 a2).bind fun r2 =>
 some (decide (r2≥0))
def vw (rec:(jQ×Int×Int×jQ)->Option jQ) (x:(jQ×Int×Int×jQ)):Option jQ :=
 cond (decide (x.2.2.1<x.2.1))
 ((gx x.1 x.2.2.1).bind fun e5 =>
  (xF x.2.2.2 e5.1 e5.2).bind fun r6 =>
  cond (!r6)
  (cond (yb (aa x.2.2.2+aa ([(e5.1,e5.2)]:List zc)) 32)
   (rec (x.1,x.2.1,(ag .i64 (x.2.2.1+1)),(x.2.2.2++([(e5.1,e5.2)]:List zc))))
   (none))
  (rec (x.1,x.2.1,(ag .i64 (x.2.2.1+1)),x.2.2.2)))
 (some x.2.2.2)
def rE (a0:jQ):Option jQ :=
 ((lp vw zd) (a0,((aa a0:Nat):Int),0,([]:jQ))).bind fun r8 =>
 some r8
def tY (a0:jI) (a1:jI):Option Bool :=
 (yJ a1 a0).bind fun r2 =>
 some r2
def qf (rec:(jR×Int×Int×jI)->Option (Unit⊕Int)) (x:(jR×Int×Int×jI)):Option (Unit⊕Int) :=
 cond (decide (x.2.2.1<x.2.1))
 ((gx x.1 x.2.2.1).bind fun e3 =>
  (tY e3 x.2.2.2).bind fun r4 =>
  cond r4
  (some (aF x.2.2.1))
  (rec (x.1,x.2.1,(ag .i64 (x.2.2.1+1)),x.2.2.2)))
 (some (aW ()))
def tt (a0:jR) (a1:jI):Option Int :=
 ((lp qf zd) (a0,((aa a0:Nat):Int),0,a1)).bind fun r8 =>
 yl r8
 (fun _z9=>some (-1))
 (fun z10=>some z10)
def qY (a0:jR) (a1:jI):Option Bool :=
 (tt a0 a1).bind fun r2 =>
 some (decide (r2≥0))
def yZ (rec:(Int×Int×jI×Int×jI)->Option (jI×Int×jI)) (x:(Int×Int×jI×Int×jI)):Option (jI×Int×jI) :=
 cond (decide (x.2.1<x.1))
 ((inR x.2.1 (aa x.2.2.2.2)).bind fun k33 =>
  (x.2.2.2.2[k33]?).bind fun x34 =>
  cond (decide (x34≥0))
  (rec (x.1,(ag .i64 (x.2.1+1)),x.2.2.1,x.2.2.2.1,x.2.2.2.2))
  ((zP x34).bind fun r35 =>
   (inR r35 24).bind fun k36 =>
   (x.2.2.1[k36]?).bind fun x37 =>
   cond (x37==0)
   ((zP x34).bind fun r38 =>
    (inR r38 24).bind fun k39 =>
    (x.2.2.1[k39]?).bind fun _x40 =>
    (zP x34).bind fun r41 =>
    (inR r41 24).bind fun k42 =>
    ((bn x.2.2.1 k39 (ag .i64 (x.2.2.2.1+1)))[k42]?).bind fun x43 =>
    (inR x.2.1 (aa x.2.2.2.2)).bind fun k44 =>
    (x.2.2.2.2[k44]?).bind fun _x45 =>
    rec (x.1,(ag .i64 (x.2.1+1)),(bn x.2.2.1 k39 (ag .i64 (x.2.2.2.1+1))),(ag .i64 (x.2.2.2.1+1)),(bn x.2.2.2.2 k44 (TG .i64 x43))))
   ((zP x34).bind fun r46 =>
    (inR r46 24).bind fun k47 =>
    (x.2.2.1[k47]?).bind fun x48 =>
    (inR x.2.1 (aa x.2.2.2.2)).bind fun k49 =>
    (x.2.2.2.2[k49]?).bind fun _x50 =>
    rec (x.1,(ag .i64 (x.2.1+1)),x.2.2.1,x.2.2.2.1,(bn x.2.2.2.2 k49 (TG .i64 x48))))))
 (some (x.2.2.1,x.2.2.2.1,x.2.2.2.2))
def yU (a0:jI) (a1:jI) (a2:Int):Option (jI×jI×Int) :=
 (zB a0).bind fun r52 =>
 ((lp yZ zd) (((aa r52:Nat):Int),0,a1,a2,r52)).bind fun r53 =>
 cond (aA (aa a1) (aa r53.1)&&true)
 (some (r53.2.2,r53.1,r53.2.1))
 (none)
def xU (rec:(jQ×Int×Int×jI×Int×jQ×jR×jQ)->Option (jI×Int×jQ×jR×jQ)) (x:(jQ×Int×Int×jI×Int×jQ×jR×jQ)):Option (jI×Int×jQ×jR×jQ) :=
 cond (decide (x.2.2.1<x.2.1))
 ((gx x.1 x.2.2.1).bind fun e19 =>
  (yU e19.2 x.2.2.2.1 x.2.2.2.2.1).bind fun r20 =>
  cond (yb (aa x.2.2.2.2.2.2.2+aa ([(e19.1,r20.1)]:List zc)) 32)
  (rec (x.1,x.2.1,(ag .i64 (x.2.2.1+1)),r20.2.1,r20.2.2,x.2.2.2.2.2.1,x.2.2.2.2.2.2.1,(x.2.2.2.2.2.2.2++([(e19.1,r20.1)]:List zc))))
  (none))
 (some (x.2.2.2.1,x.2.2.2.2.1,x.2.2.2.2.2.1,x.2.2.2.2.2.2.1,x.2.2.2.2.2.2.2))
def x9 (rec:(jR×Int×Int×jI×Int×jQ×jR×jQ×jQ×jR)->Option (jI×Int×jQ×jR)) (x:(jR×Int×Int×jI×Int×jQ×jR×jQ×jQ×jR)):Option (jI×Int×jQ×jR) :=
 cond (decide (x.2.2.1<x.2.1))
 ((gx x.1 x.2.2.1).bind fun e12 =>
  (yU e12 x.2.2.2.1 x.2.2.2.2.1).bind fun r13 =>
  cond (yb (aa x.2.2.2.2.2.2.2.2.2+aa ([r13.1]:List jI)) 24)
  (rec (x.1,x.2.1,(ag .i64 (x.2.2.1+1)),r13.2.1,r13.2.2,x.2.2.2.2.2.1,x.2.2.2.2.2.2.1,x.2.2.2.2.2.2.2.1,x.2.2.2.2.2.2.2.2.1,(x.2.2.2.2.2.2.2.2.2++([r13.1]:List jI))))
  (none))
 (some (x.2.2.2.1,x.2.2.2.2.1,x.2.2.2.2.2.2.2.2.1,x.2.2.2.2.2.2.2.2.2))
def xX (rec:(jQ×Int×Int×jI×Int×jQ×jR×jQ×jQ)->Option (jI×Int×jQ)) (x:(jQ×Int×Int×jI×Int×jQ×jR×jQ×jQ)):Option (jI×Int×jQ) :=
 cond (decide (x.2.2.1<x.2.1))
 ((gx x.1 x.2.2.1).bind fun e5 =>
  (yU e5.2 x.2.2.2.1 x.2.2.2.2.1).bind fun r6 =>
  cond (yb (aa x.2.2.2.2.2.2.2.2+aa ([(e5.1,r6.1)]:List zc)) 32)
  (rec (x.1,x.2.1,(ag .i64 (x.2.2.1+1)),r6.2.1,r6.2.2,x.2.2.2.2.2.1,x.2.2.2.2.2.2.1,x.2.2.2.2.2.2.2.1,(x.2.2.2.2.2.2.2.2++([(e5.1,r6.1)]:List zc))))
  (none))
 (some (x.2.2.2.1,x.2.2.2.2.1,x.2.2.2.2.2.2.2.2))
def Zw (a0:jQ) (a1:jR) (a2:jQ) (a3:jI) (a4:Int):Option (jQ×jR×jQ×jI×Int) :=
 ((lp xX zd) (a0,((aa a0:Nat):Int),0,a3,a4,a0,a1,a2,([]:jQ))).bind fun r22 =>
 ((lp x9 zd) (a1,((aa a1:Nat):Int),0,r22.1,r22.2.1,a0,a1,a2,r22.2.2,([]:jR))).bind fun r23 =>
 ((lp xU zd) (a2,((aa a2:Nat):Int),0,r23.1,r23.2.1,r23.2.2.1,r23.2.2.2,([]:jQ))).bind fun r24 =>
 cond (aA (aa a3) (aa r24.1)&&true)
 (some (r24.2.2.1,r24.2.2.2.1,r24.2.2.2.2,r24.1,r24.2.1))
 (none)
def vC (rec:(jR×Int×Int×jQ×jQ×jR)->Option (jQ×jQ×jR)) (x:(jR×Int×Int×jQ×jQ×jR)):Option (jQ×jQ×jR) :=
 cond (decide (x.2.2.1<x.2.1))
 ((gx x.1 x.2.2.1).bind fun e7 =>
  (qY x.2.2.2.2.2 e7).bind fun r8 =>
  cond (!r8)
  (cond (yb (aa x.2.2.2.2.2+aa ([e7]:List jI)) 24)
   (rec (x.1,x.2.1,(ag .i64 (x.2.2.1+1)),x.2.2.2.1,x.2.2.2.2.1,(x.2.2.2.2.2++([e7]:List jI))))
   (none))
  (rec (x.1,x.2.1,(ag .i64 (x.2.2.1+1)),x.2.2.2.1,x.2.2.2.2.1,x.2.2.2.2.2)))
 (some (x.2.2.2.1,x.2.2.2.2.1,x.2.2.2.2.2))
def Zz (a0:jQ) (a1:jR) (a2:jQ):Option (jQ×jR×jQ) :=
 (rE a0).bind fun r11 =>
 (rE a2).bind fun r12 =>
 ((lp vC zd) (a1,((aa a1:Nat):Int),0,r11,r12,([]:jR))).bind fun r13 =>
 (Zw r13.1 r13.2.2 r13.2.1 (ax 24 (0:Int)) 0).bind fun r14 =>
 some (r14.1,r14.2.1,r14.2.2.1)
def qQ (a0:jS) (a1:jQ) (a2:jR) (a3:jQ):Option (jQ×jR×Int×jQ) :=
 (qx a0 a1 a2 a3).bind fun r3 =>
 cond (!r3)
 (some (([]:jQ),([]:jR),800,([]:jQ)))
 ((Zz a1 a2 a3).bind fun r4 =>
  some (r4.1,r4.2.1,0,r4.2.2))
def ut (rec:(jS×jI×Int×jR)->Option (jR⊕jR)) (x:(jS×jI×Int×jR)):Option (jR⊕jR) :=
 cond (decide (x.2.2.1<((aa x.2.1:Nat):Int)))
 ((xE x.1 x.2.1 x.2.2.1).bind fun r5 =>
  cond (!r5.2)
  (some (aF x.2.2.2))
  ((vI x.2.1 (some x.2.2.1) (some r5.1)).bind fun y6 =>
   cond (yb (aa x.2.2.2+aa ([y6]:List jI)) 24)
   (rec (x.1,x.2.1,r5.1,(x.2.2.2++([y6]:List jI))))
   (none)))
 (some (aW x.2.2.2))
def vR (a0:jS) (a1:jI):Option jR :=
 ((lp ut zd) (a0,a1,0,([]:jR))).bind fun r10 =>
 yl r10
 (fun z11=>some z11)
 (fun z12=>some z12)
def uf (a0:Int):Option Int :=
 some a0
def wb (rec:(jI×jI×Int)->Option (Unit⊕Bool)) (x:(jI×jI×Int)):Option (Unit⊕Bool) :=
 cond (decide (x.2.2<((aa x.1:Nat):Int)))
 ((gx x.1 x.2.2).bind fun e3 =>
  (gx x.2.1 x.2.2).bind fun e4 =>
  cond (e3 != e4)
  (some (aF false))
  (rec (x.1,x.2.1,(ag .i64 (x.2.2+1)))))
 (some (aW ()))
def wj (a0:jI) (a1:jI):Option Bool :=
 cond (((aa a0:Nat):Int) != ((aa a1:Nat):Int))
 (some false)
 (((lp wb zd) (a0,a1,0)).bind fun r8 =>
  yl r8
  (fun _z9=>some true)
  (fun z10=>some z10))
def x5 (rec:(jQ×jQ×Int)->Option (Unit⊕Bool)) (x:(jQ×jQ×Int)):Option (Unit⊕Bool) :=
 cond (decide (x.2.2<((aa x.1:Nat):Int)))
 ((gx x.1 x.2.2).bind fun e6 =>
  (gx x.2.1 x.2.2).bind fun e7 =>
  cond (!(e6.1==e7.1))
  (some (aF false))
  ((gx x.1 x.2.2).bind fun e8 =>
   (gx x.2.1 x.2.2).bind fun e9 =>
   (wj e8.2 e9.2).bind fun r10 =>
   cond (!r10)
   (some (aF false))
   (rec (x.1,x.2.1,(ag .i64 (x.2.2+1))))))
 (some (aW ()))
def tl (a0:jQ) (a1:jQ):Option Bool :=
 cond (((aa a0:Nat):Int) != ((aa a1:Nat):Int))
 (some false)
 (((lp x5 zd) (a0,a1,0)).bind fun r14 =>
  yl r14
  (fun _z15=>some true)
  (fun z16=>some z16))
def xW (rec:(jR×jR×Int)->Option (Unit⊕Bool)) (x:(jR×jR×Int)):Option (Unit⊕Bool) :=
 cond (decide (x.2.2<((aa x.1:Nat):Int)))
 ((gx x.1 x.2.2).bind fun e4 =>
  (gx x.2.1 x.2.2).bind fun e5 =>
  (wj e4 e5).bind fun r6 =>
  cond (!r6)
  (some (aF false))
  (rec (x.1,x.2.1,(ag .i64 (x.2.2+1)))))
 (some (aW ()))
def sP (a0:jR) (a1:jR):Option Bool :=
 cond (((aa a0:Nat):Int) != ((aa a1:Nat):Int))
 (some false)
 (((lp xW zd) (a0,a1,0)).bind fun r10 =>
  yl r10
  (fun _z11=>some true)
  (fun z12=>some z12))
def wN (a0:jQ) (a1:jR) (a2:jQ) (a3:jQ) (a4:jR) (a5:jQ):Option Bool :=
 (tl a0 a3).bind fun r4 =>
 cond r4
 ((sP a1 a4).bind fun r5 =>
  cond r5
  ((tl a2 a5).bind fun r6 =>
   some r6)
  (some false))
 (some false)
theorem zx {X Y:Type} (s:(X->Option Y)->X->Option Y) (k:Nat):lp s (k+1)=s (lp s k):=rfl
theorem yE {α:Type} (xs:List α) (i:Nat):gx xs (i:Int)=xs[i]? := by
 unfold gx;rw[show decide ((0:Int)<=(i:Int))=true from by simp]
 rfl
theorem yh {α:Type} (xs:List α):gx xs 0=xs[0]? := yE xs 0
theorem Kx {α:Type} {xs:List α} {i:Int} (h0:0<=i) (h:i<xs.length):∃ x,gx xs i=some x∧x∈xs∧xs[i.toNat]? = some x:=by
 have hi:i.toNat<xs.length:=by omega
 refine ⟨xs[i.toNat],?_,List.getElem_mem hi,am hi⟩;unfold gx;rw[show decide ((0:Int)<=i)=true from by simp; omega,cond_true,am hi]
theorem zO {i l:Nat} (h:i<l):inR (i:Int) l=some i:=by
 unfold inR;simp [h]
theorem zn {n:Int} (h1 : -9223372036854775808<=n) (h2:n<=9223372036854775807):ag .i64 n=n:=by
 simp [ag,eN,dr];omega
theorem jc {i l:Nat} (h:i<l) (hl:l<=maxLen):ag .i64 ((i:Int)+1)=((i+1:Nat):Int):=by
 unfold maxLen at hl;rw[zn]<;>omega
theorem ZD {i l:Nat} (h:i<l):decide ((i:Int)<(l:Int))=true:=by simp [h]
theorem kz {i l:Nat} (h:l<=i):decide ((i:Int)<(l:Int))=false:=by simp; omega
theorem xL {α:Type} {xs:List α} {i:Nat} (h:xs.drop i=[]):xs.length<=i:=by simpa using h
theorem qg {α:Type} {xs es:List α} {e:α} {i:Nat} (h:xs.drop i=e::es):i<xs.length:=by
 rw[← Nat.not_le];intro hn;rw[cO.2 hn] at h;cases h
theorem zr {α:Type} {xs es:List α} {e:α} {i:Nat} (h:xs.drop i=e::es):xs[i]? = some e:=by
 have:=congrArg (·[0]?) h;simpa using this
theorem zj {α:Type} {xs es:List α} {e:α} {i:Nat} (h:xs.drop i=e::es):xs.drop (i+1)=es:=by
 rw[← cq,h];rfl
theorem sV {A R T:Type} {xs:List A} (f:(T->Option R)->T->Option R) (mk:Int->T) (go:List A->Nat->Option R) (hl:aa xs<=maxLen)
  (h0:∀(r:T->Option R) (i:Nat),decide ((i:Int)<((aa xs:Nat):Int))=false->f r (mk (i:Int))=go [] i)
  (h1:∀(r:T->Option R) (i:Nat) e es,decide ((i:Int)<((aa xs:Nat):Int))=true->gx xs (i:Int)=some e->ag .i64 ((i:Int)+1)=((i+1:Nat):Int)->(r (mk ((i+1:Nat):Int))=go es (i+1))->f r (mk (i:Int))=go (e::es) i)
   : lp f zd (mk 0)=go xs 0:=by
 have key:∀(es:List A) (i k:Nat),xs.drop i=es->es.length<k->lp f k (mk (i:Int))=go es i:=by
  intro es
  induction es with
  | nil =>
   intro i k h hk;obtain⟨k,rfl⟩:∃ k',k=k'+1:=⟨k - 1,by omega⟩
   exact h0 _ i (kz (xL h))
  | cons e es ih =>
   intro i k h hk;obtain⟨k,rfl⟩:∃ k',k=k'+1:=⟨k - 1,by omega⟩
   have hi:=qg h;exact h1 _ i e es (ZD hi) ((yE xs i).trans (zr h)) (jc hi hl) (ih (i+1) k (zj h) (cn hk))
 exact key xs 0 zd rfl (co hl (by decide))
theorem xB {A S0 R T:Type} {xs:List A} (f:(T->Option R)->T->Option R) (mk:Int->S0->T) (go:List A->Nat->S0->Option R) (hl:aa xs<=maxLen)
  (h0:∀(r:T->Option R) (i:Nat) s0,decide ((i:Int)<((aa xs:Nat):Int))=false->f r (mk (i:Int) s0)=go [] i s0)
  (h1:∀(r:T->Option R) (i:Nat) s0 e es,decide ((i:Int)<((aa xs:Nat):Int))=true->gx xs (i:Int)=some e->ag .i64 ((i:Int)+1)=((i+1:Nat):Int)->(∀ s0,r (mk ((i+1:Nat):Int) s0)=go es (i+1) s0)->f r (mk (i:Int) s0)=go (e::es) i s0)
  (s0:S0):lp f zd (mk 0 s0)=go xs 0 s0:=by
 have key:∀(es:List A) (i k:Nat) s0,xs.drop i=es->es.length<k->lp f k (mk (i:Int) s0)=go es i s0:=by
  intro es
  induction es with
  | nil =>
   intro i k s0 h hk;obtain⟨k,rfl⟩:∃ k',k=k'+1:=⟨k - 1,by omega⟩
   exact h0 _ i s0 (kz (xL h))
  | cons e es ih =>
   intro i k s0 h hk;obtain⟨k,rfl⟩:∃ k',k=k'+1:=⟨k - 1,by omega⟩
   have hi:=qg h;exact h1 _ i s0 e es (ZD hi) ((yE xs i).trans (zr h)) (jc hi hl) (fun s0=>ih (i+1) k s0 (zj h) (cn hk))
 exact key xs 0 zd s0 rfl (co hl (by decide))
theorem NM {A S0 S1 R T:Type} {xs:List A} (f:(T->Option R)->T->Option R) (mk:Int->S0->S1->T) (go:List A->Nat->S0->S1->Option R) (hl:aa xs<=maxLen)
  (h0:∀(r:T->Option R) (i:Nat) s0 s1,decide ((i:Int)<((aa xs:Nat):Int))=false->f r (mk (i:Int) s0 s1)=go [] i s0 s1)
  (h1:∀(r:T->Option R) (i:Nat) s0 s1 e es,decide ((i:Int)<((aa xs:Nat):Int))=true->gx xs (i:Int)=some e->ag .i64 ((i:Int)+1)=((i+1:Nat):Int)->(∀ s0 s1,r (mk ((i+1:Nat):Int) s0 s1)=go es (i+1) s0 s1)->f r (mk (i:Int) s0 s1)=go (e::es) i s0 s1)
  (s0:S0) (s1:S1):lp f zd (mk 0 s0 s1)=go xs 0 s0 s1:=by
 have key:∀(es:List A) (i k:Nat) s0 s1,xs.drop i=es->es.length<k->lp f k (mk (i:Int) s0 s1)=go es i s0 s1:=by
  intro es
  induction es with
  | nil =>
   intro i k s0 s1 h hk;obtain⟨k,rfl⟩:∃ k',k=k'+1:=⟨k - 1,by omega⟩
   exact h0 _ i s0 s1 (kz (xL h))
  | cons e es ih =>
   intro i k s0 s1 h hk;obtain⟨k,rfl⟩:∃ k',k=k'+1:=⟨k - 1,by omega⟩
   have hi:=qg h;exact h1 _ i s0 s1 e es (ZD hi) ((yE xs i).trans (zr h)) (jc hi hl) (fun s0 s1=>ih (i+1) k s0 s1 (zj h) (cn hk))
 exact key xs 0 zd s0 s1 rfl (co hl (by decide))
theorem Nj {A S0 S1 S2 R T:Type} {xs:List A} (f:(T->Option R)->T->Option R) (mk:Int->S0->S1->S2->T) (go:List A->Nat->S0->S1->S2->Option R) (hl:aa xs<=maxLen)
  (h0:∀(r:T->Option R) (i:Nat) s0 s1 s2,decide ((i:Int)<((aa xs:Nat):Int))=false->f r (mk (i:Int) s0 s1 s2)=go [] i s0 s1 s2)
  (h1:∀(r:T->Option R) (i:Nat) s0 s1 s2 e es,decide ((i:Int)<((aa xs:Nat):Int))=true->gx xs (i:Int)=some e->ag .i64 ((i:Int)+1)=((i+1:Nat):Int)->(∀ s0 s1 s2,r (mk ((i+1:Nat):Int) s0 s1 s2)=go es (i+1) s0 s1 s2)->f r (mk (i:Int) s0 s1 s2)=go (e::es) i s0 s1 s2)
  (s0:S0) (s1:S1) (s2:S2):lp f zd (mk 0 s0 s1 s2)=go xs 0 s0 s1 s2:=by
 have key:∀(es:List A) (i k:Nat) s0 s1 s2,xs.drop i=es->es.length<k->lp f k (mk (i:Int) s0 s1 s2)=go es i s0 s1 s2:=by
  intro es
  induction es with
  | nil =>
   intro i k s0 s1 s2 h hk;obtain⟨k,rfl⟩:∃ k',k=k'+1:=⟨k - 1,by omega⟩
   exact h0 _ i s0 s1 s2 (kz (xL h))
  | cons e es ih =>
   intro i k s0 s1 s2 h hk;obtain⟨k,rfl⟩:∃ k',k=k'+1:=⟨k - 1,by omega⟩
   have hi:=qg h;exact h1 _ i s0 s1 s2 e es (ZD hi) ((yE xs i).trans (zr h)) (jc hi hl) (fun s0 s1 s2=>ih (i+1) k s0 s1 s2 (zj h) (cn hk))
 exact key xs 0 zd s0 s1 s2 rfl (co hl (by decide))
def z6:List UInt8->Option (Unit⊕Bool)
 | []=>some (aW ())
 | e::es =>
  (ri ((bE e:Nat):Int)).bind fun r8 =>
  cond (!r8)
  (cond (decide (((bE e:Nat):Int)<48))
   (some (aF false))
   (cond (decide (((bE e:Nat):Int)>57))
    (some (aF false))
    (z6 es)))
  (z6 es)
theorem Yw (s0:Str) (hl:aa s0<=maxLen):lp vz zd (s0,((aa s0:Nat):Int),0)=z6 s0:=sV vz (fun i=>(s0,((aa s0:Nat):Int),i)) (fun es i=>z6 es) hl (fun r i h=>by unfold vz z6; simp only[h,cond_false]) (fun r i e es h g w k=>by unfold vz z6; simp only[h,cond_true,g,af,w,k])
def qu (s1:Str):List zh->Nat->Option (Unit⊕Int)
 | [],_i=>some (aW ())
 | e::es,i =>
  cond (e.1==s1)
  (some (aF (i:Int)))
  (qu s1 es (i+1))
theorem Qy (s0:jS) (s1:Str) (hl:aa s0<=maxLen):lp uQ zd (s0,s1,((aa s0:Nat):Int),0)=qu s1 s0 0:=sV uQ (fun i=>(s0,s1,((aa s0:Nat):Int),i)) (fun es i=>qu s1 es i) hl (fun r i h=>by unfold uQ qu; simp only[h,cond_false]) (fun r i e es h g w k=>by unfold uQ qu; simp only[h,cond_true,g,af,w,k])
def vD (s0:jS):List zh->Nat->Option (Unit⊕Bool)
 | [],_i=>some (aW ())
 | e::es,i =>
  (rR e.1 e.2.1 e.2.2.1 e.2.2.2).bind fun r7 =>
  cond (!r7)
  (some (aF false))
  ((ZX s0 e.1).bind fun r9 =>
   cond (r9 != (i:Int))
   (some (aF false))
   (vD s0 es (i+1)))
theorem X4 (s0:jS) (hl:aa s0<=maxLen):∀(es:List zh) (i:Nat) (k:Nat),s0.drop i=es->es.length<k->lp uK k (s0,(i:Int))=vD s0 es i:=by
 intro es
 induction es with
 | nil =>
  intro i k h hk;obtain⟨k,rfl⟩:∃ k',k=k'+1:=⟨k - 1,by omega⟩
  rw[zx];generalize lp uK k=rec;unfold uK vD;simp only[kz (xL h),cond_false]
 | cons e es ih =>
  intro i k h hk;obtain⟨k,rfl⟩:∃ k',k=k'+1:=⟨k - 1,by omega⟩
  rw[zx];have hi:=qg h;have hk2:es.length<k:=cn hk;have key:=fun (_:Unit)=>ih (i+1) k (zj h) hk2;generalize lp uK k=rec at key ⊢;unfold uK vD;simp only[ZD hi,cond_true,yE,zr h,af,jc hi hl,key ()]
def yc (s0:jS):List zc->Int->Option (Int⊕(Int×Bool))
 | [],s1=>some (aW s1)
 | e::es,s1 =>
  (Yp s0 e.1 e.2).bind fun r4 =>
  cond (!r4)
  (some (aF (0,false)))
  (yc s0 es (ag .i64 (s1+((aa e.2:Nat):Int))))
theorem jB (s0:jS) (s2:jQ) (s1:Int) (hl:aa s2<=maxLen):lp xC zd (s0,s1,s2,((aa s2:Nat):Int),0)=yc s0 s2 s1:=xB xC (fun i s1=>(s0,s1,s2,((aa s2:Nat):Int),i)) (fun es i s1=>yc s0 es s1) hl (fun r i s1 h=>by unfold xC yc; simp only[h,cond_false]) (fun r i s1 e es h g w k=>by unfold xC yc; simp only[h,cond_true,g,af,w,k]) s1
def zJ (s0:jS):List jI->Nat->Int->Int->Option (Int⊕(Int×Bool))
 | [],_i,s1,_s2=>some (aW s1)
 | e::es,i,s1,s2 =>
  (Zd s0 e).bind fun r4 =>
  cond ((i:Int)==0)
  (cond (r4.2 != 0)
   (some (aF (0,false)))
   (cond (r4.1 != r4.1)
    (some (aF (0,false)))
    (zJ s0 es (i+1) (ag .i64 (s1+((aa e:Nat):Int))) r4.1)))
  (cond (r4.2 != 0)
   (some (aF (0,false)))
   (cond (r4.1 != s2)
    (some (aF (0,false)))
    (zJ s0 es (i+1) (ag .i64 (s1+((aa e:Nat):Int))) s2)))
theorem jj (s0:jS) (s3:jR) (s1:Int) (s2:Int) (hl:aa s3<=maxLen):lp xA zd (s0,s1,s2,s3,((aa s3:Nat):Int),0)=zJ s0 s3 0 s1 s2:=NM xA (fun i s1 s2=>(s0,s1,s2,s3,((aa s3:Nat):Int),i)) (fun es i s1 s2=>zJ s0 es i s1 s2) hl (fun r i s1 s2 h=>by unfold xA zJ; simp only[h,cond_false]) (fun r i s1 s2 e es h g w k=>by unfold xA zJ; simp only[h,cond_true,g,af,w,k]) s1 s2
def qo (s1:jI):List Int->Nat->Option (Unit⊕Bool)
 | [],_i=>some (aW ())
 | e::es,i =>
  (gx s1 (i:Int)).bind fun e4 =>
  cond (e != e4)
  (some (aF false))
  (qo s1 es (i+1))
theorem ZS (s0:jI) (s1:jI) (hl:aa s0<=maxLen):lp wM zd (s0,s1,((aa s0:Nat):Int),0)=qo s1 s0 0:=sV wM (fun i=>(s0,s1,((aa s0:Nat):Int),i)) (fun es i=>qo s1 es i) hl (fun r i h=>by unfold wM qo; simp only[h,cond_false]) (fun r i e es h g w k=>by unfold wM qo; simp only[h,cond_true,g,af,w,k])
def ye (s3:Bool) (s4:jI):List zc->Nat->Option (Unit⊕Int)
 | [],_i=>some (aW ())
 | e::es,i =>
  (tU e.1 e.2 s3 s4).bind fun r4 =>
  cond r4
  (some (aF (i:Int)))
  (ye s3 s4 es (i+1))
theorem ki (s0:jQ) (s3:Bool) (s4:jI) (hl:aa s0<=maxLen):lp qL zd (s0,((aa s0:Nat):Int),0,s3,s4)=ye s3 s4 s0 0:=sV qL (fun i=>(s0,((aa s0:Nat):Int),i,s3,s4)) (fun es i=>ye s3 s4 es i) hl (fun r i h=>by unfold qL ye; simp only[h,cond_false]) (fun r i e es h g w k=>by unfold qL ye; simp only[h,cond_true,g,af,w,k])
def qb:List zc->jQ->Option jQ
 | [],s3=>some s3
 | e::es,s3 =>
  (xF s3 e.1 e.2).bind fun r6 =>
  cond (!r6)
  (cond (yb (aa s3+aa ([(e.1,e.2)]:List zc)) 32)
   (qb es (s3++([(e.1,e.2)]:List zc)))
   (none))
  (qb es s3)
theorem Z1 (s0:jQ) (s3:jQ) (hl:aa s0<=maxLen):lp vw zd (s0,((aa s0:Nat):Int),0,s3)=qb s0 s3:=xB vw (fun i s3=>(s0,((aa s0:Nat):Int),i,s3)) (fun es i s3=>qb es s3) hl (fun r i s3 h=>by unfold vw qb; simp only[h,cond_false]) (fun r i s3 e es h g w k=>by unfold vw qb; simp only[h,cond_true,g,af,w,k]) s3
def zU (s3:jI):List jI->Nat->Option (Unit⊕Int)
 | [],_i=>some (aW ())
 | e::es,i =>
  (tY e s3).bind fun r4 =>
  cond r4
  (some (aF (i:Int)))
  (zU s3 es (i+1))
theorem sR (s0:jR) (s3:jI) (hl:aa s0<=maxLen):lp qf zd (s0,((aa s0:Nat):Int),0,s3)=zU s3 s0 0:=sV qf (fun i=>(s0,((aa s0:Nat):Int),i,s3)) (fun es i=>zU s3 es i) hl (fun r i h=>by unfold qf zU; simp only[h,cond_false]) (fun r i e es h g w k=>by unfold qf zU; simp only[h,cond_true,g,af,w,k])
def yr (s5:jQ) (s6:jR):List zc->jI->Int->jQ->Option (jI×Int×jQ×jR×jQ)
 | [],s3,s4,s7=>some (s3,s4,s5,s6,s7)
 | e::es,s3,s4,s7 =>
  (yU e.2 s3 s4).bind fun r20 =>
  cond (yb (aa s7+aa ([(e.1,r20.1)]:List zc)) 32)
  (yr s5 s6 es r20.2.1 r20.2.2 (s7++([(e.1,r20.1)]:List zc)))
  (none)
theorem j9 (s0:jQ) (s5:jQ) (s6:jR) (s3:jI) (s4:Int) (s7:jQ) (hl:aa s0<=maxLen):lp xU zd (s0,((aa s0:Nat):Int),0,s3,s4,s5,s6,s7)=yr s5 s6 s0 s3 s4 s7:=Nj xU (fun i s3 s4 s7=>(s0,((aa s0:Nat):Int),i,s3,s4,s5,s6,s7)) (fun es i s3 s4 s7=>yr s5 s6 es s3 s4 s7) hl (fun r i s3 s4 s7 h=>by unfold xU yr; simp only[h,cond_false]) (fun r i s3 s4 s7 e es h g w k=>by unfold xU yr; simp only[h,cond_true,g,af,w,k]) s3 s4 s7
def yy (s8:jQ):List jI->jI->Int->jR->Option (jI×Int×jQ×jR)
 | [],s3,s4,s9=>some (s3,s4,s8,s9)
 | e::es,s3,s4,s9 =>
  (yU e s3 s4).bind fun r13 =>
  cond (yb (aa s9+aa ([r13.1]:List jI)) 24)
  (yy s8 es r13.2.1 r13.2.2 (s9++([r13.1]:List jI)))
  (none)
theorem Zx (s0:jR) (s5:jQ) (s6:jR) (s7:jQ) (s8:jQ) (s3:jI) (s4:Int) (s9:jR) (hl:aa s0<=maxLen):lp x9 zd (s0,((aa s0:Nat):Int),0,s3,s4,s5,s6,s7,s8,s9)=yy s8 s0 s3 s4 s9:=Nj x9 (fun i s3 s4 s9=>(s0,((aa s0:Nat):Int),i,s3,s4,s5,s6,s7,s8,s9)) (fun es i s3 s4 s9=>yy s8 es s3 s4 s9) hl (fun r i s3 s4 s9 h=>by unfold x9 yy; simp only[h,cond_false]) (fun r i s3 s4 s9 e es h g w k=>by unfold x9 yy; simp only[h,cond_true,g,af,w,k]) s3 s4 s9
def yq:List zc->jI->Int->jQ->Option (jI×Int×jQ)
 | [],s3,s4,s8=>some (s3,s4,s8)
 | e::es,s3,s4,s8 =>
  (yU e.2 s3 s4).bind fun r6 =>
  cond (yb (aa s8+aa ([(e.1,r6.1)]:List zc)) 32)
  (yq es r6.2.1 r6.2.2 (s8++([(e.1,r6.1)]:List zc)))
  (none)
theorem j2 (s0:jQ) (s5:jQ) (s6:jR) (s7:jQ) (s3:jI) (s4:Int) (s8:jQ) (hl:aa s0<=maxLen):lp xX zd (s0,((aa s0:Nat):Int),0,s3,s4,s5,s6,s7,s8)=yq s0 s3 s4 s8:=Nj xX (fun i s3 s4 s8=>(s0,((aa s0:Nat):Int),i,s3,s4,s5,s6,s7,s8)) (fun es i s3 s4 s8=>yq es s3 s4 s8) hl (fun r i s3 s4 s8 h=>by unfold xX yq; simp only[h,cond_false]) (fun r i s3 s4 s8 e es h g w k=>by unfold xX yq; simp only[h,cond_true,g,af,w,k]) s3 s4 s8
def qa (s3:jQ) (s4:jQ):List jI->jR->Option (jQ×jQ×jR)
 | [],s5=>some (s3,s4,s5)
 | e::es,s5 =>
  (qY s5 e).bind fun r8 =>
  cond (!r8)
  (cond (yb (aa s5+aa ([e]:List jI)) 24)
   (qa s3 s4 es (s5++([e]:List jI)))
   (none))
  (qa s3 s4 es s5)
theorem Z4 (s0:jR) (s3:jQ) (s4:jQ) (s5:jR) (hl:aa s0<=maxLen):lp vC zd (s0,((aa s0:Nat):Int),0,s3,s4,s5)=qa s3 s4 s0 s5:=xB vC (fun i s5=>(s0,((aa s0:Nat):Int),i,s3,s4,s5)) (fun es i s5=>qa s3 s4 es s5) hl (fun r i s5 h=>by unfold vC qa; simp only[h,cond_false]) (fun r i s5 e es h g w k=>by unfold vC qa; simp only[h,cond_true,g,af,w,k]) s5
def yX (s1:jI):List Int->Nat->Option (Unit⊕Bool)
 | [],_i=>some (aW ())
 | e::es,i =>
  (gx s1 (i:Int)).bind fun e4 =>
  cond (e != e4)
  (some (aF false))
  (yX s1 es (i+1))
theorem jL (s0:jI) (s1:jI) (hl:aa s0<=maxLen):lp wb zd (s0,s1,0)=yX s1 s0 0:=sV wb (fun i=>(s0,s1,i)) (fun es i=>yX s1 es i) hl (fun r i h=>by unfold wb yX; simp only[h,cond_false]) (fun r i e es h g w k=>by unfold wb yX; simp only[h,cond_true,g,af,w,k])
def yY (s1:jQ):List zc->Nat->Option (Unit⊕Bool)
 | [],_i=>some (aW ())
 | e::es,i =>
  (gx s1 (i:Int)).bind fun e7 =>
  cond (!(e.1==e7.1))
  (some (aF false))
  ((gx s1 (i:Int)).bind fun e9 =>
   (wj e.2 e9.2).bind fun r10 =>
   cond (!r10)
   (some (aF false))
   (yY s1 es (i+1)))
theorem Zs (s0:jQ) (s1:jQ) (hl:aa s0<=maxLen):lp x5 zd (s0,s1,0)=yY s1 s0 0:=sV x5 (fun i=>(s0,s1,i)) (fun es i=>yY s1 es i) hl (fun r i h=>by unfold x5 yY; simp only[h,cond_false]) (fun r i e es h g w k=>by unfold x5 yY; simp only[h,cond_true,g,af,w,k])
def y5 (s1:jR):List jI->Nat->Option (Unit⊕Bool)
 | [],_i=>some (aW ())
 | e::es,i =>
  (gx s1 (i:Int)).bind fun e5 =>
  (wj e e5).bind fun r6 =>
  cond (!r6)
  (some (aF false))
  (y5 s1 es (i+1))
theorem Zb (s0:jR) (s1:jR) (hl:aa s0<=maxLen):lp xW zd (s0,s1,0)=y5 s1 s0 0:=sV xW (fun i=>(s0,s1,i)) (fun es i=>y5 s1 es i) hl (fun r i h=>by unfold xW y5; simp only[h,cond_false]) (fun r i e es h g w k=>by unfold xW y5; simp only[h,cond_true,g,af,w,k])
def Xd (n:Int):Bool:=decide (97<=n)&&decide (n<=122)
theorem re (n:Int):ri n=some (Xd n):=by
 unfold ri Xd;by_cases h:n≥97<;>simp [h]
def Co (e:UInt8):Bool:=Xd ((bE e:Nat):Int)||(decide (48<=((bE e:Nat):Int))&&decide (((bE e:Nat):Int)<=57))
theorem G2 (es:List UInt8):z6 es=some (cond (es.all Co) (.inl ()) (.inr false)):=by
 induction es with
 | nil=>rfl
 | cons e es ih =>
  unfold z6;rw[re,af,ih,ce];unfold Co;cases h:Xd ((bE e:Nat):Int) with
  | true=>simp
  | false =>
   by_cases h1:((bE e:Nat):Int)<48
   ·have:¬(48<=((bE e:Nat):Int)):=by omega
    simp only[bN,cond_true,decide_eq_true h1,decide_eq_false this,bp,et,cond_false]
   ·have h3:48<=((bE e:Nat):Int):=by omega
    by_cases h2:((bE e:Nat):Int)>57
    ·have:¬(((bE e:Nat):Int)<=57):=by omega
     simp only[bN,cond_true,decide_eq_false h1,decide_eq_true h2,decide_eq_false this,cA,bp,et,cond_false]
    ·have h4:((bE e:Nat):Int)<=57:=by omega
     simp only[bN,cond_true,decide_eq_false h1,decide_eq_false h2,decide_eq_true h3,decide_eq_true h4,dZ,aO,Bool.or_true,cond_false]
def YF (s:Str):Bool:=match s with
 | []=>false
 | c::_=>decide (s.length<=8)&&Xd ((bE c:Nat):Int)&&s.all Co
theorem KP (s:Str):jN s=some (YF s):=by
 unfold jN YF;cases s with
 | nil=>rfl
 | cons c r =>
  rw[show ((c::r:Str)==([]:Str))=false from rfl,cond_false]
  by_cases h:(c::r).length<=8
  ·have h1:¬(((aa (c::r):Nat):Int)>8):=by omega
   rw[decide_eq_false h1,cond_false,yh,aB,af,re,af,Yw _ (by unfold maxLen; omega),G2,decide_eq_true h]
   dsimp only;cases Xd ((bE c:Nat):Int) with
   | false=>rfl
   | true=>cases (c::r).all Co<;>rfl
  ·have h1:((aa (c::r):Nat):Int)>8:=by omega
   rw[decide_eq_true h1,decide_eq_false h];rfl
def Ev (e:zh):Bool:=YF e.1&&decide (0<=e.2.1)&&decide (e.2.1<=2)&&decide (0<=e.2.2.1)&&decide (e.2.2.1<=3)&&decide (1<=e.2.2.2)&&decide (e.2.2.2<=20)
theorem KM (e:zh):rR e.1 e.2.1 e.2.2.1 e.2.2.2=some (Ev e):=by
 unfold rR Ev;rw[KP,af];cases YF e.1<;>simp only[cond_true,cond_false,aO,bp,ge_iff_le]
 cases decide (0<=e.2.1)<;>simp only[cond_true,cond_false,aO,bp]
 cases decide (e.2.1<=2)<;>simp only[cond_true,cond_false,aO,bp]
 cases decide (0<=e.2.2.1)<;>simp only[cond_true,cond_false,aO,bp]
 cases decide (e.2.2.1<=3)<;>simp only[cond_true,cond_false,aO,bp]
 cases decide (1<=e.2.2.2)<;>simp only[cond_true,cond_false,aO,bp]
def Od (o:Option Nat):Int:=match o with
 | some i=>(i:Int)
 | none => -1
theorem Hh (nm:Str) (es:List zh) (i:Nat):qu nm es i=some (match es.findIdx? (fun e=>e.1==nm) with
  | some j=>.inr ((i+j:Nat):Int)
  | none=>.inl ()):=by
 induction es generalizing i with
 | nil=>rfl
 | cons e es ih =>
  unfold qu;rw[List.findIdx?_cons];cases h:(e.1==nm) with
  | true=>simp
  | false =>
   rw[cond_false,ih];cases es.findIdx? (fun e=>e.1==nm) with
   | none=>rfl
   | some j=>simp; omega
theorem Iv (a0:List zh) (nm:Str) (h:a0.length<=maxLen):ZX a0 nm=some (Od (a0.findIdx? (fun e=>e.1==nm))):=by
 unfold ZX;rw[Qy _ _ h,Hh];cases a0.findIdx? (fun e=>e.1==nm) with
 | none=>rfl
 | some j=>simp [yl,Od]
def XO (a0:List zh):List zh->Nat->Bool
 | [],_=>true
 | e::es,i=>Ev e&&(Od (a0.findIdx? (fun d=>d.1==e.1))==(i:Int))&&XO a0 es (i+1)
theorem TX (a0:List zh) (h:a0.length<=maxLen) (es:List zh) (i:Nat):vD a0 es i=some (cond (XO a0 es i) (.inl ()) (.inr false)):=by
 induction es generalizing i with
 | nil=>rfl
 | cons e es ih =>
  unfold vD XO;rw[KM,af,Iv _ _ h,af,ih,bne];cases Ev e with
  | false=>rfl
  | true =>
   cases (Od (a0.findIdx? (fun d=>d.1==e.1))==(i:Int)) with
   | false=>rfl
   | true=>simp
def Dh:zh:=([61],0,2,1)
def eqQ (e:zh):Bool:=cond (eqS e.1 [61]) (cond (eqI e.2.1 0) (cond (eqI e.2.2.1 2) (cond (eqI e.2.2.2 1) true false) false) false) false
theorem RO (e:zh):eqQ e=true↔e=Dh:=by
 obtain⟨a,b,c,d⟩:=e;unfold eqQ Dh eqS eqI;cases h1:(a==([61]:List UInt8))<;>cases h2:(b==0)<;>cases h3:(c==2)<;>cases h4:(d==1)<;>simp_all
def ug (a0:List zh):Bool:=match a0 with
 | []=>false
 | e::es=>decide (a0.length<=20)&&eqQ e&&XO a0 es 1
theorem QT (a0:List zh):YP a0=some (ug a0):=by
 unfold YP ug;cases a0 with
 | nil=>rfl
 | cons e es =>
  rw[decide_eq_false (show ¬(((aa (e::es):Nat):Int)<1) by rw[ak]; omega),cond_false]
  by_cases h:(e::es).length<=20
  ·have h1:¬(((aa (e::es):Nat):Int)>20):=by omega
   have hm:(e::es).length<=maxLen:=by unfold maxLen; omega
   rw[decide_eq_false h1,cond_false,yh,aB,af,decide_eq_true h];show cond (!(eqQ e)) _ _=some (true&&eqQ e&&XO (e::es) es 1);cases eqQ e with
   | false=>rfl
   | true =>
    have:=X4 (e::es) hm es 1 zd rfl (by simp [zd]; simp at h; omega)
    simp only[az,cond_false];rw[show ((1:Int))=((1:Nat):Int) from rfl,this,TX _ hm]
    cases XO (e::es) es 1<;>rfl
  ·have h1:((aa (e::es):Nat):Int)>20:=by omega
   rw[decide_eq_true h1,decide_eq_false h];rfl
theorem BT {a0:List zh}:{es:List zh}->{i:Nat}->XO a0 es i=true->∀(j:Nat) e,es[j]? = some e->Ev e=true∧Od (a0.findIdx? (fun d=>d.1==e.1))=((i+j:Nat):Int)
 | [],_,_,j,e,he=>by simp at he
 | d::es,i,h,0,e,he=>by
  injection he with he; subst he;simp only[XO,ay] at h;exact ⟨h.1.1,by simpa using h.1.2⟩
 | d::es,i,h,j+1,e,he=>by
  simp only[XO,ay] at h;have:=BT h.2 j e (by simpa using he)
  exact ⟨this.1,by rw[this.2]; omega⟩
structure SignOk (a0:List zh):Prop where
 pos:1<=a0.length
 len:a0.length<=20
 eq:a0[0]? = some Dh
 sym:∀(i:Nat) e,a0[i+1]? = some e->Ev e=true∧Od (a0.findIdx? (fun d=>d.1==e.1))=((i+1:Nat):Int)
theorem v6 {a0:List zh} (h:ug a0=true):SignOk a0:=by
 unfold ug at h;cases a0 with
 | nil=>cases h
 | cons e es =>
  simp only[ay,decide_eq_true_eq] at h;exact ⟨by simp,h.1.1,by rw[aB,(RO e).1 h.1.2],fun i d hd=>by
   have:=BT h.2 i d (by simpa using hd)
   exact ⟨this.1,by rw[this.2]; omega⟩⟩
theorem SignOk.max {a0:List zh} (h:SignOk a0):a0.length<=maxLen:=Nat.le_trans h.len (by unfold maxLen; omega)
theorem MP {e:zh} (h:Ev e=true):YF e.1=true∧0<=e.2.1∧e.2.1<=2∧0<=e.2.2.1∧e.2.2.1<=3∧1<=e.2.2.2∧e.2.2.2<=20:=by
 unfold Ev at h;simp only[ay,decide_eq_true_eq] at h;exact ⟨h.1.1.1.1.1.1,h.1.1.1.1.1.2,h.1.1.1.1.2,h.1.1.1.2,h.1.1.2,h.1.2,h.2⟩
theorem DH {s:Str} (h:YF s=true):1<=s.length∧s.length<=8:=by
 unfold YF at h;cases s with
 | nil=>cases h
 | cons c r =>
  simp only[ay,decide_eq_true_eq] at h;exact ⟨by simp,h.1.1⟩
theorem SignOk.at {a0:List zh} (h:SignOk a0) {i:Nat} {e:zh} (he:a0[i]? = some e):1<=e.1.length∧e.1.length<=8∧0<=e.2.1∧e.2.1<=2∧0<=e.2.2.1∧e.2.2.1<=3:=by
 cases i with
 | zero =>
  rw[h.eq] at he;injection he with he; subst he;decide
 | succ i =>
  obtain⟨h1,h2,h3,h4,h5,_⟩:=MP (h.sym i e he).1;have:=DH h1;exact ⟨this.1,this.2,h2,h3,h4,h5⟩
def v7 (a0:List zh) (x:Int):Option Nat :=
 cond (decide (x<0)) (cond (decide (-24<=x)) (some 0) none) (match a0[x.toNat]? with
  | some e=>cond (e.2.1==0) none (some e.2.2.1.toNat)
  | none=>none)
def nOk (o:Option Nat):Int×Bool:=match o with
 | some k=>((k:Int),true)
 | none=>(0,false)
theorem qm {x:Int} (h1 : -9223372036854775808<=x) (h2:x<=9223372036854775807):zP x=some (-1 - x):=by
 unfold zP;rw[zn]<;>omega
theorem Wm {a0:List zh} (h:SignOk a0) (x:Int):Z0 a0 x=some (nOk (v7 a0 x)):=by
 unfold Z0 v7;by_cases h0:x<0
 ·rw[decide_eq_true h0,cond_true,cond_true,qm (by omega) (by omega),af]
  by_cases h1 : -24<=x
  ·rw[decide_eq_true h1,decide_eq_true (show x ≥ -1 - 23 by omega)]; rfl
  ·rw[decide_eq_false h1,decide_eq_false (show ¬(x ≥ -1 - 23) by omega)]; rfl
 ·rw[decide_eq_false h0,cond_false,cond_false];by_cases h1:x≥((aa a0:Nat):Int)
  ·rw[decide_eq_true h1,cond_true,aQ (by omega)]; rfl
  ·obtain⟨e,he1,he2,he3⟩:=Kx (xs:=a0) (i:=x) (by omega) (by omega)
   have:=h.at he3;rw[decide_eq_false h1,cond_false,he1,af,he3];cases he:(e.2.1==0) with
   | true=>simp only[he,cond_true]; rfl
   | false =>
    simp only[he,cond_false,af];unfold nOk;simp only[aq,aK,and_true];omega
theorem Gm {a0:List zh} (h:SignOk a0) {x:Int} {k:Nat} (hk:v7 a0 x=some k):k<=3:=by
 unfold v7 at hk;by_cases h0:x<0
 ·rw[decide_eq_true h0,cond_true] at hk;by_cases h1 : -24<=x
  ·rw[decide_eq_true h1] at hk; injection hk with hk; omega
  ·rw[decide_eq_false h1] at hk; cases hk
 ·rw[decide_eq_false h0,cond_false] at hk;cases he:a0[x.toNat]? with
  | none=>rw[he] at hk; cases hk
  | some e =>
   rw[he] at hk;have:=h.at he;simp only at hk;cases hz:(e.2.1==0) with
   | true=>rw[hz] at hk; cases hk
   | false=>rw[hz] at hk; injection hk with hk; omega
def sk (a0:List zh):Nat->List Int->Option Nat
 | 0,_=>some 0
 | _+1,[]=>none
 | n+1,x::xs=>match v7 a0 x with
  | none=>none
  | some k=>(sk a0 (n+k) xs).map (· + 1)
theorem VR {a0:List zh}:{xs:List Int}->{n k:Nat}->sk a0 n xs=some k->k<=xs.length∧(0<n->0<k)∧n<=k
 | [],0,k,h=>by simp [sk] at h; omega
 | [],n+1,k,h=>by simp [sk] at h
 | x::xs,0,k,h=>by simp [sk] at h; omega
 | x::xs,n+1,k,h=>by
  unfold sk at h;cases ha:v7 a0 x with
  | none=>rw[ha] at h; cases h
  | some m =>
   rw[ha] at h;simp only[bw] at h;obtain⟨j,hj,rfl⟩:=h;have:=VR hj;rw[ak];omega
theorem Cu {a0:List zh} (h:SignOk a0) (a1:List Int) (hl:a1.length<=1099511627776):∀(m i n:Nat) (k:Nat),a1.length - i=m->0<n->n<=1+3*i->m<k ->
  lp vT k (a0,a1,(i:Int),(n:Int))=some (match sk a0 n (a1.drop i) with
   | some j=>(((i+j:Nat):Int),true)
   | none=>(0,false)):=by
 intro m
 induction m with
 | zero =>
  intro i n k hm hn hni hk;obtain⟨k,rfl⟩:∃ k',k=k'+1:=⟨k - 1,by omega⟩
  rw[zx];generalize lp vT k=rec;unfold vT;simp only[decide_eq_true (show ((i:Int)≥((aa a1:Nat):Int)) by omega),cond_true,cO.2 (show a1.length<=i by omega)]
  obtain⟨n,rfl⟩:∃ n',n=n'+1:=⟨n - 1,by omega⟩
  rfl
 | succ m ih =>
  intro i n k hm hn hni hk;obtain⟨k,rfl⟩:∃ k',k=k'+1:=⟨k - 1,by omega⟩
  have hi:i<a1.length:=by omega
  rw[zx];have key:=fun n' h1 h2=>ih (i+1) n' k (by omega) h1 h2 (by omega)
  generalize lp vT k=rec at key ⊢;unfold vT;obtain⟨n,rfl⟩:∃ n',n=n'+1:=⟨n - 1,by omega⟩
  simp only[decide_eq_false (show ¬((i:Int)≥((aa a1:Nat):Int)) by omega),cond_false,yE,am hi,af,Wm h,aY hi,sk]
  cases ha:v7 a0 a1[i] with
  | none=>simp [nOk]
  | some q =>
   have hq:=Gm h ha;have e1:ag .i64 ((q:Int) - 1)=(q:Int) - 1:=zn (by omega) (by omega)
   have e2:ag .i64 (((n+1:Nat):Int)+((q:Int) - 1))=((n+q:Nat):Int):=by rw[zn]<;>omega
   have e3:ag .i64 ((i:Int)+1)=((i+1:Nat):Int):=by rw[zn]<;>omega
   simp only[nOk,az,cond_false,e1,e2,e3];by_cases hp:0<n+q
   ·rw[decide_eq_true (show ((n+q:Nat):Int)>0 by omega),cond_true,key _ hp (by omega)]
    cases sk a0 (n+q) (a1.drop (i+1)) with
    | none=>rfl
    | some j=>simp only[bx]; rw[show i+1+j=i+(j+1) from by omega]
   ·rw[decide_eq_false (show ¬(((n+q:Nat):Int)>0) by omega),cond_false]
    have:n+q=0:=by omega
    rw[this];simp [sk]
theorem kw {a0:List zh} (h:SignOk a0) (a1:List Int) (hl:a1.length<=1099511627776) (i:Nat):xE a0 a1 (i:Int)=some (match sk a0 1 (a1.drop i) with
   | some j=>(((i+j:Nat):Int),true)
   | none=>(0,false)):=by
 unfold xE;by_cases hi:i<a1.length
 ·simp only[decide_eq_false (show ¬((i:Int)≥((aa a1:Nat):Int)) by omega),cond_false,yE,am hi,af,Wm h,aY hi,sk]
  cases ha:v7 a0 a1[i] with
  | none=>simp [nOk]
  | some q =>
   have hq:=Gm h ha;have e1:ag .i64 ((q:Int) - 1)=(q:Int) - 1:=zn (by omega) (by omega)
   have e2:ag .i64 (1+((q:Int) - 1))=((q:Nat):Int):=by rw[zn]<;>omega
   have e3:ag .i64 ((i:Int)+1)=((i+1:Nat):Int):=by rw[zn]<;>omega
   simp only[nOk,az,cond_false,e1,e2,e3];by_cases hp:0<q
   ·rw[decide_eq_true (show (q:Int)>0 by omega),cond_true,Cu h a1 hl (a1.length - (i+1)) (i+1) q zd rfl hp (by omega) (by unfold zd; omega),aR]
    cases sk a0 q (a1.drop (i+1)) with
    | none=>rfl
    | some j=>simp only[bx,af]; rw[show i+1+j=i+(j+1) from by omega]
   ·rw[decide_eq_false (show ¬((q:Int)>0) by omega),cond_false]
    have:q=0:=by omega
    subst this;simp [sk]
 ·simp only[decide_eq_true (show ((i:Int)≥((aa a1:Nat):Int)) by omega),cond_true,cO.2 (show a1.length<=i by omega)]
  rfl
def BF (a0:List zh):Nat->List Int->Option jR
 | _,[]=>some []
 | 0,_::_=>none
 | n+1,x::xs=>match sk a0 1 (x::xs) with
  | none=>none
  | some k=>(BF a0 n ((x::xs).drop k)).map ((x::xs).take k :: ·)
def WE (a0:List zh) (xs:List Int):Option jR:=BF a0 xs.length xs
theorem K5 {a0:List zh}:{n m:Nat}->{xs:List Int}->xs.length<=n->n<=m->BF a0 m xs=BF a0 n xs
 | n,m,[],_,_=>by cases n<;>cases m<;>rfl
 | 0,_,_::_,h,_=>by simp at h
 | n+1,0,_::_,_,h=>by omega
 | n+1,m+1,x::xs,h,hm=>by
  unfold BF;cases hk:sk a0 1 (x::xs) with
  | none=>rfl
  | some k =>
   have:=VR hk;simp only;rw[K5 (n:=n) (m:=m) (by simp at h ⊢; omega) (by omega)]
theorem WU (a0:List zh):WE a0 []=some []:=rfl
theorem sn {a0:List zh} {xs:List Int} (h:xs≠[]):WE a0 xs=match sk a0 1 xs with
  | none=>none
  | some k=>(WE a0 (xs.drop k)).map (xs.take k :: ·):=by
 cases xs with
 | nil=>exact absurd rfl h
 | cons x xs =>
  show BF a0 (xs.length+1) (x::xs)=_;unfold BF;cases hk:sk a0 1 (x::xs) with
  | none=>rfl
  | some k =>
   have:=VR hk;simp only;unfold WE;rw[K5 (n:=((x::xs).drop k).length) (m:=xs.length) (aE _) (by simp; omega)]
theorem Li {a0:List zh}:{xs:List Int}->{n k:Nat}->sk a0 n xs=some k->sk a0 n (xs.take k)=some k
 | [],0,k,h=>by simp [sk] at h; subst h; rfl
 | [],n+1,k,h=>by simp [sk] at h
 | x::xs,0,k,h=>by simp [sk] at h; subst h; rfl
 | x::xs,n+1,k,h=>by
  unfold sk at h;cases ha:v7 a0 x with
  | none=>rw[ha] at h; cases h
  | some m =>
   rw[ha] at h;simp only[bw] at h;obtain⟨j,hj,rfl⟩:=h;rw[eF];unfold sk;rw[ha];simp only[Li hj,bx]
theorem Z6 {a0:List zh}:∀(n:Nat) (xs:List Int) (ps:List jI),xs.length<=n->WE a0 xs=some ps->ps.flatten=xs∧∀ p∈ps,p≠[]∧sk a0 1 p=some p.length:=by
 intro n
 induction n with
 | zero =>
  intro xs ps h hc;obtain rfl:xs=[]:=bS.1 (by omega)
  injection hc with hc; subst hc;exact ⟨rfl,fun p hp=>by cases hp⟩
 | succ n ih =>
  intro xs ps h hc;by_cases hx:xs=[]
  ·subst hx;injection hc with hc; subst hc;exact ⟨rfl,fun p hp=>by cases hp⟩
  ·rw[sn hx] at hc;cases hk:sk a0 1 xs with
   | none=>rw[hk] at hc; cases hc
   | some k =>
    rw[hk] at hc;simp only[bw] at hc;obtain⟨qs,hq,rfl⟩:=hc;have hle:=VR hk;obtain⟨h1,h2⟩:=ih _ qs (by simp; omega) hq
    refine ⟨by rw[eV,h1,List.take_append_drop],fun p hp => ?_⟩
    rcases aC.1 hp with rfl | hp
    ·have hl:(xs.take k).length=k:=by simp; omega
     exact ⟨fun e=>by rw[e] at hl; simp at hl; omega,by rw[hl]; exact Li hk⟩
    ·exact h2 p hp
def kr:Nat->List jI->List Int
 | _,[]=>[]
 | i,p::ps=>(i:Int)::kr (i+p.length) ps
theorem YC:(i:Nat)->(ps:List jI)->(kr i ps).length=ps.length
 | _,[]=>rfl
 | i,p::ps=>by simp [kr,YC (i+p.length) ps]
theorem zm {n b:Nat} (h:n*b<=140737488351232):yb n b=true:=by simpa[yb] using h
theorem IM {a0:List zh} (h:SignOk a0) (a1:List Int) (hl:a1.length<=1099511627776):∀(m i:Nat) (acc:List Int) (k:Nat),a1.length - i=m->i<=a1.length->acc.length<=i->m<k ->
  lp uu k (a0,a1,(i:Int),acc)=some (match WE a0 (a1.drop i) with
   | some ps=>(true,acc++kr i ps)
   | none=>(false,[])):=by
 intro m
 induction m using cS with
 | _ m ih =>
  intro i acc k hm hi hacc hk;obtain⟨k,rfl⟩:∃ k',k=k'+1:=⟨k - 1,by omega⟩
  rw[zx];have key:=fun j acc' (h1:i<j) h2 h3=>ih (a1.length - j) (by omega) j acc' k rfl h2 h3 (by omega)
  generalize lp uu k=rec at key ⊢;unfold uu;by_cases he:i=a1.length
  ·subst he;simp [WU,kr]
  ·have hlt:i<a1.length:=by omega
   have hne:a1.drop i≠[]:=by simp; omega
   simp only[show (((i:Int))==((aa a1:Nat):Int))=false from by simp; omega,cond_false,kw h a1 hl,af,sn hne]
   cases hs:sk a0 1 (a1.drop i) with
   | none=>rfl
   | some j =>
    have hj:=VR hs;rw[bz] at hj;simp only[az,cond_false,aD,zm (show (acc.length+1)*8<=140737488351232 by omega),cond_true]
    rw[key (i+j) _ (by omega) (by omega) (by simp; omega),cq]
    cases WE a0 (a1.drop (i+j)) with
    | none=>rfl
    | some ps =>
     simp only[bx,kr];rw[List.length_take,bz,dG (by omega)]
     simp
def vG (a0:List zh) (a1:List Int):Option jR:=cond (ug a0&&decide (a1.length<=48)) (WE a0 a1) none
theorem kX (a0:List zh) (a1:List Int):tR a0 a1=some (match vG a0 a1 with
  | some ps=>(true,kr 0 ps)
  | none=>(false,[])):=by
 unfold tR vG;rw[QT,af];cases hs:ug a0 with
 | false=>rfl
 | true =>
  have h:=v6 hs;by_cases hl:a1.length<=48
  ·simp only[az,cond_false,decide_eq_false (show ¬(((aa a1:Nat):Int)>48) by omega),decide_eq_true hl,dZ,cond_true]
   by_cases h0:a1=[]
   ·subst h0; rfl
   ·have hpos:0<a1.length:=cR.2 h0;simp only[show ((0:Int)==((aa a1:Nat):Int))=false from by simp; omega,cond_false]
    have e:=kw h a1 (by omega) 0
    rw[show ((0:Nat):Int)=0 from rfl] at e
    rw[e,af,bP,sn h0];cases hk:sk a0 1 a1 with
    | none=>rfl
    | some j =>
     have hj:=VR hk;simp only[az,cond_false,aR,aD,zm (show 1*8<=140737488351232 by omega),cond_true]
     rw[IM h a1 (by omega) (a1.length - j) j [0] zd rfl (by omega) (by simp; omega) (by unfold zd; omega)]
     cases WE a0 (a1.drop j) with
     | none=>rfl
     | some ps=>simp [kr,dG hj.1]
  ·simp only[az,cond_false,decide_eq_true (show (((aa a1:Nat):Int)>48) by omega),decide_eq_false hl,cA,cond_true]
def ua (a0:List zh) (xs:List Int):Bool:=match xs with
 | []=>false
 | x::r=>decide (0<=x)&&(match a0[x.toNat]? with
  | none=>false
  | some e=>(e.2.1==0)&&(match vG a0 r with
   | none=>false
   | some ps=>((ps.length:Nat):Int)==e.2.2.1))
theorem wE {α:Type} (x:α) (r:List α):vI (x::r) (some 1) none=some r:=by
 show slc (x::r) 1 ((x::r).length:Int)=some r;unfold slc;simp only[ak];rw[decide_eq_true (show (0:Int)<=1 by omega),decide_eq_true (show (1:Int)<=((r.length+1:Nat):Int) by omega),decide_eq_true (show ((r.length+1:Nat):Int)<=((r.length+1:Nat):Int) by omega)]
 simp
theorem kY (a0:List zh) (xs:List Int):vk a0 xs=some (ua a0 xs):=by
 unfold vk ua;cases xs with
 | nil=>rfl
 | cons x r =>
  simp only[show ((((x::r).length:Nat):Int)==0)=false from by simp; omega,cond_false,yh,aB,af]
  by_cases h0:x<0
  ·rw[decide_eq_true h0,decide_eq_false (show ¬(0<=x) by omega)]; rfl
  ·rw[decide_eq_false h0,decide_eq_true (show 0<=x by omega),cond_false,aO]
   by_cases h1:x≥((aa a0:Nat):Int)
   ·rw[decide_eq_true h1,aQ (by omega)]; rfl
   ·obtain⟨e,he1,he2,he3⟩:=Kx (xs:=a0) (i:=x) (by omega) (by omega)
    simp only[decide_eq_false h1,cond_false,he1,he3,af,bne];cases hk:(e.2.1==0) with
    | false=>rfl
    | true =>
     simp only[az,cond_false,wE,af,kX,aO];cases vG a0 r with
     | none=>rfl
     | some ps=>simp [YC]
def zi (xs:List jI):Nat:=(xs.map aa).sum
def tO (a0:List zh) (ls:List zc):Bool:=ls.all fun l=>ua a0 l.2
theorem I3 {a0:List zh} {xs:List Int} (h:ua a0 xs=true):xs.length<=49:=by
 unfold ua at h;cases xs with
 | nil=>cases h
 | cons x r =>
  simp only[ay] at h;cases he:a0[x.toNat]? with
  | none=>rw[he] at h; simp at h
  | some e =>
   rw[he] at h;simp only[ay] at h;cases hb:vG a0 r with
   | none=>rw[hb] at h; simp at h
   | some ps =>
    unfold vG at hb;cases hl:decide (r.length<=48) with
    | false=>rw[hl,cA] at hb; cases hb
    | true=>rw[decide_eq_true_eq] at hl; simp; omega
theorem Mn (a0:List zh):(es:List zc)->(t:Nat)->t+49*es.length<=1099511627776->yc a0 es (t:Int)=some (cond (tO a0 es) (.inl ((t+zi (es.map (·.2)):Nat):Int)) (.inr (0,false)))
 | [],t,_=>by simp [yc,tO,zi]
 | e::es,t,h=>by
  unfold yc Yp tO;rw[kY,af,af,ce];cases ha:ua a0 e.2 with
  | false=>rfl
  | true =>
   have hl:=I3 ha;rw[ak] at h;have e1:ag .i64 ((t:Int)+((aa e.2:Nat):Int))=((t+e.2.length:Nat):Int):=by rw[zn]<;>omega
   rw[e1];have:=Mn a0 es (t+e.2.length) (by omega)
   unfold tO at this;simp only[az,cond_false,aO,this];rw[show t+e.2.length+zi (es.map (·.2))=t+zi ((e::es).map (·.2)) from by simp [zi]; omega]
theorem jA (a0:List zh) (ls:List zc) (h:ls.length<=1000000000):ur a0 ls=some (cond (tO a0 ls) (((zi (ls.map (·.2)):Nat):Int),true) (0,false)):=by
 unfold ur;rw[jB _ _ _ (by unfold maxLen; omega),show ((0:Int))=((0:Nat):Int) from rfl,Mn a0 ls 0 (by omega)]
 cases tO a0 ls with
 | false=>rfl
 | true=>simp [yl]
def ZR (a0:List zh) (xs:List Int):Option Nat:=(vG a0 xs).map aa
theorem Zl (a0:List zh) (xs:List Int):Zd a0 xs=some (match ZR a0 xs with
  | some n=>((n:Int),0)
  | none=>(0,200)):=by
 unfold Zd ZR;rw[kX,af];cases vG a0 xs with
 | none=>rfl
 | some ps=>simp [YC]
theorem QV {a0:List zh} {xs:List Int} {n:Nat} (h:ZR a0 xs=some n):xs.length<=48:=by
 unfold ZR vG at h;cases hl:decide (xs.length<=48) with
 | false=>rw[hl,cA] at h; cases h
 | true=>rw[decide_eq_true_eq] at hl; exact hl
def j4 (a0:List zh) (rs:List jI):Bool:=match rs with
 | []=>true
 | r::rs=>match ZR a0 r with
  | none=>false
  | some n=>rs.all fun q=>ZR a0 q==some n
theorem LH (a0:List zh) (w:Nat):(es:List jI)->(i t:Nat)->t+49*es.length<=1099511627776->zJ a0 es (i+1) (t:Int) (w:Int)=some (cond (es.all fun q=>ZR a0 q==some w) (.inl ((t+zi es:Nat):Int)) (.inr (0,false)))
 | [],i,t,_=>by simp [zJ,zi]
 | e::es,i,t,h=>by
  unfold zJ;rw[Zl,af,ce];rw[show ((((i+1:Nat):Int))==0)=false from by simp; omega,cond_false]
  cases hr:ZR a0 e with
  | none=>rfl
  | some n =>
   have hl:=QV hr;rw[ak] at h;have e1:ag .i64 ((t:Int)+((aa e:Nat):Int))=((t+e.length:Nat):Int):=by rw[zn]<;>omega
   have:=LH a0 w es (i+1) (t+e.length) (by omega)
   simp only[e1,this];by_cases hn:n=w
   ·subst hn;simp [zi,bO]
   ·have h1:((n:Int) != (w:Int))=true:=by simp; omega
    have h2:(some n==some w)=false:=by simpa using hn
    simp [h1,h2]
theorem XC (a0:List zh) (rs:List jI) (h:rs.length<=1000000000):tV a0 rs=some (cond (j4 a0 rs) (((zi rs:Nat):Int),true) (0,false)):=by
 unfold tV;rw[jj _ _ _ _ (by unfold maxLen; omega)]
 cases rs with
 | nil=>rfl
 | cons r rs =>
  unfold zJ j4;rw[Zl,af];rw[show ((((0:Nat):Int))==0)=true from rfl,cond_true]
  dsimp only;cases hr:ZR a0 r with
  | none=>rfl
  | some n =>
   have hl:=QV hr;rw[ak] at h;have e1:ag .i64 (0+((aa r:Nat):Int))=((r.length:Nat):Int):=by rw[zn]<;>omega
   have:=LH a0 n rs 0 r.length (by omega)
   simp only[e1,this];cases hb:rs.all fun q=>ZR a0 q==some n with
   | false=>simp [yl]
   | true=>simp [yl,zi]
def wm (a0:List zh) (a1:List zc) (a2:List jI) (a3:List zc):Bool :=
 ug a0&&decide (a1.length<=5)&&decide (a2.length<=3)&&decide (a3.length<=3)&&tO a0 a1&&j4 a0 a2&&tO a0 a3&&decide (zi (a1.map (·.2))+zi a2+zi (a3.map (·.2))<=240)
theorem Q0 {a0:List zh}:(ls:List zc)->tO a0 ls=true->zi (ls.map (·.2))<=49*ls.length
 | [],_=>by simp [zi]
 | l::ls,h=>by
  unfold tO at h;rw[ce,ay] at h;have h1:=I3 h.1;have h2:=Q0 ls h.2;unfold zi at h2 ⊢;simp only[aN,cB,ak];omega
theorem AZ {a0:List zh} (rs:List jI) (h:j4 a0 rs=true):zi rs<=49*rs.length:=by
 cases rs with
 | nil=>simp [zi]
 | cons r rs =>
  unfold j4 at h;dsimp only at h;cases hr:ZR a0 r with
  | none=>rw[hr] at h; cases h
  | some n =>
   rw[hr] at h;have h1:=QV hr;have h2:∀ qs:List jI,(qs.all fun q=>ZR a0 q==some n)=true->zi qs<=49*qs.length:=by
    intro qs
    induction qs with
    | nil=>intro _; simp [zi]
    | cons q qs ih =>
     intro hq;rw[ce,ay] at hq;have h3:=ih hq.2;have h4:=QV (by simpa using hq.1)
     unfold zi at h3 ⊢;simp only[aN,cB,ak];omega
   have h5:=h2 rs h;unfold zi at h5 ⊢;simp only[aN,cB,ak];omega
theorem yB (a0:List zh) (a1:List zc) (a2:List jI) (a3:List zc):qx a0 a1 a2 a3=some (wm a0 a1 a2 a3):=by
 unfold qx wm;rw[QT,af];cases ug a0 with
 | false=>rfl
 | true =>
  by_cases h1:a1.length<=5
  ·by_cases h2:a2.length<=3
   ·by_cases h3:a3.length<=3
    ·simp only[az,cond_false,decide_eq_false (show ¬(((aa a1:Nat):Int)>5) by omega),decide_eq_false (show ¬(((aa a2:Nat):Int)>3) by omega),decide_eq_false (show ¬(((aa a3:Nat):Int)>3) by omega),
      decide_eq_true h1,decide_eq_true h2,decide_eq_true h3,jA a0 a1 (by omega),XC a0 a2 (by omega),jA a0 a3 (by omega),af,aO]
     cases hb1:tO a0 a1 with
     | false=>rfl
     | true =>
      cases hb2:j4 a0 a2 with
      | false=>rfl
      | true =>
       cases hb3:tO a0 a3 with
       | false=>rfl
       | true =>
        have s1:=Q0 a1 hb1;have s2:=AZ a2 hb2;have s3:=Q0 a3 hb3;simp only[cond_true,aO];have e1:ag .i64 (((zi (a1.map (·.2)):Nat):Int)+((zi a2:Nat):Int))=((zi (a1.map (·.2))+zi a2:Nat):Int):=by rw[zn]<;>omega
        have e2:ag .i64 (((zi (a1.map (·.2))+zi a2:Nat):Int)+((zi (a3.map (·.2)):Nat):Int))=((zi (a1.map (·.2))+zi a2+zi (a3.map (·.2)):Nat):Int):=by rw[zn]<;>omega
        simp only[e1,e2,aq,decide_eq_decide];omega
    ·simp only[az,cond_false,decide_eq_false (show ¬(((aa a1:Nat):Int)>5) by omega),decide_eq_false (show ¬(((aa a2:Nat):Int)>3) by omega),decide_eq_true (show (((aa a3:Nat):Int)>3) by omega),decide_eq_false h3,cond_true,cA,bp]
   ·simp only[az,cond_false,decide_eq_false (show ¬(((aa a1:Nat):Int)>5) by omega),decide_eq_true (show (((aa a2:Nat):Int)>3) by omega),decide_eq_false h2,cond_true,cA,bp]
  ·simp only[az,cond_false,decide_eq_true (show (((aa a1:Nat):Int)>5) by omega),decide_eq_false h1,cond_true,cA,bp]
theorem PP {a0:List zh}:{xs:List Int}->{n m k:Nat}->sk a0 (n+m) xs=some k->∃ j,sk a0 n xs=some j∧j<=k∧sk a0 m (xs.drop j)=some (k - j)
 | xs,0,m,k,h=>⟨0,by cases xs<;>rfl,bK _,by simpa using h⟩
 | [],n+1,m,k,h=>by rw[show n+1+m=n+m+1 from by omega] at h; simp [sk] at h
 | x::xs,n+1,m,k,h=>by
  rw[show n+1+m=n+m+1 from by omega] at h
  unfold sk at h;cases ha:v7 a0 x with
  | none=>rw[ha] at h; cases h
  | some q =>
   rw[ha] at h;simp only[bw] at h;obtain⟨j,hj,rfl⟩:=h;rw[show n+m+q=(n+q)+m from by omega] at hj
   obtain⟨i,h1,h2,h3⟩:=PP hj;refine ⟨i+1,?_,by omega,?_⟩
   ·unfold sk; rw[ha]; simp only[h1,bx]
   ·rw[List.drop_succ_cons,h3]; congr 1; omega
theorem S8 {a0:List zh}:∀(n:Nat) (xs:List Int),sk a0 n xs=some xs.length->∃ ps,WE a0 xs=some ps∧ps.length=n:=by
 intro n
 induction n with
 | zero =>
  intro xs h;have:xs.length=0:=by cases xs<;>simp [sk] at h ⊢
  obtain rfl:=bS.1 this;exact ⟨[],rfl,rfl⟩
 | succ n ih =>
  intro xs h;rw[dk] at h;obtain⟨j,h1,h2,h3⟩:=PP h;have hj:=VR h1;have hne:xs≠[]:=fun e=>by subst e; simp at hj; omega
  obtain⟨ps,h4,h5⟩:=ih (xs.drop j) (by rw[h3,bz])
  refine ⟨xs.take j::ps,?_,by simp [h5]⟩
  rw[sn hne,h1];dsimp only;rw[h4]; rfl
theorem DA {a0:List zh} {p:List Int} (h:sk a0 1 p=some p.length):∃ x r q,p=x::r∧v7 a0 x=some q∧sk a0 q r=some r.length:=by
 cases p with
 | nil=>simp [sk] at h
 | cons x r =>
  unfold sk at h;cases ha:v7 a0 x with
  | none=>rw[ha] at h; cases h
  | some q =>
   rw[ha] at h;simp only[bw,aR] at h;obtain⟨j,hj,he⟩:=h;rw[ak] at he;exact ⟨x,r,q,rfl,ha,by rw[hj]; congr 1; omega⟩
theorem GN {a0:List zh} (h:SignOk a0) (a1:List Int) (hl:a1.length<=1099511627776):∀(m i:Nat) (acc ps:List jI) (k:Nat),a1.length - i=m->i<=a1.length->acc.length<=i->WE a0 (a1.drop i)=some ps->m<k ->
  lp ut k (a0,a1,(i:Int),acc)=some (.inl (acc++ps)):=by
 intro m
 induction m using cS with
 | _ m ih =>
  intro i acc ps k hm hi hacc hc hk;obtain⟨k,rfl⟩:∃ k',k=k'+1:=⟨k - 1,by omega⟩
  rw[zx];have key:=fun j acc' ps' (h1:i<j) h2 h3 h4=>ih (a1.length - j) (by omega) j acc' ps' k rfl h2 h3 h4 (by omega)
  generalize lp ut k=rec at key ⊢;unfold ut;by_cases he:i=a1.length
  ·subst he;rw[fb,WU] at hc;injection hc with hc; subst hc;simp
  ·have hlt:i<a1.length:=by omega
   have hne:a1.drop i≠[]:=by simp; omega
   rw[sn hne] at hc;simp only[decide_eq_true (show (i:Int)<((aa a1:Nat):Int) by omega),cond_true,kw h a1 hl,af]
   cases hs:sk a0 1 (a1.drop i) with
   | none=>rw[hs] at hc; cases hc
   | some j =>
    rw[hs] at hc;simp only[bw] at hc;obtain⟨qs,hq,rfl⟩:=hc;have hj:=VR hs;rw[bz] at hj;have e1:vI a1 (some (i:Int)) (some ((i+j:Nat):Int))=some ((a1.drop i).take j):=by
     show slc a1 _ _=_;unfold slc;rw[decide_eq_true (show (0:Int)<=(i:Int) by omega),decide_eq_true (show (i:Int)<=((i+j:Nat):Int) by omega),decide_eq_true (show ((i+j:Nat):Int)<=((a1.length:Nat):Int) by omega)]
     simp only[cond_true,bh,aq];rw[eJ]; congr 1; omega
    simp only[az,cond_false,e1,af,aD,zm (show (acc.length+1)*24<=140737488351232 by omega),cond_true]
    rw[cq] at hq;rw[key (i+j) _ qs (by omega) (by omega) (by simp; omega) hq]
    simp
theorem uv {a0:List zh} (h:SignOk a0) {a1:List Int} (hl:a1.length<=1099511627776) {ps:List jI} (hc:WE a0 a1=some ps):vR a0 a1=some ps:=by
 unfold vR;have:=GN h a1 hl a1.length 0 [] ps zd rfl (bK _) (bK _) hc (by unfold zd; omega)
 rw[show ((0:Nat):Int)=0 from rfl] at this
 rw[this];rfl
theorem YY {a0:List zh} {xs:List Int} {ps:List jI} (h:WE a0 xs=some ps):ps.length<=xs.length:=by
 obtain⟨h1,h2⟩:=Z6 xs.length xs ps (aE _) h;have h3:∀ qs:List jI,(∀ p∈qs,p≠[])->qs.length<=qs.flatten.length:=by
  intro qs
  induction qs with
  | nil=>intro _; simp
  | cons q qs ih =>
   intro hq;have:=ih fun p hp=>hq p (by simp [hp])
   have h4:=cR.2 (hq q (by simp))
   simp only[eV,al,ak];omega
 have:=h3 ps fun p hp=>(h2 p hp).1;rw[h1] at this;exact this
theorem IN {a0:List zh} {x:Int} {q:Nat} (h:v7 a0 x=some q) (hx:x<0) : -24<=x∧q=0:=by
 unfold v7 at h;rw[decide_eq_true hx,cond_true] at h;cases hd:decide (-24<=x) with
 | false=>rw[hd] at h; cases h
 | true=>rw[hd] at h; injection h with h; exact ⟨of_decide_eq_true hd,h.symm⟩
theorem GT {a0:List zh} {x:Int} {q:Nat} (h:v7 a0 x=some q) (hx:¬ x<0):∃ e,gx a0 x=some e∧a0[x.toNat]? = some e∧e.2.1≠0∧q=e.2.2.1.toNat:=by
 unfold v7 at h;rw[decide_eq_false hx,cond_false] at h;cases he:a0[x.toNat]? with
 | none=>rw[he] at h; cases h
 | some e =>
  rw[he] at h;have hg:gx a0 x=some e:=by
   unfold gx;rw[decide_eq_true (show 0<=x by omega),cond_true,he]
  dsimp only at h;cases hz:(e.2.1==0) with
  | true=>rw[hz] at h; cases h
  | false=>rw[hz] at h; injection h with h; exact ⟨e,hg,rfl,by simpa using hz,h.symm⟩
theorem Y3 {a0:List zh} {xs:List Int} (h:ua a0 xs=true):∃ x r e ps,xs=x::r∧0<=x∧a0[x.toNat]? = some e∧gx a0 x=some e∧e.2.1=0∧ug a0=true∧r.length<=48∧WE a0 r=some ps∧((ps.length:Nat):Int)=e.2.2.1:=by
 unfold ua at h;cases xs with
 | nil=>cases h
 | cons x r =>
  simp only[ay,decide_eq_true_eq] at h;obtain⟨h0,h⟩:=h;cases he:a0[x.toNat]? with
  | none=>rw[he] at h; cases h
  | some e =>
   rw[he] at h;simp only[ay] at h;obtain⟨h1,h⟩:=h;cases hb:vG a0 r with
   | none=>rw[hb] at h; cases h
   | some ps =>
    rw[hb] at h;unfold vG at hb;cases hs:ug a0 with
    | false=>rw[hs] at hb; cases hb
    | true =>
     cases hl:decide (r.length<=48) with
     | false=>rw[hs,hl] at hb; cases hb
     | true =>
      rw[hs,hl] at hb;refine ⟨x,r,e,ps,rfl,h0,he,?_,by simpa using h1,rfl,of_decide_eq_true hl,hb,by simpa using h⟩
      unfold gx;rw[decide_eq_true h0,cond_true,he]
theorem Kj {a0:List zh} {r:List Int} {n:Nat} (h:ZR a0 r=some n):∃ ps,WE a0 r=some ps∧ps.length=n∧r.length<=48∧ug a0=true:=by
 have hl:=QV h;unfold ZR vG at h;cases hs:ug a0 with
 | false=>rw[hs] at h; cases h
 | true =>
  rw[hs,decide_eq_true hl] at h;simp only[dZ,cond_true,bw] at h;obtain⟨ps,h1,h2⟩:=h;exact ⟨ps,h1,h2,hl,rfl⟩
theorem Q8 {a0:List zh} {rs:List jI} (h:j4 a0 rs=true):∃ n,∀ r∈rs,ZR a0 r=some n:=by
 cases rs with
 | nil=>exact ⟨0,fun r hr=>by cases hr⟩
 | cons r rs =>
  unfold j4 at h;dsimp only at h;cases hr:ZR a0 r with
  | none=>rw[hr] at h; cases h
  | some n =>
   rw[hr] at h;refine ⟨n,fun q hq => ?_⟩;rcases aC.1 hq with rfl | hq
   ·exact hr
   ·simpa using aH.1 h q hq
theorem zK {a0:List zh} {a1:List zc} {a2:List jI} {a3:List zc} (h:wm a0 a1 a2 a3=true):ug a0=true∧a1.length<=5∧a2.length<=3∧a3.length<=3∧tO a0 a1=true∧j4 a0 a2=true∧tO a0 a3=true∧zi (a1.map (·.2))+zi a2+zi (a3.map (·.2))<=240:=by
 unfold wm at h;simp only[ay,decide_eq_true_eq] at h;exact ⟨h.1.1.1.1.1.1.1,h.1.1.1.1.1.1.2,h.1.1.1.1.1.2,h.1.1.1.1.2,h.1.1.1.2,h.1.1.2,h.1.2,h.2⟩
theorem DE {a0:List zh} {a1:List zc} {a2:List jI} {a3:List zc} (h1:ug a0=true) (h2:a1.length<=5) (h3:a2.length<=3) (h4:a3.length<=3) (h5:tO a0 a1=true) (h6:j4 a0 a2=true) (h7:tO a0 a3=true)
  (h8:zi (a1.map (·.2))+zi a2+zi (a3.map (·.2))<=240):wm a0 a1 a2 a3=true:=by
 unfold wm;simp only[h1,decide_eq_true h2,decide_eq_true h3,decide_eq_true h4,h5,h6,h7,decide_eq_true h8,Bool.and_self]
def bad (t:UInt8):Bool:=t==111||t==114||t==105||t==102||t==38
theorem Uw {α:Type} (s:List α) {i j:Nat} (hij:i<=j) (h:j<=s.length):vI s (some (i:Int)) (some (j:Int))=some ((s.drop i).take (j - i)):=by
 show slc s _ _=_;unfold slc;rw[decide_eq_true (show (0:Int)<=(i:Int) by omega),decide_eq_true (show (i:Int)<=(j:Int) by omega),decide_eq_true (show (j:Int)<=((s.length:Nat):Int) by omega)]
 simp only[cond_true,bh,aq];rw[eJ]
def YW (a0:Int):Option Bool :=
 cond (decide (a0≥97))
 (some (decide (a0<=122)))
 (some false)
def uq (rec:(Int×Str×Int×Int×Int)->Option (Unit⊕Bool)) (x:(Int×Str×Int×Int×Int)):Option (Unit⊕Bool) :=
 cond (decide (x.1<((aa x.2.1:Nat):Int)))
 ((gx x.2.1 x.1).bind fun c7 =>
  (YW ((bE c7:Nat):Int)).bind fun r8 =>
  cond (!r8)
  ((gx x.2.1 x.1).bind fun c9 =>
   cond (decide (((bE c9:Nat):Int)<48))
   (some (aF false))
   ((gx x.2.1 x.1).bind fun c10 =>
    cond (decide (((bE c10:Nat):Int)>57))
    (some (aF false))
    (rec ((ag .i64 (x.1+1)),x.2.1,x.2.2.1,x.2.2.2.1,x.2.2.2.2))))
  (rec ((ag .i64 (x.1+1)),x.2.1,x.2.2.1,x.2.2.2.1,x.2.2.2.2)))
 (some (aW ()))
def jO (a0:Str) (a1:Int) (a2:Int) (a3:Int):Option Bool :=
 cond (decide (((aa a0:Nat):Int)<1))
 (some false)
 (cond (decide (((aa a0:Nat):Int)>8))
  (some false)
  ((gx a0 0).bind fun c14 =>
   (YW ((bE c14:Nat):Int)).bind fun r15 =>
   cond (!r15)
   (some false)
   (((lp uq zd) (0,a0,a1,a2,a3)).bind fun r16 =>
    yl r16
    (fun _z17=>cond (decide (a1≥0))
     (cond (decide (a1<=2))
      (cond (decide (a2≥0))
       (cond (decide (a2<=3))
        (cond (decide (a3≥1))
         (some (decide (a3<=20)))
         (some false))
        (some false))
       (some false))
      (some false))
     (some false))
    (fun z18=>some z18))))
def t8 (rec:(jS×Str×Int)->Option (Unit⊕Int)) (x:(jS×Str×Int)):Option (Unit⊕Int) :=
 cond (decide (x.2.2<((aa x.1:Nat):Int)))
 ((gx x.1 x.2.2).bind fun e2 =>
  cond (e2.1==x.2.1)
  (some (aF x.2.2))
  (rec (x.1,x.2.1,(ag .i64 (x.2.2+1)))))
 (some (aW ()))
def Xl (a0:jS) (a1:Str):Option Int :=
 ((lp t8 zd) (a0,a1,0)).bind fun r6 =>
 yl r6
 (fun _z7=>some (-1))
 (fun z8=>some z8)
def wH (rec:(jS×Int)->Option (Unit⊕Bool)) (x:(jS×Int)):Option (Unit⊕Bool) :=
 cond (decide (x.2<((aa x.1:Nat):Int)))
 ((gx x.1 x.2).bind fun e6 =>
  (jO e6.1 e6.2.1 e6.2.2.1 e6.2.2.2).bind fun r7 =>
  cond (!r7)
  (some (aF false))
  ((gx x.1 x.2).bind fun e8 =>
   (Xl x.1 e8.1).bind fun r9 =>
   cond (r9 != x.2)
   (some (aF false))
   (rec (x.1,(ag .i64 (x.2+1))))))
 (some (aW ()))
def kq (a0:jS):Option Bool :=
 cond (decide (((aa a0:Nat):Int)<1))
 (some false)
 (cond (decide (((aa a0:Nat):Int)>20))
  (some false)
  ((gx a0 0).bind fun e13 =>
   cond (!(cond (eqS e13.1 ([61]:Str)) (cond (eqI e13.2.1 0) (cond (eqI e13.2.2.1 2) (cond (eqI e13.2.2.2 1) true false) false) false) false))
   (some false)
   (((lp wH zd) (a0,1)).bind fun r14 =>
    yl r14
    (fun _z15=>some true)
    (fun z16=>some z16))))
def tE (rec:(jS×jI×Int×Int)->Option (Int⊕Int)) (x:(jS×jI×Int×Int)):Option (Int⊕Int) :=
 cond (decide (x.2.2.1>0))
 (cond (decide (x.2.2.2≥((aa x.2.1:Nat):Int)))
  (some (aF (-1)))
  ((gx x.2.1 x.2.2.2).bind fun e8 =>
   cond (decide (e8<(-24)))
   (some (aF (-1)))
   ((gx x.2.1 x.2.2.2).bind fun e9 =>
    cond (decide (e9≥((aa x.1:Nat):Int)))
    (some (aF (-1)))
    ((gx x.2.1 x.2.2.2).bind fun e10 =>
     cond (decide (e10≥0))
     ((gx x.2.1 x.2.2.2).bind fun e11 =>
      (gx x.1 e11).bind fun e12 =>
      cond (e12.2.1==0)
      (some (aF (-1)))
      ((gx x.2.1 x.2.2.2).bind fun e13 =>
       (gx x.1 e13).bind fun e14 =>
       rec (x.1,x.2.1,(ag .i64 ((ag .i64 (x.2.2.1 - 1))+e14.2.2.1)),(ag .i64 (x.2.2.2+1)))))
     (rec (x.1,x.2.1,(ag .i64 (x.2.2.1 - 1)),(ag .i64 (x.2.2.2+1))))))))
 (some (aW x.2.2.2))
def Y0 (a0:jS) (a1:jI) (a2:Int):Option Int :=
 ((lp tE zd) (a0,a1,1,a2)).bind fun r18 =>
 yl r18
 (fun z19=>some z19)
 (fun z20=>some z20)
def sX (rec:(jS×jI×Int×Int)->Option (Int⊕Int)) (x:(jS×jI×Int×Int)):Option (Int⊕Int) :=
 cond (decide (x.2.2.2<((aa x.2.1:Nat):Int)))
 ((Y0 x.1 x.2.1 x.2.2.2).bind fun r2 =>
  cond (decide (r2<0))
  (some (aF (-1)))
  (rec (x.1,x.2.1,(ag .i64 (x.2.2.1+1)),r2)))
 (some (aW x.2.2.1))
def tP (a0:jS) (a1:jI):Option Int :=
 cond (decide (((aa a1:Nat):Int)>48))
 (some (-1))
 (((lp sX zd) (a0,a1,0,0)).bind fun r6 =>
  yl r6
  (fun z7=>some z7)
  (fun z8=>some z8))
def QF (a0:jS) (a1:jI):Option Bool :=
 cond (decide (((aa a1:Nat):Int)>0))
 ((gx a1 0).bind fun e9 =>
  cond (decide (e9≥0))
  ((gx a1 0).bind fun e10 =>
   cond (decide (e10<((aa a0:Nat):Int)))
   ((gx a1 0).bind fun e11 =>
    (gx a0 e11).bind fun e12 =>
    cond (e12.2.1==0)
    ((vI a1 (some 1) none).bind fun y13 =>
     (tP a0 y13).bind fun r14 =>
     (gx a1 0).bind fun e15 =>
     (gx a0 e15).bind fun e16 =>
     some (r14==e16.2.2.1))
    (some false))
   (some false))
  (some false))
 (some false)
def tL (a0:jS) (_a1:Bool) (a2:jI):Option Bool :=
 (kq a0).bind fun r3 =>
 cond r3
 ((QF a0 a2).bind fun r4 =>
  some r4)
 (some false)
def sr (rec:(Int×jQ×jR×jQ×jR)->Option jR) (x:(Int×jQ×jR×jQ×jR)):Option jR :=
 cond (decide (x.1<((aa x.2.2.2.1:Nat):Int)))
 ((gx x.2.2.2.1 x.1).bind fun e9 =>
  cond (yb (aa x.2.2.2.2+aa ([e9.2]:List jI)) 24)
  (rec ((ag .i64 (x.1+1)),x.2.1,x.2.2.1,x.2.2.2.1,(x.2.2.2.2++([e9.2]:List jI))))
  (none))
 (some x.2.2.2.2)
def sA (rec:(Int×jQ×jR×jQ×jR)->Option jR) (x:(Int×jQ×jR×jQ×jR)):Option jR :=
 cond (decide (x.1<((aa x.2.2.1:Nat):Int)))
 ((gx x.2.2.1 x.1).bind fun e6 =>
  cond (yb (aa x.2.2.2.2+aa ([e6]:List jI)) 24)
  (rec ((ag .i64 (x.1+1)),x.2.1,x.2.2.1,x.2.2.2.1,(x.2.2.2.2++([e6]:List jI))))
  (none))
 (some x.2.2.2.2)
def se (rec:(Int×jQ×jR×jQ×jR)->Option jR) (x:(Int×jQ×jR×jQ×jR)):Option jR :=
 cond (decide (x.1<((aa x.2.1:Nat):Int)))
 ((gx x.2.1 x.1).bind fun e3 =>
  cond (yb (aa x.2.2.2.2+aa ([e3.2]:List jI)) 24)
  (rec ((ag .i64 (x.1+1)),x.2.1,x.2.2.1,x.2.2.2.1,(x.2.2.2.2++([e3.2]:List jI))))
  (none))
 (some x.2.2.2.2)
def Ys (a0:jQ) (a1:jR) (a2:jQ):Option jR :=
 ((lp se zd) (0,a0,a1,a2,([]:jR))).bind fun r11 =>
 ((lp sA zd) (0,a0,a1,a2,r11)).bind fun r12 =>
 ((lp sr zd) (0,a0,a1,a2,r12)).bind fun r13 =>
 some r13
def rA (rec:(jR×Int×Int)->Option Int) (x:(jR×Int×Int)):Option Int :=
 cond (decide (x.2.2<((aa x.1:Nat):Int)))
 ((gx x.1 x.2.2).bind fun e26 =>
  rec (x.1,(ag .i64 (x.2.1+((aa e26:Nat):Int))),(ag .i64 (x.2.2+1))))
 (some x.2.1)
def rS (rec:(jS×Int×jQ×jR×jQ)->Option (Unit⊕Bool)) (x:(jS×Int×jQ×jR×jQ)):Option (Unit⊕Bool) :=
 cond (decide (x.2.1<((aa x.2.2.2.1:Nat):Int)))
 ((gx x.2.2.2.1 x.2.1).bind fun e18 =>
  (tP x.1 e18).bind fun r19 =>
  cond (decide (r19<0))
  (some (aF false))
  ((gx x.2.2.2.1 0).bind fun e20 =>
   (tP x.1 e20).bind fun r21 =>
   cond (r19 != r21)
   (some (aF false))
   (rec (x.1,(ag .i64 (x.2.1+1)),x.2.2.1,x.2.2.2.1,x.2.2.2.2))))
 (some (aW ()))
def rU (rec:(jS×Int×jQ×jR×jQ)->Option (Unit⊕Bool)) (x:(jS×Int×jQ×jR×jQ)):Option (Unit⊕Bool) :=
 cond (decide (x.2.1<((aa x.2.2.2.2:Nat):Int)))
 ((gx x.2.2.2.2 x.2.1).bind fun e10 =>
  (tL x.1 e10.1 e10.2).bind fun r11 =>
  cond (!r11)
  (some (aF false))
  (rec (x.1,(ag .i64 (x.2.1+1)),x.2.2.1,x.2.2.2.1,x.2.2.2.2)))
 (some (aW ()))
def rW (rec:(jS×Int×jQ×jR×jQ)->Option (Unit⊕Bool)) (x:(jS×Int×jQ×jR×jQ)):Option (Unit⊕Bool) :=
 cond (decide (x.2.1<((aa x.2.2.1:Nat):Int)))
 ((gx x.2.2.1 x.2.1).bind fun e4 =>
  (tL x.1 e4.1 e4.2).bind fun r5 =>
  cond (!r5)
  (some (aF false))
  (rec (x.1,(ag .i64 (x.2.1+1)),x.2.2.1,x.2.2.2.1,x.2.2.2.2)))
 (some (aW ()))
def YS (a0:jS) (a1:jQ) (a2:jR) (a3:jQ):Option Bool :=
 (kq a0).bind fun r31 =>
 cond (!r31)
 (some false)
 (cond (decide (((aa a1:Nat):Int)>5))
  (some false)
  (cond (decide (((aa a3:Nat):Int)>3))
   (some false)
   (cond (decide (((aa a2:Nat):Int)>3))
    (some false)
    (((lp rW zd) (a0,0,a1,a2,a3)).bind fun r32 =>
     yl r32
     (fun _z33=>((lp rU zd) (a0,0,a1,a2,a3)).bind fun r34 =>
      yl r34
      (fun _z35=>((lp rS zd) (a0,0,a1,a2,a3)).bind fun r36 =>
       yl r36
       (fun _z37=>(Ys a1 a2 a3).bind fun r38 =>
        ((lp rA zd) (r38,0,0)).bind fun r39 =>
        some (decide (r39<=240)))
       (fun z40=>some z40))
      (fun z41=>some z41))
     (fun z42=>some z42)))))
def vu (rec:(jS×jI×Int×Int)->Option Int) (x:(jS×jI×Int×Int)):Option Int :=
 cond (decide (x.2.2.1>0))
 ((gx x.2.1 x.2.2.2).bind fun e4 =>
  cond (decide (e4≥0))
  ((gx x.2.1 x.2.2.2).bind fun e5 =>
   (gx x.1 e5).bind fun e6 =>
   rec (x.1,x.2.1,(ag .i64 ((ag .i64 (x.2.2.1 - 1))+e6.2.2.1)),(ag .i64 (x.2.2.2+1))))
  (rec (x.1,x.2.1,(ag .i64 (x.2.2.1 - 1)),(ag .i64 (x.2.2.2+1)))))
 (some x.2.2.2)
def QD (a0:jS) (a1:jI) (a2:Int):Option Int :=
 ((lp vu zd) (a0,a1,1,a2)).bind fun r8 =>
 some r8
def sS (rec:(jS×jI×Int×jR)->Option jR) (x:(jS×jI×Int×jR)):Option jR :=
 cond (decide (x.2.2.1<((aa x.2.1:Nat):Int)))
 ((QD x.1 x.2.1 x.2.2.1).bind fun r5 =>
  (vI x.2.1 (some x.2.2.1) (some r5)).bind fun y6 =>
  cond (yb (aa x.2.2.2+aa ([y6]:List jI)) 24)
  (rec (x.1,x.2.1,r5,(x.2.2.2++([y6]:List jI))))
  (none))
 (some x.2.2.2)
def ya (a0:jS) (a1:jI):Option jR :=
 ((lp sS zd) (a0,a1,0,([]:jR))).bind fun r8 =>
 some r8
def yC:List UInt8->Option (Unit⊕Bool)
 | []=>some (aW ())
 | e::es =>
  (YW ((bE e:Nat):Int)).bind fun r8 =>
  cond (!r8)
  (cond (decide (((bE e:Nat):Int)<48))
   (some (aF false))
   (cond (decide (((bE e:Nat):Int)>57))
    (some (aF false))
    (yC es)))
  (yC es)
theorem Z3 (s1:Str) (s2:Int) (s3:Int) (s4:Int) (hl:aa s1<=maxLen):lp uq zd (0,s1,s2,s3,s4)=yC s1:=sV uq (fun i=>(i,s1,s2,s3,s4)) (fun es i=>yC es) hl (fun r i h=>by unfold uq yC; simp only[h,cond_false]) (fun r i e es h g w k=>by unfold uq yC; simp only[h,cond_true,g,af,w,k])
def xG (s1:Str):List zh->Nat->Option (Unit⊕Int)
 | [],_i=>some (aW ())
 | e::es,i =>
  cond (e.1==s1)
  (some (aF (i:Int)))
  (xG s1 es (i+1))
theorem Qx (s0:jS) (s1:Str) (hl:aa s0<=maxLen):lp t8 zd (s0,s1,0)=xG s1 s0 0:=sV t8 (fun i=>(s0,s1,i)) (fun es i=>xG s1 es i) hl (fun r i h=>by unfold t8 xG; simp only[h,cond_false]) (fun r i e es h g w k=>by unfold t8 xG; simp only[h,cond_true,g,af,w,k])
def xh (s0:jS):List zh->Nat->Option (Unit⊕Bool)
 | [],_i=>some (aW ())
 | e::es,i =>
  (jO e.1 e.2.1 e.2.2.1 e.2.2.2).bind fun r7 =>
  cond (!r7)
  (some (aF false))
  ((Xl s0 e.1).bind fun r9 =>
   cond (r9 != (i:Int))
   (some (aF false))
   (xh s0 es (i+1)))
theorem Yu (s0:jS) (hl:aa s0<=maxLen):∀(es:List zh) (i:Nat) (k:Nat),s0.drop i=es->es.length<k->lp wH k (s0,(i:Int))=xh s0 es i:=by
 intro es
 induction es with
 | nil =>
  intro i k h hk;obtain⟨k,rfl⟩:∃ k',k=k'+1:=⟨k - 1,by omega⟩
  rw[zx];generalize lp wH k=rec;unfold wH xh;simp only[kz (xL h),cond_false]
 | cons e es ih =>
  intro i k h hk;obtain⟨k,rfl⟩:∃ k',k=k'+1:=⟨k - 1,by omega⟩
  rw[zx];have hi:=qg h;have hk2:es.length<k:=cn hk;have key:=fun (_:Unit)=>ih (i+1) k (zj h) hk2;generalize lp wH k=rec at key ⊢;unfold wH xh;simp only[ZD hi,cond_true,yE,zr h,af,jc hi hl,key ()]
def qU:List zc->jR->Option jR
 | [],s4=>some s4
 | e::es,s4 =>
  cond (yb (aa s4+aa ([e.2]:List jI)) 24)
  (qU es (s4++([e.2]:List jI)))
  (none)
theorem QE (s1:jQ) (s2:jR) (s3:jQ) (s4:jR) (hl:aa s3<=maxLen):lp sr zd (0,s1,s2,s3,s4)=qU s3 s4:=xB sr (fun i s4=>(i,s1,s2,s3,s4)) (fun es i s4=>qU es s4) hl (fun r i s4 h=>by unfold sr qU; simp only[h,cond_false]) (fun r i s4 e es h g w k=>by unfold sr qU; simp only[h,cond_true,g,af,w,k]) s4
def q6:List jI->jR->Option jR
 | [],s4=>some s4
 | e::es,s4 =>
  cond (yb (aa s4+aa ([e]:List jI)) 24)
  (q6 es (s4++([e]:List jI)))
  (none)
theorem QN (s1:jQ) (s2:jR) (s3:jQ) (s4:jR) (hl:aa s2<=maxLen):lp sA zd (0,s1,s2,s3,s4)=q6 s2 s4:=xB sA (fun i s4=>(i,s1,s2,s3,s4)) (fun es i s4=>q6 es s4) hl (fun r i s4 h=>by unfold sA q6; simp only[h,cond_false]) (fun r i s4 e es h g w k=>by unfold sA q6; simp only[h,cond_true,g,af,w,k]) s4
def qV:List zc->jR->Option jR
 | [],s4=>some s4
 | e::es,s4 =>
  cond (yb (aa s4+aa ([e.2]:List jI)) 24)
  (qV es (s4++([e.2]:List jI)))
  (none)
theorem QH (s1:jQ) (s2:jR) (s3:jQ) (s4:jR) (hl:aa s1<=maxLen):lp se zd (0,s1,s2,s3,s4)=qV s1 s4:=xB se (fun i s4=>(i,s1,s2,s3,s4)) (fun es i s4=>qV es s4) hl (fun r i s4 h=>by unfold se qV; simp only[h,cond_false]) (fun r i s4 e es h g w k=>by unfold se qV; simp only[h,cond_true,g,af,w,k]) s4
def xq:List jI->Int->Option Int
 | [],s1=>some s1
 | e::es,s1 =>
  xq es (ag .i64 (s1+((aa e:Nat):Int)))
theorem Q1 (s0:jR) (s1:Int) (hl:aa s0<=maxLen):lp rA zd (s0,s1,0)=xq s0 s1:=xB rA (fun i s1=>(s0,s1,i)) (fun es i s1=>xq es s1) hl (fun r i s1 h=>by unfold rA xq; simp only[h,cond_false]) (fun r i s1 e es h g w k=>by unfold rA xq; simp only[h,cond_true,g,af,w,k]) s1
def xu (s0:jS) (s3:jR):List jI->Option (Unit⊕Bool)
 | []=>some (aW ())
 | e::es =>
  (tP s0 e).bind fun r19 =>
  cond (decide (r19<0))
  (some (aF false))
  ((gx s3 0).bind fun e20 =>
   (tP s0 e20).bind fun r21 =>
   cond (r19 != r21)
   (some (aF false))
   (xu s0 s3 es))
theorem Xm (s0:jS) (s2:jQ) (s3:jR) (s4:jQ) (hl:aa s3<=maxLen):lp rS zd (s0,0,s2,s3,s4)=xu s0 s3 s3:=sV rS (fun i=>(s0,i,s2,s3,s4)) (fun es i=>xu s0 s3 es) hl (fun r i h=>by unfold rS xu; simp only[h,cond_false]) (fun r i e es h g w k=>by unfold rS xu; simp only[h,cond_true,g,af,w,k])
def wu (s0:jS):List zc->Option (Unit⊕Bool)
 | []=>some (aW ())
 | e::es =>
  (tL s0 e.1 e.2).bind fun r11 =>
  cond (!r11)
  (some (aF false))
  (wu s0 es)
theorem QX (s0:jS) (s2:jQ) (s3:jR) (s4:jQ) (hl:aa s4<=maxLen):lp rU zd (s0,0,s2,s3,s4)=wu s0 s4:=sV rU (fun i=>(s0,i,s2,s3,s4)) (fun es i=>wu s0 es) hl (fun r i h=>by unfold rU wu; simp only[h,cond_false]) (fun r i e es h g w k=>by unfold rU wu; simp only[h,cond_true,g,af,w,k])
def wq (s0:jS):List zc->Option (Unit⊕Bool)
 | []=>some (aW ())
 | e::es =>
  (tL s0 e.1 e.2).bind fun r5 =>
  cond (!r5)
  (some (aF false))
  (wq s0 es)
theorem Q2 (s0:jS) (s2:jQ) (s3:jR) (s4:jQ) (hl:aa s2<=maxLen):lp rW zd (s0,0,s2,s3,s4)=wq s0 s2:=sV rW (fun i=>(s0,i,s2,s3,s4)) (fun es i=>wq s0 es) hl (fun r i h=>by unfold rW wq; simp only[h,cond_false]) (fun r i e es h g w k=>by unfold rW wq; simp only[h,cond_true,g,af,w,k])
theorem Xv (n:Int):YW n=some (Xd n):=re n
theorem CS (es:List UInt8):yC es=some (cond (es.all Co) (.inl ()) (.inr false)):=by
 have:∀ es,yC es=z6 es:=by
  intro es
  induction es with
  | nil=>rfl
  | cons e es ih =>
   unfold yC z6;rw[Xv,re,ih]
 rw[this,G2]
theorem KL (e:zh):jO e.1 e.2.1 e.2.2.1 e.2.2.2=some (Ev e):=by
 obtain⟨s,a,b,c⟩:=e;unfold jO Ev YF;dsimp only;cases s with
 | nil=>rfl
 | cons x r =>
  rw[decide_eq_false (show ¬(((aa (x::r):Nat):Int)<1) by rw[ak]; omega),cond_false]
  by_cases h:(x::r).length<=8
  ·rw[decide_eq_false (show ¬(((aa (x::r):Nat):Int)>8) by omega),cond_false,yh,aB,af,Xv,af,Z3 _ _ _ _ (by unfold maxLen; omega),CS,decide_eq_true h]
   dsimp only;cases Xd ((bE x:Nat):Int) with
   | false=>rfl
   | true =>
    cases (x::r).all Co with
    | false=>rfl
    | true =>
     simp only[az,cond_false,cond_true,af,u2,aO,dZ,ge_iff_le];cases decide (0<=a)<;>simp only[cond_true,cond_false,aO,bp]
     cases decide (a<=2)<;>simp only[cond_true,cond_false,aO,bp]
     cases decide (0<=b)<;>simp only[cond_true,cond_false,aO,bp]
     cases decide (b<=3)<;>simp only[cond_true,cond_false,aO,bp]
     cases decide (1<=c)<;>simp only[cond_true,cond_false,aO,bp]
  ·rw[decide_eq_true (show (((aa (x::r):Nat):Int)>8) by omega),decide_eq_false h]
   rfl
theorem ID (a0:List zh) (nm:Str) (h:a0.length<=maxLen):Xl a0 nm=some (Od (a0.findIdx? (fun e=>e.1==nm))):=by
 have:∀ es i,xG nm es i=qu nm es i:=by
  intro es
  induction es with
  | nil=>intro i; rfl
  | cons e es ih=>intro i; unfold xG qu; rw[ih]
 unfold Xl;rw[Qx _ _ h,this,Hh];cases a0.findIdx? (fun e=>e.1==nm) with
 | none=>rfl
 | some j=>simp [yl,Od]
theorem S7 (a0:List zh) (h:a0.length<=maxLen) (es:List zh) (i:Nat):xh a0 es i=some (cond (XO a0 es i) (.inl ()) (.inr false)):=by
 induction es generalizing i with
 | nil=>rfl
 | cons e es ih =>
  unfold xh XO;rw[KL,af,ID _ _ h,af,ih,bne];cases Ev e with
  | false=>rfl
  | true =>
   cases (Od (a0.findIdx? (fun d=>d.1==e.1))==(i:Int)) with
   | false=>rfl
   | true=>simp
theorem YA (a0:List zh):kq a0=some (ug a0):=by
 unfold kq ug;cases a0 with
 | nil=>rfl
 | cons e es =>
  rw[decide_eq_false (show ¬(((aa (e::es):Nat):Int)<1) by rw[ak]; omega),cond_false]
  by_cases h:(e::es).length<=20
  ·have h1:¬(((aa (e::es):Nat):Int)>20):=by omega
   have hm:(e::es).length<=maxLen:=by unfold maxLen; omega
   rw[decide_eq_false h1,cond_false,yh,aB,af,decide_eq_true h];show cond (!(eqQ e)) _ _=some (true&&eqQ e&&XO (e::es) es 1);cases eqQ e with
   | false=>rfl
   | true =>
    have:=Yu (e::es) hm es 1 zd rfl (by simp [zd]; simp at h; omega)
    simp only[az,cond_false];rw[show ((1:Int))=((1:Nat):Int) from rfl,this,S7 _ hm]
    cases XO (e::es) es 1<;>rfl
  ·have h1:((aa (e::es):Nat):Int)>20:=by omega
   rw[decide_eq_true h1,decide_eq_false h];rfl
theorem E5 {a0:List zh} (h:SignOk a0) (a1:List Int) (hl:a1.length<=1099511627776):∀(m i n:Nat) (k:Nat),a1.length - i=m->i<=a1.length->n<=1+3*i->m+1<k ->
  lp tE k (a0,a1,(n:Int),(i:Int))=some (match sk a0 n (a1.drop i) with
   | some j=>.inl ((i+j:Nat):Int)
   | none=>.inr (-1)):=by
 intro m
 induction m with
 | zero =>
  intro i n k hm hi hni hk;obtain⟨k,rfl⟩:∃ k',k=k'+1:=⟨k - 1,by omega⟩
  rw[zx];generalize lp tE k=rec;unfold tE;rw[cO.2 (show a1.length<=i by omega)]
  cases n with
  | zero=>simp [sk]
  | succ n =>
   simp only[decide_eq_true (show ((n+1:Nat):Int)>0 by omega),cond_true,decide_eq_true (show ((i:Int)≥((aa a1:Nat):Int)) by omega)]
   rfl
 | succ m ih =>
  intro i n k hm hi hni hk;obtain⟨k,rfl⟩:∃ k',k=k'+1:=⟨k - 1,by omega⟩
  have hi:i<a1.length:=by omega
  rw[zx];have key:=fun n' h1=>ih (i+1) n' k (by omega) (by omega) h1 (by omega)
  generalize lp tE k=rec at key ⊢;unfold tE;cases n with
  | zero=>simp [sk]
  | succ n =>
   have e1:ag .i64 (((n+1:Nat):Int) - 1)=(n:Int):=by rw[zn]<;>omega
   have e3:ag .i64 ((i:Int)+1)=((i+1:Nat):Int):=by rw[zn]<;>omega
   simp only[decide_eq_true (show ((n+1:Nat):Int)>0 by omega),cond_true,decide_eq_false (show ¬((i:Int)≥((aa a1:Nat):Int)) by omega),cond_false,yE,am hi,af,aY hi,sk,e1,e3]
   generalize a1[i]=x;unfold v7;by_cases h0:x<0
   ·rw[decide_eq_true h0,cond_true];by_cases h1 : -24<=x
    ·rw[decide_eq_false (show ¬(x < -24) by omega),cond_false,decide_eq_false (show ¬(x≥((aa a0:Nat):Int)) by omega),cond_false,decide_eq_false (show ¬(x≥0) by omega),cond_false,decide_eq_true h1,cond_true,key n (by omega)]
     dsimp only;rw[Nat.add_zero];cases sk a0 n (a1.drop (i+1)) with
     | none=>rfl
     | some j=>simp only[bx]; rw[show i+1+j=i+(j+1) from by omega]
    ·rw[decide_eq_true (show x < -24 by omega),decide_eq_false h1]; rfl
   ·rw[decide_eq_false h0,decide_eq_false (show ¬(x < -24) by omega),cond_false,cond_false]
    by_cases h1:x≥((aa a0:Nat):Int)
    ·rw[decide_eq_true h1,cond_true,aQ (by omega)]
    ·obtain⟨e,he1,he2,he3⟩:=Kx (xs:=a0) (i:=x) (by omega) (by omega)
     have hat:=h.at he3;rw[decide_eq_false h1,cond_false,decide_eq_true (show x≥0 by omega),cond_true,he1,af,he3]
     dsimp only;cases hk0:(e.2.1==0) with
     | true=>rfl
     | false =>
      have e2:ag .i64 ((n:Int)+e.2.2.1)=((n+e.2.2.1.toNat:Nat):Int):=by rw[zn]<;>omega
      simp only[cond_false,af,e2];rw[key _ (by omega)]
      cases sk a0 (n+e.2.2.1.toNat) (a1.drop (i+1)) with
      | none=>rfl
      | some j=>simp only[bx]; rw[show i+1+j=i+(j+1) from by omega]
def F0 (o:Option Nat):Int:=match o with
 | some k=>(k:Int)
 | none => -1
theorem Ki {a0:List zh} (h:SignOk a0) (a1:List Int) (hl:a1.length<=1099511627776) (i:Nat) (hi:i<=a1.length):Y0 a0 a1 (i:Int)=some (F0 ((sk a0 1 (a1.drop i)).map (i + ·))):=by
 unfold Y0;rw[show (1:Int)=((1:Nat):Int) from rfl,E5 h a1 hl (a1.length - i) i 1 zd rfl hi (by omega) (by unfold zd; omega)]
 cases sk a0 1 (a1.drop i) with
 | none=>rfl
 | some j=>rfl
theorem BB {a0:List zh} (h:SignOk a0) (a1:List Int) (hl:a1.length<=1099511627776):∀(m i n k:Nat),a1.length - i=m->i<=a1.length->n<=i->m<k ->
  lp sX k (a0,a1,(n:Int),(i:Int))=some (match WE a0 (a1.drop i) with
   | some ps=>.inl ((n+ps.length:Nat):Int)
   | none=>.inr (-1)):=by
 intro m
 induction m using cS with
 | _ m ih =>
  intro i n k hm hi hn hk;obtain⟨k,rfl⟩:∃ k',k=k'+1:=⟨k - 1,by omega⟩
  rw[zx];have key:=fun j n' (h1:i<j) h2 h3=>ih (a1.length - j) (by omega) j n' k rfl h2 h3 (by omega)
  generalize lp sX k=rec at key ⊢;unfold sX;by_cases he:i=a1.length
  ·subst he;simp [WU]
  ·have hlt:i<a1.length:=by omega
   have hne:a1.drop i≠[]:=by simp; omega
   simp only[ZD hlt,cond_true,Ki h a1 hl i hi,af,sn hne];cases hs:sk a0 1 (a1.drop i) with
   | none=>rfl
   | some j =>
    have hj:=VR hs;rw[bz] at hj;have e1:ag .i64 ((n:Int)+1)=((n+1:Nat):Int):=by rw[zn]<;>omega
    rw[show F0 (Option.map (fun x=>i+x) (some j))=((i+j:Nat):Int) from rfl,decide_eq_false (show ¬(((i+j:Nat):Int)<0) by omega),cond_false,e1]
    rw[key (i+j) (n+1) (by omega) (by omega) (by omega)]
    dsimp only;rw[cq];cases WE a0 (a1.drop (i+j)) with
    | none=>rfl
    | some ps=>simp only[bx,ak]; rw[show n+1+ps.length=n+(ps.length+1) from by omega]
theorem Zh {a0:List zh} (hs:ug a0=true) (a1:List Int):tP a0 a1=some (F0 (ZR a0 a1)):=by
 have h:=v6 hs;unfold tP ZR vG;rw[hs,aO];by_cases hl:a1.length<=48
 ·have:=BB h a1 (by omega) a1.length 0 0 zd rfl (bK _) (aE _) (by unfold zd; omega)
  rw[show ((0:Nat):Int)=0 from rfl,bP] at this
  rw[decide_eq_false (show ¬(((aa a1:Nat):Int)>48) by omega),decide_eq_true hl,cond_false,cond_true,this]
  cases WE a0 a1 with
  | none=>rfl
  | some ps=>simp [yl,F0]
 ·rw[decide_eq_true (show (((aa a1:Nat):Int)>48) by omega),decide_eq_false hl]; rfl
theorem KK {a0:List zh} (hs:ug a0=true) (xs:List Int):QF a0 xs=some (ua a0 xs):=by
 have h:=v6 hs;unfold QF ua;cases xs with
 | nil=>rfl
 | cons x r =>
  simp only[decide_eq_true (show (((x::r).length:Nat):Int)>0 by simp<;>omega),cond_true,yh,aB,af]
  by_cases h0:x<0
  ·rw[decide_eq_false (show ¬(x≥0) by omega)]; rfl
  ·rw[decide_eq_true (show x≥0 by omega),cond_true,aO]
   by_cases h1:x≥((aa a0:Nat):Int)
   ·rw[decide_eq_false (show ¬(x<((aa a0:Nat):Int)) by omega),aQ (by omega)]; rfl
   ·obtain⟨e,he1,he2,he3⟩:=Kx (xs:=a0) (i:=x) (by omega) (by omega)
    have hat:=h.at he3;simp only[decide_eq_true (show x<((aa a0:Nat):Int) by omega),cond_true,he1,he3,af]
    cases hk:(e.2.1==0) with
    | false=>rfl
    | true =>
     simp only[cond_true,wE,af,Zh hs,aO];unfold ZR;cases vG a0 r with
     | none =>
      have:((-1:Int)==e.2.2.1)=false:=by simp; omega
      simp [F0,this]
     | some ps=>rfl
theorem CI {a0:List zh} {xs:List Int} (h:ua a0 xs=true):ug a0=true:=by
 obtain⟨_,_,_,_,_,_,_,_,_,hs,_⟩:=Y3 h;exact hs
theorem KA (a0:List zh) (b:Bool) (xs:List Int):tL a0 b xs=some (ua a0 xs):=by
 unfold tL;rw[YA,af];cases hs:ug a0 with
 | true=>rw[cond_true,KK hs]; rfl
 | false =>
  cases ha:ua a0 xs with
  | false=>rfl
  | true=>rw[CI ha] at hs; cases hs
theorem Mz (s:List zc):(es:List zc)->(acc:List jI)->acc.length+es.length<=1000000->qU es acc=some (acc++es.map (·.2))∧qV es acc=some (acc++es.map (·.2))
 | [],acc,_=>⟨by simp [qU],by simp [qV]⟩
 | e::es,acc,h=>by
  rw[ak] at h;obtain⟨k1,k2⟩:=Mz s es (acc++[e.2]) (by simp; omega)
  unfold qU qV;rw[zm (show (acc.length+[e.2].length)*24<=140737488351232 by simp; omega),cond_true,cond_true,k1,k2]
  simp
theorem PR:(es:List jI)->(acc:List jI)->acc.length+es.length<=1000000->q6 es acc=some (acc++es)
 | [],acc,_=>by simp [q6]
 | e::es,acc,h=>by
  rw[ak] at h;have k1:=PR es (acc++[e]) (by simp; omega)
  unfold q6;rw[zm (show (acc.length+[e].length)*24<=140737488351232 by simp; omega),cond_true,k1]
  simp
theorem Yi (a1:List zc) (a2:List jI) (a3:List zc) (h1:a1.length<=1000) (h2:a2.length<=1000) (h3:a3.length<=1000):Ys a1 a2 a3=some (a1.map (·.2)++a2++a3.map (·.2)):=by
 unfold Ys;rw[QH _ _ _ _ (by unfold maxLen; omega),(Mz [] a1 [] (by simp; omega)).2,af,QN _ _ _ _ (by unfold maxLen; omega),PR a2 _ (by simp; omega),af,
  QE _ _ _ _ (by unfold maxLen; omega),(Mz [] a3 _ (by simp; omega)).1]
 simp
theorem HT:(es:List jI)->(t:Nat)->t+zi es<=1000000000000->xq es (t:Int)=some ((t+zi es:Nat):Int)
 | [],t,_=>by simp [xq,zi]
 | e::es,t,h=>by
  have hs:zi (e::es)=e.length+zi es:=by simp [zi]
  rw[hs] at h;unfold xq;have e1:ag .i64 ((t:Int)+((aa e:Nat):Int))=((t+e.length:Nat):Int):=by rw[zn]<;>omega
  rw[e1,HT es (t+e.length) (by omega),hs]
  congr 2
  omega
theorem Gn (a0:List zh):(es:List zc)->wq a0 es=some (cond (tO a0 es) (.inl ()) (.inr false))∧wu a0 es=some (cond (tO a0 es) (.inl ()) (.inr false))
 | []=>⟨rfl,rfl⟩
 | e::es=>by
  obtain⟨k1,k2⟩:=Gn a0 es;unfold wq wu;rw[KA,k1,k2];unfold tO;rw[ce];cases ua a0 e.2<;>exact ⟨rfl,rfl⟩
theorem Ax {a0:List zh} (hs:ug a0=true) (s3:List jI) (r:List Int) (h0:s3[0]? = some r):(es:List jI)->xu a0 s3 es=some (cond (es.all fun q=>(ZR a0 q).isSome&&(ZR a0 q==ZR a0 r)) (.inl ()) (.inr false))
 | []=>rfl
 | e::es=>by
  unfold xu;rw[Zh hs,af,yh,h0,af,Zh hs,af,Ax hs s3 r h0 es,ce];cases h1:ZR a0 e with
  | none=>rfl
  | some n =>
   rw[show F0 (some n)=(n:Int) from rfl,decide_eq_false (show ¬((n:Int)<0) by omega),cond_false]
   cases h2:ZR a0 r with
   | none =>
    rw[show (((n:Int)) != F0 none)=true from by simp [F0]<;>omega]
    rfl
   | some k =>
    by_cases hn:n=k
    ·subst hn; simp [F0]
    ·have e1:(((n:Int)) != F0 (some k))=true:=by simp [F0]; omega
     have e2:(some n==some k)=false:=by simpa using hn
     rw[e1,e2]; simp
theorem Cv {a0:List zh} (r:List Int) (rs:List jI):((r::rs).all fun q=>(ZR a0 q).isSome&&(ZR a0 q==ZR a0 r))=j4 a0 (r::rs):=by
 unfold j4;dsimp only;cases hr:ZR a0 r with
 | none=>simp [hr]
 | some n =>
  rw[ce,hr];simp only[Option.isSome_some,beq_self_eq_true,aO]
  congr 1
  funext q
  cases ZR a0 q<;>simp
theorem zY (a0:List zh) (a1:List zc) (a2:List jI) (a3:List zc):YS a0 a1 a2 a3=some (wm a0 a1 a2 a3):=by
 unfold YS wm;rw[YA,af];cases hs:ug a0 with
 | false=>rfl
 | true =>
  by_cases h1:a1.length<=5
  ·by_cases h3:a3.length<=3
   ·by_cases h2:a2.length<=3
    ·simp only[az,cond_false,decide_eq_false (show ¬(((aa a1:Nat):Int)>5) by omega),decide_eq_false (show ¬(((aa a2:Nat):Int)>3) by omega),decide_eq_false (show ¬(((aa a3:Nat):Int)>3) by omega),
      decide_eq_true h1,decide_eq_true h2,decide_eq_true h3,aO]
     rw[Q2 _ _ _ _ (by unfold maxLen; omega),(Gn a0 a1).1]
     cases hb1:tO a0 a1 with
     | false=>rfl
     | true =>
      simp only[cond_true,af,u2,aO];rw[QX _ _ _ _ (by unfold maxLen; omega),(Gn a0 a3).2]
      cases hb3:tO a0 a3 with
      | false=>simp [yl]
      | true =>
       simp only[cond_true,af,u2,dZ];rw[Xm _ _ _ _ (by unfold maxLen; omega)]
       have hrows:xu a0 a2 a2=some (cond (j4 a0 a2) (.inl ()) (.inr false)):=by
        cases a2 with
        | nil=>rfl
        | cons r rs=>rw[Ax hs (r::rs) r rfl (r::rs),Cv]
       rw[hrows];cases hb2:j4 a0 a2 with
       | false=>rfl
       | true =>
        have s1:=Q0 a1 hb1;have s2:=AZ a2 hb2;have s3:=Q0 a3 hb3;have hsum:zi (a1.map (·.2)++a2++a3.map (·.2))=zi (a1.map (·.2))+zi a2+zi (a3.map (·.2)):=by simp [zi]; omega
        simp only[cond_true,af,u2,Yi a1 a2 a3 (by omega) (by omega) (by omega),aO]
        rw[Q1 _ _ (by simp only[al,List.length_map]; unfold maxLen; omega),show (0:Int)=((0:Nat):Int) from rfl,HT _ 0 (by rw[hsum]; omega),af,aR,hsum]
        simp only[aq,decide_eq_decide];omega
    ·simp only[az,cond_false,decide_eq_false (show ¬(((aa a1:Nat):Int)>5) by omega),decide_eq_false (show ¬(((aa a3:Nat):Int)>3) by omega),decide_eq_true (show (((aa a2:Nat):Int)>3) by omega),decide_eq_false h2,cond_true,cA,bp]
   ·simp only[az,cond_false,decide_eq_false (show ¬(((aa a1:Nat):Int)>5) by omega),decide_eq_true (show (((aa a3:Nat):Int)>3) by omega),decide_eq_false h3,cond_true,cA,bp]
  ·simp only[az,cond_false,decide_eq_true (show (((aa a1:Nat):Int)>5) by omega),decide_eq_false h1,cond_true,cA,bp]
theorem G9 {a0:List zh} (h:SignOk a0) (a1:List Int) (hl:a1.length<=1099511627776):∀(m i n j k:Nat),a1.length - i=m->i<=a1.length->n<=1+3*i->sk a0 n (a1.drop i)=some j->m+1<k ->
  lp vu k (a0,a1,(n:Int),(i:Int))=some ((i+j:Nat):Int):=by
 intro m
 induction m with
 | zero =>
  intro i n j k hm hi hni hs hk;obtain⟨k,rfl⟩:∃ k',k=k'+1:=⟨k - 1,by omega⟩
  rw[zx];generalize lp vu k=rec;unfold vu;rw[cO.2 (show a1.length<=i by omega)] at hs
  cases n with
  | zero =>
   simp [sk] at hs;subst hs;simp
  | succ n=>simp [sk] at hs
 | succ m ih =>
  intro i n j k hm hi hni hs hk;obtain⟨k,rfl⟩:∃ k',k=k'+1:=⟨k - 1,by omega⟩
  have hi:i<a1.length:=by omega
  rw[zx];have key:=fun n' j' h1 h2=>ih (i+1) n' j' k (by omega) (by omega) h1 h2 (by omega)
  generalize lp vu k=rec at key ⊢;unfold vu;cases n with
  | zero =>
   simp [sk] at hs;subst hs;simp
  | succ n =>
   have e1:ag .i64 (((n+1:Nat):Int) - 1)=(n:Int):=by rw[zn]<;>omega
   have e3:ag .i64 ((i:Int)+1)=((i+1:Nat):Int):=by rw[zn]<;>omega
   rw[aY hi] at hs;simp only[sk] at hs;simp only[decide_eq_true (show ((n+1:Nat):Int)>0 by omega),cond_true,yE,am hi,af,e1,e3]
   generalize a1[i]=x at hs;cases ha:v7 a0 x with
   | none=>rw[ha] at hs; cases hs
   | some q =>
    rw[ha] at hs;simp only[bw] at hs;obtain⟨j',hj',rfl⟩:=hs;by_cases h0:x<0
    ·obtain⟨_,rfl⟩:=IN ha h0;rw[decide_eq_false (show ¬(x≥0) by omega),cond_false,key n j' (by omega) hj']
     rw[show i+1+j'=i+(j'+1) from by omega]
    ·obtain⟨e,he1,he2,he3,rfl⟩:=GT ha h0;have hat:=h.at he2;have e2:ag .i64 ((n:Int)+e.2.2.1)=((n+e.2.2.1.toNat:Nat):Int):=by rw[zn]<;>omega
     rw[decide_eq_true (show x≥0 by omega),cond_true,he1,af,e2,key _ j' (by omega) hj']
     rw[show i+1+j'=i+(j'+1) from by omega]
theorem KU {a0:List zh} (h:SignOk a0) (a1:List Int) (hl:a1.length<=1099511627776) (i j:Nat) (hi:i<=a1.length) (hs:sk a0 1 (a1.drop i)=some j):QD a0 a1 (i:Int)=some ((i+j:Nat):Int):=by
 unfold QD;rw[show (1:Int)=((1:Nat):Int) from rfl,G9 h a1 hl (a1.length - i) i 1 j zd rfl hi (by omega) hs (by unfold zd; omega)]
 rfl
theorem D0 {a0:List zh} (h:SignOk a0) (a1:List Int) (hl:a1.length<=1099511627776):∀(m i:Nat) (acc ps:List jI) (k:Nat),a1.length - i=m->i<=a1.length->acc.length<=i->WE a0 (a1.drop i)=some ps->m<k ->
  lp sS k (a0,a1,(i:Int),acc)=some (acc++ps):=by
 intro m
 induction m using cS with
 | _ m ih =>
  intro i acc ps k hm hi hacc hc hk;obtain⟨k,rfl⟩:∃ k',k=k'+1:=⟨k - 1,by omega⟩
  rw[zx];have key:=fun j acc' ps' (h1:i<j) h2 h3 h4=>ih (a1.length - j) (by omega) j acc' ps' k rfl h2 h3 h4 (by omega)
  generalize lp sS k=rec at key ⊢;unfold sS;by_cases he:i=a1.length
  ·subst he;rw[fb,WU] at hc;injection hc with hc; subst hc;simp
  ·have hlt:i<a1.length:=by omega
   have hne:a1.drop i≠[]:=by simp; omega
   rw[sn hne] at hc;cases hs:sk a0 1 (a1.drop i) with
   | none=>rw[hs] at hc; cases hc
   | some j =>
    rw[hs] at hc;simp only[bw] at hc;obtain⟨qs,hq,rfl⟩:=hc;have hj:=VR hs;rw[bz] at hj;have e1:vI a1 (some (i:Int)) (some ((i+j:Nat):Int))=some ((a1.drop i).take j):=by
     rw[Uw a1 (by omega) (by omega),show i+j - i=j from by omega]
    simp only[decide_eq_true (show (i:Int)<((aa a1:Nat):Int) by omega),cond_true,KU h a1 hl i j hi hs,af,e1,aD,zm (show (acc.length+1)*24<=140737488351232 by omega)]
    rw[cq] at hq;rw[key (i+j) _ qs (by omega) (by omega) (by simp; omega) hq]
    simp
theorem vd {a0:List zh} (h:SignOk a0) {a1:List Int} (hl:a1.length<=1099511627776) {ps:List jI} (hc:WE a0 a1=some ps):ya a0 a1=some ps:=by
 unfold ya;have:=D0 h a1 hl a1.length 0 [] ps zd rfl (bK _) (bK _) hc (by unfold zd; omega)
 rw[show ((0:Nat):Int)=0 from rfl] at this
 rw[this];rfl
theorem Ks (ys:List Int):(es:List Int)->(i:Nat)->es.length=(ys.drop i).length->yX ys es i=some (cond (decide (es=ys.drop i)) (.inl ()) (.inr false))
 | [],i,h=>by
  have:ys.drop i=[]:=bS.1 h.symm;rw[this]; rfl
 | e::es,i,h=>by
  unfold yX;rw[ak,bz] at h;have hi:i<ys.length:=by omega
  rw[yE,am hi,af,aY hi,Ks ys es (i+1) (by rw[bz]; omega)]
  generalize ys[i]=y;by_cases he:e=y
  ·subst he;rw[show (e != e)=false from by simp,cond_false]
   simp
  ·rw[show (e != y)=true from by simpa using he,cond_true]
   rw[decide_eq_false (by intro h; injection h with h1 h2; exact he h1)]
   rfl
theorem ZG {xs ys:List Int} (h:xs.length<=maxLen):wj xs ys=some (decide (xs=ys)):=by
 unfold wj;by_cases hl:xs.length=ys.length
 ·rw[show (((aa xs:Nat):Int) != ((aa ys:Nat):Int))=false from by simp [hl],cond_false,jL _ _ h,Ks ys xs 0 hl,bP]
  cases decide (xs=ys)<;>rfl
 ·rw[show (((aa xs:Nat):Int) != ((aa ys:Nat):Int))=true from by simp; omega,cond_true,decide_eq_false (by intro h; subst h; exact hl rfl)]
theorem Vd (ys:List zc):(es:List zc)->(i:Nat)->es.length=(ys.drop i).length->(∀ e∈es,e.2.length<=maxLen)->yY ys es i=some (cond (decide (es=ys.drop i)) (.inl ()) (.inr false))
 | [],i,h,_=>by
  have:ys.drop i=[]:=bS.1 h.symm;rw[this]; rfl
 | e::es,i,h,hm=>by
  unfold yY;rw[ak,bz] at h;have hi:i<ys.length:=by omega
  rw[yE,am hi,af,aY hi,Vd ys es (i+1) (by rw[bz]; omega) (fun x hx=>hm x (by simp [hx]))]
  generalize ys[i]=y;obtain⟨a,b⟩:=e;obtain⟨c,d⟩:=y;have hb:b.length<=maxLen:=hm (a,b) (by simp)
  simp only[af,ZG hb];by_cases h1:a=c
  ·subst h1;by_cases h2:b=d
   ·subst h2;simp
   ·have:¬((a,b)::es=(a,d)::ys.drop (i+1)):=fun h=>by injection h with h _; injection h with _ h; exact h2 h
    simp [h2,this]
  ·have:¬((a,b)::es=(c,d)::ys.drop (i+1)):=fun h=>by injection h with h _; injection h with h _; exact h1 h
   have h3:(a==c)=false:=by simpa using h1
   rw[h3,decide_eq_false this]; rfl
theorem ZI {xs ys:List zc} (h:xs.length<=maxLen) (hm:∀ e∈xs,e.2.length<=maxLen):tl xs ys=some (decide (xs=ys)):=by
 unfold tl;by_cases hl:xs.length=ys.length
 ·rw[show (((aa xs:Nat):Int) != ((aa ys:Nat):Int))=false from by simp [hl],cond_false,Zs _ _ h,Vd ys xs 0 hl hm,bP]
  cases decide (xs=ys)<;>rfl
 ·rw[show (((aa xs:Nat):Int) != ((aa ys:Nat):Int))=true from by simp; omega,cond_true,decide_eq_false (by intro h; subst h; exact hl rfl)]
theorem VJ (ys:List jI):(es:List jI)->(i:Nat)->es.length=(ys.drop i).length->(∀ e∈es,e.length<=maxLen)->y5 ys es i=some (cond (decide (es=ys.drop i)) (.inl ()) (.inr false))
 | [],i,h,_=>by
  have:ys.drop i=[]:=bS.1 h.symm;rw[this]; rfl
 | e::es,i,h,hm=>by
  unfold y5;rw[ak,bz] at h;have hi:i<ys.length:=by omega
  rw[yE,am hi,af,aY hi,ZG (hm e (by simp)),af,VJ ys es (i+1) (by rw[bz]; omega) (fun x hx=>hm x (by simp [hx]))]
  generalize ys[i]=y;by_cases h1:e=y
  ·subst h1;simp
  ·have:¬(e::es=y::ys.drop (i+1)):=fun h=>by injection h with h _; exact h1 h
   rw[decide_eq_false h1,decide_eq_false this]; rfl
theorem WI {xs ys:List jI} (h:xs.length<=maxLen) (hm:∀ e∈xs,e.length<=maxLen):sP xs ys=some (decide (xs=ys)):=by
 unfold sP;by_cases hl:xs.length=ys.length
 ·rw[show (((aa xs:Nat):Int) != ((aa ys:Nat):Int))=false from by simp [hl],cond_false,Zb _ _ h,VJ ys xs 0 hl hm,bP]
  cases decide (xs=ys)<;>rfl
 ·rw[show (((aa xs:Nat):Int) != ((aa ys:Nat):Int))=true from by simp; omega,cond_true,decide_eq_false (by intro h; subst h; exact hl rfl)]
theorem sN {a0:List zc} {a1:List jI} {a2:List zc} (h0:a0.length<=maxLen) (h0m:∀ e∈a0,e.2.length<=maxLen) (h1:a1.length<=maxLen) (h1m:∀ e∈a1,e.length<=maxLen) (h2:a2.length<=maxLen) (h2m:∀ e∈a2,e.2.length<=maxLen) :
  wN a0 a1 a2 a0 a1 a2=some true:=by
 unfold wN;rw[ZI h0 h0m,WI h1 h1m,ZI h2 h2m];simp
def uU (a0:jQ) (_a1:jR) (_a2:jQ) (a3:Int):Option Bool :=
 cond (decide (a3≥0))
 (some (decide (a3<((aa a0:Nat):Int))))
 (some false)
def qy (rec:(jR×jR×Int×Int×(List (jI×Int×jI×Int))×jI×Int×jI×Int)->Option (List (jI×Int×jI×Int))) (x:(jR×jR×Int×Int×(List (jI×Int×jI×Int))×jI×Int×jI×Int)):Option (List (jI×Int×jI×Int)) :=
 cond (decide (x.2.2.2.1<x.2.2.1))
 ((gx x.1 x.2.2.2.1).bind fun e7 =>
  (gx x.2.1 x.2.2.2.1).bind fun e8 =>
  cond (yb (aa x.2.2.2.2.1+aa ([(e7,x.2.2.2.2.2.2.1,e8,x.2.2.2.2.2.2.2.2)]:List (jI×Int×jI×Int))) 64)
  (rec (x.1,x.2.1,x.2.2.1,(ag .i64 (x.2.2.2.1+1)),(x.2.2.2.2.1++([(e7,x.2.2.2.2.2.2.1,e8,x.2.2.2.2.2.2.2.2)]:List (jI×Int×jI×Int))),x.2.2.2.2.2.1,x.2.2.2.2.2.2.1,x.2.2.2.2.2.2.2.1,x.2.2.2.2.2.2.2.2))
  (none))
 (some x.2.2.2.2.1)
def qE (a0:jI) (a1:Int) (a2:jI) (a3:Int) (a4:jS) (_a5:(List ((Option jI)×Int))) (a6:(List (jI×Int×jI×Int))):Option (List (jI×Int×jI×Int)) :=
 (vR a4 a0).bind fun r10 =>
 (vR a4 a2).bind fun r11 =>
 ((lp qy zd) (r10,r11,((aa r10:Nat):Int),0,a6,a0,a1,a2,a3)).bind fun r12 =>
 some r12
def yK (_a0:jI) (a1:Int) (a2:Int):Option Int :=
 (zP a2).bind fun r2 =>
 some (ag .i64 (r2+a1))
def wQ (rec:(jS×(List ((Option jI)×Int))×jI×Int×Int)->Option (jI×Int)) (x:(jS×(List ((Option jI)×Int))×jI×Int×Int)):Option (jI×Int) :=
 (gx x.2.2.1 0).bind fun e6 =>
 cond (decide (e6<0))
 ((gx x.2.2.1 0).bind fun e7 =>
  (yK x.2.2.1 x.2.2.2.1 e7).bind fun r8 =>
  (inR r8 48).bind fun k9 =>
  (x.2.1[k9]?).bind fun x10 =>
  cond (cm x10.1)
  (some (x.2.2.1,x.2.2.2.1))
  (rec (x.1,x.2.1,(bJ x10.1 []),x10.2,x.2.2.2.2)))
 (some (x.2.2.1,x.2.2.2.1))
def wA (a0:jI) (a1:Int) (a2:jS) (a3:(List ((Option jI)×Int))):Option (jI×Int) :=
 ((lp wQ zd) (a2,a3,a0,a1,0)).bind fun r12 =>
 some (r12.1,r12.2)
def qN (rec:(Int×jI×Int×Int×jS×(List ((Option jI)×Int))×jI×Int×(List Bool)×(List (jI×Int)))->Option (((List Bool)×(List (jI×Int)))⊕Bool)) (x:(Int×jI×Int×Int×jS×(List ((Option jI)×Int))×jI×Int×(List Bool)×(List (jI×Int)))):Option (((List Bool)×(List (jI×Int)))⊕Bool) :=
 cond (decide (x.2.2.2.1<x.2.2.1))
 ((gx x.2.1 x.2.2.2.1).bind fun e14 =>
  cond (decide (e14≥0))
  (rec (x.1,x.2.1,x.2.2.1,(ag .i64 (x.2.2.2.1+1)),x.2.2.2.2.1,x.2.2.2.2.2.1,x.2.2.2.2.2.2.1,x.2.2.2.2.2.2.2.1,x.2.2.2.2.2.2.2.2.1,x.2.2.2.2.2.2.2.2.2))
  ((yK x.2.2.2.2.2.2.1 x.2.2.2.2.2.2.2.1 e14).bind fun r15 =>
   cond (r15==x.1)
   (some (aF true))
   ((inR r15 48).bind fun k16 =>
    (x.2.2.2.2.2.2.2.2.1[k16]?).bind fun x17 =>
    cond (!x17)
    ((inR r15 48).bind fun k18 =>
     (x.2.2.2.2.2.1[k18]?).bind fun x19 =>
     cond (!(cm x19.1))
     ((inR r15 48).bind fun k20 =>
      (x.2.2.2.2.2.2.2.2.1[k20]?).bind fun _x21 =>
      (inR r15 48).bind fun k22 =>
      (x.2.2.2.2.2.1[k22]?).bind fun x23 =>
      cond (yb (aa x.2.2.2.2.2.2.2.2.2+aa ([((bJ x23.1 []),x23.2)]:List (jI×Int))) 32)
      (rec (x.1,x.2.1,x.2.2.1,(ag .i64 (x.2.2.2.1+1)),x.2.2.2.2.1,x.2.2.2.2.2.1,x.2.2.2.2.2.2.1,x.2.2.2.2.2.2.2.1,(bn x.2.2.2.2.2.2.2.2.1 k20 true),(x.2.2.2.2.2.2.2.2.2++([((bJ x23.1 []),x23.2)]:List (jI×Int)))))
      (none))
     (rec (x.1,x.2.1,x.2.2.1,(ag .i64 (x.2.2.2.1+1)),x.2.2.2.2.1,x.2.2.2.2.2.1,x.2.2.2.2.2.2.1,x.2.2.2.2.2.2.2.1,x.2.2.2.2.2.2.2.2.1,x.2.2.2.2.2.2.2.2.2)))
    (rec (x.1,x.2.1,x.2.2.1,(ag .i64 (x.2.2.2.1+1)),x.2.2.2.2.1,x.2.2.2.2.2.1,x.2.2.2.2.2.2.1,x.2.2.2.2.2.2.2.1,x.2.2.2.2.2.2.2.2.1,x.2.2.2.2.2.2.2.2.2)))))
 (some (aW (x.2.2.2.2.2.2.2.2.1,x.2.2.2.2.2.2.2.2.2)))
def xQ (rec:(Int×jS×(List ((Option jI)×Int))×jI×Int×(List Bool)×(List (jI×Int)))->Option (Unit⊕Bool)) (x:(Int×jS×(List ((Option jI)×Int))×jI×Int×(List Bool)×(List (jI×Int)))):Option (Unit⊕Bool) :=
 cond (decide (((aa x.2.2.2.2.2.2:Nat):Int)>0))
 ((inR (ag .i64 (((aa x.2.2.2.2.2.2:Nat):Int) - 1)) (aa x.2.2.2.2.2.2)).bind fun k32 =>
  (x.2.2.2.2.2.2[k32]?).bind fun x33 =>
  (vI x.2.2.2.2.2.2 none (some (ag .i64 (((aa x.2.2.2.2.2.2:Nat):Int) - 1)))).bind fun y34 =>
  ((lp qN zd) (x.1,x33.1,((aa x33.1:Nat):Int),0,x.2.1,x.2.2.1,x33.1,x33.2,x.2.2.2.2.2.1,y34)).bind fun r35 =>
  yl r35
  (fun z36=>rec (x.1,x.2.1,x.2.2.1,x33.1,x33.2,z36.1,z36.2))
  (fun z37=>some (aF z37)))
 (some (aW ()))
def uy (a0:Int) (a1:jI) (a2:Int) (a3:jS) (a4:(List ((Option jI)×Int))):Option Bool :=
 ((lp xQ zd) (a0,a3,a4,a1,a2,(ax 48 false),([(a1,a2)]:List (jI×Int)))).bind fun r41 =>
 yl r41
 (fun _z42=>some false)
 (fun z43=>some z43)
def qp (a0:jI) (a1:Int) (a2:jI) (a3:Int) (a4:jS) (a5:(List ((Option jI)×Int))):Option (Bool×jS×(List ((Option jI)×Int))) :=
 (gx a0 0).bind fun e16 =>
 (yK a0 a1 e16).bind fun r17 =>
 (gx a2 0).bind fun e18 =>
 cond (decide (e18≥0))
 ((uy r17 a2 a3 a4 a5).bind fun r19 =>
  cond r19
  (some (false,a4,a5))
  ((inR r17 48).bind fun k20 =>
   (a5[k20]?).bind fun _x21 =>
   (nn a2).bind fun p22 =>
   some (true,a4,(bn a5 k20 ((some p22),a3)))))
 ((gx a2 0).bind fun e23 =>
  (yK a2 a3 e23).bind fun r24 =>
  cond (decide (r24>r17))
  ((inR r24 48).bind fun k25 =>
   (a5[k25]?).bind fun _x26 =>
   (nn a0).bind fun p27 =>
   some (true,a4,(bn a5 k25 ((some p27),a1))))
  (cond (decide (r24<r17))
   ((inR r17 48).bind fun k28 =>
    (a5[k28]?).bind fun _x29 =>
    (nn a2).bind fun p30 =>
    some (true,a4,(bn a5 k28 ((some p30),a3))))
   (some (true,a4,a5))))
def zt (rec:(jS×(List ((Option jI)×Int))×(List (jI×Int×jI×Int)))->Option (Bool×jS×(List ((Option jI)×Int)))) (x:(jS×(List ((Option jI)×Int))×(List (jI×Int×jI×Int)))):Option (Bool×jS×(List ((Option jI)×Int))) :=
 cond (((aa x.2.2:Nat):Int)==0)
 (some (true,x.1,x.2.1))
 ((inR (ag .i64 (((aa x.2.2:Nat):Int) - 1)) (aa x.2.2)).bind fun k27 =>
  (x.2.2[k27]?).bind fun x28 =>
  (wA x28.1 x28.2.1 x.1 x.2.1).bind fun r29 =>
  (inR (ag .i64 (((aa x.2.2:Nat):Int) - 1)) (aa x.2.2)).bind fun k30 =>
  (x.2.2[k30]?).bind fun x31 =>
  (wA x31.2.2.1 x31.2.2.2 x.1 x.2.1).bind fun r32 =>
  (vI x.2.2 none (some (ag .i64 (((aa x.2.2:Nat):Int) - 1)))).bind fun y33 =>
  (gx r29.1 0).bind fun e34 =>
  cond (decide (e34<0))
  ((qp r29.1 r29.2 r32.1 r32.2 x.1 x.2.1).bind fun r35 =>
   cond r35.1
   (rec (r35.2.1,r35.2.2,y33))
   (some (false,r35.2.1,r35.2.2)))
  ((gx r32.1 0).bind fun e36 =>
   cond (decide (e36<0))
   ((qp r32.1 r32.2 r29.1 r29.2 x.1 x.2.1).bind fun r37 =>
    cond r37.1
    (rec (r37.2.1,r37.2.2,y33))
    (some (false,r37.2.1,r37.2.2)))
   ((gx r29.1 0).bind fun e38 =>
    (gx r32.1 0).bind fun e39 =>
    cond (e38 != e39)
    (some (false,x.1,x.2.1))
    ((vI r29.1 (some 1) none).bind fun y40 =>
     (vI r32.1 (some 1) none).bind fun y41 =>
     (qE y40 r29.2 y41 r32.2 x.1 x.2.1 y33).bind fun r42 =>
     rec (x.1,x.2.1,r42)))))
def wd (a0:jI) (a1:Int) (a2:jI) (a3:Int) (a4:jS) (a5:(List ((Option jI)×Int))):Option (Bool×jS×(List ((Option jI)×Int))) :=
 (qE a0 a1 a2 a3 a4 a5 ([]:(List (jI×Int×jI×Int)))).bind fun r53 =>
 cond (((aa r53:Nat):Int)==0)
 (some (true,a4,a5))
 ((inR (ag .i64 (((aa r53:Nat):Int) - 1)) (aa r53)).bind fun k54 =>
  (r53[k54]?).bind fun x55 =>
  (wA x55.1 x55.2.1 a4 a5).bind fun r56 =>
  (inR (ag .i64 (((aa r53:Nat):Int) - 1)) (aa r53)).bind fun k57 =>
  (r53[k57]?).bind fun x58 =>
  (wA x58.2.2.1 x58.2.2.2 a4 a5).bind fun r59 =>
  (vI r53 none (some (ag .i64 (((aa r53:Nat):Int) - 1)))).bind fun y60 =>
  (gx r56.1 0).bind fun e61 =>
  cond (decide (e61<0))
  ((qp r56.1 r56.2 r59.1 r59.2 a4 a5).bind fun r62 =>
   cond r62.1
   ((((lp zt zd) (r62.2.1,r62.2.2,y60))).bind fun r63 =>
    some (r63.1,r63.2.1,r63.2.2))
   (some (false,r62.2.1,r62.2.2)))
  ((gx r59.1 0).bind fun e64 =>
   cond (decide (e64<0))
   ((qp r59.1 r59.2 r56.1 r56.2 a4 a5).bind fun r65 =>
    cond r65.1
    ((((lp zt zd) (r65.2.1,r65.2.2,y60))).bind fun r66 =>
     some (r66.1,r66.2.1,r66.2.2))
    (some (false,r65.2.1,r65.2.2)))
   ((gx r56.1 0).bind fun e67 =>
    (gx r59.1 0).bind fun e68 =>
    cond (e67 != e68)
    (some (false,a4,a5))
    ((vI r56.1 (some 1) none).bind fun y69 =>
     (vI r59.1 (some 1) none).bind fun y70 =>
     (qE y69 r56.2 y70 r59.2 a4 a5 y60).bind fun r71 =>
     (((lp zt zd) (a4,a5,r71))).bind fun r72 =>
     some (r72.1,r72.2.1,r72.2.2)))))
def xn (_a0:(Option jI)) (a1:Int) (a2:Int):Option Int :=
 (zP a2).bind fun r2 =>
 some (ag .i64 (r2+a1))
def yI (rf:(((Option jI)×Int×jS×(List ((Option jI)×Int)))->Option (Option jI))) (rec:((Option jI)×Int×Int×jS×(List ((Option jI)×Int))×(Option jI)×Int×jI)->Option (jI⊕Unit)) (x:((Option jI)×Int×Int×jS×(List ((Option jI)×Int))×(Option jI)×Int×jI)):Option (jI⊕Unit) :=
 cond (decide (x.2.2.1<x.2.1))
 ((gx (bJ x.1 []) x.2.2.1).bind fun e27 =>
  cond (decide (e27<0))
  ((xn x.2.2.2.2.2.1 x.2.2.2.2.2.2.1 e27).bind fun r28 =>
   (inR r28 48).bind fun k29 =>
   (x.2.2.2.2.1[k29]?).bind fun x30 =>
   cond (!(cm x30.1))
   ((xn x.2.2.2.2.2.1 x.2.2.2.2.2.2.1 e27).bind fun r31 =>
    (inR r31 48).bind fun k32 =>
    (x.2.2.2.2.1[k32]?).bind fun x33 =>
    (rf (x33.1,x33.2,x.2.2.2.1,x.2.2.2.2.1)).bind fun r34 =>
    cond (cm r34)
    (some (aF ()))
    (cond (decide ((ag .i64 (((aa x.2.2.2.2.2.2.2:Nat):Int)+((aa (bJ r34 []):Nat):Int)))>48))
     (some (aF ()))
     (cond (yb (aa x.2.2.2.2.2.2.2+aa (bJ r34 [])) 8)
      (rec (x.1,x.2.1,(ag .i64 (x.2.2.1+1)),x.2.2.2.1,x.2.2.2.2.1,x.2.2.2.2.2.1,x.2.2.2.2.2.2.1,(x.2.2.2.2.2.2.2++(bJ r34 []))))
      (none))))
   ((((nn ([e27]:List Int)).bind fun _ =>
     some false)).bind fun z35 =>
    cond z35
    (some (aF ()))
    (cond (decide ((ag .i64 (((aa x.2.2.2.2.2.2.2:Nat):Int)+((aa ([e27]:List Int):Nat):Int)))>48))
     (some (aF ()))
     (cond (yb (aa x.2.2.2.2.2.2.2+aa ([e27]:List Int)) 8)
      (rec (x.1,x.2.1,(ag .i64 (x.2.2.1+1)),x.2.2.2.1,x.2.2.2.2.1,x.2.2.2.2.2.1,x.2.2.2.2.2.2.1,(x.2.2.2.2.2.2.2++([e27]:List Int))))
      (none)))))
  ((((nn ([e27]:List Int)).bind fun _ =>
    some false)).bind fun z36 =>
   cond z36
   (some (aF ()))
   (cond (decide ((ag .i64 (((aa x.2.2.2.2.2.2.2:Nat):Int)+((aa ([e27]:List Int):Nat):Int)))>48))
    (some (aF ()))
    (cond (yb (aa x.2.2.2.2.2.2.2+aa ([e27]:List Int)) 8)
     (rec (x.1,x.2.1,(ag .i64 (x.2.2.1+1)),x.2.2.2.1,x.2.2.2.2.1,x.2.2.2.2.2.1,x.2.2.2.2.2.2.1,(x.2.2.2.2.2.2.2++([e27]:List Int))))
     (none)))))
 (some (aW x.2.2.2.2.2.2.2))
def tK (rf:(((Option jI)×Int×jS×(List ((Option jI)×Int)))->Option (Option jI))) (a0:(Option jI)) (a1:Int) (a2:jS) (a3:(List ((Option jI)×Int))):Option (Option jI) :=
 ((lp (yI rf) zd) (a0,((aa (bJ a0 []):Nat):Int),0,a2,a3,a0,a1,([]:jI))).bind fun r40 =>
 yl r40
 (fun z41=>((nn z41).bind fun z=>some ((2:Nat),some z)).bind fun p42 =>
  some p42.2)
 (fun _z43=>some (none:(Option jI)))
def ZP (rf:(((Option jI)×Int×jS×(List ((Option jI)×Int)))->Option (Option jI))):(((Option jI)×Int×jS×(List ((Option jI)×Int)))->Option (Option jI)) :=
 fun (x:((Option jI)×Int×jS×(List ((Option jI)×Int))))=>tK rf x.1 x.2.1 x.2.2.1 x.2.2.2
def ZT:(((Option jI)×Int×jS×(List ((Option jI)×Int)))->Option (Option jI)):=fun _=>none
def qG (k:Nat):(((Option jI)×Int×jS×(List ((Option jI)×Int)))->Option (Option jI)):=lpR ZT ZP k
def rB (a0:(Option jI)) (a1:Int) (a2:jS) (a3:(List ((Option jI)×Int))):Option (Option jI):=(qG zd) (a0,a1,a2,a3)
def wr (rec:(Int×jS×(List ((Option jI)×Int))×(List (Int×jI)))->Option ((List (Int×jI))⊕(Bool×Int))) (x:(Int×jS×(List ((Option jI)×Int))×(List (Int×jI)))):Option ((List (Int×jI))⊕(Bool×Int)) :=
 cond (decide (x.1<24))
 ((inR x.1 48).bind fun k16 =>
  (x.2.2.1[k16]?).bind fun x17 =>
  cond (cm x17.1)
  (rec ((ag .i64 (x.1+1)),x.2.1,x.2.2.1,x.2.2.2))
  ((inR x.1 48).bind fun k18 =>
   (x.2.2.1[k18]?).bind fun x19 =>
   (rB x19.1 x19.2 x.2.1 x.2.2.1).bind fun r20 =>
   cond (cm r20)
   (some (aF (false,401)))
   ((zB (bJ r20 [])).bind fun r21 =>
    cond (yb (aa x.2.2.2+aa ([(x.1,r21)]:List (Int×jI))) 32)
    (rec ((ag .i64 (x.1+1)),x.2.1,x.2.2.1,(x.2.2.2++([(x.1,r21)]:List (Int×jI)))))
    (none))))
 (some (aW x.2.2.2))
def vQ (a0:jS) (a1:jI) (a2:jI):Option (Bool×Int×(List (Int×jI))) :=
 (Zd a0 a1).bind fun r25 =>
 (Zd a0 a2).bind fun r26 =>
 cond (r25.2 != 0)
 (some (false,400,([]:(List (Int×jI)))))
 (cond (r26.2 != 0)
  (some (false,400,([]:(List (Int×jI)))))
  (cond (r25.1 != r26.1)
   (some (false,0,([]:(List (Int×jI)))))
   ((wd a1 0 a2 0 a0 (ax 48 ((none:(Option jI)),(0:Int)))).bind fun r27 =>
    cond (!r27.1)
    (some (false,0,([]:(List (Int×jI)))))
    (((lp wr zd) (0,r27.2.1,r27.2.2,([]:(List (Int×jI))))).bind fun r28 =>
     yl r28
     (fun z29=>some (true,0,z29))
     (fun z30=>some (z30.1,z30.2,([]:(List (Int×jI)))))))))
def ZB (a0:Int):Option jR :=
 cond (decide (a0<0))
 (none)
 (cond (decide ((ag .i64 (a0 - 0))>0))
  (cond (eqI 0 0&&eqI 0 0)
   (cond (AK (ag .i64 (a0 - 0)))
    (cond (yb (bb (ag .i64 (a0 - 0))) 24)
     ((vI (ax (bb (ag .i64 (a0 - 0))) ([]:jI)) none (some 0)).bind fun y2 =>
      some y2)
     (none))
    (none))
   (none))
  (some ([]:jR)))
def we (rec:((List jR)×Int×Int×jR)->Option jR) (x:((List jR)×Int×Int×jR)):Option jR :=
 cond (decide (x.2.2.1<x.2.1))
 ((gx x.1 x.2.2.1).bind fun e7 =>
  cond (yb (aa x.2.2.2+aa e7) 24)
  (rec (x.1,x.2.1,(ag .i64 (x.2.2.1+1)),(x.2.2.2++e7)))
  (none))
 (some x.2.2.2)
def wa (rec:((List jR)×Int×(List jR)×Int×Int)->Option Int) (x:((List jR)×Int×(List jR)×Int×Int)):Option Int :=
 cond (decide (x.2.2.2.2<x.2.2.2.1))
 ((gx x.2.2.1 x.2.2.2.2).bind fun e2 =>
  cond (decide ((ag .i64 (x.2.1+((aa e2:Nat):Int)))<0))
  (none)
  (rec (x.1,(ag .i64 (x.2.1+((aa e2:Nat):Int))),x.2.2.1,x.2.2.2.1,(ag .i64 (x.2.2.2.2+1)))))
 (some x.2.1)
def sZ (a0:(List jR)):Option jR :=
 ((lp wa zd) (a0,0,a0,((aa a0:Nat):Int),0)).bind fun r9 =>
 (ZB r9).bind fun r10 =>
 ((lp we zd) (a0,((aa a0:Nat):Int),0,r10)).bind fun r11 =>
 some r11
def sO (a0:Int):Option jQ :=
 cond (decide (a0<0))
 (none)
 (cond (decide ((ag .i64 (a0 - 0))>0))
  (cond (eqI 0 0&&eqI 0 0)
   (cond (AK (ag .i64 (a0 - 0)))
    (cond (yb (bb (ag .i64 (a0 - 0))) 32)
     ((vI (ax (bb (ag .i64 (a0 - 0))) (false,([]:jI))) none (some 0)).bind fun y2 =>
      some y2)
     (none))
    (none))
   (none))
  (some ([]:jQ)))
def xg (rec:((List jQ)×Int×Int×jQ)->Option jQ) (x:((List jQ)×Int×Int×jQ)):Option jQ :=
 cond (decide (x.2.2.1<x.2.1))
 ((gx x.1 x.2.2.1).bind fun e7 =>
  cond (yb (aa x.2.2.2+aa e7) 32)
  (rec (x.1,x.2.1,(ag .i64 (x.2.2.1+1)),(x.2.2.2++e7)))
  (none))
 (some x.2.2.2)
def xb (rec:((List jQ)×Int×(List jQ)×Int×Int)->Option Int) (x:((List jQ)×Int×(List jQ)×Int×Int)):Option Int :=
 cond (decide (x.2.2.2.2<x.2.2.2.1))
 ((gx x.2.2.1 x.2.2.2.2).bind fun e2 =>
  cond (decide ((ag .i64 (x.2.1+((aa e2:Nat):Int)))<0))
  (none)
  (rec (x.1,(ag .i64 (x.2.1+((aa e2:Nat):Int))),x.2.2.1,x.2.2.2.1,(ag .i64 (x.2.2.2.2+1)))))
 (some x.2.1)
def vX (a0:(List jQ)):Option jQ :=
 ((lp xb zd) (a0,0,a0,((aa a0:Nat):Int),0)).bind fun r9 =>
 (sO r9).bind fun r10 =>
 ((lp xg zd) (a0,((aa a0:Nat):Int),0,r10)).bind fun r11 =>
 some r11
def wG (rec:(Int×jQ×Int×Int×jR×jQ×jQ)->Option (jR×jQ×jQ)) (x:(Int×jQ×Int×Int×jR×jQ×jQ)):Option (jR×jQ×jQ) :=
 cond (decide (x.2.2.2.1<x.2.2.1))
 ((gx x.2.1 x.2.2.2.1).bind fun e8 =>
  cond (x.2.2.2.1 != x.1)
  (cond (yb (aa x.2.2.2.2.2.1+aa ([(e8.1,e8.2)]:List zc)) 32)
   (rec (x.1,x.2.1,x.2.2.1,(ag .i64 (x.2.2.2.1+1)),x.2.2.2.2.1,(x.2.2.2.2.2.1++([(e8.1,e8.2)]:List zc)),x.2.2.2.2.2.2))
   (none))
  (rec (x.1,x.2.1,x.2.2.1,(ag .i64 (x.2.2.2.1+1)),x.2.2.2.2.1,x.2.2.2.2.2.1,x.2.2.2.2.2.2)))
 (some (x.2.2.2.2.1,x.2.2.2.2.2.1,x.2.2.2.2.2.2))
def wS (rec:(Int×Int×jQ×Int×Int×jQ×jR×jQ×jR×jQ×jQ)->Option (jR×jQ×jQ)) (x:(Int×Int×jQ×Int×Int×jQ×jR×jQ×jR×jQ×jQ)):Option (jR×jQ×jQ) :=
 cond (decide (x.2.2.2.2.1<x.2.2.2.1))
 ((gx x.2.2.1 x.2.2.2.2.1).bind fun e5 =>
  cond (x.2.2.2.2.1 != x.1)
  (cond (yb (aa x.2.2.2.2.2.2.2.2.2.1+aa ([(e5.1,e5.2)]:List zc)) 32)
   (rec (x.1,x.2.1,x.2.2.1,x.2.2.2.1,(ag .i64 (x.2.2.2.2.1+1)),x.2.2.2.2.2.1,x.2.2.2.2.2.2.1,x.2.2.2.2.2.2.2.1,x.2.2.2.2.2.2.2.2.1,(x.2.2.2.2.2.2.2.2.2.1++([(e5.1,e5.2)]:List zc)),x.2.2.2.2.2.2.2.2.2.2))
   (none))
  (rec (x.1,x.2.1,x.2.2.1,x.2.2.2.1,(ag .i64 (x.2.2.2.2.1+1)),x.2.2.2.2.2.1,x.2.2.2.2.2.2.1,x.2.2.2.2.2.2.2.1,x.2.2.2.2.2.2.2.2.1,x.2.2.2.2.2.2.2.2.2.1,x.2.2.2.2.2.2.2.2.2.2)))
 (some (x.2.2.2.2.2.2.2.2.1,x.2.2.2.2.2.2.2.2.2.1,x.2.2.2.2.2.2.2.2.2.2))
def wZ (a0:jQ) (a1:jR) (a2:jQ) (a3:Int) (a4:jQ) (a5:jR) (a6:jQ) (a7:Int):Option (jR×jQ×jQ) :=
 (sZ ([a1,a5]:List jR)).bind fun r10 =>
 (vX ([a2,a6]:List jQ)).bind fun r11 =>
 ((lp wS zd) (a3,a7,a0,((aa a0:Nat):Int),0,a4,a5,a6,r10,([]:jQ),r11)).bind fun r12 =>
 ((lp wG zd) (a7,a4,((aa a4:Nat):Int),0,r12.1,r12.2.1,r12.2.2)).bind fun r13 =>
 some (r13.1,r13.2.1,r13.2.2)
def uS (rec:(Int×(List (Int×jI))×Int×Int)->Option (Unit⊕jI)) (x:(Int×(List (Int×jI))×Int×Int)):Option (Unit⊕jI) :=
 cond (decide (x.2.2.2<x.2.2.1))
 ((gx x.2.1 x.2.2.2).bind fun e2 =>
  cond (e2.1==x.1)
  (some (aF e2.2))
  (rec (x.1,x.2.1,x.2.2.1,(ag .i64 (x.2.2.2+1)))))
 (some (aW ()))
def Yf (a0:(List (Int×jI))) (a1:Int):Option (Option jI) :=
 ((lp uS zd) (a1,a0,((aa a0:Nat):Int),0)).bind fun r6 =>
 yl r6
 (fun _z7=>some (none:(Option jI)))
 (fun z8=>(nn z8).bind fun p9 =>
  some (some p9))
def rm (rec:((List (Int×jI))×jI×Int×Int×jI)->Option jI) (x:((List (Int×jI))×jI×Int×Int×jI)):Option jI :=
 cond (decide (x.2.2.2.1<x.2.2.1))
 ((gx x.2.1 x.2.2.2.1).bind fun e10 =>
  (zP e10).bind fun r11 =>
  (Yf x.1 r11).bind fun r12 =>
  cond (decide (e10≥0))
  (cond (yb (aa x.2.2.2.2+aa ([e10]:List Int)) 8)
   (rec (x.1,x.2.1,x.2.2.1,(ag .i64 (x.2.2.2.1+1)),(x.2.2.2.2++([e10]:List Int))))
   (none))
  (cond (cm r12)
   (cond (yb (aa x.2.2.2.2+aa ([e10]:List Int)) 8)
    (rec (x.1,x.2.1,x.2.2.1,(ag .i64 (x.2.2.2.1+1)),(x.2.2.2.2++([e10]:List Int))))
    (none))
   (cond (yb (aa x.2.2.2.2+aa (bJ r12 [])) 8)
    (rec (x.1,x.2.1,x.2.2.1,(ag .i64 (x.2.2.2.1+1)),(x.2.2.2.2++(bJ r12 []))))
    (none))))
 (some x.2.2.2.2)
def Zt (a0:(List (Int×jI))) (a1:jI):Option jI :=
 ((lp rm zd) (a0,a1,((aa a1:Nat):Int),0,([]:jI))).bind fun r14 =>
 some r14
def xp (a0:jI) (a1:(List (Int×jI))):Option jI :=
 (Zt a1 a0).bind fun r2 =>
 some r2
def vF (rec:(jQ×Int×Int×(List (Int×jI))×jQ×jR×jQ)->Option (jQ×jR×jQ)) (x:(jQ×Int×Int×(List (Int×jI))×jQ×jR×jQ)):Option (jQ×jR×jQ) :=
 cond (decide (x.2.2.1<x.2.1))
 ((gx x.1 x.2.2.1).bind fun e19 =>
  (xp e19.2 x.2.2.2.1).bind fun r20 =>
  cond (yb (aa x.2.2.2.2.2.2+aa ([(e19.1,r20)]:List zc)) 32)
  (rec (x.1,x.2.1,(ag .i64 (x.2.2.1+1)),x.2.2.2.1,x.2.2.2.2.1,x.2.2.2.2.2.1,(x.2.2.2.2.2.2++([(e19.1,r20)]:List zc))))
  (none))
 (some (x.2.2.2.2.1,x.2.2.2.2.2.1,x.2.2.2.2.2.2))
def vA (rec:(jR×Int×Int×(List (Int×jI))×jQ×jR×jQ×jQ×jR)->Option (jQ×jR)) (x:(jR×Int×Int×(List (Int×jI))×jQ×jR×jQ×jQ×jR)):Option (jQ×jR) :=
 cond (decide (x.2.2.1<x.2.1))
 ((gx x.1 x.2.2.1).bind fun e12 =>
  (xp e12 x.2.2.2.1).bind fun r13 =>
  cond (yb (aa x.2.2.2.2.2.2.2.2+aa ([r13]:List jI)) 24)
  (rec (x.1,x.2.1,(ag .i64 (x.2.2.1+1)),x.2.2.2.1,x.2.2.2.2.1,x.2.2.2.2.2.1,x.2.2.2.2.2.2.1,x.2.2.2.2.2.2.2.1,(x.2.2.2.2.2.2.2.2++([r13]:List jI))))
  (none))
 (some (x.2.2.2.2.2.2.2.1,x.2.2.2.2.2.2.2.2))
def vB (rec:(jQ×Int×Int×(List (Int×jI))×jQ×jR×jQ×jQ)->Option jQ) (x:(jQ×Int×Int×(List (Int×jI))×jQ×jR×jQ×jQ)):Option jQ :=
 cond (decide (x.2.2.1<x.2.1))
 ((gx x.1 x.2.2.1).bind fun e5 =>
  (xp e5.2 x.2.2.2.1).bind fun r6 =>
  cond (yb (aa x.2.2.2.2.2.2.2+aa ([(e5.1,r6)]:List zc)) 32)
  (rec (x.1,x.2.1,(ag .i64 (x.2.2.1+1)),x.2.2.2.1,x.2.2.2.2.1,x.2.2.2.2.2.1,x.2.2.2.2.2.2.1,(x.2.2.2.2.2.2.2++([(e5.1,r6)]:List zc))))
  (none))
 (some x.2.2.2.2.2.2.2)
def Qj (a0:jQ) (a1:jR) (a2:jQ) (a3:(List (Int×jI))):Option (jQ×jR×jQ) :=
 ((lp vB zd) (a0,((aa a0:Nat):Int),0,a3,a0,a1,a2,([]:jQ))).bind fun r22 =>
 ((lp vA zd) (a1,((aa a1:Nat):Int),0,a3,a0,a1,a2,r22,([]:jR))).bind fun r23 =>
 ((lp vF zd) (a2,((aa a2:Nat):Int),0,a3,r23.1,r23.2,([]:jQ))).bind fun r24 =>
 some (r24.1,r24.2.1,r24.2.2)
def t6 (a0:(List (Int×jI))) (a1:jQ) (a2:jR) (a3:jQ):Option (jQ×jR×jQ) :=
 (Qj a1 a2 a3 a0).bind fun r2 =>
 some (r2.1,r2.2.1,r2.2.2)
def jf (a0:jS) (a1:jQ) (a2:jR) (a3:jQ) (a4:Int) (a5:Int):Option (jQ×jR×Bool×Int×jQ) :=
 (gx a1 a4).bind fun e11 =>
 (gx a1 a5).bind fun e12 =>
 cond (!(e11.1==e12.1))
 (some (([]:jQ),([]:jR),false,0,([]:jQ)))
 ((gx e11.2 0).bind fun e13 =>
  (gx e12.2 0).bind fun e14 =>
  cond (e13 != e14)
  (some (([]:jQ),([]:jR),false,0,([]:jQ)))
  ((vI e11.2 (some 1) none).bind fun y15 =>
   (vI e12.2 (some 1) none).bind fun y16 =>
   (vQ a0 y15 y16).bind fun r17 =>
   cond (r17.2.1 != 0)
   (some (([]:jQ),([]:jR),false,1401,([]:jQ)))
   (cond (!r17.1)
    (some (([]:jQ),([]:jR),false,0,([]:jQ)))
    ((wZ a1 a2 a3 a5 ([]:jQ) ([]:jR) ([]:jQ) (-1)).bind fun r18 =>
     (t6 r17.2.2 r18.2.1 r18.1 r18.2.2).bind fun r19 =>
     (qQ a0 r19.1 r19.2.1 r19.2.2).bind fun r20 =>
     cond (r20.2.2.1 != 0)
     (some (([]:jQ),([]:jR),false,1401,([]:jQ)))
     (some (r20.1,r20.2.1,true,0,r20.2.2.2))))))
def YM (a0:jS) (a1:jQ) (a2:jR) (a3:jQ) (a4:Int) (a5:Int):Option (jQ×jR×Bool×Int×jQ) :=
 (qx a0 a1 a2 a3).bind fun r5 =>
 cond (!r5)
 (some (([]:jQ),([]:jR),false,1400,([]:jQ)))
 ((uU a1 a2 a3 a4).bind fun r6 =>
  cond (!r6)
  (some (([]:jQ),([]:jR),false,1400,([]:jQ)))
  ((uU a1 a2 a3 a5).bind fun r7 =>
   cond (!r7)
   (some (([]:jQ),([]:jR),false,1400,([]:jQ)))
   (cond (a4==a5)
    (some (([]:jQ),([]:jR),false,1400,([]:jQ)))
    ((jf a0 a1 a2 a3 a4 a5).bind fun r8 =>
     some (r8.1,r8.2.1,r8.2.2.1,r8.2.2.2.1,r8.2.2.2.2)))))
def uI (a0:jS) (a1:jI):Option Bool :=
 (tR a0 a1).bind fun r2 =>
 cond r2.1
 (some (((aa r2.2:Nat):Int)==1))
 (some false)
def vv (rec:(jI×Int×Int×jI)->Option jI) (x:(jI×Int×Int×jI)):Option jI :=
 cond (decide (x.2.2.1<x.2.1))
 ((gx x.1 x.2.2.1).bind fun e7 =>
  cond (decide (e7<0))
  ((zP e7).bind fun r8 =>
   (inR r8 24).bind fun k9 =>
   (x.2.2.2[k9]?).bind fun x10 =>
   (inR r8 24).bind fun k11 =>
   (x.2.2.2[k11]?).bind fun _x12 =>
   rec (x.1,x.2.1,(ag .i64 (x.2.2.1+1)),(bn x.2.2.2 k11 (ag .i64 (x10+1)))))
  (rec (x.1,x.2.1,(ag .i64 (x.2.2.1+1)),x.2.2.2)))
 (some x.2.2.2)
def rK (a0:jI):Option jI :=
 ((lp vv zd) (a0,((aa a0:Nat):Int),0,(ax 24 (0:Int)))).bind fun r14 =>
 cond (aA (aa r14) 24)
 (cond (aA (aa r14) 24)
  (cond (aA (aa r14) 24)
   (some r14)
   (none))
  (none))
 (none)
def xD (rec:(Int×jI×jI)->Option (Unit⊕Bool)) (x:(Int×jI×jI)):Option (Unit⊕Bool) :=
 cond (decide (x.1<24))
 ((inR x.1 24).bind fun k11 =>
  (x.2.1[k11]?).bind fun x12 =>
  (inR x.1 24).bind fun k13 =>
  (x.2.2[k13]?).bind fun x14 =>
  cond (decide (x12<x14))
  (some (aF false))
  (rec ((ag .i64 (x.1+1)),x.2.1,x.2.2)))
 (some (aW ()))
def ky (a0:jI) (a1:jI):Option Bool :=
 (rK a0).bind fun r18 =>
 (rK a1).bind fun r19 =>
 cond (aA (aa (ax 24 (0:Int))) 24)
 (cond (aA (aa (ax 24 (0:Int))) 24)
  (((lp xD zd) (0,r18,r19)).bind fun r20 =>
   yl r20
   (fun _z21=>some true)
   (fun z22=>some z22))
  (none))
 (none)
def tD (rec:(jS×Int×jI×Int×Int)->Option Int) (x:(jS×Int×jI×Int×Int)):Option Int :=
 cond (decide (x.2.2.2.2<x.2.2.2.1))
 ((gx x.2.2.1 x.2.2.2.2).bind fun e3 =>
  cond (decide (e3<0))
  (rec (x.1,(ag .i64 (x.2.1+1)),x.2.2.1,x.2.2.2.1,(ag .i64 (x.2.2.2.2+1))))
  ((gx x.1 e3).bind fun e4 =>
   rec (x.1,(ag .i64 (x.2.1+e4.2.2.2)),x.2.2.1,x.2.2.2.1,(ag .i64 (x.2.2.2.2+1)))))
 (some x.2.1)
def Zr (a0:jS) (a1:jI):Option Int :=
 ((lp tD zd) (a0,0,a1,((aa a1:Nat):Int),0)).bind fun r6 =>
 some r6
def wJ (rec:(jR×jR×Int×Int)->Option (Unit⊕(jI×jI))) (x:(jR×jR×Int×Int)):Option (Unit⊕(jI×jI)) :=
 cond (decide (x.2.2.2<x.2.2.1))
 ((gx x.2.1 x.2.2.2).bind fun e7 =>
  cond (decide (x.2.2.2<((aa x.1:Nat):Int)))
  ((gx x.1 x.2.2.2).bind fun e8 =>
   (yJ e7 e8).bind fun r9 =>
   cond (!r9)
   ((gx x.1 x.2.2.2).bind fun e10 =>
    some (aF (e7,e10)))
   (rec (x.1,x.2.1,x.2.2.1,(ag .i64 (x.2.2.2+1)))))
  (rec (x.1,x.2.1,x.2.2.1,(ag .i64 (x.2.2.2+1)))))
 (some (aW ()))
def Yl (a0:jS) (a1:jI) (a2:jI):Option (jI×jI) :=
 (vR a0 a2).bind fun r14 =>
 (vR a0 a1).bind fun r15 =>
 ((lp wJ zd) (r14,r15,((aa r15:Nat):Int),0)).bind fun r16 =>
 yl r16
 (fun _z17=>some (([]:jI),([]:jI)))
 (fun z18=>some (z18.1,z18.2))
def te (rec:(jS×jI×jI)->Option (Unit⊕Bool)) (x:(jS×jI×jI)):Option (Unit⊕Bool) :=
 (((nn x.2.1).bind fun _ =>
  some false)).bind fun z23 =>
 cond (!z23)
 ((ky x.2.1 x.2.2).bind fun r24 =>
  cond r24
  ((Zr x.1 x.2.1).bind fun r25 =>
   (Zr x.1 x.2.2).bind fun r26 =>
   cond (r25 != r26)
   (some (aF (decide (r25>r26))))
   ((gx x.2.1 0).bind fun e27 =>
    (gx x.2.2 0).bind fun e28 =>
    cond (e27 != e28)
    ((gx x.2.1 0).bind fun e29 =>
     (gx x.2.2 0).bind fun e30 =>
     some (aF (decide (e29>e30))))
    ((vI x.2.1 (some 1) none).bind fun y31 =>
     (vI x.2.2 (some 1) none).bind fun y32 =>
     (Yl x.1 y31 y32).bind fun r33 =>
     rec (x.1,r33.1,r33.2))))
  (some (aW ())))
 (some (aW ()))
def xy (a0:jS) (a1:jI) (a2:jI):Option Bool :=
 ((lp te zd) (a0,a1,a2)).bind fun r37 =>
 yl r37
 (fun _z38=>some false)
 (fun z39=>some z39)
def v9 (a0:jS) (a1:jI) (a2:jI):Option (Int×Int) :=
 (uI a0 a1).bind fun r19 =>
 cond r19
 ((uI a0 a2).bind fun r20 =>
  (vk a0 a1).bind fun r21 =>
  cond r21
  ((vk a0 a2).bind fun r22 =>
   cond (!r20)
   (cond (!r22)
    (some (0,600))
    ((yJ a1 a2).bind fun r23 =>
     cond r23
     (some (1,0))
     ((xy a0 a1 a2).bind fun r24 =>
      cond r24
      (some (2,0))
      ((xy a0 a2 a1).bind fun r25 =>
       cond r25
       (some (0,0))
       (some (3,0))))))
   ((yJ a1 a2).bind fun r26 =>
    cond r26
    (some (1,0))
    ((xy a0 a1 a2).bind fun r27 =>
     cond r27
     (some (2,0))
     ((xy a0 a2 a1).bind fun r28 =>
      cond r28
      (some (0,0))
      (some (3,0))))))
  (cond (!r20)
   (some (0,600))
   ((yJ a1 a2).bind fun r29 =>
    cond r29
    (some (1,0))
    ((xy a0 a1 a2).bind fun r30 =>
     cond r30
     (some (2,0))
     ((xy a0 a2 a1).bind fun r31 =>
      cond r31
      (some (0,0))
      (some (3,0)))))))
 ((vk a0 a1).bind fun r32 =>
  cond r32
  ((vk a0 a2).bind fun r33 =>
   cond (!r33)
   (some (0,600))
   ((yJ a1 a2).bind fun r34 =>
    cond r34
    (some (1,0))
    ((xy a0 a1 a2).bind fun r35 =>
     cond r35
     (some (2,0))
     ((xy a0 a2 a1).bind fun r36 =>
      cond r36
      (some (0,0))
      (some (3,0))))))
  (some (0,600)))
def va (a0:jS) (a1:jQ) (a2:jR) (a3:jQ) (a4:Int):Option (jQ×jR×Int×jQ) :=
 (qx a0 a1 a2 a3).bind fun r7 =>
 cond (!r7)
 (some (([]:jQ),([]:jR),1400,([]:jQ)))
 ((uU a1 a2 a3 a4).bind fun r8 =>
  cond (!r8)
  (some (([]:jQ),([]:jR),1400,([]:jQ)))
  (cond (((aa a3:Nat):Int)==3)
   (some (([]:jQ),([]:jR),1401,([]:jQ)))
   ((wZ a1 a2 a3 a4 ([]:jQ) ([]:jR) ([]:jQ) (-1)).bind fun r9 =>
    (gx a1 a4).bind fun e10 =>
    (Yy e10.1 e10.2).bind fun r11 =>
    cond (yb (aa r9.2.2+aa ([(r11.1,r11.2)]:List zc)) 32)
    ((qQ a0 r9.2.1 r9.1 (r9.2.2++([(r11.1,r11.2)]:List zc))).bind fun r12 =>
     some (r12.1,r12.2.1,0,r12.2.2.2))
    (none))))
def zM (s1:jR) (s6:Int) (s8:Int):List jI->Nat->(List (jI×Int×jI×Int))->Option (List (jI×Int×jI×Int))
 | [],_i,s4=>some s4
 | e::es,i,s4 =>
  (gx s1 (i:Int)).bind fun e8 =>
  cond (yb (aa s4+aa ([(e,s6,e8,s8)]:List (jI×Int×jI×Int))) 64)
  (zM s1 s6 s8 es (i+1) (s4++([(e,s6,e8,s8)]:List (jI×Int×jI×Int))))
  (none)
theorem ka (s0:jR) (s1:jR) (s5:jI) (s6:Int) (s7:jI) (s8:Int) (s4:(List (jI×Int×jI×Int))) (hl:aa s0<=maxLen):lp qy zd (s0,s1,((aa s0:Nat):Int),0,s4,s5,s6,s7,s8)=zM s1 s6 s8 s0 0 s4:=xB qy (fun i s4=>(s0,s1,((aa s0:Nat):Int),i,s4,s5,s6,s7,s8)) (fun es i s4=>zM s1 s6 s8 es i s4) hl (fun r i s4 h=>by unfold qy zM; simp only[h,cond_false]) (fun r i s4 e es h g w k=>by unfold qy zM; simp only[h,cond_true,g,af,w,k]) s4
def zk (s0:Int) (s5:(List ((Option jI)×Int))) (s6:jI) (s7:Int):List Int->(List Bool)->(List (jI×Int))->Option (((List Bool)×(List (jI×Int)))⊕Bool)
 | [],s8,s9=>some (aW (s8,s9))
 | e::es,s8,s9 =>
  cond (decide (e≥0))
  (zk s0 s5 s6 s7 es s8 s9)
  ((yK s6 s7 e).bind fun r15 =>
   cond (r15==s0)
   (some (aF true))
   ((inR r15 48).bind fun k16 =>
    (s8[k16]?).bind fun x17 =>
    cond (!x17)
    ((inR r15 48).bind fun k18 =>
     (s5[k18]?).bind fun x19 =>
     cond (!(cm x19.1))
     ((inR r15 48).bind fun k20 =>
      (s8[k20]?).bind fun _x21 =>
      (inR r15 48).bind fun k22 =>
      (s5[k22]?).bind fun x23 =>
      cond (yb (aa s9+aa ([((bJ x23.1 []),x23.2)]:List (jI×Int))) 32)
      (zk s0 s5 s6 s7 es (bn s8 k20 true) (s9++([((bJ x23.1 []),x23.2)]:List (jI×Int))))
      (none))
     (zk s0 s5 s6 s7 es s8 s9))
    (zk s0 s5 s6 s7 es s8 s9)))
theorem km (s0:Int) (s1:jI) (s4:jS) (s5:(List ((Option jI)×Int))) (s6:jI) (s7:Int) (s8:(List Bool)) (s9:(List (jI×Int))) (hl:aa s1<=maxLen):lp qN zd (s0,s1,((aa s1:Nat):Int),0,s4,s5,s6,s7,s8,s9)=zk s0 s5 s6 s7 s1 s8 s9:=NM qN (fun i s8 s9=>(s0,s1,((aa s1:Nat):Int),i,s4,s5,s6,s7,s8,s9)) (fun es i s8 s9=>zk s0 s5 s6 s7 es s8 s9) hl (fun r i s8 s9 h=>by unfold qN zk; simp only[h,cond_false]) (fun r i s8 s9 e es h g w k=>by unfold qN zk; simp only[h,cond_true,g,af,w,k]) s8 s9
def yu:List jR->jR->Option jR
 | [],s3=>some s3
 | e::es,s3 =>
  cond (yb (aa s3+aa e) 24)
  (yu es (s3++e))
  (none)
theorem Zp (s0:(List jR)) (s3:jR) (hl:aa s0<=maxLen):lp we zd (s0,((aa s0:Nat):Int),0,s3)=yu s0 s3:=xB we (fun i s3=>(s0,((aa s0:Nat):Int),i,s3)) (fun es i s3=>yu es s3) hl (fun r i s3 h=>by unfold we yu; simp only[h,cond_false]) (fun r i s3 e es h g w k=>by unfold we yu; simp only[h,cond_true,g,af,w,k]) s3
def yp:List jR->Int->Option Int
 | [],s1=>some s1
 | e::es,s1 =>
  cond (decide ((ag .i64 (s1+((aa e:Nat):Int)))<0))
  (none)
  (yp es (ag .i64 (s1+((aa e:Nat):Int))))
theorem jY (s0:(List jR)) (s2:(List jR)) (s1:Int) (hl:aa s2<=maxLen):lp wa zd (s0,s1,s2,((aa s2:Nat):Int),0)=yp s2 s1:=xB wa (fun i s1=>(s0,s1,s2,((aa s2:Nat):Int),i)) (fun es i s1=>yp es s1) hl (fun r i s1 h=>by unfold wa yp; simp only[h,cond_false]) (fun r i s1 e es h g w k=>by unfold wa yp; simp only[h,cond_true,g,af,w,k]) s1
def zW:List jQ->jQ->Option jQ
 | [],s3=>some s3
 | e::es,s3 =>
  cond (yb (aa s3+aa e) 32)
  (zW es (s3++e))
  (none)
theorem kV (s0:(List jQ)) (s3:jQ) (hl:aa s0<=maxLen):lp xg zd (s0,((aa s0:Nat):Int),0,s3)=zW s0 s3:=xB xg (fun i s3=>(s0,((aa s0:Nat):Int),i,s3)) (fun es i s3=>zW es s3) hl (fun r i s3 h=>by unfold xg zW; simp only[h,cond_false]) (fun r i s3 e es h g w k=>by unfold xg zW; simp only[h,cond_true,g,af,w,k]) s3
def zV:List jQ->Int->Option Int
 | [],s1=>some s1
 | e::es,s1 =>
  cond (decide ((ag .i64 (s1+((aa e:Nat):Int)))<0))
  (none)
  (zV es (ag .i64 (s1+((aa e:Nat):Int))))
theorem kP (s0:(List jQ)) (s2:(List jQ)) (s1:Int) (hl:aa s2<=maxLen):lp xb zd (s0,s1,s2,((aa s2:Nat):Int),0)=zV s2 s1:=xB xb (fun i s1=>(s0,s1,s2,((aa s2:Nat):Int),i)) (fun es i s1=>zV es s1) hl (fun r i s1 h=>by unfold xb zV; simp only[h,cond_false]) (fun r i s1 e es h g w k=>by unfold xb zV; simp only[h,cond_true,g,af,w,k]) s1
def yj (s0:Int) (s4:jR) (s6:jQ):List zc->Nat->jQ->Option (jR×jQ×jQ)
 | [],_i,s5=>some (s4,s5,s6)
 | e::es,i,s5 =>
  cond ((i:Int) != s0)
  (cond (yb (aa s5+aa ([(e.1,e.2)]:List zc)) 32)
   (yj s0 s4 s6 es (i+1) (s5++([(e.1,e.2)]:List zc)))
   (none))
  (yj s0 s4 s6 es (i+1) s5)
theorem ZQ (s0:Int) (s1:jQ) (s4:jR) (s6:jQ) (s5:jQ) (hl:aa s1<=maxLen):lp wG zd (s0,s1,((aa s1:Nat):Int),0,s4,s5,s6)=yj s0 s4 s6 s1 0 s5:=xB wG (fun i s5=>(s0,s1,((aa s1:Nat):Int),i,s4,s5,s6)) (fun es i s5=>yj s0 s4 s6 es i s5) hl (fun r i s5 h=>by unfold wG yj; simp only[h,cond_false]) (fun r i s5 e es h g w k=>by unfold wG yj; simp only[h,cond_true,g,af,w,k]) s5
def yi (s0:Int) (s8:jR) (s10:jQ):List zc->Nat->jQ->Option (jR×jQ×jQ)
 | [],_i,s9=>some (s8,s9,s10)
 | e::es,i,s9 =>
  cond ((i:Int) != s0)
  (cond (yb (aa s9+aa ([(e.1,e.2)]:List zc)) 32)
   (yi s0 s8 s10 es (i+1) (s9++([(e.1,e.2)]:List zc)))
   (none))
  (yi s0 s8 s10 es (i+1) s9)
theorem ZU (s0:Int) (s1:Int) (s2:jQ) (s5:jQ) (s6:jR) (s7:jQ) (s8:jR) (s10:jQ) (s9:jQ) (hl:aa s2<=maxLen):lp wS zd (s0,s1,s2,((aa s2:Nat):Int),0,s5,s6,s7,s8,s9,s10)=yi s0 s8 s10 s2 0 s9:=xB wS (fun i s9=>(s0,s1,s2,((aa s2:Nat):Int),i,s5,s6,s7,s8,s9,s10)) (fun es i s9=>yi s0 s8 s10 es i s9) hl (fun r i s9 h=>by unfold wS yi; simp only[h,cond_false]) (fun r i s9 e es h g w k=>by unfold wS yi; simp only[h,cond_true,g,af,w,k]) s9
def xS (s0:Int):List (Int×jI)->Option (Unit⊕jI)
 | []=>some (aW ())
 | e::es =>
  cond (e.1==s0)
  (some (aF e.2))
  (xS s0 es)
theorem QR (s0:Int) (s1:(List (Int×jI))) (hl:aa s1<=maxLen):lp uS zd (s0,s1,((aa s1:Nat):Int),0)=xS s0 s1:=sV uS (fun i=>(s0,s1,((aa s1:Nat):Int),i)) (fun es i=>xS s0 es) hl (fun r i h=>by unfold uS xS; simp only[h,cond_false]) (fun r i e es h g w k=>by unfold uS xS; simp only[h,cond_true,g,af,w,k])
def qR (s0:(List (Int×jI))):List Int->jI->Option jI
 | [],s4=>some s4
 | e::es,s4 =>
  (zP e).bind fun r11 =>
  (Yf s0 r11).bind fun r12 =>
  cond (decide (e≥0))
  (cond (yb (aa s4+aa ([e]:List Int)) 8)
   (qR s0 es (s4++([e]:List Int)))
   (none))
  (cond (cm r12)
   (cond (yb (aa s4+aa ([e]:List Int)) 8)
    (qR s0 es (s4++([e]:List Int)))
    (none))
   (cond (yb (aa s4+aa (bJ r12 [])) 8)
    (qR s0 es (s4++(bJ r12 [])))
    (none)))
theorem XP (s0:(List (Int×jI))) (s1:jI) (s4:jI) (hl:aa s1<=maxLen):lp rm zd (s0,s1,((aa s1:Nat):Int),0,s4)=qR s0 s1 s4:=xB rm (fun i s4=>(s0,s1,((aa s1:Nat):Int),i,s4)) (fun es i s4=>qR s0 es s4) hl (fun r i s4 h=>by unfold rm qR; simp only[h,cond_false]) (fun r i s4 e es h g w k=>by unfold rm qR; simp only[h,cond_true,g,af,w,k]) s4
def qe (s3:(List (Int×jI))) (s4:jQ) (s5:jR):List zc->jQ->Option (jQ×jR×jQ)
 | [],s6=>some (s4,s5,s6)
 | e::es,s6 =>
  (xp e.2 s3).bind fun r20 =>
  cond (yb (aa s6+aa ([(e.1,r20)]:List zc)) 32)
  (qe s3 s4 s5 es (s6++([(e.1,r20)]:List zc)))
  (none)
theorem Yt (s0:jQ) (s3:(List (Int×jI))) (s4:jQ) (s5:jR) (s6:jQ) (hl:aa s0<=maxLen):lp vF zd (s0,((aa s0:Nat):Int),0,s3,s4,s5,s6)=qe s3 s4 s5 s0 s6:=xB vF (fun i s6=>(s0,((aa s0:Nat):Int),i,s3,s4,s5,s6)) (fun es i s6=>qe s3 s4 s5 es s6) hl (fun r i s6 h=>by unfold vF qe; simp only[h,cond_false]) (fun r i s6 e es h g w k=>by unfold vF qe; simp only[h,cond_true,g,af,w,k]) s6
def qi (s3:(List (Int×jI))) (s7:jQ):List jI->jR->Option (jQ×jR)
 | [],s8=>some (s7,s8)
 | e::es,s8 =>
  (xp e s3).bind fun r13 =>
  cond (yb (aa s8+aa ([r13]:List jI)) 24)
  (qi s3 s7 es (s8++([r13]:List jI)))
  (none)
theorem Z9 (s0:jR) (s3:(List (Int×jI))) (s4:jQ) (s5:jR) (s6:jQ) (s7:jQ) (s8:jR) (hl:aa s0<=maxLen):lp vA zd (s0,((aa s0:Nat):Int),0,s3,s4,s5,s6,s7,s8)=qi s3 s7 s0 s8:=xB vA (fun i s8=>(s0,((aa s0:Nat):Int),i,s3,s4,s5,s6,s7,s8)) (fun es i s8=>qi s3 s7 es s8) hl (fun r i s8 h=>by unfold vA qi; simp only[h,cond_false]) (fun r i s8 e es h g w k=>by unfold vA qi; simp only[h,cond_true,g,af,w,k]) s8
def qj (s3:(List (Int×jI))):List zc->jQ->Option jQ
 | [],s7=>some s7
 | e::es,s7 =>
  (xp e.2 s3).bind fun r6 =>
  cond (yb (aa s7+aa ([(e.1,r6)]:List zc)) 32)
  (qj s3 es (s7++([(e.1,r6)]:List zc)))
  (none)
theorem YD (s0:jQ) (s3:(List (Int×jI))) (s4:jQ) (s5:jR) (s6:jQ) (s7:jQ) (hl:aa s0<=maxLen):lp vB zd (s0,((aa s0:Nat):Int),0,s3,s4,s5,s6,s7)=qj s3 s0 s7:=xB vB (fun i s7=>(s0,((aa s0:Nat):Int),i,s3,s4,s5,s6,s7)) (fun es i s7=>qj s3 es s7) hl (fun r i s7 h=>by unfold vB qj; simp only[h,cond_false]) (fun r i s7 e es h g w k=>by unfold vB qj; simp only[h,cond_true,g,af,w,k]) s7
def qh:List Int->jI->Option jI
 | [],s3=>some s3
 | e::es,s3 =>
  cond (decide (e<0))
  ((zP e).bind fun r8 =>
   (inR r8 24).bind fun k9 =>
   (s3[k9]?).bind fun x10 =>
   (inR r8 24).bind fun k11 =>
   (s3[k11]?).bind fun _x12 =>
   qh es (bn s3 k11 (ag .i64 (x10+1))))
  (qh es s3)
theorem ZW (s0:jI) (s3:jI) (hl:aa s0<=maxLen):lp vv zd (s0,((aa s0:Nat):Int),0,s3)=qh s0 s3:=xB vv (fun i s3=>(s0,((aa s0:Nat):Int),i,s3)) (fun es i s3=>qh es s3) hl (fun r i s3 h=>by unfold vv qh; simp only[h,cond_false]) (fun r i s3 e es h g w k=>by unfold vv qh; simp only[h,cond_true,g,af,w,k]) s3
def ql (s0:jS):List Int->Int->Option Int
 | [],s1=>some s1
 | e::es,s1 =>
  cond (decide (e<0))
  (ql s0 es (ag .i64 (s1+1)))
  ((gx s0 e).bind fun e4 =>
   ql s0 es (ag .i64 (s1+e4.2.2.2)))
theorem kF (s0:jS) (s2:jI) (s1:Int) (hl:aa s2<=maxLen):lp tD zd (s0,s1,s2,((aa s2:Nat):Int),0)=ql s0 s2 s1:=xB tD (fun i s1=>(s0,s1,s2,((aa s2:Nat):Int),i)) (fun es i s1=>ql s0 es s1) hl (fun r i s1 h=>by unfold tD ql; simp only[h,cond_false]) (fun r i s1 e es h g w k=>by unfold tD ql; simp only[h,cond_true,g,af,w,k]) s1
def yL (s0:jR):List jI->Nat->Option (Unit⊕(jI×jI))
 | [],_i=>some (aW ())
 | e::es,i =>
  cond (decide ((i:Int)<((aa s0:Nat):Int)))
  ((gx s0 (i:Int)).bind fun e8 =>
   (yJ e e8).bind fun r9 =>
   cond (!r9)
   ((gx s0 (i:Int)).bind fun e10 =>
    some (aF (e,e10)))
   (yL s0 es (i+1)))
  (yL s0 es (i+1))
theorem ZV (s0:jR) (s1:jR) (hl:aa s1<=maxLen):lp wJ zd (s0,s1,((aa s1:Nat):Int),0)=yL s0 s1 0:=sV wJ (fun i=>(s0,s1,((aa s1:Nat):Int),i)) (fun es i=>yL s0 es i) hl (fun r i h=>by unfold wJ yL; simp only[h,cond_false]) (fun r i e es h g w k=>by unfold wJ yL; simp only[h,cond_true,g,af,w,k])
theorem zZ {xs:List Int} (h:xs.length<=1099511627776):zB xs=some xs:=by
 unfold zB Yo;simp only[cp,cond_false,bk,bc,aR,bj];rw[zm (show xs.length*8<=140737488351232 by omega)]
 rfl
theorem AO (ys:List Int):(es:List Int)->(i:Nat)->es.length=(ys.drop i).length->qo ys es i=some (cond (decide (es=ys.drop i)) (.inl ()) (.inr false))
 | [],i,h=>by
  have:ys.drop i=[]:=List.eq_nil_of_length_eq_zero h.symm;rw[this]; rfl
 | e::es,i,h=>by
  cases hd:ys.drop i with
  | nil=>rw[hd] at h; simp at h
  | cons y r =>
   have hn:=zj hd;have:=AO ys es (i+1) (by rw[hn]; rw[hd] at h; simpa using h)
   unfold qo;simp only[yE,zr hd,af,this,hn];by_cases he:e=y
   ·subst he;simp
   ·have h1:(e != y)=true:=by simpa using he
    simp [h1,he]
theorem vU {xs ys:List Int} (h:xs.length<=maxLen):yJ xs ys=some (decide (xs=ys)):=by
 unfold yJ;by_cases hl:xs.length=ys.length
 ·rw[show (((aa xs:Nat):Int) != ((aa ys:Nat):Int))=false from by simp [hl],cond_false,ZS _ _ h,AO ys xs 0 hl,bP]
  cases decide (xs=ys)<;>rfl
 ·rw[show (((aa xs:Nat):Int) != ((aa ys:Nat):Int))=true from by simp; omega,cond_true,decide_eq_false (by intro h; subst h; exact hl rfl)]
theorem VL {a b:Bool} {xs ys:List Int} (h:xs.length<=maxLen):Y1 a xs b ys=some (decide ((a,xs)=(b,ys))):=by
 unfold Y1;cases hab:(a==b) with
 | false =>
  have:a≠b:=by simpa using hab
  simp [this]
 | true =>
  have:a=b:=by simpa using hab
  subst this;rw[cond_true,vU h];simp
theorem B3 (l:zc) (hl:l.2.length<=maxLen):(es:List zc)->(i:Nat)->∃ r,ye l.1 l.2 es i=some r∧(l∈es->∃ j:Nat,r = .inr (j:Int))∧(l∉es->r = .inl ())
 | [],i=>⟨.inl (),rfl,(fun h=>by cases h),fun _=>rfl⟩
 | e::es,i=>by
  unfold ye tU;rw[VL hl];simp only[af];by_cases he:(l.1,l.2)=(e.1,e.2)
  ·rw[decide_eq_true he,cond_true];have he':l=e:=he;exact ⟨_,rfl,fun _=>⟨i,rfl⟩,fun h=>absurd (aC.2 (.inl he')) h⟩
  ·rw[decide_eq_false he,cond_false];obtain⟨r,h1,h2,h3⟩:=B3 l hl es (i+1);have he':l≠e:=he;refine ⟨r,h1,fun h=>h2 ?_,fun h=>h3 fun h'=>h (ai _ h')⟩;rcases aC.1 h with h | h
   ·exact absurd h he'
   ·exact h
theorem ZO {l:zc} {es:List zc} (hl:l.2.length<=maxLen) (h:es.length<=maxLen):xF es l.1 l.2=some (decide (l∈es)):=by
 unfold xF sM;rw[ki _ _ _ h];obtain⟨r,h1,h2,h3⟩:=B3 l hl es 0;rw[h1];by_cases hm:l∈es
 ·obtain⟨j,rfl⟩:=h2 hm;simp [yl,hm]
 ·rw[h3 hm];simp [yl,hm]
def zS {α:Type} [DecidableEq α]:List α->List α->List α
 | [],out=>out
 | e::es,out=>cond (decide (e∈out)) (zS es out) (zS es (out++[e]))
theorem wo {α:Type} [DecidableEq α]:(es out:List α)->(zS es out).length<=out.length+es.length
 | [],out=>by simp [zS]
 | e::es,out=>by
  unfold zS;cases decide (e∈out) with
  | true=>have:=wo es out; simp only[cond_true,ak]; omega
  | false=>have:=wo es (out++[e]); simp only[cond_false,ak,al,bc] at this ⊢; omega
theorem q7 {α:Type} [DecidableEq α] {x:α}:(es out:List α)->(x∈zS es out↔x∈out∨x∈es)
 | [],out=>by simp [zS]
 | e::es,out=>by
  unfold zS;by_cases h:e∈out
  ·rw[decide_eq_true h,cond_true,q7 es out,aC];constructor
   ·rintro (h1 | h1)
    ·exact .inl h1
    ·exact .inr (.inr h1)
   ·rintro (h1 | rfl | h1)
    ·exact .inl h1
    ·exact .inl h
    ·exact .inr h1
  ·rw[decide_eq_false h,cond_false,q7 es (out++[e])];simp only[List.mem_append,aC,List.not_mem_nil,or_false];constructor
   ·rintro ((h1 | h1) | h1)
    ·exact .inl h1
    ·exact .inr (.inl h1)
    ·exact .inr (.inr h1)
   ·rintro (h1 | h1 | h1)
    ·exact .inl (.inl h1)
    ·exact .inl (.inr h1)
    ·exact .inr h1
theorem BL:(es out:List zc)->(∀ e∈es,e.2.length<=maxLen)->out.length+es.length<=1000000->qb es out=some (zS es out)
 | [],out,_,_=>rfl
 | e::es,out,h,hl=>by
  have h1:=h e (aj ..);have hl':out.length+(es.length+1)<=1000000:=hl;unfold qb zS;rw[ZO h1 (by unfold maxLen; omega),af]
  by_cases hm:e∈out
  ·simp only[hm,decide_true,az,cond_false,cond_true];exact BL es out (fun x hx=>h x (ai _ hx)) (by omega)
  ·simp only[hm,decide_false,bN,cond_false,cond_true];rw[zm (show (out.length+([(e.1,e.2)]:List zc).length)*32<=140737488351232 by simp; omega),cond_true]
   exact BL es (out++[e]) (fun x hx=>h x (ai _ hx)) (by simp; omega)
theorem Qe {es:List zc} (h:∀ e∈es,e.2.length<=maxLen) (hl:es.length<=1000000):rE es=some (zS es []):=by
 unfold rE;rw[Z1 _ _ (by unfold maxLen; omega),BL es [] h (by simpa using hl)]
 rfl
theorem B5 (l:List Int) (hl:l.length<=maxLen):(es:List jI)->(i:Nat)->∃ r,zU l es i=some r∧(l∈es->∃ j:Nat,r = .inr (j:Int))∧(l∉es->r = .inl ())
 | [],i=>⟨.inl (),rfl,(fun h=>by cases h),fun _=>rfl⟩
 | e::es,i=>by
  unfold zU tY;rw[vU hl];simp only[af];by_cases he:l=e
  ·rw[decide_eq_true he,cond_true];exact ⟨_,rfl,fun _=>⟨i,rfl⟩,fun h=>absurd (aC.2 (.inl he)) h⟩
  ·rw[decide_eq_false he,cond_false];obtain⟨r,h1,h2,h3⟩:=B5 l hl es (i+1);refine ⟨r,h1,fun h=>h2 ?_,fun h=>h3 fun h'=>h (ai _ h')⟩;rcases aC.1 h with h | h
   ·exact absurd h he
   ·exact h
theorem jG {l:List Int} {es:List jI} (hl:l.length<=maxLen) (h:es.length<=maxLen):qY es l=some (decide (l∈es)):=by
 unfold qY tt;rw[sR _ _ h];obtain⟨r,h1,h2,h3⟩:=B5 l hl es 0;rw[h1];by_cases hm:l∈es
 ·obtain⟨j,rfl⟩:=h2 hm;simp [yl,hm]
 ·rw[h3 hm];simp [yl,hm]
theorem Be (s3 s4:List zc):(es out:List jI)->(∀ e∈es,e.length<=maxLen)->out.length+es.length<=1000000->qa s3 s4 es out=some (s3,s4,zS es out)
 | [],out,_,_=>rfl
 | e::es,out,h,hl=>by
  have h1:=h e (aj ..);have hl':out.length+(es.length+1)<=1000000:=hl;unfold qa zS;rw[jG h1 (by unfold maxLen; omega),af]
  by_cases hm:e∈out
  ·simp only[hm,decide_true,az,cond_false,cond_true];exact Be s3 s4 es out (fun x hx=>h x (ai _ hx)) (by omega)
  ·simp only[hm,decide_false,bN,cond_false,cond_true];rw[zm (show (out.length+([e]:List jI).length)*24<=140737488351232 by simp; omega),cond_true]
   exact Be s3 s4 es (out++[e]) (fun x hx=>h x (ai _ hx)) (by simp; omega)
def WR (s:List Int×Int) (c:Int):Int×(List Int×Int) :=
 cond (decide (c≥0)) (c,s) (cond (s.1.getD (-1 - c).toNat 0==0) (-(s.2+1),(s.1.set (-1 - c).toNat (s.2+1),s.2+1)) (-(s.1.getD (-1 - c).toNat 0),s))
def sH:List Int×Int->List Int->List Int×(List Int×Int)
 | s,[]=>([],s)
 | s,c::cs=>((WR s c).1::(sH (WR s c).2 cs).1,(sH (WR s c).2 cs).2)
theorem Gi:(s:List Int×Int)->(cs:List Int)->(sH s cs).1.length=cs.length
 | _,[]=>rfl
 | s,c::cs=>by simp [sH,Gi (WR s c).2 cs]
structure RenOk (s:List Int×Int) (b:Int):Prop where
 len:s.1.length=24
 lo:0<=s.2
 hi:s.2<=b
 all:∀ x∈s.1,0<=x∧x<=s.2
theorem RenOk.more {s:List Int×Int} {b b':Int} (h:RenOk s b) (hb:b<=b'):RenOk s b':=⟨h.len,h.lo,Int.le_trans h.hi hb,h.all⟩
theorem RenOk.get {s:List Int×Int} {b:Int} (h:RenOk s b) (v:Nat):0<=s.1.getD v 0∧s.1.getD v 0<=s.2:=by
 have h0:=h.lo;rw[aG];cases hv:s.1[v]? with
 | none=>exact ⟨eS _,h0⟩
 | some x=>exact h.all x (aP hv)
theorem L0 {s:List Int×Int} {b:Int} (h:RenOk s b) (c:Int):RenOk (WR s c).2 (b+1):=by
 unfold WR;cases decide (c≥0) with
 | true=>exact h.more (by omega)
 | false =>
  rw[cond_false];cases (s.1.getD (-1 - c).toNat 0==0) with
  | false=>exact h.more (by omega)
  | true =>
   refine ⟨by simpa using h.len,by have:=h.lo; simp; omega,by have:=h.hi; simp; omega,fun x hx => ?_⟩
   simp only[cond_true] at hx ⊢;rcases List.mem_or_eq_of_mem_set hx with hx | rfl
   ·have:=h.all x hx; omega
   ·have:=h.lo; omega
theorem Qq:{s:List Int×Int}->{b:Int}->(cs:List Int)->RenOk s b->RenOk (sH s cs).2 (b+cs.length)
 | s,b,[],h=>by simpa[sH] using h
 | s,b,c::cs,h=>by
  have:=Qq cs (L0 h c);simp only[sH,ak];exact this.more (by omega)
theorem VC {α:Type} (done es:List α) (e x:α):(done++e::es).set done.length x=done++x::es:=by
 rw[List.set_append_right _ _ (aE _),dA];rfl
theorem rP {α:Type} (done es:List α) (e:α):(done++e::es)[done.length]? = some e:=by
 rw[List.getElem?_append_right (aE _),dA];rfl
theorem It:(es done:List Int)->(s:List Int×Int)->(k:Nat)->es.length<k->done.length+es.length<=1000000->RenOk s 1000000->s.2+es.length<=1000000->(∀ c∈es,-24<=c) ->
  lp yZ k (((done.length+es.length:Nat):Int),(done.length:Int),s.1,s.2,done++es)=some ((sH s es).2.1,(sH s es).2.2,done++(sH s es).1)
 | [],done,s,k,hk,hl,hs,hb,hc=>by
  obtain⟨k,rfl⟩:∃ k',k=k'+1:=⟨k - 1,by omega⟩
  rw[zx];generalize lp yZ k=rec;unfold yZ;simp [sH]
 | e::es,done,s,k,hk,hl,hs,hb,hc=>by
  obtain⟨k,rfl⟩:∃ k',k=k'+1:=⟨k - 1,by omega⟩
  rw[zx];have he:=hc e (aj ..);have hl':done.length+(es.length+1)<=1000000:=hl;have hb':s.2+((es.length+1:Nat):Int)<=1000000:=hb;have key:=fun (e':Int) (s':List Int×Int) (hs':RenOk s' 1000000) (hb2:s'.2+es.length<=1000000)=>It es (done++[e']) s' k (cn hk) (by simp; omega) hs' hb2 (fun c hx=>hc c (ai _ hx))
  generalize lp yZ k=rec at key ⊢;unfold yZ;have e1:decide (((done.length:Nat):Int)<((done.length+(e::es).length:Nat):Int))=true:=by rw[decide_eq_true_eq,ak]; omega
  have e2:inR ((done.length:Nat):Int) (aa (done++e::es))=some done.length:=zO (by simp)
  have e3:ag .i64 (((done.length:Nat):Int)+1)=((done.length+1:Nat):Int):=by rw[zn]<;>omega
  have key2:=fun (e':Int) (s':List Int×Int) (hs':RenOk s' 1000000) (hb2:s'.2+es.length<=1000000)=>by
   have:=key e' s' hs' hb2;rw[List.append_assoc,al,aD,bO,dk 1 es.length] at this;exact this
  simp only[e1,cond_true,e2,af,rP,e3];by_cases h0:e≥0
  ·have hr:WR s e=(e,s):=by unfold WR; rw[decide_eq_true h0]; rfl
   rw[decide_eq_true h0,cond_true];have:=key2 e s hs (by omega)
   simp only[sH,hr];exact this.trans (by simp)
  ·rw[decide_eq_false h0,cond_false];have h24:(-1 - e).toNat<24:=by omega
   have e4:inR (-1 - e) 24=some (-1 - e).toNat:=by
    have:=zO h24;rwa [Int.toNat_of_nonneg (by omega)] at this
   have hget:∀ xs:List Int,xs.length=24->xs[(-1 - e).toNat]? = some (xs.getD (-1 - e).toNat 0):=fun xs hx=>by
    rw[aG,am (by omega)]; rfl
   have hg:=hs.get (-1 - e).toNat;have hs1:=hs.hi;have hs0:=hs.lo;simp only[qm (x:=e) (by omega) (by omega),af,e4,hget s.1 hs.len]
   by_cases hz:s.1.getD (-1 - e).toNat 0=0
   ·have hr:WR s e=(-(s.2+1),(s.1.set (-1 - e).toNat (s.2+1),s.2+1)):=by unfold WR; rw[decide_eq_false h0,hz]; rfl
    have w1:ag .i64 (s.2+1)=s.2+1:=by rw[zn]<;>omega
    have hset:(bn s.1 (-1 - e).toNat (s.2+1)).getD (-1 - e).toNat 0=s.2+1:=by
     rw[aG,List.getElem?_set_self (by rw[hs.len]; exact h24)]; rfl
    have hn:TG .i64 (s.2+1) = -(s.2+1):=by unfold TG; rw[zn]<;>omega
    rw[hz];simp only[show (((0:Int)==0))=true from rfl,cond_true,w1,hget (bn s.1 (-1 - e).toNat (s.2+1)) (by simpa using hs.len),af,hset,hn,VC]
    have hok:=L0 (b:=s.2) ⟨hs.len,hs.lo,eS _,hs.all⟩ e;rw[hr] at hok;have:=key2 (-(s.2+1)) (s.1.set (-1 - e).toNat (s.2+1),s.2+1) (hok.more (by omega)) (by simp only; omega)
    simp only[sH,hr];exact this.trans (by simp)
   ·have hr:WR s e=(-(s.1.getD (-1 - e).toNat 0),s):=by
     unfold WR;rw[decide_eq_false h0,show (s.1.getD (-1 - e).toNat 0==0)=false from by simpa using hz]; rfl
    have hn:TG .i64 (s.1.getD (-1 - e).toNat 0) = -(s.1.getD (-1 - e).toNat 0):=by unfold TG; rw[zn]<;>omega
    rw[show (s.1.getD (-1 - e).toNat 0==0)=false from by simpa using hz,cond_false]
    simp only[hn,VC];have:=key2 (-(s.1.getD (-1 - e).toNat 0)) s hs (by omega)
    simp only[sH,hr];exact this.trans (by simp)
theorem uC {r:List Int} {s:List Int×Int} (hl:r.length<=1000) (hs:RenOk s 900000) (hc:∀ c∈r,-24<=c):yU r s.1 s.2=some ((sH s r).1,(sH s r).2.1,(sH s r).2.2):=by
 unfold yU;rw[zZ (by omega),af]
 have h1:=hs.hi;have:=It r [] s zd (by unfold zd; omega) (by simp; omega) (hs.more (by omega)) (by omega) hc
 simp only[bc,aR,bj] at this;rw[show ((0:Nat):Int)=0 from rfl] at this
 rw[this,af];have hlen:=(Qq r hs).len;simp only[hs.len,hlen];rfl
def wz:List Int×Int->List zc->List zc×(List Int×Int)
 | s,[]=>([],s)
 | s,l::ls=>((l.1,(sH s l.2).1)::(wz (sH s l.2).2 ls).1,(wz (sH s l.2).2 ls).2)
def uY:List Int×Int->List jI->List jI×(List Int×Int)
 | s,[]=>([],s)
 | s,l::ls=>((sH s l).1::(uY (sH s l).2 ls).1,(uY (sH s l).2 ls).2)
def t5 (r:List Int):Prop:=r.length<=1000∧∀ c∈r,-24<=c
theorem Gf:{s:List Int×Int}->{b:Int}->(ls:List zc)->(∀ l∈ls,t5 l.2)->RenOk s b->RenOk (wz s ls).2 (b+1000*ls.length)
 | s,b,[],_,h=>by simpa[wz] using h
 | s,b,l::ls,hl,h=>by
  have h1:=hl l (aj ..);have:=Gf ls (fun x hx=>hl x (ai _ hx)) (Qq l.2 h);have h2:=h1.1;simp only[wz,ak];exact this.more (by omega)
theorem AW:{s:List Int×Int}->{b:Int}->(ls:List jI)->(∀ l∈ls,t5 l)->RenOk s b->RenOk (uY s ls).2 (b+1000*ls.length)
 | s,b,[],_,h=>by simpa[uY] using h
 | s,b,l::ls,hl,h=>by
  have h1:=hl l (aj ..);have:=AW ls (fun x hx=>hl x (ai _ hx)) (Qq l h);have h2:=h1.1;simp only[uY,ak];exact this.more (by omega)
theorem Jj:(es:List zc)->(s:List Int×Int)->(out:List zc)->(b:Int)->RenOk s b->b+1000*es.length<=900000->(∀ l∈es,t5 l.2)->out.length+es.length<=1000000 ->
  yq es s.1 s.2 out=some ((wz s es).2.1,(wz s es).2.2,out++(wz s es).1)
 | [],s,out,b,_,_,_,_=>by simp [yq,wz]
 | e::es,s,out,b,hs,hb,h,hl=>by
  have he:=h e (aj ..);have h1:=he.1;rw[ak] at hb hl;unfold yq;rw[uC he.1 (hs.more (by omega)) he.2,af]
  rw[zm (show (out.length+([(e.1,(sH s e.2).1)]:List zc).length)*32<=140737488351232 by simp; omega),cond_true]
  have:=Jj es (sH s e.2).2 (out++[(e.1,(sH s e.2).1)]) _ (Qq e.2 hs) (by omega) (fun x hx=>h x (ai _ hx)) (by simp; omega)
  exact this.trans (by simp [wz])
theorem JE (s8:List zc):(es:List jI)->(s:List Int×Int)->(out:List jI)->(b:Int)->RenOk s b->b+1000*es.length<=900000->(∀ l∈es,t5 l)->out.length+es.length<=1000000 ->
  yy s8 es s.1 s.2 out=some ((uY s es).2.1,(uY s es).2.2,s8,out++(uY s es).1)
 | [],s,out,b,_,_,_,_=>by simp [yy,uY]
 | e::es,s,out,b,hs,hb,h,hl=>by
  have he:=h e (aj ..);have h1:=he.1;rw[ak] at hb hl;unfold yy;rw[uC he.1 (hs.more (by omega)) he.2,af]
  rw[zm (show (out.length+([(sH s e).1]:List jI).length)*24<=140737488351232 by simp; omega),cond_true]
  have:=JE s8 es (sH s e).2 (out++[(sH s e).1]) _ (Qq e hs) (by omega) (fun x hx=>h x (ai _ hx)) (by simp; omega)
  exact this.trans (by simp [uY])
theorem Jo (s5:List zc) (s6:List jI):(es:List zc)->(s:List Int×Int)->(out:List zc)->(b:Int)->RenOk s b->b+1000*es.length<=900000->(∀ l∈es,t5 l.2)->out.length+es.length<=1000000 ->
  yr s5 s6 es s.1 s.2 out=some ((wz s es).2.1,(wz s es).2.2,s5,s6,out++(wz s es).1)
 | [],s,out,b,_,_,_,_=>by simp [yr,wz]
 | e::es,s,out,b,hs,hb,h,hl=>by
  have he:=h e (aj ..);have h1:=he.1;rw[ak] at hb hl;unfold yr;rw[uC he.1 (hs.more (by omega)) he.2,af]
  rw[zm (show (out.length+([(e.1,(sH s e.2).1)]:List zc).length)*32<=140737488351232 by simp; omega),cond_true]
  have:=Jo s5 s6 es (sH s e.2).2 (out++[(e.1,(sH s e.2).1)]) _ (Qq e.2 hs) (by omega) (fun x hx=>h x (ai _ hx)) (by simp; omega)
  exact this.trans (by simp [wz])
def Uu (L:List zc) (T:List jI) (C:List zc):List zc×List jI×List zc :=
 ((wz (ax 24 0,0) L).1,(uY (wz (ax 24 0,0) L).2 T).1,(wz (uY (wz (ax 24 0,0) L).2 T).2 C).1)
theorem Md:RenOk (ax 24 (0:Int),0) 0:=⟨rfl,eS _,eS _,fun x hx=>by have:=List.eq_of_mem_replicate hx; omega⟩
def uV (L:List zc) (T:List jI) (C:List zc):List zc×List jI×List zc:=Uu (zS L []) (zS T []) (zS C [])
theorem KT {L:List zc} {T:List jI} {C:List zc} (hL:L.length<=100) (hT:T.length<=100) (hC:C.length<=100) (sL:∀ l∈L,t5 l.2) (sT:∀ l∈T,t5 l) (sC:∀ l∈C,t5 l.2) :
  Zz L T C=some (uV L T C):=by
 have big:∀ r:List Int,t5 r->r.length<=maxLen:=fun r h=>by have:=h.1; unfold maxLen; omega
 have lL:=wo L [];have lT:=wo T [];have lC:=wo C [];simp only[bc,aR] at lL lT lC;have sL':∀ l∈zS L [],t5 l.2:=fun l h=>sL l (by simpa using (q7 L []).1 h)
 have sT':∀ l∈zS T [],t5 l:=fun l h=>sT l (by simpa using (q7 T []).1 h)
 have sC':∀ l∈zS C [],t5 l.2:=fun l h=>sC l (by simpa using (q7 C []).1 h)
 unfold Zz;rw[Qe (fun e he=>big _ (sL e he)) (by omega),af,Qe (fun e he=>big _ (sC e he)) (by omega),af,
  Z4 _ _ _ _ (by unfold maxLen; omega),Be _ _ T [] (fun e he=>big _ (sT e he)) (by simp; omega),af]
 simp only;generalize hL2:zS L []=L2 at lL sL';generalize hT2:zS T []=T2 at lT sT';generalize hC2:zS C []=C2 at lC sC';have k0:=Gf L2 sL' Md;have k1:=AW T2 sT' k0;have k2:=Gf C2 sC' k1;have e0:=Jj L2 (ax 24 0,0) [] 0 Md (by omega) sL' (by simp; omega)
 have e1:=JE (wz (ax 24 0,0) L2).1 T2 _ [] _ k0 (by omega) sT' (by simp; omega)
 have e2:=Jo (wz (ax 24 0,0) L2).1 (uY (wz (ax 24 0,0) L2).2 T2).1 C2 _ [] _ k1 (by omega) sC' (by simp; omega)
 simp only[bj] at e0 e1 e2;unfold Zw;rw[j2 L2 L2 T2 C2 (ax 24 0) 0 [] (by unfold maxLen; omega),e0,af]
 simp only;rw[Zx _ _ _ _ _ _ _ _ (by unfold maxLen; omega),e1,af]
 simp only;rw[j9 _ _ _ _ _ _ (by unfold maxLen; omega),e2,af]
 have hlen:=k2.len;simp only[List.length_replicate,hlen];unfold uV Uu;rw[hL2,hT2,hC2];rfl
theorem AS {a0:List zh}:{xs:List Int}->{n k:Nat}->sk a0 n xs=some k->∀ c∈xs.take k,-24<=c
 | [],n,k,h,c,hc=>by simp at hc
 | x::xs,0,k,h,c,hc=>by
  simp [sk] at h; subst h; simp at hc
 | x::xs,n+1,k,h,c,hc=>by
  unfold sk at h;cases ha:v7 a0 x with
  | none=>rw[ha] at h; cases h
  | some m =>
   rw[ha] at h;simp only[bw] at h;obtain⟨j,hj,rfl⟩:=h;rw[eF] at hc;rcases aC.1 hc with rfl | hc
   ·by_cases h0:c<0
    ·exact (IN ha h0).1
    ·omega
   ·exact AS hj c hc
theorem XM {a0:List zh} {xs:List Int} {ps:List jI} (h:WE a0 xs=some ps):∀ c∈xs,-24<=c:=by
 obtain⟨h1,h2⟩:=Z6 xs.length xs ps (aE _) h;intro c hc;rw[← h1] at hc;obtain⟨p,hp,hcp⟩:=fg.1 hc;have:=AS (h2 p hp).2 c;rw[dQ] at this;exact this hcp
theorem D3 {a0:List zh} {xs:List Int} (h:ua a0 xs=true):t5 xs:=by
 obtain⟨x,r,e,ps,rfl,h0,-,-,-,-,hl,hc,-⟩:=Y3 h;refine ⟨by simp; omega,fun c hcm => ?_⟩
 rcases aC.1 hcm with rfl | hcm
 ·omega
 ·exact XM hc c hcm
theorem C8 {a0:List zh} {r:List Int} {n:Nat} (h:ZR a0 r=some n):t5 r:=by
 obtain⟨ps,hc,-,hl,-⟩:=Kj h;exact ⟨by omega,XM hc⟩
theorem xP {a0:List zh} {ls:List zc} (h:tO a0 ls=true):∀ l∈ls,t5 l.2:=fun l hl =>
 D3 (aH.1 h l hl)
theorem jJ {a0:List zh} {rs:List jI} (h:j4 a0 rs=true):∀ r∈rs,t5 r:=fun r hr=>by
 obtain⟨n,hn⟩:=Q8 h;exact C8 (hn r hr)
theorem xk (a0:List zh) (L:List zc) (T:List jI) (C:List zc):qQ a0 L T C=some (cond (wm a0 L T C) ((uV L T C).1,(uV L T C).2.1,0,(uV L T C).2.2) ([],[],800,[])):=by
 unfold qQ;rw[yB,af];cases h:wm a0 L T C with
 | false=>rfl
 | true =>
  obtain⟨-,h1,h2,h3,h4,h5,h6,-⟩:=zK h;rw[az,cond_false,KT (by omega) (by omega) (by omega) (xP h4) (jJ h5) (xP h6),af]
  rfl
theorem VU:(s:List Int×Int)->(ls:List zc)->(wz s ls).1.length=ls.length
 | _,[]=>rfl
 | s,l::ls=>by simp [wz,VU (sH s l.2).2 ls]
theorem Ic:(s:List Int×Int)->(ls:List jI)->(uY s ls).1.length=ls.length
 | _,[]=>rfl
 | s,l::ls=>by simp [uY,Ic (sH s l).2 ls]
theorem Wa:(s:List Int×Int)->(ls:List zc)->(b:Nat)->(∀ l∈ls,l.2.length<=b)->∀ l∈(wz s ls).1,l.2.length<=b
 | _,[],_,_,l,hl=>by cases hl
 | s,e::es,b,h,l,hl=>by
  simp only[wz] at hl;rcases aC.1 hl with rfl | hl
  ·rw[Gi]; exact h e (aj ..)
  ·exact Wa _ es b (fun x hx=>h x (ai _ hx)) l hl
theorem K7:(s:List Int×Int)->(ls:List jI)->(b:Nat)->(∀ l∈ls,l.length<=b)->∀ l∈(uY s ls).1,l.length<=b
 | _,[],_,_,l,hl=>by cases hl
 | s,e::es,b,h,l,hl=>by
  simp only[uY] at hl;rcases aC.1 hl with rfl | hl
  ·rw[Gi]; exact h e (aj ..)
  ·exact K7 _ es b (fun x hx=>h x (ai _ hx)) l hl
theorem CV {a0:List zh} {L:List zc} {T:List jI} {C:List zc} (h:wm a0 L T C=true) :
  wN (uV L T C).1 (uV L T C).2.1 (uV L T C).2.2 (uV L T C).1 (uV L T C).2.1 (uV L T C).2.2=some true:=by
 obtain⟨-,h1,h2,h3,h4,h5,h6,-⟩:=zK h;have lL:=wo L [];have lT:=wo T [];have lC:=wo C [];simp only[bc,aR] at lL lT lC;have sL:∀ l∈zS L [],l.2.length<=1000:=fun l h=>(xP h4 l (by simpa using (q7 L []).1 h)).1
 have sT:∀ l∈zS T [],l.length<=1000:=fun l h=>(jJ h5 l (by simpa using (q7 T []).1 h)).1
 have sC:∀ l∈zS C [],l.2.length<=1000:=fun l h=>(xP h6 l (by simpa using (q7 C []).1 h)).1
 unfold uV Uu;apply sN
 ·simp only[VU]; unfold maxLen; omega
 ·intro e he;have:=Wa _ _ 1000 sL e he;unfold maxLen; omega
 ·simp only[Ic]; unfold maxLen; omega
 ·intro e he;have:=K7 _ _ 1000 sT e he;unfold maxLen; omega
 ·simp only[VU]; unfold maxLen; omega
 ·intro e he;have:=Wa _ _ 1000 sC e he;unfold maxLen; omega
def zv {α:Type} (s:Int):List α->Nat->List α
 | [],_=>[]
 | e::es,i=>cond ((i:Int) != s) (e::zv s es (i+1)) (zv s es (i+1))
theorem tQ {α:Type} (s:Int):(es:List α)->(i:Nat)->(zv s es i).length<=es.length
 | [],_=>aE _
 | e::es,i=>by
  unfold zv;have:=tQ s es (i+1);cases ((i:Int) != s)<;>simp<;>omega
theorem Bc (s0:Int) (s8:List jI) (s10:List zc):(es:List zc)->(i:Nat)->(out:List zc)->out.length+es.length<=1000000->yi s0 s8 s10 es i out=some (s8,out++zv s0 es i,s10)
 | [],i,out,_=>by simp [yi,zv]
 | e::es,i,out,h=>by
  rw[ak] at h;unfold yi zv;cases ((i:Int) != s0) with
  | true =>
   rw[cond_true,cond_true,zm (show (out.length+([(e.1,e.2)]:List zc).length)*32<=140737488351232 by simp; omega),cond_true,Bc s0 s8 s10 es (i+1) _ (by simp; omega)]
   simp
  | false=>rw[cond_false,cond_false,Bc s0 s8 s10 es (i+1) out (by omega)]
theorem Dw (s0:Int) (s8:List jI) (s10:List zc):(es:List zc)->(i:Nat)->(out:List zc)->out.length+es.length<=1000000->yj s0 s8 s10 es i out=some (s8,out++zv s0 es i,s10)
 | [],i,out,_=>by simp [yj,zv]
 | e::es,i,out,h=>by
  rw[ak] at h;unfold yj zv;cases ((i:Int) != s0) with
  | true =>
   rw[cond_true,cond_true,zm (show (out.length+([(e.1,e.2)]:List zc).length)*32<=140737488351232 by simp; omega),cond_true,Dw s0 s8 s10 es (i+1) _ (by simp; omega)]
   simp
  | false=>rw[cond_false,cond_false,Dw s0 s8 s10 es (i+1) out (by omega)]
theorem KY {n:Nat} (h:n<=1000000):ZB (n:Int)=some []:=by
 unfold ZB;have e:ag .i64 ((n:Int) - 0)=(n:Int):=by rw[zn]<;>omega
 rw[e,decide_eq_false (show ¬((n:Int)<0) by omega),cond_false]
 by_cases h0:n=0
 ·subst h0; rfl
 ·rw[decide_eq_true (show (n:Int)>0 by omega),cond_true,show (eqI 0 0&&eqI 0 0)=true from rfl,cond_true,show AK (n:Int)=true from decide_eq_true (by omega),cond_true,bh,zm (by omega),cond_true]
  have:vI (ax n ([]:List Int)) none (some 0)=some []:=by
   show slc (ax n ([]:List Int)) 0 0=some [];unfold slc;rw[decide_eq_true (show (0:Int)<=0 by omega),decide_eq_true (show (0:Int)<=(((ax n ([]:List Int)).length:Nat):Int) by omega)]
   rfl
  rw[this]; rfl
theorem WF {n:Nat} (h:n<=1000000):sO (n:Int)=some []:=by
 unfold sO;have e:ag .i64 ((n:Int) - 0)=(n:Int):=by rw[zn]<;>omega
 rw[e,decide_eq_false (show ¬((n:Int)<0) by omega),cond_false]
 by_cases h0:n=0
 ·subst h0; rfl
 ·rw[decide_eq_true (show (n:Int)>0 by omega),cond_true,show (eqI 0 0&&eqI 0 0)=true from rfl,cond_true,show AK (n:Int)=true from decide_eq_true (by omega),cond_true,bh,zm (by omega),cond_true]
  have:∀ z:zc,vI (ax n z) none (some 0)=some []:=fun z=>by
   show slc (ax n z) 0 0=some [];unfold slc;rw[decide_eq_true (show (0:Int)<=0 by omega),decide_eq_true (show (0:Int)<=(((ax n z).length:Nat):Int) by omega)]
   rfl
  rw[this]; rfl
theorem XR {a b:List jI} (h:a.length+b.length<=1000000):sZ [a,b]=some (a++b):=by
 have w0:ag .i64 ((0:Int)+((a.length:Nat):Int))=((a.length:Nat):Int):=by rw[zn]<;>omega
 have w1:ag .i64 (((a.length:Nat):Int)+((b.length:Nat):Int))=((a.length+b.length:Nat):Int):=by rw[zn]<;>omega
 have e0:yp [a,b] 0=some ((a.length+b.length:Nat):Int):=by
  unfold yp;rw[w0,decide_eq_false (show ¬(((a.length:Nat):Int)<0) by omega),cond_false]
  unfold yp;rw[w1,decide_eq_false (show ¬(((a.length+b.length:Nat):Int)<0) by omega),cond_false]
  rfl
 have e1:yu [a,b] []=some (a++b):=by
  unfold yu;rw[zm (by simp; omega),cond_true,bj]
  unfold yu;rw[zm (by omega),cond_true]
  rfl
 unfold sZ;rw[jY _ _ _ (by unfold maxLen; simp),e0,af,KY h,af,Zp _ _ (by unfold maxLen; simp),e1]
 rfl
theorem kC {a b:List zc} (h:a.length+b.length<=1000000):vX [a,b]=some (a++b):=by
 have w0:ag .i64 ((0:Int)+((a.length:Nat):Int))=((a.length:Nat):Int):=by rw[zn]<;>omega
 have w1:ag .i64 (((a.length:Nat):Int)+((b.length:Nat):Int))=((a.length+b.length:Nat):Int):=by rw[zn]<;>omega
 have e0:zV [a,b] 0=some ((a.length+b.length:Nat):Int):=by
  unfold zV;rw[w0,decide_eq_false (show ¬(((a.length:Nat):Int)<0) by omega),cond_false]
  unfold zV;rw[w1,decide_eq_false (show ¬(((a.length+b.length:Nat):Int)<0) by omega),cond_false]
  rfl
 have e1:zW [a,b] []=some (a++b):=by
  unfold zW;rw[zm (by simp; omega),cond_true,bj]
  unfold zW;rw[zm (by omega),cond_true]
  rfl
 unfold vX;rw[kP _ _ _ (by unfold maxLen; simp),e0,af,WF h,af,kV _ _ (by unfold maxLen; simp),e1]
 rfl
theorem vY {L:List zc} {T:List jI} {C:List zc} {L':List zc} {T':List jI} {C':List zc} (i j:Int) (h1:L.length<=1000) (h2:T.length<=1000) (h3:C.length<=1000) (h4:L'.length<=1000) (h5:T'.length<=1000) (h6:C'.length<=1000) :
  wZ L T C i L' T' C' j=some (T++T',zv i L 0++zv j L' 0,C++C'):=by
 have hw:=tQ i L 0;unfold wZ;rw[XR (by omega),af,kC (by omega),af,
  ZU _ _ _ _ _ _ _ _ _ (by unfold maxLen; omega),Bc _ _ _ _ _ _ (by simp; omega),af]
 simp only[bj];rw[ZQ _ _ _ _ _ (by unfold maxLen; omega),Dw _ _ _ _ _ _ (by omega),af]
theorem zaW {L:List zc} {i:Int} (h0:0<=i) (h:i<L.length):∃ l,gx L i=some l∧l∈L∧L[i.toNat]? = some l:=Kx h0 h
def yk (L:List zc) (i:Int):Bool:=decide (0<=i)&&decide (i<L.length)
theorem rO (L:List zc) (T:List jI) (C:List zc) (i:Int):uU L T C i=some (yk L i):=by
 unfold uU yk;by_cases h:0<=i
 ·rw[decide_eq_true h]; rfl
 ·rw[decide_eq_false h]; rfl
def Kg (L:List zc) (T:List jI) (C:List zc) (i:Int):List zc×List jI×List zc :=
 uV (zv i L 0) T (C++[(!((L[i.toNat]?).getD (false,[])).1,((L[i.toNat]?).getD (false,[])).2)])
theorem vZ {α:Type} {s:Int} {x:α}:(es:List α)->(i:Nat)->x∈zv s es i->x∈es
 | [],_,h=>by cases h
 | e::es,i,h=>by
  unfold zv at h;cases hb:((i:Int) != s) with
  | true =>
   rw[hb,cond_true] at h;rcases aC.1 h with rfl | h
   ·exact aj ..
   ·exact ai _ (vZ es (i+1) h)
  | false=>rw[hb,cond_false] at h; exact ai _ (vZ es (i+1) h)
theorem VS {s:Int}:(es:List zc)->(i:Nat)->(l:zc)->(0<=s - i)->es[(s - i).toNat]? = some l->(zv s es i).length+1=es.length∧zi ((zv s es i).map (·.2))+l.2.length=zi (es.map (·.2))
 | [],i,l,_,h=>by simp at h
 | e::es,i,l,h0,h=>by
  by_cases hs:s=(i:Int)
  ·subst hs;simp only[Int.sub_self,Int.toNat_zero,aB] at h;injection h with h; subst h;have hw:∀(xs:List zc) (j:Nat),i<j->zv (i:Int) xs j=xs:=by
    intro xs
    induction xs with
    | nil=>intro j _; rfl
    | cons x xs ih =>
     intro j hj;unfold zv;rw[show ((j:Int) != (i:Int))=true from by simp; omega,cond_true,ih (j+1) (by omega)]
   unfold zv;rw[show ((i:Int) != (i:Int))=false from by simp,cond_false,hw es (i+1) (by omega)]
   refine ⟨by simp,?_⟩
   simp [zi]; omega
  ·obtain⟨n,hn⟩:∃ n,(s - i).toNat=n+1:=⟨(s - i).toNat - 1,by omega⟩
   rw[hn,List.getElem?_cons_succ] at h;obtain⟨k1,k2⟩:=VS (s:=s) es (i+1) l (by omega) (by rw[show (s - ((i+1:Nat):Int)).toNat=n by omega]; exact h)
   unfold zv;rw[show ((i:Int) != s)=true from by simp; omega,cond_true]
   refine ⟨by simp; omega,?_⟩
   simp only[zi,aN,cB] at k2 ⊢;omega
theorem K0 {a0:List zh} {L:List zc} {T:List jI} {C:List zc} {i:Int} {l:zc} (h:wm a0 L T C=true) (h0:0<=i) (hl:L[i.toNat]? = some l) (hC:C.length<3) :
  wm a0 (zv i L 0) T (C++[(!l.1,l.2)])=true:=by
 obtain⟨h1,h2,h3,h4,h5,h6,h7,h8⟩:=zK h;obtain⟨k1,k2⟩:=VS (s:=i) L 0 l (by omega) (by simpa using hl)
 have hm:l∈L:=aP hl;refine DE h1 (by omega) h3 (by simp; omega) ?_ h6 ?_ ?_
 ·unfold tO;exact aH.2 fun x hx=>aH.1 h5 x (vZ L 0 hx)
 ·unfold tO at h7 ⊢;rw[List.all_append,h7];have:=aH.1 h5 l hm;simpa using this
 ·simp only[zi,List.map_append,List.sum_append,aN,List.map_nil,cB,List.sum_nil] at k2 h8 ⊢;omega
theorem WL (a0:List zh) (L:List zc) (T:List jI) (C:List zc) (i:Int):va a0 L T C i=some (cond (wm a0 L T C&&yk L i)
  (cond (decide (C.length=3)) ([],[],1401,[]) ((Kg L T C i).1,(Kg L T C i).2.1,0,(Kg L T C i).2.2)) ([],[],1400,[])):=by
 unfold va;rw[yB,af];cases hm:wm a0 L T C with
 | false=>rfl
 | true =>
  rw[az,cond_false,rO,af,aO];cases hp:yk L i with
  | false=>rfl
  | true =>
   obtain⟨h1,h2,h3,h4,h5,h6,h7,h8⟩:=zK hm;rw[az,cond_false,cond_true];by_cases hC:C.length=3
   ·rw[hC]; rfl
   ·rw[show (((aa C:Nat):Int)==3)=false from by simp; omega,cond_false,decide_eq_false hC,cond_false,vY i (-1) (by omega) (by omega) (by omega) (by simp) (by simp) (by simp),af]
    unfold yk at hp;simp only[ay,decide_eq_true_eq] at hp;obtain⟨l,g1,g2,g3⟩:=zaW hp.1 hp.2;have hsm:=xP h5 l g2;have hls:=hsm.1;rw[g1,af];unfold Yy;rw[zZ (by omega),af,af]
    simp only[List.append_nil,zv];rw[zm (by simp; omega),cond_true,xk,K0 hm hp.1 g3 (by omega),af]
    unfold Kg;rw[g3];rfl
def to0:List (Option jI×Int):=ax 48 ((none:Option jI),(0:Int))
theorem Tq {k:Nat} (h:k<48):to0[k]? = some (none,0):=by
 unfold to0;rw[List.getElem?_replicate,if_pos h]
theorem Ag {α:Type} (xs:List α) (y:α):vI (xs++[y]) none (some (xs.length:Int))=some xs:=by
 show slc (xs++[y]) 0 (xs.length:Int)=some xs;unfold slc;rw[decide_eq_true (show (0:Int)<=0 by omega),decide_eq_true (show (0:Int)<=(xs.length:Int) by omega),decide_eq_true (show (xs.length:Int)<=(((xs++[y]).length:Nat):Int) by simp; omega)]
 simp
theorem NF (ps:List jI):zi ps=ps.flatten.length:=by
 induction ps with
 | nil=>rfl
 | cons p ps ih =>
  unfold zi at ih ⊢;simp only[aN,cB,eV,al,ih]
def sG (s:List (Int×List Int)) (v:Int):Option jI:=(s.find? fun b=>b.1==v).map (·.2)
def onC (s:List (Int×List Int)) (c:Int):List Int:=cond (decide (c≥0)) [c] ((sG s (-1 - c)).getD [c])
def onB (s:List (Int×List Int)) (r:List Int):List Int:=r.flatMap (onC s)
structure BindsOk (s:List (Int×List Int)):Prop where
 len:s.length<=1000
 all:∀ b∈s,b.2≠[]∧b.2.length<=1000
theorem Ao (v:Int):(es:List (Int×List Int))->xS v es=some (match sG es v with
  | none=>.inl ()
  | some t=>.inr t)
 | []=>rfl
 | e::es=>by
  unfold xS sG;rw[List.find?_cons];cases he:(e.1==v) with
  | true=>rfl
  | false =>
   rw[cond_false,Ao v es];rfl
theorem IW {s:List (Int×List Int)} {v:Int} {t:List Int} (h:sG s v=some t):∃ b∈s,b.1=v∧b.2=t:=by
 unfold sG at h;obtain⟨b,hb,rfl⟩:=bw.1 h;exact ⟨b,List.mem_of_find?_eq_some hb,by simpa using List.find?_some hb,rfl⟩
theorem XI {α:Type} {xs:List α} (h:xs≠[]):nn xs=some xs:=by
 cases xs with
 | nil=>exact absurd rfl h
 | cons x xs=>rfl
theorem I6 {s:List (Int×List Int)} (h:BindsOk s) (v:Int):Yf s v=some (sG s v):=by
 unfold Yf;rw[QR _ _ (by have:=h.len; unfold maxLen; omega),Ao]
 cases hl:sG s v with
 | none=>rfl
 | some t =>
  obtain⟨b,hb,-,rfl⟩:=IW hl;show (nn b.2).bind _=_;rw[XI (h.all b hb).1];rfl
theorem S9 {s:List (Int×List Int)} (h:BindsOk s) (c:Int):(onC s c).length<=1000:=by
 unfold onC;cases decide (c≥0) with
 | true=>simp
 | false =>
  cases hl:sG s (-1 - c) with
  | none=>simp
  | some t =>
   obtain⟨b,hb,-,rfl⟩:=IW hl;exact (h.all b hb).2
theorem IR {s:List (Int×List Int)} (h:BindsOk s):(es:List Int)->(out:List Int)->(∀ c∈es,-1000000<=c∧c<=1000000)->out.length+1000*es.length<=10000000->qR s es out=some (out++onB s es)
 | [],out,_,_=>by simp [qR,onB]
 | e::es,out,hc,hl=>by
  rw[ak] at hl;have he:=hc e (aj ..);have ih:=fun out' hl'=>IR h es out' (fun c hx=>hc c (ai _ hx)) hl';have hcl:=S9 h e;have hB:onB s (e::es)=onC s e++onB s es:=by simp [onB]
  unfold qR;rw[qm (by omega) (by omega),af,I6 h,af,hB]
  unfold onC at hcl ⊢;by_cases h0:e≥0
  ·rw[decide_eq_true h0,cond_true,cond_true,zm (show (out.length+([e]:List Int).length)*8<=140737488351232 by simp; omega),cond_true,ih _ (by simp; omega)]
   simp
  ·rw[decide_eq_false h0] at hcl ⊢;simp only[cond_false] at hcl ⊢;cases hl2:sG s (-1 - e) with
   | none =>
    simp only[Option.isNone_none,cond_true,Option.getD_none];rw[zm (show (out.length+([e]:List Int).length)*8<=140737488351232 by simp; omega),cond_true,ih _ (by simp; omega)]
    simp
   | some t =>
    rw[hl2] at hcl;simp only[bk] at hcl;simp only[cp,cond_false,bk];rw[zm (by omega),cond_true,ih _ (by simp; omega)]
    simp
theorem rk {s:List (Int×List Int)} (h:BindsOk s) {r:List Int} (hl:r.length<=1000) (hc:∀ c∈r,-1000000<=c∧c<=1000000):Zt s r=some (onB s r):=by
 unfold Zt;rw[XP _ _ _ (by unfold maxLen; omega),IR h r [] hc (by simp; omega)]
 rfl
def uW (r:List Int):Prop:=r.length<=1000∧∀ c∈r,-1000000<=c∧c<=1000000
def KB (s:List (Int×List Int)) (ls:List zc):List zc:=ls.map fun l=>(l.1,onB s l.2)
def Et (s:List (Int×List Int)) (rs:List jI):List jI:=rs.map (onB s)
theorem GL {s:List (Int×List Int)} (h:BindsOk s):(es out:List zc)->(∀ l∈es,uW l.2)->out.length+es.length<=1000000->qj s es out=some (out++KB s es)
 | [],out,_,_=>by simp [qj,KB]
 | e::es,out,hn,hl=>by
  rw[ak] at hl;have he:=hn e (aj ..);unfold qj xp;rw[rk h he.1 he.2,af,af,zm (show (out.length+([(e.1,onB s e.2)]:List zc).length)*32<=140737488351232 by simp; omega),cond_true,
   GL h es _ (fun l hl=>hn l (ai _ hl)) (by simp; omega)]
  simp [KB]
theorem GI {s:List (Int×List Int)} (h:BindsOk s) (s7:List zc):(es out:List jI)->(∀ l∈es,uW l)->out.length+es.length<=1000000->qi s s7 es out=some (s7,out++Et s es)
 | [],out,_,_=>by simp [qi,Et]
 | e::es,out,hn,hl=>by
  rw[ak] at hl;have he:=hn e (aj ..);unfold qi xp;rw[rk h he.1 he.2,af,af,zm (show (out.length+([onB s e]:List jI).length)*24<=140737488351232 by simp; omega),cond_true,
   GI h s7 es _ (fun l hl=>hn l (ai _ hl)) (by simp; omega)]
  simp [Et]
theorem IS {s:List (Int×List Int)} (h:BindsOk s) (s4:List zc) (s5:List jI):(es out:List zc)->(∀ l∈es,uW l.2)->out.length+es.length<=1000000->qe s s4 s5 es out=some (s4,s5,out++KB s es)
 | [],out,_,_=>by simp [qe,KB]
 | e::es,out,hn,hl=>by
  rw[ak] at hl;have he:=hn e (aj ..);unfold qe xp;rw[rk h he.1 he.2,af,af,zm (show (out.length+([(e.1,onB s e.2)]:List zc).length)*32<=140737488351232 by simp; omega),cond_true,
   IS h s4 s5 es _ (fun l hl=>hn l (ai _ hl)) (by simp; omega)]
  simp [KB]
theorem GQ {s:List (Int×List Int)} (h:BindsOk s) {L:List zc} {T:List jI} {C:List zc} (hL:∀ l∈L,uW l.2) (hT:∀ l∈T,uW l) (hC:∀ l∈C,uW l.2) (h1:L.length<=1000) (h2:T.length<=1000) (h3:C.length<=1000) :
  t6 s L T C=some (KB s L,Et s T,KB s C):=by
 unfold t6 Qj;rw[YD _ _ _ _ _ _ (by unfold maxLen; omega),GL h L [] hL (by simp; omega),af,
  Z9 _ _ _ _ _ _ _ (by unfold maxLen; omega),GI h _ T [] hT (by simp; omega),af,
  Yt _ _ _ _ _ (by unfold maxLen; omega),IS h _ _ C [] hC (by simp; omega),af]
 simp
def sU (a0:Int):Option jI :=
 cond (decide (a0<0))
 (none)
 (cond (decide ((ag .i64 (a0 - 0))>0))
  (cond (eqI 0 0&&eqI 0 0)
   (cond (AK (ag .i64 (a0 - 0)))
    (cond (yb (bb (ag .i64 (a0 - 0))) 8)
     ((vI (ax (bb (ag .i64 (a0 - 0))) (0:Int)) none (some 0)).bind fun y2 =>
      some y2)
     (none))
    (none))
   (none))
  (some ([]:jI)))
def xf (rec:(jR×Int×Int×jI)->Option jI) (x:(jR×Int×Int×jI)):Option jI :=
 cond (decide (x.2.2.1<x.2.1))
 ((gx x.1 x.2.2.1).bind fun e7 =>
  cond (yb (aa x.2.2.2+aa e7) 8)
  (rec (x.1,x.2.1,(ag .i64 (x.2.2.1+1)),(x.2.2.2++e7)))
  (none))
 (some x.2.2.2)
def xd (rec:(jR×Int×jR×Int×Int)->Option Int) (x:(jR×Int×jR×Int×Int)):Option Int :=
 cond (decide (x.2.2.2.2<x.2.2.2.1))
 ((gx x.2.2.1 x.2.2.2.2).bind fun e2 =>
  cond (decide ((ag .i64 (x.2.1+((aa e2:Nat):Int)))<0))
  (none)
  (rec (x.1,(ag .i64 (x.2.1+((aa e2:Nat):Int))),x.2.2.1,x.2.2.2.1,(ag .i64 (x.2.2.2.2+1)))))
 (some x.2.1)
def wO (a0:jR):Option jI :=
 ((lp xd zd) (a0,0,a0,((aa a0:Nat):Int),0)).bind fun r9 =>
 (sU r9).bind fun r10 =>
 ((lp xf zd) (a0,((aa a0:Nat):Int),0,r10)).bind fun r11 =>
 some r11
def zL:List jI->jI->Option jI
 | [],s3=>some s3
 | e::es,s3 =>
  cond (yb (aa s3+aa e) 8)
  (zL es (s3++e))
  (none)
theorem kO (s0:jR) (s3:jI) (hl:aa s0<=maxLen):lp xf zd (s0,((aa s0:Nat):Int),0,s3)=zL s0 s3:=xB xf (fun i s3=>(s0,((aa s0:Nat):Int),i,s3)) (fun es i s3=>zL es s3) hl (fun r i s3 h=>by unfold xf zL; simp only[h,cond_false]) (fun r i s3 e es h g w k=>by unfold xf zL; simp only[h,cond_true,g,af,w,k]) s3
def zN:List jI->Int->Option Int
 | [],s1=>some s1
 | e::es,s1 =>
  cond (decide ((ag .i64 (s1+((aa e:Nat):Int)))<0))
  (none)
  (zN es (ag .i64 (s1+((aa e:Nat):Int))))
theorem kS (s0:jR) (s2:jR) (s1:Int) (hl:aa s2<=maxLen):lp xd zd (s0,s1,s2,((aa s2:Nat):Int),0)=zN s2 s1:=xB xd (fun i s1=>(s0,s1,s2,((aa s2:Nat):Int),i)) (fun es i s1=>zN es s1) hl (fun r i s1 h=>by unfold xd zN; simp only[h,cond_false]) (fun r i s1 e es h g w k=>by unfold xd zN; simp only[h,cond_true,g,af,w,k]) s1
def zdS (c:UInt8):Bool:=Xd ((bE c:Nat):Int)
def zdQ (c:UInt8):Bool:=decide (((bE c:Nat):Int)≥48)&&decide (((bE c:Nat):Int)<=57)
def zdI (b:Bool) (c:UInt8):Bool:=zdQ c||(b&&zdS c)
def Stop (c:Str):Prop:=c.takeWhile (zdI true)=[]
theorem Wy {n:Nat} (h:n<=10000000):sU (n:Int)=some []:=by
 unfold sU;have e:ag .i64 ((n:Int) - 0)=(n:Int):=by rw[zn]<;>omega
 rw[e,decide_eq_false (show ¬((n:Int)<0) by omega),cond_false]
 by_cases h0:n=0
 ·subst h0; rfl
 ·rw[decide_eq_true (show (n:Int)>0 by omega),cond_true,show (eqI 0 0&&eqI 0 0)=true from rfl,cond_true,show AK (n:Int)=true from decide_eq_true (by omega),cond_true,bh,zm (by omega),cond_true]
  have:∀ z:Int,vI (ax n z) none (some 0)=some []:=fun z=>by
   show slc (ax n z) 0 0=some [];unfold slc;rw[decide_eq_true (show (0:Int)<=0 by omega),decide_eq_true (show (0:Int)<=(((ax n z).length:Nat):Int) by omega)]
   rfl
  rw[this]; rfl
theorem BG {a b c:List Int} (h:a.length+b.length+c.length<=9000000):wO [a,b,c]=some ((a++b)++c):=by
 have w0:ag .i64 ((0:Int)+((a.length:Nat):Int))=((a.length:Nat):Int):=by rw[zn]<;>omega
 have w1:ag .i64 (((a.length:Nat):Int)+((b.length:Nat):Int))=((a.length+b.length:Nat):Int):=by rw[zn]<;>omega
 have w2:ag .i64 (((a.length+b.length:Nat):Int)+((c.length:Nat):Int))=((a.length+b.length+c.length:Nat):Int):=by rw[zn]<;>omega
 have e0:zN [a,b,c] 0=some ((a.length+b.length+c.length:Nat):Int):=by
  unfold zN;rw[w0,decide_eq_false (show ¬(((a.length:Nat):Int)<0) by omega),cond_false]
  unfold zN;rw[w1,decide_eq_false (show ¬(((a.length+b.length:Nat):Int)<0) by omega),cond_false]
  unfold zN;rw[w2,decide_eq_false (show ¬(((a.length+b.length+c.length:Nat):Int)<0) by omega),cond_false]
  rfl
 have e1:zL [a,b,c] []=some ((a++b)++c):=by
  unfold zL;rw[zm (by simp; omega),cond_true,bj]
  unfold zL;rw[zm (by omega),cond_true]
  unfold zL;rw[zm (by simp; omega),cond_true]
  rfl
 unfold wO;rw[kS _ _ _ (by unfold maxLen; simp),e0,af,Wy (by omega),af,kO _ _ (by unfold maxLen; simp),e1]
 rfl
theorem OY {a0:List zh}:{xs:List Int}->{n m:Nat}->{ys:List Int}->sk a0 n xs=some xs.length->sk a0 m ys=some ys.length->sk a0 (n+m) (xs++ys)=some (xs++ys).length
 | [],0,m,ys,_,h=>by rw[aR]; exact h
 | [],n+1,m,ys,h,_=>by simp [sk] at h
 | x::xs,0,m,ys,h,_=>by simp [sk] at h
 | x::xs,n+1,m,ys,h,h'=>by
  unfold sk at h;cases ha:v7 a0 x with
  | none=>rw[ha] at h; cases h
  | some k =>
   rw[ha] at h;simp only[bw,ak] at h;obtain⟨j,hj,hjl⟩:=h;have hj2:j=xs.length:=by omega
   subst hj2;have ih:=OY hj h';rw[show n+1+m=(n+m)+1 from by omega,List.cons_append]
   unfold sk;rw[ha];simp only;rw[show n+m+k=n+k+m from by omega,ih]
   rfl
theorem Ls {a0:List zh} {x:Int} {q:Nat} (h:v7 a0 x=some q):x<0∨x<a0.length:=by
 by_cases hx:x<0
 ·exact .inl hx
 ·obtain⟨e,-,he,-⟩:=GT h hx;have:=(au.1 he).1;exact .inr (by omega)
theorem Qo {a0:List zh}:{xs:List Int}->{n k:Nat}->sk a0 n xs=some k->∀ c∈xs.take k,c<0∨c<a0.length
 | [],n,k,h,c,hc=>by simp at hc
 | x::xs,0,k,h,c,hc=>by
  simp [sk] at h; subst h; simp at hc
 | x::xs,n+1,k,h,c,hc=>by
  unfold sk at h;cases ha:v7 a0 x with
  | none=>rw[ha] at h; cases h
  | some m =>
   rw[ha] at h;simp only[bw] at h;obtain⟨j,hj,rfl⟩:=h;rw[eF] at hc;rcases aC.1 hc with rfl | hc
   ·exact Ls ha
   ·exact Qo hj c hc
theorem Ii {a0:List zh} (hs:SignOk a0) {xs:List Int} {ps:List jI} (h:WE a0 xs=some ps):∀ c∈xs,-24<=c∧c<20:=by
 obtain⟨h1,h2⟩:=Z6 xs.length xs ps (aE _) h;have hl:=hs.len;intro c hc;refine ⟨XM h c hc,?_⟩;rw[← h1] at hc;obtain⟨p,hp,hcp⟩:=fg.1 hc;have:=Qo (h2 p hp).2 c;rw[dQ] at this;rcases this hcp with h | h<;>omega
theorem CA {a0:List zh} (hs:SignOk a0) {xs:List Int} (h:ua a0 xs=true):uW xs:=by
 obtain⟨x,r,e,ps,rfl,h0,he,-,-,-,hl,hc,-⟩:=Y3 h;have:=(au.1 he).1;have hl2:=hs.len;refine ⟨by simp; omega,fun c hcm => ?_⟩
 rcases aC.1 hcm with rfl | hcm
 ·omega
 ·have:=Ii hs hc c hcm; omega
theorem ry {a0:List zh} (hs:SignOk a0) {ls:List zc} (h:tO a0 ls=true):∀ l∈ls,uW l.2:=fun l hl=>CA hs (aH.1 h l hl)
theorem Wb {a0:List zh} (hs:SignOk a0) {rs:List jI} (h:j4 a0 rs=true):∀ r∈rs,uW r:=fun r hr=>by
 obtain⟨n,hn⟩:=Q8 h;obtain⟨ps,hc,-,hl,-⟩:=Kj (hn r hr);exact ⟨by omega,fun c hcm=>by have:=Ii hs hc c hcm; omega⟩
def u6 (a0:jQ) (_a1:jR) (_a2:jQ) (a3:Int):Option Bool :=
 cond (decide (a3≥0))
 (some (decide (a3<((aa a0:Nat):Int))))
 (some false)
def Xt (a0:Int):Option Bool :=
 some (a0 != a0)
def WQ (a0:Int) (a1:Int):Option Bool :=
 (Xt a0).bind fun r3 =>
 cond r3
 ((Xt a1).bind fun r4 =>
  cond (!r4)
  (some true)
  (some (decide (a0<a1))))
 (some (decide (a0<a1)))
def sc (a0:Int):Option Bool :=
 some (a0 != a0)
def yQ (rec:(jI×Int×Int×Int×Int)->Option Int) (x:(jI×Int×Int×Int×Int)):Option Int :=
 cond (decide (x.2.2.2.1<x.2.2.2.2))
 ((gx x.1 (ag .i64 (gC (ag .u64 (ag .i64 (x.2.2.2.1+x.2.2.2.2))) (2 ^ min (bb 1) (dr .u64))))).bind fun e3 =>
  (WQ e3 x.2.1).bind fun r4 =>
  cond r4
  (rec (x.1,x.2.1,x.2.2.1,(ag .i64 ((ag .i64 (gC (ag .u64 (ag .i64 (x.2.2.2.1+x.2.2.2.2))) (2 ^ min (bb 1) (dr .u64))))+1)),x.2.2.2.2))
  (rec (x.1,x.2.1,x.2.2.1,x.2.2.2.1,(ag .i64 (gC (ag .u64 (ag .i64 (x.2.2.2.1+x.2.2.2.2))) (2 ^ min (bb 1) (dr .u64)))))))
 (some x.2.2.2.1)
def xR (a0:jI) (a1:Int):Option (Int×Bool) :=
 ((lp yQ zd) (a0,a1,((aa a0:Nat):Int),0,((aa a0:Nat):Int))).bind fun r10 =>
 cond (decide (r10<((aa a0:Nat):Int)))
 ((gx a0 r10).bind fun e11 =>
  cond (e11==a1)
  (some (r10,true))
  ((gx a0 r10).bind fun e12 =>
   (sc e12).bind fun r13 =>
   cond r13
   ((sc a1).bind fun r14 =>
    some (r10,r14))
   (some (r10,false))))
 (some (r10,false))
def sQ (a0:Int) (a1:jI) (a2:jI):Option jI:=Ut a0 a1 a2
def vE (rec:(jI×Int×Int×jI)->Option jI) (x:(jI×Int×Int×jI)):Option jI :=
 cond (decide (x.2.2.1<x.2.1))
 ((gx x.1 x.2.2.1).bind fun e11 =>
  cond (decide (e11≥0))
  (rec (x.1,x.2.1,(ag .i64 (x.2.2.1+1)),x.2.2.2))
  ((zP e11).bind fun r12 =>
   (xR x.2.2.2 r12).bind fun r13 =>
   cond (!r13.2)
   ((zP e11).bind fun r14 =>
    (sQ r13.1 x.2.2.2 ([r14]:List Int)).bind fun r15 =>
    rec (x.1,x.2.1,(ag .i64 (x.2.2.1+1)),r15))
   (rec (x.1,x.2.1,(ag .i64 (x.2.2.1+1)),x.2.2.2))))
 (some x.2.2.2)
def uE (a0:jI) (a1:jI):Option jI :=
 ((lp vE zd) (a0,((aa a0:Nat):Int),0,a1)).bind fun r17 =>
 some r17
def vt (rec:(jR×Int×Int×jI)->Option jI) (x:(jR×Int×Int×jI)):Option jI :=
 cond (decide (x.2.2.1<x.2.1))
 ((gx x.1 x.2.2.1).bind fun e12 =>
  (uE e12 x.2.2.2).bind fun r13 =>
  rec (x.1,x.2.1,(ag .i64 (x.2.2.1+1)),r13))
 (some x.2.2.2)
def vy (rec:(jQ×Int×Int×jQ×jR×jQ×jI)->Option jI) (x:(jQ×Int×Int×jQ×jR×jQ×jI)):Option jI :=
 cond (decide (x.2.2.1<x.2.1))
 ((gx x.1 x.2.2.1).bind fun e7 =>
  (uE e7.2 x.2.2.2.2.2.2).bind fun r8 =>
  rec (x.1,x.2.1,(ag .i64 (x.2.2.1+1)),x.2.2.2.1,x.2.2.2.2.1,x.2.2.2.2.2.1,r8))
 (some x.2.2.2.2.2.2)
def qr (a0:jS) (a1:jQ) (a2:jR) (a3:jQ):Option (Int×jI) :=
 (qx a0 a1 a2 a3).bind fun r15 =>
 cond (!r15)
 (some (800,([]:jI)))
 ((vX ([a1,a3]:List jQ)).bind fun r16 =>
  ((lp vy zd) (r16,((aa r16:Nat):Int),0,a1,a2,a3,([]:jI))).bind fun r17 =>
  ((lp vt zd) (a2,((aa a2:Nat):Int),0,r17)).bind fun r18 =>
  some (0,r18))
def qt (rec:(Int×Int×Int×jI)->Option jI) (x:(Int×Int×Int×jI)):Option jI :=
 cond (decide (x.2.1<x.1))
 ((inR x.2.1 (aa x.2.2.2)).bind fun k6 =>
  (x.2.2.2[k6]?).bind fun x7 =>
  cond (decide (x7<0))
  ((inR x.2.1 (aa x.2.2.2)).bind fun k8 =>
   (x.2.2.2[k8]?).bind fun _x9 =>
   rec (x.1,(ag .i64 (x.2.1+1)),x.2.2.1,(bn x.2.2.2 k8 (ag .i64 (x7 - x.2.2.1)))))
  (rec (x.1,(ag .i64 (x.2.1+1)),x.2.2.1,x.2.2.2)))
 (some x.2.2.2)
def qn (a0:jI) (a1:Int):Option jI :=
 (zB a0).bind fun r11 =>
 ((lp qt zd) (((aa r11:Nat):Int),0,a1,r11)).bind fun r12 =>
 some r12
def wg (rec:(jQ×Int×Int×Int×jQ×jR×jQ)->Option (jQ×jR×jQ)) (x:(jQ×Int×Int×Int×jQ×jR×jQ)):Option (jQ×jR×jQ) :=
 cond (decide (x.2.2.1<x.2.1))
 ((gx x.1 x.2.2.1).bind fun e19 =>
  (qn e19.2 x.2.2.2.1).bind fun r20 =>
  cond (yb (aa x.2.2.2.2.2.2+aa ([(e19.1,r20)]:List zc)) 32)
  (rec (x.1,x.2.1,(ag .i64 (x.2.2.1+1)),x.2.2.2.1,x.2.2.2.2.1,x.2.2.2.2.2.1,(x.2.2.2.2.2.2++([(e19.1,r20)]:List zc))))
  (none))
 (some (x.2.2.2.2.1,x.2.2.2.2.2.1,x.2.2.2.2.2.2))
def wc (rec:(jR×Int×Int×Int×jQ×jR×jQ×jQ×jR)->Option (jQ×jR)) (x:(jR×Int×Int×Int×jQ×jR×jQ×jQ×jR)):Option (jQ×jR) :=
 cond (decide (x.2.2.1<x.2.1))
 ((gx x.1 x.2.2.1).bind fun e12 =>
  (qn e12 x.2.2.2.1).bind fun r13 =>
  cond (yb (aa x.2.2.2.2.2.2.2.2+aa ([r13]:List jI)) 24)
  (rec (x.1,x.2.1,(ag .i64 (x.2.2.1+1)),x.2.2.2.1,x.2.2.2.2.1,x.2.2.2.2.2.1,x.2.2.2.2.2.2.1,x.2.2.2.2.2.2.2.1,(x.2.2.2.2.2.2.2.2++([r13]:List jI))))
  (none))
 (some (x.2.2.2.2.2.2.2.1,x.2.2.2.2.2.2.2.2))
def xV (rec:(jQ×Int×Int×Int×jQ×jR×jQ×jQ)->Option jQ) (x:(jQ×Int×Int×Int×jQ×jR×jQ×jQ)):Option jQ :=
 cond (decide (x.2.2.1<x.2.1))
 ((gx x.1 x.2.2.1).bind fun e5 =>
  (qn e5.2 x.2.2.2.1).bind fun r6 =>
  cond (yb (aa x.2.2.2.2.2.2.2+aa ([(e5.1,r6)]:List zc)) 32)
  (rec (x.1,x.2.1,(ag .i64 (x.2.2.1+1)),x.2.2.2.1,x.2.2.2.2.1,x.2.2.2.2.2.1,x.2.2.2.2.2.2.1,(x.2.2.2.2.2.2.2++([(e5.1,r6)]:List zc))))
  (none))
 (some x.2.2.2.2.2.2.2)
def j7 (a0:jQ) (a1:jR) (a2:jQ) (a3:Int):Option (jQ×jR×jQ) :=
 ((lp xV zd) (a0,((aa a0:Nat):Int),0,a3,a0,a1,a2,([]:jQ))).bind fun r22 =>
 ((lp wc zd) (a1,((aa a1:Nat):Int),0,a3,a0,a1,a2,r22,([]:jR))).bind fun r23 =>
 ((lp wg zd) (a2,((aa a2:Nat):Int),0,a3,r23.1,r23.2,([]:jQ))).bind fun r24 =>
 some (r24.1,r24.2.1,r24.2.2)
def zH (a0:jQ) (a1:jR) (a2:jQ) (a3:Int):Option (jQ×jR×jQ) :=
 (j7 a0 a1 a2 a3).bind fun r2 =>
 some (r2.1,r2.2.1,r2.2.2)
def vj (a0:jS) (a1:jQ) (a2:jR) (a3:jQ) (a4:jQ) (a5:jR) (a6:jQ):Option (jQ×jR×Bool×jQ) :=
 (qr a0 a1 a2 a3).bind fun r14 =>
 cond (decide (((aa r14.2:Nat):Int)>0))
 ((inR (ag .i64 (((aa r14.2:Nat):Int) - 1)) (aa r14.2)).bind fun k15 =>
  (r14.2[k15]?).bind fun x16 =>
  (qr a0 a4 a5 a6).bind fun r17 =>
  cond (decide (((aa r17.2:Nat):Int)>0))
  ((inR (ag .i64 (((aa r17.2:Nat):Int) - 1)) (aa r17.2)).bind fun k18 =>
   (r17.2[k18]?).bind fun x19 =>
   cond (decide ((ag .i64 (x19+(ag .i64 (x16+1))))>23))
   (some (([]:jQ),([]:jR),false,([]:jQ)))
   ((zH a4 a5 a6 (ag .i64 (x16+1))).bind fun r20 =>
    some (r20.1,r20.2.1,true,r20.2.2)))
  ((zH a4 a5 a6 (ag .i64 (x16+1))).bind fun r21 =>
   some (r21.1,r21.2.1,true,r21.2.2)))
 ((qr a0 a4 a5 a6).bind fun r22 =>
  cond (decide (((aa r22.2:Nat):Int)>0))
  ((inR (ag .i64 (((aa r22.2:Nat):Int) - 1)) (aa r22.2)).bind fun k23 =>
   (r22.2[k23]?).bind fun x24 =>
   cond (decide ((ag .i64 (x24+0))>23))
   (some (([]:jQ),([]:jR),false,([]:jQ)))
   ((zH a4 a5 a6 0).bind fun r25 =>
    some (r25.1,r25.2.1,true,r25.2.2)))
  ((zH a4 a5 a6 0).bind fun r26 =>
   some (r26.1,r26.2.1,true,r26.2.2)))
def w8 (a0:jS) (a1:jQ) (a2:jR) (a3:jQ) (a4:Int) (a5:jQ) (a6:jR) (a7:jQ) (a8:Int):Option (jQ×jR×Bool×Int×jQ) :=
 (gx a1 a4).bind fun e16 =>
 (gx a5 a8).bind fun e17 =>
 cond (e16.1==e17.1)
 (some (([]:jQ),([]:jR),false,0,([]:jQ)))
 ((gx a1 a4).bind fun e18 =>
  (gx e18.2 0).bind fun e19 =>
  (gx a5 a8).bind fun e20 =>
  (gx e20.2 0).bind fun e21 =>
  cond (e19 != e21)
  (some (([]:jQ),([]:jR),false,0,([]:jQ)))
  ((vj a0 a1 a2 a3 a5 a6 a7).bind fun r22 =>
   cond (!r22.2.2.1)
   (some (([]:jQ),([]:jR),false,1301,([]:jQ)))
   ((gx a1 a4).bind fun e23 =>
    (vI e23.2 (some 1) none).bind fun y24 =>
    (gx r22.1 a8).bind fun e25 =>
    (vI e25.2 (some 1) none).bind fun y26 =>
    (vQ a0 y24 y26).bind fun r27 =>
    cond (r27.2.1 != 0)
    (some (([]:jQ),([]:jR),false,1302,([]:jQ)))
    (cond (!r27.1)
     (some (([]:jQ),([]:jR),false,0,([]:jQ)))
     ((wZ a1 a2 a3 a4 r22.1 r22.2.1 r22.2.2.2 a8).bind fun r28 =>
      (t6 r27.2.2 r28.2.1 r28.1 r28.2.2).bind fun r29 =>
      (qQ a0 r29.1 r29.2.1 r29.2.2).bind fun r30 =>
      cond (r30.2.2.1 != 0)
      (some (([]:jQ),([]:jR),false,1302,([]:jQ)))
      (some (r30.1,r30.2.1,true,0,r30.2.2.2)))))))
def kc (a0:jS) (a1:jQ) (a2:jR) (a3:jQ) (a4:Int) (a5:jQ) (a6:jR) (a7:jQ) (a8:Int):Option (jQ×jR×Bool×Int×jQ) :=
 (qx a0 a1 a2 a3).bind fun r6 =>
 cond (!r6)
 (some (([]:jQ),([]:jR),false,1300,([]:jQ)))
 ((qx a0 a5 a6 a7).bind fun r7 =>
  cond (!r7)
  (some (([]:jQ),([]:jR),false,1300,([]:jQ)))
  ((u6 a1 a2 a3 a4).bind fun r8 =>
   cond (!r8)
   (some (([]:jQ),([]:jR),false,1300,([]:jQ)))
   ((u6 a5 a6 a7 a8).bind fun r9 =>
    cond (!r9)
    (some (([]:jQ),([]:jR),false,1300,([]:jQ)))
    ((w8 a0 a1 a2 a3 a4 a5 a6 a7 a8).bind fun r10 =>
     some (r10.1,r10.2.1,r10.2.2.1,r10.2.2.2.1,r10.2.2.2.2)))))
def yA:List Int->jI->Option jI
 | [],s3=>some s3
 | e::es,s3 =>
  cond (decide (e≥0))
  (yA es s3)
  ((zP e).bind fun r12 =>
   (xR s3 r12).bind fun r13 =>
   cond (!r13.2)
   ((zP e).bind fun r14 =>
    (sQ r13.1 s3 ([r14]:List Int)).bind fun r15 =>
    yA es r15)
   (yA es s3))
theorem YJ (s0:jI) (s3:jI) (hl:aa s0<=maxLen):lp vE zd (s0,((aa s0:Nat):Int),0,s3)=yA s0 s3:=xB vE (fun i s3=>(s0,((aa s0:Nat):Int),i,s3)) (fun es i s3=>yA es s3) hl (fun r i s3 h=>by unfold vE yA; simp only[h,cond_false]) (fun r i s3 e es h g w k=>by unfold vE yA; simp only[h,cond_true,g,af,w,k]) s3
def qH:List jI->jI->Option jI
 | [],s3=>some s3
 | e::es,s3 =>
  (uE e s3).bind fun r13 =>
  qH es r13
theorem Yq (s0:jR) (s3:jI) (hl:aa s0<=maxLen):lp vt zd (s0,((aa s0:Nat):Int),0,s3)=qH s0 s3:=xB vt (fun i s3=>(s0,((aa s0:Nat):Int),i,s3)) (fun es i s3=>qH es s3) hl (fun r i s3 h=>by unfold vt qH; simp only[h,cond_false]) (fun r i s3 e es h g w k=>by unfold vt qH; simp only[h,cond_true,g,af,w,k]) s3
def qJ:List zc->jI->Option jI
 | [],s6=>some s6
 | e::es,s6 =>
  (uE e.2 s6).bind fun r8 =>
  qJ es r8
theorem Yx (s0:jQ) (s3:jQ) (s4:jR) (s5:jQ) (s6:jI) (hl:aa s0<=maxLen):lp vy zd (s0,((aa s0:Nat):Int),0,s3,s4,s5,s6)=qJ s0 s6:=xB vy (fun i s6=>(s0,((aa s0:Nat):Int),i,s3,s4,s5,s6)) (fun es i s6=>qJ es s6) hl (fun r i s6 h=>by unfold vy qJ; simp only[h,cond_false]) (fun r i s6 e es h g w k=>by unfold vy qJ; simp only[h,cond_true,g,af,w,k]) s6
def yn (s3:Int) (s4:jQ) (s5:jR):List zc->jQ->Option (jQ×jR×jQ)
 | [],s6=>some (s4,s5,s6)
 | e::es,s6 =>
  (qn e.2 s3).bind fun r20 =>
  cond (yb (aa s6+aa ([(e.1,r20)]:List zc)) 32)
  (yn s3 s4 s5 es (s6++([(e.1,r20)]:List zc)))
  (none)
theorem Zc (s0:jQ) (s3:Int) (s4:jQ) (s5:jR) (s6:jQ) (hl:aa s0<=maxLen):lp wg zd (s0,((aa s0:Nat):Int),0,s3,s4,s5,s6)=yn s3 s4 s5 s0 s6:=xB wg (fun i s6=>(s0,((aa s0:Nat):Int),i,s3,s4,s5,s6)) (fun es i s6=>yn s3 s4 s5 es s6) hl (fun r i s6 h=>by unfold wg yn; simp only[h,cond_false]) (fun r i s6 e es h g w k=>by unfold wg yn; simp only[h,cond_true,g,af,w,k]) s6
def yo (s3:Int) (s7:jQ):List jI->jR->Option (jQ×jR)
 | [],s8=>some (s7,s8)
 | e::es,s8 =>
  (qn e s3).bind fun r13 =>
  cond (yb (aa s8+aa ([r13]:List jI)) 24)
  (yo s3 s7 es (s8++([r13]:List jI)))
  (none)
theorem ZA (s0:jR) (s3:Int) (s4:jQ) (s5:jR) (s6:jQ) (s7:jQ) (s8:jR) (hl:aa s0<=maxLen):lp wc zd (s0,((aa s0:Nat):Int),0,s3,s4,s5,s6,s7,s8)=yo s3 s7 s0 s8:=xB wc (fun i s8=>(s0,((aa s0:Nat):Int),i,s3,s4,s5,s6,s7,s8)) (fun es i s8=>yo s3 s7 es s8) hl (fun r i s8 h=>by unfold wc yo; simp only[h,cond_false]) (fun r i s8 e es h g w k=>by unfold wc yo; simp only[h,cond_true,g,af,w,k]) s8
def yt (s3:Int):List zc->jQ->Option jQ
 | [],s7=>some s7
 | e::es,s7 =>
  (qn e.2 s3).bind fun r6 =>
  cond (yb (aa s7+aa ([(e.1,r6)]:List zc)) 32)
  (yt s3 es (s7++([(e.1,r6)]:List zc)))
  (none)
theorem jK (s0:jQ) (s3:Int) (s4:jQ) (s5:jR) (s6:jQ) (s7:jQ) (hl:aa s0<=maxLen):lp xV zd (s0,((aa s0:Nat):Int),0,s3,s4,s5,s6,s7)=yt s3 s0 s7:=xB xV (fun i s7=>(s0,((aa s0:Nat):Int),i,s3,s4,s5,s6,s7)) (fun es i s7=>yt s3 es s7) hl (fun r i s7 h=>by unfold xV yt; simp only[h,cond_false]) (fun r i s7 e es h g w k=>by unfold xV yt; simp only[h,cond_true,g,af,w,k]) s7
end Go.Abs.Q
