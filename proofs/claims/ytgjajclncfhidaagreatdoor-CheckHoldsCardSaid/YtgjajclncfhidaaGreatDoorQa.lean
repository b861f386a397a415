import Derived.Test.YtgjajclncfhidaaGreatDoorFc
/-
  What the functions make of plain values, and what the law says of that.
-/
open Bool renaming and_eq_true -> ay, and_false -> cB, and_true -> ed, false_and -> bt, not_false -> bE, not_true -> az, or_false -> eF, true_and -> aN
open Go.IntKind renaming bits -> cS, signed -> eV, wrap -> ag
open Int renaming fdiv -> gP, le_refl -> fe, toNat -> bc, toNat_natCast -> bo
open List renaming all_cons -> bX, all_eq_true -> aD, drop_drop -> cf, drop_eq_getElem_cons -> aY, drop_eq_nil_iff -> cP, drop_length -> fo, drop_take -> eS, drop_zero -> bQ, flatten_cons -> fg, getD_eq_getElem?_getD -> aE, getElem?_cons_zero -> aB, getElem?_eq_getElem -> al, getElem?_eq_none -> aQ, getElem?_eq_some_iff -> aw, length -> af, length_append -> am, length_cons -> ak, length_drop -> bq, length_eq_zero_iff -> cn, length_nil -> bm, length_pos_iff -> d6, length_singleton -> aX, map_cons -> aK, mem_cons -> aG, mem_cons_of_mem -> ai, mem_cons_self -> aj, mem_flatten -> fu, mem_of_getElem? -> aJ, nil_append -> bl, replicate -> ax, set -> bw, sum_cons -> cD, take_length -> dW, take_succ_cons -> eP
open Nat renaming add_assoc -> bK, add_comm -> dj, beq -> aA, le_refl -> aC, lt_of_le_of_lt -> cO, lt_of_succ_lt_succ -> cr, min_eq_left -> dK, strongRecOn -> cU, sub_self -> ep, zero_add -> aP, zero_le -> bN
open Option renaming bind_some -> aa, getD -> bM, getD_some -> bj, isNone -> co, isNone_some -> cw, map_eq_some_iff -> bA, map_some -> bD
open Option.some renaming injEq -> aq
open Prod.mk renaming injEq -> aM
open Sum renaming inl -> aU, inr -> aH
open UInt8 renaming toNat -> bH
namespace Go.Abs.Q
open Go Go.Abs
abbrev zg:=Str×Int×Int×Int
abbrev Ps:Tys:=.cons .str (.cons (.int .i64) (.cons (.int .i64) (.one (.int .i64))))
abbrev zc:=Bool×List Int
abbrev HB:Tys:=.cons .bool (.one (.sl (.one (.int .i64))))
abbrev jR:=List (List Int)
abbrev jI:=List Int
abbrev jQ:=List zc
abbrev jS:=List zg
abbrev jT:=List (Int×Int×Int×Int×Int×Int×Int×jQ×jR×jQ)
abbrev jU:=Int×Int×Int×Int×Int×Int×Int×jQ×jR×jQ
def kr (a0:Int):Option Bool :=
 cond (decide (a0≥97))
 (some (decide (a0<=122)))
 (some false)
def ua (rec:(Str×Int×Int)->Option (Unit⊕Bool)) (x:(Str×Int×Int)):Option (Unit⊕Bool) :=
 cond (decide (x.2.2<x.2.1))
 ((gx x.1 x.2.2).bind fun c7 =>
  (kr ((bH c7:Nat):Int)).bind fun r8 =>
  cond (!r8)
  ((gx x.1 x.2.2).bind fun c9 =>
   cond (decide (((bH c9:Nat):Int)<48))
   (some (aH false))
   ((gx x.1 x.2.2).bind fun c10 =>
    cond (decide (((bH c10:Nat):Int)>57))
    (some (aH false))
    (rec (x.1,x.2.1,(ag .i64 (x.2.2+1))))))
  (rec (x.1,x.2.1,(ag .i64 (x.2.2+1)))))
 (some (aU ()))
def Yu (a0:Str):Option Bool :=
 cond (a0==([]:Str))
 (some false)
 (cond (decide (((af a0:Nat):Int)>8))
  (some false)
  ((gx a0 0).bind fun c14 =>
   (kr ((bH c14:Nat):Int)).bind fun r15 =>
   cond (!r15)
   (some false)
   (((lp ua ze) (a0,((af a0:Nat):Int),0)).bind fun r16 =>
    yb r16
    (fun _z17=>some true)
    (fun z18=>some z18))))
def kW (a0:Str) (a1:Int) (a2:Int) (a3:Int):Option Bool :=
 (Yu a0).bind fun r2 =>
 cond r2
 (cond (decide (a1≥0))
  (cond (decide (a1<=2))
   (cond (decide (a2≥0))
    (cond (decide (a2<=3))
     (cond (decide (a3≥1))
      (some (decide (a3<=20)))
      (some false))
     (some false))
    (some false))
   (some false))
  (some false))
 (some false)
def tP (rec:(jS×Str×Int×Int)->Option (Unit⊕Int)) (x:(jS×Str×Int×Int)):Option (Unit⊕Int) :=
 cond (decide (x.2.2.2<x.2.2.1))
 ((gx x.1 x.2.2.2).bind fun e2 =>
  cond (e2.1==x.2.1)
  (some (aH x.2.2.2))
  (rec (x.1,x.2.1,x.2.2.1,(ag .i64 (x.2.2.2+1)))))
 (some (aU ()))
def Qb (a0:jS) (a1:Str):Option Int :=
 ((lp tP ze) (a0,a1,((af a0:Nat):Int),0)).bind fun r6 =>
 yb r6
 (fun _z7=>some (-1))
 (fun z8=>some z8)
def tt (rec:(jS×Int)->Option (Unit⊕Bool)) (x:(jS×Int)):Option (Unit⊕Bool) :=
 cond (decide (x.2<((af x.1:Nat):Int)))
 ((gx x.1 x.2).bind fun e6 =>
  (kW e6.1 e6.2.1 e6.2.2.1 e6.2.2.2).bind fun r7 =>
  cond (!r7)
  (some (aH false))
  ((gx x.1 x.2).bind fun e8 =>
   (Qb x.1 e8.1).bind fun r9 =>
   cond (r9 != x.2)
   (some (aH false))
   (rec (x.1,(ag .i64 (x.2+1))))))
 (some (aU ()))
def Q2 (a0:jS):Option Bool :=
 cond (decide (((af a0:Nat):Int)<1))
 (some false)
 (cond (decide (((af a0:Nat):Int)>20))
  (some false)
  ((gx a0 0).bind fun e13 =>
   cond (!(cond (eqS e13.1 [61]) (cond (eqI e13.2.1 0) (cond (eqI e13.2.2.1 2) (cond (eqI e13.2.2.2 1) true false) false) false) false))
   (some false)
   (((lp tt ze) (a0,1)).bind fun r14 =>
    yb r14
    (fun _z15=>some true)
    (fun z16=>some z16))))
def Y1 (a0:(Option jI)):Option jI :=
 cond (co a0)
 (some ([]:jI))
 (cond (yK (af ([]:List Int)+af (bM a0 [])) 8)
  (some (([]:List Int)++(bM a0 [])))
  (none))
def J1:Option jI :=
 some ([]:jI)
def zD (a0:jI):Option jI:=Y1 (some a0)
def Qa (a0:Bool) (a1:jI):Option zc :=
 (zD a1).bind fun r2 =>
 some ((!a0),r2)
def zQ (a0:Int):Option Int :=
 some (ag .i64 ((-1) - a0))
def Y2 (a0:jS) (a1:Int):Option (Int×Bool) :=
 cond (decide (a1<0))
 ((zQ 23).bind fun r4 =>
  some (0,(decide (a1≥r4))))
 (cond (decide (a1≥((af a0:Nat):Int)))
  (some (0,false))
  ((gx a0 a1).bind fun e5 =>
   cond (e5.2.1==0)
   (some (0,false))
   ((gx a0 a1).bind fun e6 =>
    some (e6.2.2.1,true))))
def uL (rec:(jS×jI×Int×Int)->Option (Int×Bool)) (x:(jS×jI×Int×Int)):Option (Int×Bool) :=
 cond (decide (x.2.2.1≥((af x.2.1:Nat):Int)))
 (some (0,false))
 ((gx x.2.1 x.2.2.1).bind fun e5 =>
  (Y2 x.1 e5).bind fun r6 =>
  cond (!r6.2)
  (some (0,false))
  (cond (decide ((ag .i64 (x.2.2.2+(ag .i64 (r6.1 - 1))))>0))
   (rec (x.1,x.2.1,(ag .i64 (x.2.2.1+1)),(ag .i64 (x.2.2.2+(ag .i64 (r6.1 - 1))))))
   (some ((ag .i64 (x.2.2.1+1)),true))))
def wd (a0:jS) (a1:jI) (a2:Int):Option (Int×Bool) :=
 cond (decide (a2≥((af a1:Nat):Int)))
 (some (0,false))
 ((gx a1 a2).bind fun e8 =>
  (Y2 a0 e8).bind fun r9 =>
  cond (!r9.2)
  (some (0,false))
  (cond (decide ((ag .i64 (1+(ag .i64 (r9.1 - 1))))>0))
   ((((lp uL ze) (a0,a1,(ag .i64 (a2+1)),(ag .i64 (1+(ag .i64 (r9.1 - 1))))))).bind fun r10 =>
    some (r10.1,r10.2))
   (some ((ag .i64 (a2+1)),true))))
def u6 (rec:(jS×jI×Int×jI)->Option zc) (x:(jS×jI×Int×jI)):Option zc :=
 cond (x.2.2.1==((af x.2.1:Nat):Int))
 (some (true,x.2.2.2))
 ((wd x.1 x.2.1 x.2.2.1).bind fun r4 =>
  cond (!r4.2)
  (some (false,([]:jI)))
  (cond (yK (af x.2.2.2+af ([x.2.2.1]:List Int)) 8)
   (rec (x.1,x.2.1,r4.1,(x.2.2.2++([x.2.2.1]:List Int))))
   (none)))
def sO (a0:jS) (a1:jI):Option zc :=
 (Q2 a0).bind fun r6 =>
 cond (!r6)
 (some (false,([]:jI)))
 (cond (decide (((af a1:Nat):Int)>48))
  (some (false,([]:jI)))
  (cond (0==((af a1:Nat):Int))
   (some (true,([]:jI)))
   ((wd a0 a1 0).bind fun r7 =>
    cond (!r7.2)
    (some (false,([]:jI)))
    (cond (yK (af ([0]:List Int)) 8)
     ((((lp u6 ze) (a0,a1,r7.1,([0]:List Int)))).bind fun r8 =>
      some (r8.1,r8.2))
     (none)))))
def vP (a0:jS) (a1:jI):Option Bool :=
 cond (((af a1:Nat):Int)==0)
 (some false)
 ((gx a1 0).bind fun e9 =>
  cond (decide (e9<0))
  (some false)
  ((gx a1 0).bind fun e10 =>
   cond (decide (e10≥((af a0:Nat):Int)))
   (some false)
   ((gx a1 0).bind fun e11 =>
    (gx a0 e11).bind fun e12 =>
    cond (e12.2.1 != 0)
    (some false)
    ((uh a1 (some 1) none).bind fun y13 =>
     (sO a0 y13).bind fun r14 =>
     cond r14.1
     ((gx a1 0).bind fun e15 =>
      (gx a0 e15).bind fun e16 =>
      some (((af r14.2:Nat):Int)==e16.2.2.1))
     (some false)))))
def Qg (a0:jS) (_a1:Bool) (a2:jI):Option Bool :=
 (vP a0 a2).bind fun r2 =>
 some r2
def wa (rec:(jS×Int×jQ×Int×Int)->Option (Int⊕(Int×Bool))) (x:(jS×Int×jQ×Int×Int)):Option (Int⊕(Int×Bool)) :=
 cond (decide (x.2.2.2.2<x.2.2.2.1))
 ((gx x.2.2.1 x.2.2.2.2).bind fun e3 =>
  (Qg x.1 e3.1 e3.2).bind fun r4 =>
  cond (!r4)
  (some (aH (0,false)))
  (rec (x.1,(ag .i64 (x.2.1+((af e3.2:Nat):Int))),x.2.2.1,x.2.2.2.1,(ag .i64 (x.2.2.2.2+1)))))
 (some (aU x.2.1))
def u4 (a0:jS) (a1:jQ):Option (Int×Bool) :=
 ((lp wa ze) (a0,0,a1,((af a1:Nat):Int),0)).bind fun r8 =>
 yb r8
 (fun z9=>some (z9,true))
 (fun z10=>some (z10.1,z10.2))
def Ym (a0:jS) (a1:jI):Option (Int×Int) :=
 (sO a0 a1).bind fun r2 =>
 cond (!r2.1)
 (some (0,200))
 (some (((af r2.2:Nat):Int),0))
def xZ (rec:(jS×Int×Int×jR×Int×Int)->Option (Int⊕(Int×Bool))) (x:(jS×Int×Int×jR×Int×Int)):Option (Int⊕(Int×Bool)) :=
 cond (decide (x.2.2.2.2.2<x.2.2.2.2.1))
 ((gx x.2.2.2.1 x.2.2.2.2.2).bind fun e3 =>
  (Ym x.1 e3).bind fun r4 =>
  cond (x.2.2.2.2.2==0)
  (cond (r4.2 != 0)
   (some (aH (0,false)))
   (cond (r4.1 != r4.1)
    (some (aH (0,false)))
    (rec (x.1,(ag .i64 (x.2.1+((af e3:Nat):Int))),r4.1,x.2.2.2.1,x.2.2.2.2.1,(ag .i64 (x.2.2.2.2.2+1))))))
  (cond (r4.2 != 0)
   (some (aH (0,false)))
   (cond (r4.1 != x.2.2.1)
    (some (aH (0,false)))
    (rec (x.1,(ag .i64 (x.2.1+((af e3:Nat):Int))),x.2.2.1,x.2.2.2.1,x.2.2.2.2.1,(ag .i64 (x.2.2.2.2.2+1)))))))
 (some (aU x.2.1))
def sV (a0:jS) (a1:jR):Option (Int×Bool) :=
 ((lp xZ ze) (a0,0,0,a1,((af a1:Nat):Int),0)).bind fun r8 =>
 yb r8
 (fun z9=>some (z9,true))
 (fun z10=>some (z10.1,z10.2))
def qI (a0:jS) (a1:jQ) (a2:jR) (a3:jQ):Option Bool :=
 (Q2 a0).bind fun r5 =>
 cond (!r5)
 (some false)
 (cond (decide (((af a1:Nat):Int)>5))
  (some false)
  (cond (decide (((af a2:Nat):Int)>3))
   (some false)
   (cond (decide (((af a3:Nat):Int)>3))
    (some false)
    ((u4 a0 a1).bind fun r6 =>
     (sV a0 a2).bind fun r7 =>
     (u4 a0 a3).bind fun r8 =>
     cond r6.2
     (cond r7.2
      (cond r8.2
       (some (decide ((ag .i64 ((ag .i64 (r6.1+r7.1))+r8.1))<=240)))
       (some false))
      (some false))
     (some false)))))
def vD (rec:(jI×jI×Int×Int)->Option (Unit⊕Bool)) (x:(jI×jI×Int×Int)):Option (Unit⊕Bool) :=
 cond (decide (x.2.2.2<x.2.2.1))
 ((gx x.1 x.2.2.2).bind fun e3 =>
  (gx x.2.1 x.2.2.2).bind fun e4 =>
  cond (e3 != e4)
  (some (aH false))
  (rec (x.1,x.2.1,x.2.2.1,(ag .i64 (x.2.2.2+1)))))
 (some (aU ()))
def yR (a0:jI) (a1:jI):Option Bool :=
 cond (((af a0:Nat):Int) != ((af a1:Nat):Int))
 (some false)
 (((lp vD ze) (a0,a1,((af a0:Nat):Int),0)).bind fun r8 =>
  yb r8
  (fun _z9=>some true)
  (fun z10=>some z10))
def QY (a0:Bool) (a1:jI) (a2:Bool) (a3:jI):Option Bool :=
 cond (a0==a2)
 ((yR a1 a3).bind fun r2 =>
  some r2)
 (some false)
def sX (a0:Bool) (a1:jI) (a2:Bool) (a3:jI):Option Bool :=
 (QY a2 a3 a0 a1).bind fun r2 =>
 some r2
def qX (rec:(jQ×Int×Int×Bool×jI)->Option (Unit⊕Int)) (x:(jQ×Int×Int×Bool×jI)):Option (Unit⊕Int) :=
 cond (decide (x.2.2.1<x.2.1))
 ((gx x.1 x.2.2.1).bind fun e3 =>
  (sX e3.1 e3.2 x.2.2.2.1 x.2.2.2.2).bind fun r4 =>
  cond r4
  (some (aH x.2.2.1))
  (rec (x.1,x.2.1,(ag .i64 (x.2.2.1+1)),x.2.2.2.1,x.2.2.2.2)))
 (some (aU ()))
def rQ (a0:jQ) (a1:Bool) (a2:jI):Option Int :=
 ((lp qX ze) (a0,((af a0:Nat):Int),0,a1,a2)).bind fun r8 =>
 yb r8
 (fun _z9=>some (-1))
 (fun z10=>some z10)
def wg (a0:jQ) (a1:Bool) (a2:jI):Option Bool :=
 (rQ a0 a1 a2).bind fun r2 =>
 some (decide (r2≥0))
def v9 (rec:(jQ×Int×Int×jQ)->Option jQ) (x:(jQ×Int×Int×jQ)):Option jQ :=
 cond (decide (x.2.2.1<x.2.1))
 ((gx x.1 x.2.2.1).bind fun e5 =>
  (wg x.2.2.2 e5.1 e5.2).bind fun r6 =>
  cond (!r6)
  (cond (yK (af x.2.2.2+af ([(e5.1,e5.2)]:List zc)) 32)
   (rec (x.1,x.2.1,(ag .i64 (x.2.2.1+1)),(x.2.2.2++([(e5.1,e5.2)]:List zc))))
   (none))
  (rec (x.1,x.2.1,(ag .i64 (x.2.2.1+1)),x.2.2.2)))
 (some x.2.2.2)
def kX (a0:jQ):Option jQ :=
 ((lp v9 ze) (a0,((af a0:Nat):Int),0,([]:jQ))).bind fun r8 =>
 some r8
def sS (a0:jI) (a1:jI):Option Bool :=
 (yR a1 a0).bind fun r2 =>
 some r2
def qk (rec:(jR×Int×Int×jI)->Option (Unit⊕Int)) (x:(jR×Int×Int×jI)):Option (Unit⊕Int) :=
 cond (decide (x.2.2.1<x.2.1))
 ((gx x.1 x.2.2.1).bind fun e3 =>
  (sS e3 x.2.2.2).bind fun r4 =>
  cond r4
  (some (aH x.2.2.1))
  (rec (x.1,x.2.1,(ag .i64 (x.2.2.1+1)),x.2.2.2)))
 (some (aU ()))
def tU (a0:jR) (a1:jI):Option Int :=
 ((lp qk ze) (a0,((af a0:Nat):Int),0,a1)).bind fun r8 =>
 yb r8
 (fun _z9=>some (-1))
 (fun z10=>some z10)
def xq (a0:jR) (a1:jI):Option Bool :=
 (tU a0 a1).bind fun r2 =>
 some (decide (r2≥0))
def y9 (rec:(Int×Int×jI×Int×jI)->Option (jI×Int×jI)) (x:(Int×Int×jI×Int×jI)):Option (jI×Int×jI) :=
 cond (decide (x.2.1<x.1))
 ((inR x.2.1 (af x.2.2.2.2)).bind fun k33 =>
  (x.2.2.2.2[k33]?).bind fun x34 =>
  cond (decide (x34≥0))
  (rec (x.1,(ag .i64 (x.2.1+1)),x.2.2.1,x.2.2.2.1,x.2.2.2.2))
  ((zQ x34).bind fun r35 =>
   (inR r35 24).bind fun k36 =>
   (x.2.2.1[k36]?).bind fun x37 =>
   cond (x37==0)
   ((zQ x34).bind fun r38 =>
    (inR r38 24).bind fun k39 =>
    (x.2.2.1[k39]?).bind fun _x40 =>
    (zQ x34).bind fun r41 =>
    (inR r41 24).bind fun k42 =>
    ((bw x.2.2.1 k39 (ag .i64 (x.2.2.2.1+1)))[k42]?).bind fun x43 =>
    (inR x.2.1 (af x.2.2.2.2)).bind fun k44 =>
    (x.2.2.2.2[k44]?).bind fun _x45 =>
    rec (x.1,(ag .i64 (x.2.1+1)),(bw x.2.2.1 k39 (ag .i64 (x.2.2.2.1+1))),(ag .i64 (x.2.2.2.1+1)),(bw x.2.2.2.2 k44 (UV .i64 x43))))
   ((zQ x34).bind fun r46 =>
    (inR r46 24).bind fun k47 =>
    (x.2.2.1[k47]?).bind fun x48 =>
    (inR x.2.1 (af x.2.2.2.2)).bind fun k49 =>
    (x.2.2.2.2[k49]?).bind fun _x50 =>
    rec (x.1,(ag .i64 (x.2.1+1)),x.2.2.1,x.2.2.2.1,(bw x.2.2.2.2 k49 (UV .i64 x48))))))
 (some (x.2.2.1,x.2.2.2.1,x.2.2.2.2))
def yZ (a0:jI) (a1:jI) (a2:Int):Option (jI×jI×Int) :=
 (zD a0).bind fun r52 =>
 ((lp y9 ze) (((af r52:Nat):Int),0,a1,a2,r52)).bind fun r53 =>
 cond (aA (af a1) (af r53.1)&&true)
 (some (r53.2.2,r53.1,r53.2.1))
 (none)
def wJ (rec:(jQ×Int×Int×jI×Int×jQ×jR×jQ)->Option (jI×Int×jQ×jR×jQ)) (x:(jQ×Int×Int×jI×Int×jQ×jR×jQ)):Option (jI×Int×jQ×jR×jQ) :=
 cond (decide (x.2.2.1<x.2.1))
 ((gx x.1 x.2.2.1).bind fun e19 =>
  (yZ e19.2 x.2.2.2.1 x.2.2.2.2.1).bind fun r20 =>
  cond (yK (af x.2.2.2.2.2.2.2+af ([(e19.1,r20.1)]:List zc)) 32)
  (rec (x.1,x.2.1,(ag .i64 (x.2.2.1+1)),r20.2.1,r20.2.2,x.2.2.2.2.2.1,x.2.2.2.2.2.2.1,(x.2.2.2.2.2.2.2++([(e19.1,r20.1)]:List zc))))
  (none))
 (some (x.2.2.2.1,x.2.2.2.2.1,x.2.2.2.2.2.1,x.2.2.2.2.2.2.1,x.2.2.2.2.2.2.2))
def wM (rec:(jR×Int×Int×jI×Int×jQ×jR×jQ×jQ×jR)->Option (jI×Int×jQ×jR)) (x:(jR×Int×Int×jI×Int×jQ×jR×jQ×jQ×jR)):Option (jI×Int×jQ×jR) :=
 cond (decide (x.2.2.1<x.2.1))
 ((gx x.1 x.2.2.1).bind fun e12 =>
  (yZ e12 x.2.2.2.1 x.2.2.2.2.1).bind fun r13 =>
  cond (yK (af x.2.2.2.2.2.2.2.2.2+af ([r13.1]:List jI)) 24)
  (rec (x.1,x.2.1,(ag .i64 (x.2.2.1+1)),r13.2.1,r13.2.2,x.2.2.2.2.2.1,x.2.2.2.2.2.2.1,x.2.2.2.2.2.2.2.1,x.2.2.2.2.2.2.2.2.1,(x.2.2.2.2.2.2.2.2.2++([r13.1]:List jI))))
  (none))
 (some (x.2.2.2.1,x.2.2.2.2.1,x.2.2.2.2.2.2.2.2.1,x.2.2.2.2.2.2.2.2.2))
def wD (rec:(jQ×Int×Int×jI×Int×jQ×jR×jQ×jQ)->Option (jI×Int×jQ)) (x:(jQ×Int×Int×jI×Int×jQ×jR×jQ×jQ)):Option (jI×Int×jQ) :=
 cond (decide (x.2.2.1<x.2.1))
 ((gx x.1 x.2.2.1).bind fun e5 =>
  (yZ e5.2 x.2.2.2.1 x.2.2.2.2.1).bind fun r6 =>
  cond (yK (af x.2.2.2.2.2.2.2.2+af ([(e5.1,r6.1)]:List zc)) 32)
  (rec (x.1,x.2.1,(ag .i64 (x.2.2.1+1)),r6.2.1,r6.2.2,x.2.2.2.2.2.1,x.2.2.2.2.2.2.1,x.2.2.2.2.2.2.2.1,(x.2.2.2.2.2.2.2.2++([(e5.1,r6.1)]:List zc))))
  (none))
 (some (x.2.2.2.1,x.2.2.2.2.1,x.2.2.2.2.2.2.2.2))
def Z9 (a0:jQ) (a1:jR) (a2:jQ) (a3:jI) (a4:Int):Option (jQ×jR×jQ×jI×Int) :=
 ((lp wD ze) (a0,((af a0:Nat):Int),0,a3,a4,a0,a1,a2,([]:jQ))).bind fun r22 =>
 ((lp wM ze) (a1,((af a1:Nat):Int),0,r22.1,r22.2.1,a0,a1,a2,r22.2.2,([]:jR))).bind fun r23 =>
 ((lp wJ ze) (a2,((af a2:Nat):Int),0,r23.1,r23.2.1,r23.2.2.1,r23.2.2.2,([]:jQ))).bind fun r24 =>
 cond (aA (af a3) (af r24.1)&&true)
 (some (r24.2.2.1,r24.2.2.2.1,r24.2.2.2.2,r24.1,r24.2.1))
 (none)
def uf (rec:(jR×Int×Int×jQ×jQ×jR)->Option (jQ×jQ×jR)) (x:(jR×Int×Int×jQ×jQ×jR)):Option (jQ×jQ×jR) :=
 cond (decide (x.2.2.1<x.2.1))
 ((gx x.1 x.2.2.1).bind fun e7 =>
  (xq x.2.2.2.2.2 e7).bind fun r8 =>
  cond (!r8)
  (cond (yK (af x.2.2.2.2.2+af ([e7]:List jI)) 24)
   (rec (x.1,x.2.1,(ag .i64 (x.2.2.1+1)),x.2.2.2.1,x.2.2.2.2.1,(x.2.2.2.2.2++([e7]:List jI))))
   (none))
  (rec (x.1,x.2.1,(ag .i64 (x.2.2.1+1)),x.2.2.2.1,x.2.2.2.2.1,x.2.2.2.2.2)))
 (some (x.2.2.2.1,x.2.2.2.2.1,x.2.2.2.2.2))
def YA (a0:jQ) (a1:jR) (a2:jQ):Option (jQ×jR×jQ) :=
 (kX a0).bind fun r11 =>
 (kX a2).bind fun r12 =>
 ((lp uf ze) (a1,((af a1:Nat):Int),0,r11,r12,([]:jR))).bind fun r13 =>
 (Z9 r13.1 r13.2.2 r13.2.1 (ax 24 (0:Int)) 0).bind fun r14 =>
 some (r14.1,r14.2.1,r14.2.2.1)
def xd (a0:jS) (a1:jQ) (a2:jR) (a3:jQ):Option (jQ×jR×Int×jQ) :=
 (qI a0 a1 a2 a3).bind fun r3 =>
 cond (!r3)
 (some (([]:jQ),([]:jR),800,([]:jQ)))
 ((YA a1 a2 a3).bind fun r4 =>
  some (r4.1,r4.2.1,0,r4.2.2))
def u7 (rec:(jS×jI×Int×jR)->Option (jR⊕jR)) (x:(jS×jI×Int×jR)):Option (jR⊕jR) :=
 cond (decide (x.2.2.1<((af x.2.1:Nat):Int)))
 ((wd x.1 x.2.1 x.2.2.1).bind fun r5 =>
  cond (!r5.2)
  (some (aH x.2.2.2))
  ((uh x.2.1 (some x.2.2.1) (some r5.1)).bind fun y6 =>
   cond (yK (af x.2.2.2+af ([y6]:List jI)) 24)
   (rec (x.1,x.2.1,r5.1,(x.2.2.2++([y6]:List jI))))
   (none)))
 (some (aU x.2.2.2))
def uA (a0:jS) (a1:jI):Option jR :=
 ((lp u7 ze) (a0,a1,0,([]:jR))).bind fun r10 =>
 yb r10
 (fun z11=>some z11)
 (fun z12=>some z12)
def tl (a0:Int):Option Int :=
 some a0
def wH (rec:(jI×jI×Int)->Option (Unit⊕Bool)) (x:(jI×jI×Int)):Option (Unit⊕Bool) :=
 cond (decide (x.2.2<((af x.1:Nat):Int)))
 ((gx x.1 x.2.2).bind fun e3 =>
  (gx x.2.1 x.2.2).bind fun e4 =>
  cond (e3 != e4)
  (some (aH false))
  (rec (x.1,x.2.1,(ag .i64 (x.2.2+1)))))
 (some (aU ()))
def wS (a0:jI) (a1:jI):Option Bool :=
 cond (((af a0:Nat):Int) != ((af a1:Nat):Int))
 (some false)
 (((lp wH ze) (a0,a1,0)).bind fun r8 =>
  yb r8
  (fun _z9=>some true)
  (fun z10=>some z10))
def wK (rec:(jQ×jQ×Int)->Option (Unit⊕Bool)) (x:(jQ×jQ×Int)):Option (Unit⊕Bool) :=
 cond (decide (x.2.2<((af x.1:Nat):Int)))
 ((gx x.1 x.2.2).bind fun e6 =>
  (gx x.2.1 x.2.2).bind fun e7 =>
  cond (!(e6.1==e7.1))
  (some (aH false))
  ((gx x.1 x.2.2).bind fun e8 =>
   (gx x.2.1 x.2.2).bind fun e9 =>
   (wS e8.2 e9.2).bind fun r10 =>
   cond (!r10)
   (some (aH false))
   (rec (x.1,x.2.1,(ag .i64 (x.2.2+1))))))
 (some (aU ()))
def t8 (a0:jQ) (a1:jQ):Option Bool :=
 cond (((af a0:Nat):Int) != ((af a1:Nat):Int))
 (some false)
 (((lp wK ze) (a0,a1,0)).bind fun r14 =>
  yb r14
  (fun _z15=>some true)
  (fun z16=>some z16))
def wy (rec:(jR×jR×Int)->Option (Unit⊕Bool)) (x:(jR×jR×Int)):Option (Unit⊕Bool) :=
 cond (decide (x.2.2<((af x.1:Nat):Int)))
 ((gx x.1 x.2.2).bind fun e4 =>
  (gx x.2.1 x.2.2).bind fun e5 =>
  (wS e4 e5).bind fun r6 =>
  cond (!r6)
  (some (aH false))
  (rec (x.1,x.2.1,(ag .i64 (x.2.2+1)))))
 (some (aU ()))
def rZ (a0:jR) (a1:jR):Option Bool :=
 cond (((af a0:Nat):Int) != ((af a1:Nat):Int))
 (some false)
 (((lp wy ze) (a0,a1,0)).bind fun r10 =>
  yb r10
  (fun _z11=>some true)
  (fun z12=>some z12))
def vw (a0:jQ) (a1:jR) (a2:jQ) (a3:jQ) (a4:jR) (a5:jQ):Option Bool :=
 (t8 a0 a3).bind fun r4 =>
 cond r4
 ((rZ a1 a4).bind fun r5 =>
  cond r5
  ((t8 a2 a5).bind fun r6 =>
   some r6)
  (some false))
 (some false)
theorem zv {X Y:Type} (s:(X->Option Y)->X->Option Y) (k:Nat):lp s (k+1)=s (lp s k):=rfl
theorem y8 {α:Type} (xs:List α) (i:Nat):gx xs (i:Int)=xs[i]? := by
 unfold gx;rw[show decide ((0:Int)<=(i:Int))=true from by simp]
 rfl
theorem z6 {α:Type} (xs:List α):gx xs 0=xs[0]? := y8 xs 0
theorem WN {α:Type} {xs:List α} {i:Int} (h0:0<=i) (h:i<xs.length):∃ x,gx xs i=some x∧x∈xs∧xs[i.toNat]? = some x:=by
 have hi:i.toNat<xs.length:=by omega
 refine ⟨xs[i.toNat],?_,List.getElem_mem hi,al hi⟩;unfold gx;rw[show decide ((0:Int)<=i)=true from by simp; omega,cond_true,al hi]
theorem ym {i l:Nat} (h:i<l):inR (i:Int) l=some i:=by
 unfold inR;simp [h]
theorem zo {n:Int} (h1 : -9223372036854775808<=n) (h2:n<=9223372036854775807):ag .i64 n=n:=by
 simp [ag,eV,cS];omega
theorem j5 {i l:Nat} (h:i<l) (hl:l<=maxLen):ag .i64 ((i:Int)+1)=((i+1:Nat):Int):=by
 unfold maxLen at hl;rw[zo]<;>omega
theorem ZZ {i l:Nat} (h:i<l):decide ((i:Int)<(l:Int))=true:=by simp [h]
theorem jD {i l:Nat} (h:l<=i):decide ((i:Int)<(l:Int))=false:=by simp; omega
theorem vd {α:Type} {xs:List α} {i:Nat} (h:xs.drop i=[]):xs.length<=i:=by simpa using h
theorem qr {α:Type} {xs es:List α} {e:α} {i:Nat} (h:xs.drop i=e::es):i<xs.length:=by
 rw[← Nat.not_le];intro hn;rw[cP.2 hn] at h;cases h
theorem zr {α:Type} {xs es:List α} {e:α} {i:Nat} (h:xs.drop i=e::es):xs[i]? = some e:=by
 have:=congrArg (·[0]?) h;simpa using this
theorem zj {α:Type} {xs es:List α} {e:α} {i:Nat} (h:xs.drop i=e::es):xs.drop (i+1)=es:=by
 rw[← cf,h];rfl
theorem sr {A R T:Type} {xs:List A} (f:(T->Option R)->T->Option R) (mk:Int->T) (go:List A->Nat->Option R) (hl:af xs<=maxLen)
  (h0:∀(r:T->Option R) (i:Nat),decide ((i:Int)<((af xs:Nat):Int))=false->f r (mk (i:Int))=go [] i)
  (h1:∀(r:T->Option R) (i:Nat) e es,decide ((i:Int)<((af xs:Nat):Int))=true->gx xs (i:Int)=some e->ag .i64 ((i:Int)+1)=((i+1:Nat):Int)->(r (mk ((i+1:Nat):Int))=go es (i+1))->f r (mk (i:Int))=go (e::es) i)
   : lp f ze (mk 0)=go xs 0:=by
 have key:∀(es:List A) (i k:Nat),xs.drop i=es->es.length<k->lp f k (mk (i:Int))=go es i:=by
  intro es
  induction es with
  | nil =>
   intro i k h hk;obtain⟨k,rfl⟩:∃ k',k=k'+1:=⟨k - 1,by omega⟩
   exact h0 _ i (jD (vd h))
  | cons e es ih =>
   intro i k h hk;obtain⟨k,rfl⟩:∃ k',k=k'+1:=⟨k - 1,by omega⟩
   have hi:=qr h;exact h1 _ i e es (ZZ hi) ((y8 xs i).trans (zr h)) (j5 hi hl) (ih (i+1) k (zj h) (cr hk))
 exact key xs 0 ze rfl (cO hl (by decide))
theorem x9 {A S0 R T:Type} {xs:List A} (f:(T->Option R)->T->Option R) (mk:Int->S0->T) (go:List A->Nat->S0->Option R) (hl:af xs<=maxLen)
  (h0:∀(r:T->Option R) (i:Nat) s0,decide ((i:Int)<((af xs:Nat):Int))=false->f r (mk (i:Int) s0)=go [] i s0)
  (h1:∀(r:T->Option R) (i:Nat) s0 e es,decide ((i:Int)<((af xs:Nat):Int))=true->gx xs (i:Int)=some e->ag .i64 ((i:Int)+1)=((i+1:Nat):Int)->(∀ s0,r (mk ((i+1:Nat):Int) s0)=go es (i+1) s0)->f r (mk (i:Int) s0)=go (e::es) i s0)
  (s0:S0):lp f ze (mk 0 s0)=go xs 0 s0:=by
 have key:∀(es:List A) (i k:Nat) s0,xs.drop i=es->es.length<k->lp f k (mk (i:Int) s0)=go es i s0:=by
  intro es
  induction es with
  | nil =>
   intro i k s0 h hk;obtain⟨k,rfl⟩:∃ k',k=k'+1:=⟨k - 1,by omega⟩
   exact h0 _ i s0 (jD (vd h))
  | cons e es ih =>
   intro i k s0 h hk;obtain⟨k,rfl⟩:∃ k',k=k'+1:=⟨k - 1,by omega⟩
   have hi:=qr h;exact h1 _ i s0 e es (ZZ hi) ((y8 xs i).trans (zr h)) (j5 hi hl) (fun s0=>ih (i+1) k s0 (zj h) (cr hk))
 exact key xs 0 ze s0 rfl (cO hl (by decide))
theorem zbm {A S0 S1 R T:Type} {xs:List A} (f:(T->Option R)->T->Option R) (mk:Int->S0->S1->T) (go:List A->Nat->S0->S1->Option R) (hl:af xs<=maxLen)
  (h0:∀(r:T->Option R) (i:Nat) s0 s1,decide ((i:Int)<((af xs:Nat):Int))=false->f r (mk (i:Int) s0 s1)=go [] i s0 s1)
  (h1:∀(r:T->Option R) (i:Nat) s0 s1 e es,decide ((i:Int)<((af xs:Nat):Int))=true->gx xs (i:Int)=some e->ag .i64 ((i:Int)+1)=((i+1:Nat):Int)->(∀ s0 s1,r (mk ((i+1:Nat):Int) s0 s1)=go es (i+1) s0 s1)->f r (mk (i:Int) s0 s1)=go (e::es) i s0 s1)
  (s0:S0) (s1:S1):lp f ze (mk 0 s0 s1)=go xs 0 s0 s1:=by
 have key:∀(es:List A) (i k:Nat) s0 s1,xs.drop i=es->es.length<k->lp f k (mk (i:Int) s0 s1)=go es i s0 s1:=by
  intro es
  induction es with
  | nil =>
   intro i k s0 s1 h hk;obtain⟨k,rfl⟩:∃ k',k=k'+1:=⟨k - 1,by omega⟩
   exact h0 _ i s0 s1 (jD (vd h))
  | cons e es ih =>
   intro i k s0 s1 h hk;obtain⟨k,rfl⟩:∃ k',k=k'+1:=⟨k - 1,by omega⟩
   have hi:=qr h;exact h1 _ i s0 s1 e es (ZZ hi) ((y8 xs i).trans (zr h)) (j5 hi hl) (fun s0 s1=>ih (i+1) k s0 s1 (zj h) (cr hk))
 exact key xs 0 ze s0 s1 rfl (cO hl (by decide))
theorem RQ {A S0 S1 S2 R T:Type} {xs:List A} (f:(T->Option R)->T->Option R) (mk:Int->S0->S1->S2->T) (go:List A->Nat->S0->S1->S2->Option R) (hl:af xs<=maxLen)
  (h0:∀(r:T->Option R) (i:Nat) s0 s1 s2,decide ((i:Int)<((af xs:Nat):Int))=false->f r (mk (i:Int) s0 s1 s2)=go [] i s0 s1 s2)
  (h1:∀(r:T->Option R) (i:Nat) s0 s1 s2 e es,decide ((i:Int)<((af xs:Nat):Int))=true->gx xs (i:Int)=some e->ag .i64 ((i:Int)+1)=((i+1:Nat):Int)->(∀ s0 s1 s2,r (mk ((i+1:Nat):Int) s0 s1 s2)=go es (i+1) s0 s1 s2)->f r (mk (i:Int) s0 s1 s2)=go (e::es) i s0 s1 s2)
  (s0:S0) (s1:S1) (s2:S2):lp f ze (mk 0 s0 s1 s2)=go xs 0 s0 s1 s2:=by
 have key:∀(es:List A) (i k:Nat) s0 s1 s2,xs.drop i=es->es.length<k->lp f k (mk (i:Int) s0 s1 s2)=go es i s0 s1 s2:=by
  intro es
  induction es with
  | nil =>
   intro i k s0 s1 s2 h hk;obtain⟨k,rfl⟩:∃ k',k=k'+1:=⟨k - 1,by omega⟩
   exact h0 _ i s0 s1 s2 (jD (vd h))
  | cons e es ih =>
   intro i k s0 s1 s2 h hk;obtain⟨k,rfl⟩:∃ k',k=k'+1:=⟨k - 1,by omega⟩
   have hi:=qr h;exact h1 _ i s0 s1 s2 e es (ZZ hi) ((y8 xs i).trans (zr h)) (j5 hi hl) (fun s0 s1 s2=>ih (i+1) k s0 s1 s2 (zj h) (cr hk))
 exact key xs 0 ze s0 s1 s2 rfl (cO hl (by decide))
def ye:List UInt8->Option (Unit⊕Bool)
 | []=>some (aU ())
 | e::es =>
  (kr ((bH e:Nat):Int)).bind fun r8 =>
  cond (!r8)
  (cond (decide (((bH e:Nat):Int)<48))
   (some (aH false))
   (cond (decide (((bH e:Nat):Int)>57))
    (some (aH false))
    (ye es)))
  (ye es)
theorem Y5 (s0:Str) (hl:af s0<=maxLen):lp ua ze (s0,((af s0:Nat):Int),0)=ye s0:=sr ua (fun i=>(s0,((af s0:Nat):Int),i)) (fun es i=>ye es) hl (fun r i h=>by unfold ua ye; simp only[h,cond_false]) (fun r i e es h g w k=>by unfold ua ye; simp only[h,cond_true,g,aa,w,k])
def qz (s1:Str):List zg->Nat->Option (Unit⊕Int)
 | [],_i=>some (aU ())
 | e::es,i =>
  cond (e.1==s1)
  (some (aH (i:Int)))
  (qz s1 es (i+1))
theorem XM (s0:jS) (s1:Str) (hl:af s0<=maxLen):lp tP ze (s0,s1,((af s0:Nat):Int),0)=qz s1 s0 0:=sr tP (fun i=>(s0,s1,((af s0:Nat):Int),i)) (fun es i=>qz s1 es i) hl (fun r i h=>by unfold tP qz; simp only[h,cond_false]) (fun r i e es h g w k=>by unfold tP qz; simp only[h,cond_true,g,aa,w,k])
def uc (s0:jS):List zg->Nat->Option (Unit⊕Bool)
 | [],_i=>some (aU ())
 | e::es,i =>
  (kW e.1 e.2.1 e.2.2.1 e.2.2.2).bind fun r7 =>
  cond (!r7)
  (some (aH false))
  ((Qb s0 e.1).bind fun r9 =>
   cond (r9 != (i:Int))
   (some (aH false))
   (uc s0 es (i+1)))
theorem Vf (s0:jS) (hl:af s0<=maxLen):∀(es:List zg) (i:Nat) (k:Nat),s0.drop i=es->es.length<k->lp tt k (s0,(i:Int))=uc s0 es i:=by
 intro es
 induction es with
 | nil =>
  intro i k h hk;obtain⟨k,rfl⟩:∃ k',k=k'+1:=⟨k - 1,by omega⟩
  rw[zv];generalize lp tt k=rec;unfold tt uc;simp only[jD (vd h),cond_false]
 | cons e es ih =>
  intro i k h hk;obtain⟨k,rfl⟩:∃ k',k=k'+1:=⟨k - 1,by omega⟩
  rw[zv];have hi:=qr h;have hk2:es.length<k:=cr hk;have key:=fun (_:Unit)=>ih (i+1) k (zj h) hk2;generalize lp tt k=rec at key ⊢;unfold tt uc;simp only[ZZ hi,cond_true,y8,zr h,aa,j5 hi hl,key ()]
def yg (s0:jS):List zc->Int->Option (Int⊕(Int×Bool))
 | [],s1=>some (aU s1)
 | e::es,s1 =>
  (Qg s0 e.1 e.2).bind fun r4 =>
  cond (!r4)
  (some (aH (0,false)))
  (yg s0 es (ag .i64 (s1+((af e.2:Nat):Int))))
theorem Zr (s0:jS) (s2:jQ) (s1:Int) (hl:af s2<=maxLen):lp wa ze (s0,s1,s2,((af s2:Nat):Int),0)=yg s0 s2 s1:=x9 wa (fun i s1=>(s0,s1,s2,((af s2:Nat):Int),i)) (fun es i s1=>yg s0 es s1) hl (fun r i s1 h=>by unfold wa yg; simp only[h,cond_false]) (fun r i s1 e es h g w k=>by unfold wa yg; simp only[h,cond_true,g,aa,w,k]) s1
def zM (s0:jS):List jI->Nat->Int->Int->Option (Int⊕(Int×Bool))
 | [],_i,s1,_s2=>some (aU s1)
 | e::es,i,s1,s2 =>
  (Ym s0 e).bind fun r4 =>
  cond ((i:Int)==0)
  (cond (r4.2 != 0)
   (some (aH (0,false)))
   (cond (r4.1 != r4.1)
    (some (aH (0,false)))
    (zM s0 es (i+1) (ag .i64 (s1+((af e:Nat):Int))) r4.1)))
  (cond (r4.2 != 0)
   (some (aH (0,false)))
   (cond (r4.1 != s2)
    (some (aH (0,false)))
    (zM s0 es (i+1) (ag .i64 (s1+((af e:Nat):Int))) s2)))
theorem ZG (s0:jS) (s3:jR) (s1:Int) (s2:Int) (hl:af s3<=maxLen):lp xZ ze (s0,s1,s2,s3,((af s3:Nat):Int),0)=zM s0 s3 0 s1 s2:=zbm xZ (fun i s1 s2=>(s0,s1,s2,s3,((af s3:Nat):Int),i)) (fun es i s1 s2=>zM s0 es i s1 s2) hl (fun r i s1 s2 h=>by unfold xZ zM; simp only[h,cond_false]) (fun r i s1 s2 e es h g w k=>by unfold xZ zM; simp only[h,cond_true,g,aa,w,k]) s1 s2
def qA (s1:jI):List Int->Nat->Option (Unit⊕Bool)
 | [],_i=>some (aU ())
 | e::es,i =>
  (gx s1 (i:Int)).bind fun e4 =>
  cond (e != e4)
  (some (aH false))
  (qA s1 es (i+1))
theorem YP (s0:jI) (s1:jI) (hl:af s0<=maxLen):lp vD ze (s0,s1,((af s0:Nat):Int),0)=qA s1 s0 0:=sr vD (fun i=>(s0,s1,((af s0:Nat):Int),i)) (fun es i=>qA s1 es i) hl (fun r i h=>by unfold vD qA; simp only[h,cond_false]) (fun r i e es h g w k=>by unfold vD qA; simp only[h,cond_true,g,aa,w,k])
def yk (s3:Bool) (s4:jI):List zc->Nat->Option (Unit⊕Int)
 | [],_i=>some (aU ())
 | e::es,i =>
  (sX e.1 e.2 s3 s4).bind fun r4 =>
  cond r4
  (some (aH (i:Int)))
  (yk s3 s4 es (i+1))
theorem jo (s0:jQ) (s3:Bool) (s4:jI) (hl:af s0<=maxLen):lp qX ze (s0,((af s0:Nat):Int),0,s3,s4)=yk s3 s4 s0 0:=sr qX (fun i=>(s0,((af s0:Nat):Int),i,s3,s4)) (fun es i=>yk s3 s4 es i) hl (fun r i h=>by unfold qX yk; simp only[h,cond_false]) (fun r i e es h g w k=>by unfold qX yk; simp only[h,cond_true,g,aa,w,k])
def qj:List zc->jQ->Option jQ
 | [],s3=>some s3
 | e::es,s3 =>
  (wg s3 e.1 e.2).bind fun r6 =>
  cond (!r6)
  (cond (yK (af s3+af ([(e.1,e.2)]:List zc)) 32)
   (qj es (s3++([(e.1,e.2)]:List zc)))
   (none))
  (qj es s3)
theorem Y8 (s0:jQ) (s3:jQ) (hl:af s0<=maxLen):lp v9 ze (s0,((af s0:Nat):Int),0,s3)=qj s0 s3:=x9 v9 (fun i s3=>(s0,((af s0:Nat):Int),i,s3)) (fun es i s3=>qj es s3) hl (fun r i s3 h=>by unfold v9 qj; simp only[h,cond_false]) (fun r i s3 e es h g w k=>by unfold v9 qj; simp only[h,cond_true,g,aa,w,k]) s3
def zV (s3:jI):List jI->Nat->Option (Unit⊕Int)
 | [],_i=>some (aU ())
 | e::es,i =>
  (sS e s3).bind fun r4 =>
  cond r4
  (some (aH (i:Int)))
  (zV s3 es (i+1))
theorem kj (s0:jR) (s3:jI) (hl:af s0<=maxLen):lp qk ze (s0,((af s0:Nat):Int),0,s3)=zV s3 s0 0:=sr qk (fun i=>(s0,((af s0:Nat):Int),i,s3)) (fun es i=>zV s3 es i) hl (fun r i h=>by unfold qk zV; simp only[h,cond_false]) (fun r i e es h g w k=>by unfold qk zV; simp only[h,cond_true,g,aa,w,k])
def yA (s5:jQ) (s6:jR):List zc->jI->Int->jQ->Option (jI×Int×jQ×jR×jQ)
 | [],s3,s4,s7=>some (s3,s4,s5,s6,s7)
 | e::es,s3,s4,s7 =>
  (yZ e.2 s3 s4).bind fun r20 =>
  cond (yK (af s7+af ([(e.1,r20.1)]:List zc)) 32)
  (yA s5 s6 es r20.2.1 r20.2.2 (s7++([(e.1,r20.1)]:List zc)))
  (none)
theorem Yv (s0:jQ) (s5:jQ) (s6:jR) (s3:jI) (s4:Int) (s7:jQ) (hl:af s0<=maxLen):lp wJ ze (s0,((af s0:Nat):Int),0,s3,s4,s5,s6,s7)=yA s5 s6 s0 s3 s4 s7:=RQ wJ (fun i s3 s4 s7=>(s0,((af s0:Nat):Int),i,s3,s4,s5,s6,s7)) (fun es i s3 s4 s7=>yA s5 s6 es s3 s4 s7) hl (fun r i s3 s4 s7 h=>by unfold wJ yA; simp only[h,cond_false]) (fun r i s3 s4 s7 e es h g w k=>by unfold wJ yA; simp only[h,cond_true,g,aa,w,k]) s3 s4 s7
def yx (s8:jQ):List jI->jI->Int->jR->Option (jI×Int×jQ×jR)
 | [],s3,s4,s9=>some (s3,s4,s8,s9)
 | e::es,s3,s4,s9 =>
  (yZ e s3 s4).bind fun r13 =>
  cond (yK (af s9+af ([r13.1]:List jI)) 24)
  (yx s8 es r13.2.1 r13.2.2 (s9++([r13.1]:List jI)))
  (none)
theorem ZN (s0:jR) (s5:jQ) (s6:jR) (s7:jQ) (s8:jQ) (s3:jI) (s4:Int) (s9:jR) (hl:af s0<=maxLen):lp wM ze (s0,((af s0:Nat):Int),0,s3,s4,s5,s6,s7,s8,s9)=yx s8 s0 s3 s4 s9:=RQ wM (fun i s3 s4 s9=>(s0,((af s0:Nat):Int),i,s3,s4,s5,s6,s7,s8,s9)) (fun es i s3 s4 s9=>yx s8 es s3 s4 s9) hl (fun r i s3 s4 s9 h=>by unfold wM yx; simp only[h,cond_false]) (fun r i s3 s4 s9 e es h g w k=>by unfold wM yx; simp only[h,cond_true,g,aa,w,k]) s3 s4 s9
def yu:List zc->jI->Int->jQ->Option (jI×Int×jQ)
 | [],s3,s4,s8=>some (s3,s4,s8)
 | e::es,s3,s4,s8 =>
  (yZ e.2 s3 s4).bind fun r6 =>
  cond (yK (af s8+af ([(e.1,r6.1)]:List zc)) 32)
  (yu es r6.2.1 r6.2.2 (s8++([(e.1,r6.1)]:List zc)))
  (none)
theorem Yi (s0:jQ) (s5:jQ) (s6:jR) (s7:jQ) (s3:jI) (s4:Int) (s8:jQ) (hl:af s0<=maxLen):lp wD ze (s0,((af s0:Nat):Int),0,s3,s4,s5,s6,s7,s8)=yu s0 s3 s4 s8:=RQ wD (fun i s3 s4 s8=>(s0,((af s0:Nat):Int),i,s3,s4,s5,s6,s7,s8)) (fun es i s3 s4 s8=>yu es s3 s4 s8) hl (fun r i s3 s4 s8 h=>by unfold wD yu; simp only[h,cond_false]) (fun r i s3 s4 s8 e es h g w k=>by unfold wD yu; simp only[h,cond_true,g,aa,w,k]) s3 s4 s8
def qt (s3:jQ) (s4:jQ):List jI->jR->Option (jQ×jQ×jR)
 | [],s5=>some (s3,s4,s5)
 | e::es,s5 =>
  (xq s5 e).bind fun r8 =>
  cond (!r8)
  (cond (yK (af s5+af ([e]:List jI)) 24)
   (qt s3 s4 es (s5++([e]:List jI)))
   (none))
  (qt s3 s4 es s5)
theorem Qm (s0:jR) (s3:jQ) (s4:jQ) (s5:jR) (hl:af s0<=maxLen):lp uf ze (s0,((af s0:Nat):Int),0,s3,s4,s5)=qt s3 s4 s0 s5:=x9 uf (fun i s5=>(s0,((af s0:Nat):Int),i,s3,s4,s5)) (fun es i s5=>qt s3 s4 es s5) hl (fun r i s5 h=>by unfold uf qt; simp only[h,cond_false]) (fun r i s5 e es h g w k=>by unfold uf qt; simp only[h,cond_true,g,aa,w,k]) s5
def qc (s1:jI):List Int->Nat->Option (Unit⊕Bool)
 | [],_i=>some (aU ())
 | e::es,i =>
  (gx s1 (i:Int)).bind fun e4 =>
  cond (e != e4)
  (some (aH false))
  (qc s1 es (i+1))
theorem Z5 (s0:jI) (s1:jI) (hl:af s0<=maxLen):lp wH ze (s0,s1,0)=qc s1 s0 0:=sr wH (fun i=>(s0,s1,i)) (fun es i=>qc s1 es i) hl (fun r i h=>by unfold wH qc; simp only[h,cond_false]) (fun r i e es h g w k=>by unfold wH qc; simp only[h,cond_true,g,aa,w,k])
def qa (s1:jQ):List zc->Nat->Option (Unit⊕Bool)
 | [],_i=>some (aU ())
 | e::es,i =>
  (gx s1 (i:Int)).bind fun e7 =>
  cond (!(e.1==e7.1))
  (some (aH false))
  ((gx s1 (i:Int)).bind fun e9 =>
   (wS e.2 e9.2).bind fun r10 =>
   cond (!r10)
   (some (aH false))
   (qa s1 es (i+1)))
theorem Yd (s0:jQ) (s1:jQ) (hl:af s0<=maxLen):lp wK ze (s0,s1,0)=qa s1 s0 0:=sr wK (fun i=>(s0,s1,i)) (fun es i=>qa s1 es i) hl (fun r i h=>by unfold wK qa; simp only[h,cond_false]) (fun r i e es h g w k=>by unfold wK qa; simp only[h,cond_true,g,aa,w,k])
def qd (s1:jR):List jI->Nat->Option (Unit⊕Bool)
 | [],_i=>some (aU ())
 | e::es,i =>
  (gx s1 (i:Int)).bind fun e5 =>
  (wS e e5).bind fun r6 =>
  cond (!r6)
  (some (aH false))
  (qd s1 es (i+1))
theorem Yj (s0:jR) (s1:jR) (hl:af s0<=maxLen):lp wy ze (s0,s1,0)=qd s1 s0 0:=sr wy (fun i=>(s0,s1,i)) (fun es i=>qd s1 es i) hl (fun r i h=>by unfold wy qd; simp only[h,cond_false]) (fun r i e es h g w k=>by unfold wy qd; simp only[h,cond_true,g,aa,w,k])
def Wc (n:Int):Bool:=decide (97<=n)&&decide (n<=122)
theorem rY (n:Int):kr n=some (Wc n):=by
 unfold kr Wc;by_cases h:n≥97<;>simp [h]
def Hh (e:UInt8):Bool:=Wc ((bH e:Nat):Int)||(decide (48<=((bH e:Nat):Int))&&decide (((bH e:Nat):Int)<=57))
theorem DX (es:List UInt8):ye es=some (cond (es.all Hh) (.inl ()) (.inr false)):=by
 induction es with
 | nil=>rfl
 | cons e es ih =>
  unfold ye;rw[rY,aa,ih,bX];unfold Hh;cases h:Wc ((bH e:Nat):Int) with
  | true=>simp
  | false =>
   by_cases h1:((bH e:Nat):Int)<48
   ·have:¬(48<=((bH e:Nat):Int)):=by omega
    simp only[bE,cond_true,decide_eq_true h1,decide_eq_false this,bt,eF,cond_false]
   ·have h3:48<=((bH e:Nat):Int):=by omega
    by_cases h2:((bH e:Nat):Int)>57
    ·have:¬(((bH e:Nat):Int)<=57):=by omega
     simp only[bE,cond_true,decide_eq_false h1,decide_eq_true h2,decide_eq_false this,cB,bt,eF,cond_false]
    ·have h4:((bH e:Nat):Int)<=57:=by omega
     simp only[bE,cond_true,decide_eq_false h1,decide_eq_false h2,decide_eq_true h3,decide_eq_true h4,ed,aN,Bool.or_true,cond_false]
def QP (s:Str):Bool:=match s with
 | []=>false
 | c::_=>decide (s.length<=8)&&Wc ((bH c:Nat):Int)&&s.all Hh
theorem JW (s:Str):Yu s=some (QP s):=by
 unfold Yu QP;cases s with
 | nil=>rfl
 | cons c r =>
  rw[show ((c::r:Str)==([]:Str))=false from rfl,cond_false]
  by_cases h:(c::r).length<=8
  ·have h1:¬(((af (c::r):Nat):Int)>8):=by omega
   rw[decide_eq_false h1,cond_false,z6,aB,aa,rY,aa,Y5 _ (by unfold maxLen; omega),DX,decide_eq_true h]
   dsimp only;cases Wc ((bH c:Nat):Int) with
   | false=>rfl
   | true=>cases (c::r).all Hh<;>rfl
  ·have h1:((af (c::r):Nat):Int)>8:=by omega
   rw[decide_eq_true h1,decide_eq_false h];rfl
def Mm (e:zg):Bool:=QP e.1&&decide (0<=e.2.1)&&decide (e.2.1<=2)&&decide (0<=e.2.2.1)&&decide (e.2.2.1<=3)&&decide (1<=e.2.2.2)&&decide (e.2.2.2<=20)
theorem J6 (e:zg):kW e.1 e.2.1 e.2.2.1 e.2.2.2=some (Mm e):=by
 unfold kW Mm;rw[JW,aa];cases QP e.1<;>simp only[cond_true,cond_false,aN,bt,ge_iff_le]
 cases decide (0<=e.2.1)<;>simp only[cond_true,cond_false,aN,bt]
 cases decide (e.2.1<=2)<;>simp only[cond_true,cond_false,aN,bt]
 cases decide (0<=e.2.2.1)<;>simp only[cond_true,cond_false,aN,bt]
 cases decide (e.2.2.1<=3)<;>simp only[cond_true,cond_false,aN,bt]
 cases decide (1<=e.2.2.2)<;>simp only[cond_true,cond_false,aN,bt]
def Sg (o:Option Nat):Int:=match o with
 | some i=>(i:Int)
 | none => -1
theorem MZ (nm:Str) (es:List zg) (i:Nat):qz nm es i=some (match es.findIdx? (fun e=>e.1==nm) with
  | some j=>.inr ((i+j:Nat):Int)
  | none=>.inl ()):=by
 induction es generalizing i with
 | nil=>rfl
 | cons e es ih =>
  unfold qz;rw[List.findIdx?_cons];cases h:(e.1==nm) with
  | true=>simp
  | false =>
   rw[cond_false,ih];cases es.findIdx? (fun e=>e.1==nm) with
   | none=>rfl
   | some j=>simp; omega
theorem DA (a0:List zg) (nm:Str) (h:a0.length<=maxLen):Qb a0 nm=some (Sg (a0.findIdx? (fun e=>e.1==nm))):=by
 unfold Qb;rw[XM _ _ h,MZ];cases a0.findIdx? (fun e=>e.1==nm) with
 | none=>rfl
 | some j=>simp [yb,Sg]
def W3 (a0:List zg):List zg->Nat->Bool
 | [],_=>true
 | e::es,i=>Mm e&&(Sg (a0.findIdx? (fun d=>d.1==e.1))==(i:Int))&&W3 a0 es (i+1)
theorem zdn (a0:List zg) (h:a0.length<=maxLen) (es:List zg) (i:Nat):uc a0 es i=some (cond (W3 a0 es i) (.inl ()) (.inr false)):=by
 induction es generalizing i with
 | nil=>rfl
 | cons e es ih =>
  unfold uc W3;rw[J6,aa,DA _ _ h,aa,ih,bne];cases Mm e with
  | false=>rfl
  | true =>
   cases (Sg (a0.findIdx? (fun d=>d.1==e.1))==(i:Int)) with
   | false=>rfl
   | true=>simp
def Ce:zg:=([61],0,2,1)
def eqQ (e:zg):Bool:=cond (eqS e.1 [61]) (cond (eqI e.2.1 0) (cond (eqI e.2.2.1 2) (cond (eqI e.2.2.2 1) true false) false) false) false
theorem za5 (e:zg):eqQ e=true↔e=Ce:=by
 obtain⟨a,b,c,d⟩:=e;unfold eqQ Ce eqS eqI;cases h1:(a==([61]:List UInt8))<;>cases h2:(b==0)<;>cases h3:(c==2)<;>cases h4:(d==1)<;>simp_all
def uU (a0:List zg):Bool:=match a0 with
 | []=>false
 | e::es=>decide (a0.length<=20)&&eqQ e&&W3 a0 es 1
theorem XJ (a0:List zg):Q2 a0=some (uU a0):=by
 unfold Q2 uU;cases a0 with
 | nil=>rfl
 | cons e es =>
  rw[decide_eq_false (show ¬(((af (e::es):Nat):Int)<1) by rw[ak]; omega),cond_false]
  by_cases h:(e::es).length<=20
  ·have h1:¬(((af (e::es):Nat):Int)>20):=by omega
   have hm:(e::es).length<=maxLen:=by unfold maxLen; omega
   rw[decide_eq_false h1,cond_false,z6,aB,aa,decide_eq_true h];show cond (!(eqQ e)) _ _=some (true&&eqQ e&&W3 (e::es) es 1);cases eqQ e with
   | false=>rfl
   | true =>
    have:=Vf (e::es) hm es 1 ze rfl (by simp [ze]; simp at h; omega)
    simp only[az,cond_false];rw[show ((1:Int))=((1:Nat):Int) from rfl,this,zdn _ hm]
    cases W3 (e::es) es 1<;>rfl
  ·have h1:((af (e::es):Nat):Int)>20:=by omega
   rw[decide_eq_true h1,decide_eq_false h];rfl
theorem Cs {a0:List zg}:{es:List zg}->{i:Nat}->W3 a0 es i=true->∀(j:Nat) e,es[j]? = some e->Mm e=true∧Sg (a0.findIdx? (fun d=>d.1==e.1))=((i+j:Nat):Int)
 | [],_,_,j,e,he=>by simp at he
 | d::es,i,h,0,e,he=>by
  injection he with he; subst he;simp only[W3,ay] at h;exact ⟨h.1.1,by simpa using h.1.2⟩
 | d::es,i,h,j+1,e,he=>by
  simp only[W3,ay] at h;have:=Cs h.2 j e (by simpa using he)
  exact ⟨this.1,by rw[this.2]; omega⟩
structure SignOk (a0:List zg):Prop where
 pos:1<=a0.length
 len:a0.length<=20
 eq:a0[0]? = some Ce
 sym:∀(i:Nat) e,a0[i+1]? = some e->Mm e=true∧Sg (a0.findIdx? (fun d=>d.1==e.1))=((i+1:Nat):Int)
theorem ut {a0:List zg} (h:uU a0=true):SignOk a0:=by
 unfold uU at h;cases a0 with
 | nil=>cases h
 | cons e es =>
  simp only[ay,decide_eq_true_eq] at h;exact ⟨by simp,h.1.1,by rw[aB,(za5 e).1 h.1.2],fun i d hd=>by
   have:=Cs h.2 i d (by simpa using hd)
   exact ⟨this.1,by rw[this.2]; omega⟩⟩
theorem SignOk.max {a0:List zg} (h:SignOk a0):a0.length<=maxLen:=Nat.le_trans h.len (by unfold maxLen; omega)
theorem No {e:zg} (h:Mm e=true):QP e.1=true∧0<=e.2.1∧e.2.1<=2∧0<=e.2.2.1∧e.2.2.1<=3∧1<=e.2.2.2∧e.2.2.2<=20:=by
 unfold Mm at h;simp only[ay,decide_eq_true_eq] at h;exact ⟨h.1.1.1.1.1.1,h.1.1.1.1.1.2,h.1.1.1.1.2,h.1.1.1.2,h.1.1.2,h.1.2,h.2⟩
theorem At {s:Str} (h:QP s=true):1<=s.length∧s.length<=8:=by
 unfold QP at h;cases s with
 | nil=>cases h
 | cons c r =>
  simp only[ay,decide_eq_true_eq] at h;exact ⟨by simp,h.1.1⟩
theorem SignOk.at {a0:List zg} (h:SignOk a0) {i:Nat} {e:zg} (he:a0[i]? = some e):1<=e.1.length∧e.1.length<=8∧0<=e.2.1∧e.2.1<=2∧0<=e.2.2.1∧e.2.2.1<=3:=by
 cases i with
 | zero =>
  rw[h.eq] at he;injection he with he; subst he;decide
 | succ i =>
  obtain⟨h1,h2,h3,h4,h5,_⟩:=No (h.sym i e he).1;have:=At h1;exact ⟨this.1,this.2,h2,h3,h4,h5⟩
def uV (a0:List zg) (x:Int):Option Nat :=
 cond (decide (x<0)) (cond (decide (-24<=x)) (some 0) none) (match a0[x.toNat]? with
  | some e=>cond (e.2.1==0) none (some e.2.2.1.toNat)
  | none=>none)
def nOk (o:Option Nat):Int×Bool:=match o with
 | some k=>((k:Int),true)
 | none=>(0,false)
theorem qx {x:Int} (h1 : -9223372036854775808<=x) (h2:x<=9223372036854775807):zQ x=some (-1 - x):=by
 unfold zQ;rw[zo]<;>omega
theorem VB {a0:List zg} (h:SignOk a0) (x:Int):Y2 a0 x=some (nOk (uV a0 x)):=by
 unfold Y2 uV;by_cases h0:x<0
 ·rw[decide_eq_true h0,cond_true,cond_true,qx (by omega) (by omega),aa]
  by_cases h1 : -24<=x
  ·rw[decide_eq_true h1,decide_eq_true (show x ≥ -1 - 23 by omega)]; rfl
  ·rw[decide_eq_false h1,decide_eq_false (show ¬(x ≥ -1 - 23) by omega)]; rfl
 ·rw[decide_eq_false h0,cond_false,cond_false];by_cases h1:x≥((af a0:Nat):Int)
  ·rw[decide_eq_true h1,cond_true,aQ (by omega)]; rfl
  ·obtain⟨e,he1,he2,he3⟩:=WN (xs:=a0) (i:=x) (by omega) (by omega)
   have:=h.at he3;rw[decide_eq_false h1,cond_false,he1,aa,he3];cases he:(e.2.1==0) with
   | true=>simp only[he,cond_true]; rfl
   | false =>
    simp only[he,cond_false,aa];unfold nOk;simp only[aq,aM,and_true];omega
theorem Wa {a0:List zg} (h:SignOk a0) {x:Int} {k:Nat} (hk:uV a0 x=some k):k<=3:=by
 unfold uV at hk;by_cases h0:x<0
 ·rw[decide_eq_true h0,cond_true] at hk;by_cases h1 : -24<=x
  ·rw[decide_eq_true h1] at hk; injection hk with hk; omega
  ·rw[decide_eq_false h1] at hk; cases hk
 ·rw[decide_eq_false h0,cond_false] at hk;cases he:a0[x.toNat]? with
  | none=>rw[he] at hk; cases hk
  | some e =>
   rw[he] at hk;have:=h.at he;simp only at hk;cases hz:(e.2.1==0) with
   | true=>rw[hz] at hk; cases hk
   | false=>rw[hz] at hk; injection hk with hk; omega
def sk (a0:List zg):Nat->List Int->Option Nat
 | 0,_=>some 0
 | _+1,[]=>none
 | n+1,x::xs=>match uV a0 x with
  | none=>none
  | some k=>(sk a0 (n+k) xs).map (· + 1)
theorem Kx {a0:List zg}:{xs:List Int}->{n k:Nat}->sk a0 n xs=some k->k<=xs.length∧(0<n->0<k)∧n<=k
 | [],0,k,h=>by simp [sk] at h; omega
 | [],n+1,k,h=>by simp [sk] at h
 | x::xs,0,k,h=>by simp [sk] at h; omega
 | x::xs,n+1,k,h=>by
  unfold sk at h;cases ha:uV a0 x with
  | none=>rw[ha] at h; cases h
  | some m =>
   rw[ha] at h;simp only[bA] at h;obtain⟨j,hj,rfl⟩:=h;have:=Kx hj;rw[ak];omega
theorem Fw {a0:List zg} (h:SignOk a0) (a1:List Int) (hl:a1.length<=1099511627776):∀(m i n:Nat) (k:Nat),a1.length - i=m->0<n->n<=1+3*i->m<k ->
  lp uL k (a0,a1,(i:Int),(n:Int))=some (match sk a0 n (a1.drop i) with
   | some j=>(((i+j:Nat):Int),true)
   | none=>(0,false)):=by
 intro m
 induction m with
 | zero =>
  intro i n k hm hn hni hk;obtain⟨k,rfl⟩:∃ k',k=k'+1:=⟨k - 1,by omega⟩
  rw[zv];generalize lp uL k=rec;unfold uL;simp only[decide_eq_true (show ((i:Int)≥((af a1:Nat):Int)) by omega),cond_true,cP.2 (show a1.length<=i by omega)]
  obtain⟨n,rfl⟩:∃ n',n=n'+1:=⟨n - 1,by omega⟩
  rfl
 | succ m ih =>
  intro i n k hm hn hni hk;obtain⟨k,rfl⟩:∃ k',k=k'+1:=⟨k - 1,by omega⟩
  have hi:i<a1.length:=by omega
  rw[zv];have key:=fun n' h1 h2=>ih (i+1) n' k (by omega) h1 h2 (by omega)
  generalize lp uL k=rec at key ⊢;unfold uL;obtain⟨n,rfl⟩:∃ n',n=n'+1:=⟨n - 1,by omega⟩
  simp only[decide_eq_false (show ¬((i:Int)≥((af a1:Nat):Int)) by omega),cond_false,y8,al hi,aa,VB h,aY hi,sk]
  cases ha:uV a0 a1[i] with
  | none=>simp [nOk]
  | some q =>
   have hq:=Wa h ha;have e1:ag .i64 ((q:Int) - 1)=(q:Int) - 1:=zo (by omega) (by omega)
   have e2:ag .i64 (((n+1:Nat):Int)+((q:Int) - 1))=((n+q:Nat):Int):=by rw[zo]<;>omega
   have e3:ag .i64 ((i:Int)+1)=((i+1:Nat):Int):=by rw[zo]<;>omega
   simp only[nOk,az,cond_false,e1,e2,e3];by_cases hp:0<n+q
   ·rw[decide_eq_true (show ((n+q:Nat):Int)>0 by omega),cond_true,key _ hp (by omega)]
    cases sk a0 (n+q) (a1.drop (i+1)) with
    | none=>rfl
    | some j=>simp only[bD]; rw[show i+1+j=i+(j+1) from by omega]
   ·rw[decide_eq_false (show ¬(((n+q:Nat):Int)>0) by omega),cond_false]
    have:n+q=0:=by omega
    rw[this];simp [sk]
theorem jK {a0:List zg} (h:SignOk a0) (a1:List Int) (hl:a1.length<=1099511627776) (i:Nat):wd a0 a1 (i:Int)=some (match sk a0 1 (a1.drop i) with
   | some j=>(((i+j:Nat):Int),true)
   | none=>(0,false)):=by
 unfold wd;by_cases hi:i<a1.length
 ·simp only[decide_eq_false (show ¬((i:Int)≥((af a1:Nat):Int)) by omega),cond_false,y8,al hi,aa,VB h,aY hi,sk]
  cases ha:uV a0 a1[i] with
  | none=>simp [nOk]
  | some q =>
   have hq:=Wa h ha;have e1:ag .i64 ((q:Int) - 1)=(q:Int) - 1:=zo (by omega) (by omega)
   have e2:ag .i64 (1+((q:Int) - 1))=((q:Nat):Int):=by rw[zo]<;>omega
   have e3:ag .i64 ((i:Int)+1)=((i+1:Nat):Int):=by rw[zo]<;>omega
   simp only[nOk,az,cond_false,e1,e2,e3];by_cases hp:0<q
   ·rw[decide_eq_true (show (q:Int)>0 by omega),cond_true,Fw h a1 hl (a1.length - (i+1)) (i+1) q ze rfl hp (by omega) (by unfold ze; omega),aP]
    cases sk a0 q (a1.drop (i+1)) with
    | none=>rfl
    | some j=>simp only[bD,aa]; rw[show i+1+j=i+(j+1) from by omega]
   ·rw[decide_eq_false (show ¬((q:Int)>0) by omega),cond_false]
    have:q=0:=by omega
    subst this;simp [sk]
 ·simp only[decide_eq_true (show ((i:Int)≥((af a1:Nat):Int)) by omega),cond_true,cP.2 (show a1.length<=i by omega)]
  rfl
def AE (a0:List zg):Nat->List Int->Option jR
 | _,[]=>some []
 | 0,_::_=>none
 | n+1,x::xs=>match sk a0 1 (x::xs) with
  | none=>none
  | some k=>(AE a0 n ((x::xs).drop k)).map ((x::xs).take k :: ·)
def V1 (a0:List zg) (xs:List Int):Option jR:=AE a0 xs.length xs
theorem Gw {a0:List zg}:{n m:Nat}->{xs:List Int}->xs.length<=n->n<=m->AE a0 m xs=AE a0 n xs
 | n,m,[],_,_=>by cases n<;>cases m<;>rfl
 | 0,_,_::_,h,_=>by simp at h
 | n+1,0,_::_,_,h=>by omega
 | n+1,m+1,x::xs,h,hm=>by
  unfold AE;cases hk:sk a0 1 (x::xs) with
  | none=>rfl
  | some k =>
   have:=Kx hk;simp only;rw[Gw (n:=n) (m:=m) (by simp at h ⊢; omega) (by omega)]
theorem Ko (a0:List zg):V1 a0 []=some []:=rfl
theorem rj {a0:List zg} {xs:List Int} (h:xs≠[]):V1 a0 xs=match sk a0 1 xs with
  | none=>none
  | some k=>(V1 a0 (xs.drop k)).map (xs.take k :: ·):=by
 cases xs with
 | nil=>exact absurd rfl h
 | cons x xs =>
  show AE a0 (xs.length+1) (x::xs)=_;unfold AE;cases hk:sk a0 1 (x::xs) with
  | none=>rfl
  | some k =>
   have:=Kx hk;simp only;unfold V1;rw[Gw (n:=((x::xs).drop k).length) (m:=xs.length) (aC _) (by simp; omega)]
theorem OI {a0:List zg}:{xs:List Int}->{n k:Nat}->sk a0 n xs=some k->sk a0 n (xs.take k)=some k
 | [],0,k,h=>by simp [sk] at h; subst h; rfl
 | [],n+1,k,h=>by simp [sk] at h
 | x::xs,0,k,h=>by simp [sk] at h; subst h; rfl
 | x::xs,n+1,k,h=>by
  unfold sk at h;cases ha:uV a0 x with
  | none=>rw[ha] at h; cases h
  | some m =>
   rw[ha] at h;simp only[bA] at h;obtain⟨j,hj,rfl⟩:=h;rw[eP];unfold sk;rw[ha];simp only[OI hj,bD]
theorem QK {a0:List zg}:∀(n:Nat) (xs:List Int) (ps:List jI),xs.length<=n->V1 a0 xs=some ps->ps.flatten=xs∧∀ p∈ps,p≠[]∧sk a0 1 p=some p.length:=by
 intro n
 induction n with
 | zero =>
  intro xs ps h hc;obtain rfl:xs=[]:=cn.1 (by omega)
  injection hc with hc; subst hc;exact ⟨rfl,fun p hp=>by cases hp⟩
 | succ n ih =>
  intro xs ps h hc;by_cases hx:xs=[]
  ·subst hx;injection hc with hc; subst hc;exact ⟨rfl,fun p hp=>by cases hp⟩
  ·rw[rj hx] at hc;cases hk:sk a0 1 xs with
   | none=>rw[hk] at hc; cases hc
   | some k =>
    rw[hk] at hc;simp only[bA] at hc;obtain⟨qs,hq,rfl⟩:=hc;have hle:=Kx hk;obtain⟨h1,h2⟩:=ih _ qs (by simp; omega) hq
    refine ⟨by rw[fg,h1,List.take_append_drop],fun p hp => ?_⟩
    rcases aG.1 hp with rfl | hp
    ·have hl:(xs.take k).length=k:=by simp; omega
     exact ⟨fun e=>by rw[e] at hl; simp at hl; omega,by rw[hl]; exact OI hk⟩
    ·exact h2 p hp
def jy:Nat->List jI->List Int
 | _,[]=>[]
 | i,p::ps=>(i:Int)::jy (i+p.length) ps
theorem QB:(i:Nat)->(ps:List jI)->(jy i ps).length=ps.length
 | _,[]=>rfl
 | i,p::ps=>by simp [jy,QB (i+p.length) ps]
theorem zp {n b:Nat} (h:n*b<=140737488351232):yK n b=true:=by simpa[yK] using h
theorem I3 {a0:List zg} (h:SignOk a0) (a1:List Int) (hl:a1.length<=1099511627776):∀(m i:Nat) (acc:List Int) (k:Nat),a1.length - i=m->i<=a1.length->acc.length<=i->m<k ->
  lp u6 k (a0,a1,(i:Int),acc)=some (match V1 a0 (a1.drop i) with
   | some ps=>(true,acc++jy i ps)
   | none=>(false,[])):=by
 intro m
 induction m using cU with
 | _ m ih =>
  intro i acc k hm hi hacc hk;obtain⟨k,rfl⟩:∃ k',k=k'+1:=⟨k - 1,by omega⟩
  rw[zv];have key:=fun j acc' (h1:i<j) h2 h3=>ih (a1.length - j) (by omega) j acc' k rfl h2 h3 (by omega)
  generalize lp u6 k=rec at key ⊢;unfold u6;by_cases he:i=a1.length
  ·subst he;simp [Ko,jy]
  ·have hlt:i<a1.length:=by omega
   have hne:a1.drop i≠[]:=by simp; omega
   simp only[show (((i:Int))==((af a1:Nat):Int))=false from by simp; omega,cond_false,jK h a1 hl,aa,rj hne]
   cases hs:sk a0 1 (a1.drop i) with
   | none=>rfl
   | some j =>
    have hj:=Kx hs;rw[bq] at hj;simp only[az,cond_false,aX,zp (show (acc.length+1)*8<=140737488351232 by omega),cond_true]
    rw[key (i+j) _ (by omega) (by omega) (by simp; omega),cf]
    cases V1 a0 (a1.drop (i+j)) with
    | none=>rfl
    | some ps =>
     simp only[bD,jy];rw[List.length_take,bq,dK (by omega)]
     simp
def uq (a0:List zg) (a1:List Int):Option jR:=cond (uU a0&&decide (a1.length<=48)) (V1 a0 a1) none
theorem j9 (a0:List zg) (a1:List Int):sO a0 a1=some (match uq a0 a1 with
  | some ps=>(true,jy 0 ps)
  | none=>(false,[])):=by
 unfold sO uq;rw[XJ,aa];cases hs:uU a0 with
 | false=>rfl
 | true =>
  have h:=ut hs;by_cases hl:a1.length<=48
  ·simp only[az,cond_false,decide_eq_false (show ¬(((af a1:Nat):Int)>48) by omega),decide_eq_true hl,ed,cond_true]
   by_cases h0:a1=[]
   ·subst h0; rfl
   ·have hpos:0<a1.length:=d6.2 h0;simp only[show ((0:Int)==((af a1:Nat):Int))=false from by simp; omega,cond_false]
    have e:=jK h a1 (by omega) 0
    rw[show ((0:Nat):Int)=0 from rfl] at e
    rw[e,aa,bQ,rj h0];cases hk:sk a0 1 a1 with
    | none=>rfl
    | some j =>
     have hj:=Kx hk;simp only[az,cond_false,aP,aX,zp (show 1*8<=140737488351232 by omega),cond_true]
     rw[I3 h a1 (by omega) (a1.length - j) j [0] ze rfl (by omega) (by simp; omega) (by unfold ze; omega)]
     cases V1 a0 (a1.drop j) with
     | none=>rfl
     | some ps=>simp [jy,dK hj.1]
  ·simp only[az,cond_false,decide_eq_true (show (((af a1:Nat):Int)>48) by omega),decide_eq_false hl,cB,cond_true]
def vq (a0:List zg) (xs:List Int):Bool:=match xs with
 | []=>false
 | x::r=>decide (0<=x)&&(match a0[x.toNat]? with
  | none=>false
  | some e=>(e.2.1==0)&&(match uq a0 r with
   | none=>false
   | some ps=>((ps.length:Nat):Int)==e.2.2.1))
theorem wW {α:Type} (x:α) (r:List α):uh (x::r) (some 1) none=some r:=by
 show slc (x::r) 1 ((x::r).length:Int)=some r;unfold slc;simp only[ak];rw[decide_eq_true (show (0:Int)<=1 by omega),decide_eq_true (show (1:Int)<=((r.length+1:Nat):Int) by omega),decide_eq_true (show ((r.length+1:Nat):Int)<=((r.length+1:Nat):Int) by omega)]
 simp
theorem Zd (a0:List zg) (xs:List Int):vP a0 xs=some (vq a0 xs):=by
 unfold vP vq;cases xs with
 | nil=>rfl
 | cons x r =>
  simp only[show ((((x::r).length:Nat):Int)==0)=false from by simp; omega,cond_false,z6,aB,aa]
  by_cases h0:x<0
  ·rw[decide_eq_true h0,decide_eq_false (show ¬(0<=x) by omega)]; rfl
  ·rw[decide_eq_false h0,decide_eq_true (show 0<=x by omega),cond_false,aN]
   by_cases h1:x≥((af a0:Nat):Int)
   ·rw[decide_eq_true h1,aQ (by omega)]; rfl
   ·obtain⟨e,he1,he2,he3⟩:=WN (xs:=a0) (i:=x) (by omega) (by omega)
    simp only[decide_eq_false h1,cond_false,he1,he3,aa,bne];cases hk:(e.2.1==0) with
    | false=>rfl
    | true =>
     simp only[az,cond_false,wW,aa,j9,aN];cases uq a0 r with
     | none=>rfl
     | some ps=>simp [QB]
def zk (xs:List jI):Nat:=(xs.map af).sum
def su (a0:List zg) (ls:List zc):Bool:=ls.all fun l=>vq a0 l.2
theorem Ba {a0:List zg} {xs:List Int} (h:vq a0 xs=true):xs.length<=49:=by
 unfold vq at h;cases xs with
 | nil=>cases h
 | cons x r =>
  simp only[ay] at h;cases he:a0[x.toNat]? with
  | none=>rw[he] at h; simp at h
  | some e =>
   rw[he] at h;simp only[ay] at h;cases hb:uq a0 r with
   | none=>rw[hb] at h; simp at h
   | some ps =>
    unfold uq at hb;cases hl:decide (r.length<=48) with
    | false=>rw[hl,cB] at hb; cases hb
    | true=>rw[decide_eq_true_eq] at hl; simp; omega
theorem Ls (a0:List zg):(es:List zc)->(t:Nat)->t+49*es.length<=1099511627776->yg a0 es (t:Int)=some (cond (su a0 es) (.inl ((t+zk (es.map (·.2)):Nat):Int)) (.inr (0,false)))
 | [],t,_=>by simp [yg,su,zk]
 | e::es,t,h=>by
  unfold yg Qg su;rw[Zd,aa,aa,bX];cases ha:vq a0 e.2 with
  | false=>rfl
  | true =>
   have hl:=Ba ha;rw[ak] at h;have e1:ag .i64 ((t:Int)+((af e.2:Nat):Int))=((t+e.2.length:Nat):Int):=by rw[zo]<;>omega
   rw[e1];have:=Ls a0 es (t+e.2.length) (by omega)
   unfold su at this;simp only[az,cond_false,aN,this];rw[show t+e.2.length+zk (es.map (·.2))=t+zk ((e::es).map (·.2)) from by simp [zk]; omega]
theorem Zf (a0:List zg) (ls:List zc) (h:ls.length<=1000000000):u4 a0 ls=some (cond (su a0 ls) (((zk (ls.map (·.2)):Nat):Int),true) (0,false)):=by
 unfold u4;rw[Zr _ _ _ (by unfold maxLen; omega),show ((0:Int))=((0:Nat):Int) from rfl,Ls a0 ls 0 (by omega)]
 cases su a0 ls with
 | false=>rfl
 | true=>simp [yb]
def YO (a0:List zg) (xs:List Int):Option Nat:=(uq a0 xs).map af
theorem Yg (a0:List zg) (xs:List Int):Ym a0 xs=some (match YO a0 xs with
  | some n=>((n:Int),0)
  | none=>(0,200)):=by
 unfold Ym YO;rw[j9,aa];cases uq a0 xs with
 | none=>rfl
 | some ps=>simp [QB]
theorem WQ {a0:List zg} {xs:List Int} {n:Nat} (h:YO a0 xs=some n):xs.length<=48:=by
 unfold YO uq at h;cases hl:decide (xs.length<=48) with
 | false=>rw[hl,cB] at h; cases h
 | true=>rw[decide_eq_true_eq] at hl; exact hl
def ZE (a0:List zg) (rs:List jI):Bool:=match rs with
 | []=>true
 | r::rs=>match YO a0 r with
  | none=>false
  | some n=>rs.all fun q=>YO a0 q==some n
theorem NK (a0:List zg) (w:Nat):(es:List jI)->(i t:Nat)->t+49*es.length<=1099511627776->zM a0 es (i+1) (t:Int) (w:Int)=some (cond (es.all fun q=>YO a0 q==some w) (.inl ((t+zk es:Nat):Int)) (.inr (0,false)))
 | [],i,t,_=>by simp [zM,zk]
 | e::es,i,t,h=>by
  unfold zM;rw[Yg,aa,bX];rw[show ((((i+1:Nat):Int))==0)=false from by simp; omega,cond_false]
  cases hr:YO a0 e with
  | none=>rfl
  | some n =>
   have hl:=WQ hr;rw[ak] at h;have e1:ag .i64 ((t:Int)+((af e:Nat):Int))=((t+e.length:Nat):Int):=by rw[zo]<;>omega
   have:=NK a0 w es (i+1) (t+e.length) (by omega)
   simp only[e1,this];by_cases hn:n=w
   ·subst hn;simp [zk,bK]
   ·have h1:((n:Int) != (w:Int))=true:=by simp; omega
    have h2:(some n==some w)=false:=by simpa using hn
    simp [h1,h2]
theorem WX (a0:List zg) (rs:List jI) (h:rs.length<=1000000000):sV a0 rs=some (cond (ZE a0 rs) (((zk rs:Nat):Int),true) (0,false)):=by
 unfold sV;rw[ZG _ _ _ _ (by unfold maxLen; omega)]
 cases rs with
 | nil=>rfl
 | cons r rs =>
  unfold zM ZE;rw[Yg,aa];rw[show ((((0:Nat):Int))==0)=true from rfl,cond_true]
  dsimp only;cases hr:YO a0 r with
  | none=>rfl
  | some n =>
   have hl:=WQ hr;rw[ak] at h;have e1:ag .i64 (0+((af r:Nat):Int))=((r.length:Nat):Int):=by rw[zo]<;>omega
   have:=NK a0 n rs 0 r.length (by omega)
   simp only[e1,this];cases hb:rs.all fun q=>YO a0 q==some n with
   | false=>simp [yb]
   | true=>simp [yb,zk]
def qy (a0:List zg) (a1:List zc) (a2:List jI) (a3:List zc):Bool :=
 uU a0&&decide (a1.length<=5)&&decide (a2.length<=3)&&decide (a3.length<=3)&&su a0 a1&&ZE a0 a2&&su a0 a3&&decide (zk (a1.map (·.2))+zk a2+zk (a3.map (·.2))<=240)
theorem WC {a0:List zg}:(ls:List zc)->su a0 ls=true->zk (ls.map (·.2))<=49*ls.length
 | [],_=>by simp [zk]
 | l::ls,h=>by
  unfold su at h;rw[bX,ay] at h;have h1:=Ba h.1;have h2:=WC ls h.2;unfold zk at h2 ⊢;simp only[aK,cD,ak];omega
theorem CC {a0:List zg} (rs:List jI) (h:ZE a0 rs=true):zk rs<=49*rs.length:=by
 cases rs with
 | nil=>simp [zk]
 | cons r rs =>
  unfold ZE at h;dsimp only at h;cases hr:YO a0 r with
  | none=>rw[hr] at h; cases h
  | some n =>
   rw[hr] at h;have h1:=WQ hr;have h2:∀ qs:List jI,(qs.all fun q=>YO a0 q==some n)=true->zk qs<=49*qs.length:=by
    intro qs
    induction qs with
    | nil=>intro _; simp [zk]
    | cons q qs ih =>
     intro hq;rw[bX,ay] at hq;have h3:=ih hq.2;have h4:=WQ (by simpa using hq.1)
     unfold zk at h3 ⊢;simp only[aK,cD,ak];omega
   have h5:=h2 rs h;unfold zk at h5 ⊢;simp only[aK,cD,ak];omega
theorem zG (a0:List zg) (a1:List zc) (a2:List jI) (a3:List zc):qI a0 a1 a2 a3=some (qy a0 a1 a2 a3):=by
 unfold qI qy;rw[XJ,aa];cases uU a0 with
 | false=>rfl
 | true =>
  by_cases h1:a1.length<=5
  ·by_cases h2:a2.length<=3
   ·by_cases h3:a3.length<=3
    ·simp only[az,cond_false,decide_eq_false (show ¬(((af a1:Nat):Int)>5) by omega),decide_eq_false (show ¬(((af a2:Nat):Int)>3) by omega),decide_eq_false (show ¬(((af a3:Nat):Int)>3) by omega),
      decide_eq_true h1,decide_eq_true h2,decide_eq_true h3,Zf a0 a1 (by omega),WX a0 a2 (by omega),Zf a0 a3 (by omega),aa,aN]
     cases hb1:su a0 a1 with
     | false=>rfl
     | true =>
      cases hb2:ZE a0 a2 with
      | false=>rfl
      | true =>
       cases hb3:su a0 a3 with
       | false=>rfl
       | true =>
        have s1:=WC a1 hb1;have s2:=CC a2 hb2;have s3:=WC a3 hb3;simp only[cond_true,aN];have e1:ag .i64 (((zk (a1.map (·.2)):Nat):Int)+((zk a2:Nat):Int))=((zk (a1.map (·.2))+zk a2:Nat):Int):=by rw[zo]<;>omega
        have e2:ag .i64 (((zk (a1.map (·.2))+zk a2:Nat):Int)+((zk (a3.map (·.2)):Nat):Int))=((zk (a1.map (·.2))+zk a2+zk (a3.map (·.2)):Nat):Int):=by rw[zo]<;>omega
        simp only[e1,e2,aq,decide_eq_decide];omega
    ·simp only[az,cond_false,decide_eq_false (show ¬(((af a1:Nat):Int)>5) by omega),decide_eq_false (show ¬(((af a2:Nat):Int)>3) by omega),decide_eq_true (show (((af a3:Nat):Int)>3) by omega),decide_eq_false h3,cond_true,cB,bt]
   ·simp only[az,cond_false,decide_eq_false (show ¬(((af a1:Nat):Int)>5) by omega),decide_eq_true (show (((af a2:Nat):Int)>3) by omega),decide_eq_false h2,cond_true,cB,bt]
  ·simp only[az,cond_false,decide_eq_true (show (((af a1:Nat):Int)>5) by omega),decide_eq_false h1,cond_true,cB,bt]
theorem Uf {a0:List zg}:{xs:List Int}->{n m k:Nat}->sk a0 (n+m) xs=some k->∃ j,sk a0 n xs=some j∧j<=k∧sk a0 m (xs.drop j)=some (k - j)
 | xs,0,m,k,h=>⟨0,by cases xs<;>rfl,bN _,by simpa using h⟩
 | [],n+1,m,k,h=>by rw[show n+1+m=n+m+1 from by omega] at h; simp [sk] at h
 | x::xs,n+1,m,k,h=>by
  rw[show n+1+m=n+m+1 from by omega] at h
  unfold sk at h;cases ha:uV a0 x with
  | none=>rw[ha] at h; cases h
  | some q =>
   rw[ha] at h;simp only[bA] at h;obtain⟨j,hj,rfl⟩:=h;rw[show n+m+q=(n+q)+m from by omega] at hj
   obtain⟨i,h1,h2,h3⟩:=Uf hj;refine ⟨i+1,?_,by omega,?_⟩
   ·unfold sk; rw[ha]; simp only[h1,bD]
   ·rw[List.drop_succ_cons,h3]; congr 1; omega
theorem zar {a0:List zg}:∀(n:Nat) (xs:List Int),sk a0 n xs=some xs.length->∃ ps,V1 a0 xs=some ps∧ps.length=n:=by
 intro n
 induction n with
 | zero =>
  intro xs h;have:xs.length=0:=by cases xs<;>simp [sk] at h ⊢
  obtain rfl:=cn.1 this;exact ⟨[],rfl,rfl⟩
 | succ n ih =>
  intro xs h;rw[dj] at h;obtain⟨j,h1,h2,h3⟩:=Uf h;have hj:=Kx h1;have hne:xs≠[]:=fun e=>by subst e; simp at hj; omega
  obtain⟨ps,h4,h5⟩:=ih (xs.drop j) (by rw[h3,bq])
  refine ⟨xs.take j::ps,?_,by simp [h5]⟩
  rw[rj hne,h1];dsimp only;rw[h4]; rfl
theorem B4 {a0:List zg} {p:List Int} (h:sk a0 1 p=some p.length):∃ x r q,p=x::r∧uV a0 x=some q∧sk a0 q r=some r.length:=by
 cases p with
 | nil=>simp [sk] at h
 | cons x r =>
  unfold sk at h;cases ha:uV a0 x with
  | none=>rw[ha] at h; cases h
  | some q =>
   rw[ha] at h;simp only[bA,aP] at h;obtain⟨j,hj,he⟩:=h;rw[ak] at he;exact ⟨x,r,q,rfl,ha,by rw[hj]; congr 1; omega⟩
theorem D0 {a0:List zg} (h:SignOk a0) (a1:List Int) (hl:a1.length<=1099511627776):∀(m i:Nat) (acc ps:List jI) (k:Nat),a1.length - i=m->i<=a1.length->acc.length<=i->V1 a0 (a1.drop i)=some ps->m<k ->
  lp u7 k (a0,a1,(i:Int),acc)=some (.inl (acc++ps)):=by
 intro m
 induction m using cU with
 | _ m ih =>
  intro i acc ps k hm hi hacc hc hk;obtain⟨k,rfl⟩:∃ k',k=k'+1:=⟨k - 1,by omega⟩
  rw[zv];have key:=fun j acc' ps' (h1:i<j) h2 h3 h4=>ih (a1.length - j) (by omega) j acc' ps' k rfl h2 h3 h4 (by omega)
  generalize lp u7 k=rec at key ⊢;unfold u7;by_cases he:i=a1.length
  ·subst he;rw[fo,Ko] at hc;injection hc with hc; subst hc;simp
  ·have hlt:i<a1.length:=by omega
   have hne:a1.drop i≠[]:=by simp; omega
   rw[rj hne] at hc;simp only[decide_eq_true (show (i:Int)<((af a1:Nat):Int) by omega),cond_true,jK h a1 hl,aa]
   cases hs:sk a0 1 (a1.drop i) with
   | none=>rw[hs] at hc; cases hc
   | some j =>
    rw[hs] at hc;simp only[bA] at hc;obtain⟨qs,hq,rfl⟩:=hc;have hj:=Kx hs;rw[bq] at hj;have e1:uh a1 (some (i:Int)) (some ((i+j:Nat):Int))=some ((a1.drop i).take j):=by
     show slc a1 _ _=_;unfold slc;rw[decide_eq_true (show (0:Int)<=(i:Int) by omega),decide_eq_true (show (i:Int)<=((i+j:Nat):Int) by omega),decide_eq_true (show ((i+j:Nat):Int)<=((a1.length:Nat):Int) by omega)]
     simp only[cond_true,bo,aq];rw[eS]; congr 1; omega
    simp only[az,cond_false,e1,aa,aX,zp (show (acc.length+1)*24<=140737488351232 by omega),cond_true]
    rw[cf] at hq;rw[key (i+j) _ qs (by omega) (by omega) (by simp; omega) hq]
    simp
theorem tc {a0:List zg} (h:SignOk a0) {a1:List Int} (hl:a1.length<=1099511627776) {ps:List jI} (hc:V1 a0 a1=some ps):uA a0 a1=some ps:=by
 unfold uA;have:=D0 h a1 hl a1.length 0 [] ps ze rfl (bN _) (bN _) hc (by unfold ze; omega)
 rw[show ((0:Nat):Int)=0 from rfl] at this
 rw[this];rfl
theorem ka {a0:List zg} {xs:List Int} {ps:List jI} (h:V1 a0 xs=some ps):ps.length<=xs.length:=by
 obtain⟨h1,h2⟩:=QK xs.length xs ps (aC _) h;have h3:∀ qs:List jI,(∀ p∈qs,p≠[])->qs.length<=qs.flatten.length:=by
  intro qs
  induction qs with
  | nil=>intro _; simp
  | cons q qs ih =>
   intro hq;have:=ih fun p hp=>hq p (by simp [hp])
   have h4:=d6.2 (hq q (by simp))
   simp only[fg,am,ak];omega
 have:=h3 ps fun p hp=>(h2 p hp).1;rw[h1] at this;exact this
theorem Bw {a0:List zg} {x:Int} {q:Nat} (h:uV a0 x=some q) (hx:x<0) : -24<=x∧q=0:=by
 unfold uV at h;rw[decide_eq_true hx,cond_true] at h;cases hd:decide (-24<=x) with
 | false=>rw[hd] at h; cases h
 | true=>rw[hd] at h; injection h with h; exact ⟨of_decide_eq_true hd,h.symm⟩
theorem DS {a0:List zg} {x:Int} {q:Nat} (h:uV a0 x=some q) (hx:¬ x<0):∃ e,gx a0 x=some e∧a0[x.toNat]? = some e∧e.2.1≠0∧q=e.2.2.1.toNat:=by
 unfold uV at h;rw[decide_eq_false hx,cond_false] at h;cases he:a0[x.toNat]? with
 | none=>rw[he] at h; cases h
 | some e =>
  rw[he] at h;have hg:gx a0 x=some e:=by
   unfold gx;rw[decide_eq_true (show 0<=x by omega),cond_true,he]
  dsimp only at h;cases hz:(e.2.1==0) with
  | true=>rw[hz] at h; cases h
  | false=>rw[hz] at h; injection h with h; exact ⟨e,hg,rfl,by simpa using hz,h.symm⟩
theorem QW {a0:List zg} {xs:List Int} (h:vq a0 xs=true):∃ x r e ps,xs=x::r∧0<=x∧a0[x.toNat]? = some e∧gx a0 x=some e∧e.2.1=0∧uU a0=true∧r.length<=48∧V1 a0 r=some ps∧((ps.length:Nat):Int)=e.2.2.1:=by
 unfold vq at h;cases xs with
 | nil=>cases h
 | cons x r =>
  simp only[ay,decide_eq_true_eq] at h;obtain⟨h0,h⟩:=h;cases he:a0[x.toNat]? with
  | none=>rw[he] at h; cases h
  | some e =>
   rw[he] at h;simp only[ay] at h;obtain⟨h1,h⟩:=h;cases hb:uq a0 r with
   | none=>rw[hb] at h; cases h
   | some ps =>
    rw[hb] at h;unfold uq at hb;cases hs:uU a0 with
    | false=>rw[hs] at hb; cases hb
    | true =>
     cases hl:decide (r.length<=48) with
     | false=>rw[hs,hl] at hb; cases hb
     | true =>
      rw[hs,hl] at hb;refine ⟨x,r,e,ps,rfl,h0,he,?_,by simpa using h1,rfl,of_decide_eq_true hl,hb,by simpa using h⟩
      unfold gx;rw[decide_eq_true h0,cond_true,he]
theorem X9 {a0:List zg} {r:List Int} {n:Nat} (h:YO a0 r=some n):∃ ps,V1 a0 r=some ps∧ps.length=n∧r.length<=48∧uU a0=true:=by
 have hl:=WQ h;unfold YO uq at h;cases hs:uU a0 with
 | false=>rw[hs] at h; cases h
 | true =>
  rw[hs,decide_eq_true hl] at h;simp only[ed,cond_true,bA] at h;obtain⟨ps,h1,h2⟩:=h;exact ⟨ps,h1,h2,hl,rfl⟩
theorem Qi {a0:List zg} {rs:List jI} (h:ZE a0 rs=true):∃ n,∀ r∈rs,YO a0 r=some n:=by
 cases rs with
 | nil=>exact ⟨0,fun r hr=>by cases hr⟩
 | cons r rs =>
  unfold ZE at h;dsimp only at h;cases hr:YO a0 r with
  | none=>rw[hr] at h; cases h
  | some n =>
   rw[hr] at h;refine ⟨n,fun q hq => ?_⟩;rcases aG.1 hq with rfl | hq
   ·exact hr
   ·simpa using aD.1 h q hq
theorem zz {a0:List zg} {a1:List zc} {a2:List jI} {a3:List zc} (h:qy a0 a1 a2 a3=true):uU a0=true∧a1.length<=5∧a2.length<=3∧a3.length<=3∧su a0 a1=true∧ZE a0 a2=true∧su a0 a3=true∧zk (a1.map (·.2))+zk a2+zk (a3.map (·.2))<=240:=by
 unfold qy at h;simp only[ay,decide_eq_true_eq] at h;exact ⟨h.1.1.1.1.1.1.1,h.1.1.1.1.1.1.2,h.1.1.1.1.1.2,h.1.1.1.1.2,h.1.1.1.2,h.1.1.2,h.1.2,h.2⟩
theorem AK {a0:List zg} {a1:List zc} {a2:List jI} {a3:List zc} (h1:uU a0=true) (h2:a1.length<=5) (h3:a2.length<=3) (h4:a3.length<=3) (h5:su a0 a1=true) (h6:ZE a0 a2=true) (h7:su a0 a3=true)
  (h8:zk (a1.map (·.2))+zk a2+zk (a3.map (·.2))<=240):qy a0 a1 a2 a3=true:=by
 unfold qy;simp only[h1,decide_eq_true h2,decide_eq_true h3,decide_eq_true h4,h5,h6,h7,decide_eq_true h8,Bool.and_self]
def bad (t:UInt8):Bool:=t==111||t==114||t==105||t==102||t==38
theorem zev {α:Type} (s:List α) {i j:Nat} (hij:i<=j) (h:j<=s.length):uh s (some (i:Int)) (some (j:Int))=some ((s.drop i).take (j - i)):=by
 show slc s _ _=_;unfold slc;rw[decide_eq_true (show (0:Int)<=(i:Int) by omega),decide_eq_true (show (i:Int)<=(j:Int) by omega),decide_eq_true (show (j:Int)<=((s.length:Nat):Int) by omega)]
 simp only[cond_true,bo,aq];rw[eS]
def QS (a0:Int):Option Bool :=
 cond (decide (a0≥97))
 (some (decide (a0<=122)))
 (some false)
def tf (rec:(Int×Str×Int×Int×Int)->Option (Unit⊕Bool)) (x:(Int×Str×Int×Int×Int)):Option (Unit⊕Bool) :=
 cond (decide (x.1<((af x.2.1:Nat):Int)))
 ((gx x.2.1 x.1).bind fun c7 =>
  (QS ((bH c7:Nat):Int)).bind fun r8 =>
  cond (!r8)
  ((gx x.2.1 x.1).bind fun c9 =>
   cond (decide (((bH c9:Nat):Int)<48))
   (some (aH false))
   ((gx x.2.1 x.1).bind fun c10 =>
    cond (decide (((bH c10:Nat):Int)>57))
    (some (aH false))
    (rec ((ag .i64 (x.1+1)),x.2.1,x.2.2.1,x.2.2.2.1,x.2.2.2.2))))
  (rec ((ag .i64 (x.1+1)),x.2.1,x.2.2.1,x.2.2.2.1,x.2.2.2.2)))
 (some (aU ()))
def Yn (a0:Str) (a1:Int) (a2:Int) (a3:Int):Option Bool :=
 cond (decide (((af a0:Nat):Int)<1))
 (some false)
 (cond (decide (((af a0:Nat):Int)>8))
  (some false)
  ((gx a0 0).bind fun c14 =>
   (QS ((bH c14:Nat):Int)).bind fun r15 =>
   cond (!r15)
   (some false)
   (((lp tf ze) (0,a0,a1,a2,a3)).bind fun r16 =>
    yb r16
    (fun _z17=>cond (decide (a1≥0))
     (cond (decide (a1<=2))
      (cond (decide (a2≥0))
       (cond (decide (a2<=3))
        (cond (decide (a3≥1))
         (some (decide (a3<=20)))
         (some false))
        (some false))
       (some false))
      (some false))
     (some false))
    (fun z18=>some z18))))
def rz (rec:(jS×Str×Int)->Option (Unit⊕Int)) (x:(jS×Str×Int)):Option (Unit⊕Int) :=
 cond (decide (x.2.2<((af x.1:Nat):Int)))
 ((gx x.1 x.2.2).bind fun e2 =>
  cond (e2.1==x.2.1)
  (some (aH x.2.2))
  (rec (x.1,x.2.1,(ag .i64 (x.2.2+1)))))
 (some (aU ()))
def WI (a0:jS) (a1:Str):Option Int :=
 ((lp rz ze) (a0,a1,0)).bind fun r6 =>
 yb r6
 (fun _z7=>some (-1))
 (fun z8=>some z8)
def vv (rec:(jS×Int)->Option (Unit⊕Bool)) (x:(jS×Int)):Option (Unit⊕Bool) :=
 cond (decide (x.2<((af x.1:Nat):Int)))
 ((gx x.1 x.2).bind fun e6 =>
  (Yn e6.1 e6.2.1 e6.2.2.1 e6.2.2.2).bind fun r7 =>
  cond (!r7)
  (some (aH false))
  ((gx x.1 x.2).bind fun e8 =>
   (WI x.1 e8.1).bind fun r9 =>
   cond (r9 != x.2)
   (some (aH false))
   (rec (x.1,(ag .i64 (x.2+1))))))
 (some (aU ()))
def jG (a0:jS):Option Bool :=
 cond (decide (((af a0:Nat):Int)<1))
 (some false)
 (cond (decide (((af a0:Nat):Int)>20))
  (some false)
  ((gx a0 0).bind fun e13 =>
   cond (!(cond (eqS e13.1 ([61]:Str)) (cond (eqI e13.2.1 0) (cond (eqI e13.2.2.1 2) (cond (eqI e13.2.2.2 1) true false) false) false) false))
   (some false)
   (((lp vv ze) (a0,1)).bind fun r14 =>
    yb r14
    (fun _z15=>some true)
    (fun z16=>some z16))))
def sB (rec:(jS×jI×Int×Int)->Option (Int⊕Int)) (x:(jS×jI×Int×Int)):Option (Int⊕Int) :=
 cond (decide (x.2.2.1>0))
 (cond (decide (x.2.2.2≥((af x.2.1:Nat):Int)))
  (some (aH (-1)))
  ((gx x.2.1 x.2.2.2).bind fun e8 =>
   cond (decide (e8<(-24)))
   (some (aH (-1)))
   ((gx x.2.1 x.2.2.2).bind fun e9 =>
    cond (decide (e9≥((af x.1:Nat):Int)))
    (some (aH (-1)))
    ((gx x.2.1 x.2.2.2).bind fun e10 =>
     cond (decide (e10≥0))
     ((gx x.2.1 x.2.2.2).bind fun e11 =>
      (gx x.1 e11).bind fun e12 =>
      cond (e12.2.1==0)
      (some (aH (-1)))
      ((gx x.2.1 x.2.2.2).bind fun e13 =>
       (gx x.1 e13).bind fun e14 =>
       rec (x.1,x.2.1,(ag .i64 ((ag .i64 (x.2.2.1 - 1))+e14.2.2.1)),(ag .i64 (x.2.2.2+1)))))
     (rec (x.1,x.2.1,(ag .i64 (x.2.2.1 - 1)),(ag .i64 (x.2.2.2+1))))))))
 (some (aU x.2.2.2))
def QV (a0:jS) (a1:jI) (a2:Int):Option Int :=
 ((lp sB ze) (a0,a1,1,a2)).bind fun r18 =>
 yb r18
 (fun z19=>some z19)
 (fun z20=>some z20)
def kg (rec:(jS×jI×Int×Int)->Option (Int⊕Int)) (x:(jS×jI×Int×Int)):Option (Int⊕Int) :=
 cond (decide (x.2.2.2<((af x.2.1:Nat):Int)))
 ((QV x.1 x.2.1 x.2.2.2).bind fun r2 =>
  cond (decide (r2<0))
  (some (aH (-1)))
  (rec (x.1,x.2.1,(ag .i64 (x.2.2.1+1)),r2)))
 (some (aU x.2.2.1))
def sD (a0:jS) (a1:jI):Option Int :=
 cond (decide (((af a1:Nat):Int)>48))
 (some (-1))
 (((lp kg ze) (a0,a1,0,0)).bind fun r6 =>
  yb r6
  (fun z7=>some z7)
  (fun z8=>some z8))
def X2 (a0:jS) (a1:jI):Option Bool :=
 cond (decide (((af a1:Nat):Int)>0))
 ((gx a1 0).bind fun e9 =>
  cond (decide (e9≥0))
  ((gx a1 0).bind fun e10 =>
   cond (decide (e10<((af a0:Nat):Int)))
   ((gx a1 0).bind fun e11 =>
    (gx a0 e11).bind fun e12 =>
    cond (e12.2.1==0)
    ((uh a1 (some 1) none).bind fun y13 =>
     (sD a0 y13).bind fun r14 =>
     (gx a1 0).bind fun e15 =>
     (gx a0 e15).bind fun e16 =>
     some (r14==e16.2.2.1))
    (some false))
   (some false))
  (some false))
 (some false)
def sR (a0:jS) (_a1:Bool) (a2:jI):Option Bool :=
 (jG a0).bind fun r3 =>
 cond r3
 ((X2 a0 a2).bind fun r4 =>
  some r4)
 (some false)
def tG (rec:(Int×jQ×jR×jQ×jR)->Option jR) (x:(Int×jQ×jR×jQ×jR)):Option jR :=
 cond (decide (x.1<((af x.2.2.2.1:Nat):Int)))
 ((gx x.2.2.2.1 x.1).bind fun e9 =>
  cond (yK (af x.2.2.2.2+af ([e9.2]:List jI)) 24)
  (rec ((ag .i64 (x.1+1)),x.2.1,x.2.2.1,x.2.2.2.1,(x.2.2.2.2++([e9.2]:List jI))))
  (none))
 (some x.2.2.2.2)
def tM (rec:(Int×jQ×jR×jQ×jR)->Option jR) (x:(Int×jQ×jR×jQ×jR)):Option jR :=
 cond (decide (x.1<((af x.2.2.1:Nat):Int)))
 ((gx x.2.2.1 x.1).bind fun e6 =>
  cond (yK (af x.2.2.2.2+af ([e6]:List jI)) 24)
  (rec ((ag .i64 (x.1+1)),x.2.1,x.2.2.1,x.2.2.2.1,(x.2.2.2.2++([e6]:List jI))))
  (none))
 (some x.2.2.2.2)
def tL (rec:(Int×jQ×jR×jQ×jR)->Option jR) (x:(Int×jQ×jR×jQ×jR)):Option jR :=
 cond (decide (x.1<((af x.2.1:Nat):Int)))
 ((gx x.2.1 x.1).bind fun e3 =>
  cond (yK (af x.2.2.2.2+af ([e3.2]:List jI)) 24)
  (rec ((ag .i64 (x.1+1)),x.2.1,x.2.2.1,x.2.2.2.1,(x.2.2.2.2++([e3.2]:List jI))))
  (none))
 (some x.2.2.2.2)
def ZF (a0:jQ) (a1:jR) (a2:jQ):Option jR :=
 ((lp tL ze) (0,a0,a1,a2,([]:jR))).bind fun r11 =>
 ((lp tM ze) (0,a0,a1,a2,r11)).bind fun r12 =>
 ((lp tG ze) (0,a0,a1,a2,r12)).bind fun r13 =>
 some r13
def je (rec:(jR×Int×Int)->Option Int) (x:(jR×Int×Int)):Option Int :=
 cond (decide (x.2.2<((af x.1:Nat):Int)))
 ((gx x.1 x.2.2).bind fun e26 =>
  rec (x.1,(ag .i64 (x.2.1+((af e26:Nat):Int))),(ag .i64 (x.2.2+1))))
 (some x.2.1)
def kO (rec:(jS×Int×jQ×jR×jQ)->Option (Unit⊕Bool)) (x:(jS×Int×jQ×jR×jQ)):Option (Unit⊕Bool) :=
 cond (decide (x.2.1<((af x.2.2.2.1:Nat):Int)))
 ((gx x.2.2.2.1 x.2.1).bind fun e18 =>
  (sD x.1 e18).bind fun r19 =>
  cond (decide (r19<0))
  (some (aH false))
  ((gx x.2.2.2.1 0).bind fun e20 =>
   (sD x.1 e20).bind fun r21 =>
   cond (r19 != r21)
   (some (aH false))
   (rec (x.1,(ag .i64 (x.2.1+1)),x.2.2.1,x.2.2.2.1,x.2.2.2.2))))
 (some (aU ()))
def ja (rec:(jS×Int×jQ×jR×jQ)->Option (Unit⊕Bool)) (x:(jS×Int×jQ×jR×jQ)):Option (Unit⊕Bool) :=
 cond (decide (x.2.1<((af x.2.2.2.2:Nat):Int)))
 ((gx x.2.2.2.2 x.2.1).bind fun e10 =>
  (sR x.1 e10.1 e10.2).bind fun r11 =>
  cond (!r11)
  (some (aH false))
  (rec (x.1,(ag .i64 (x.2.1+1)),x.2.2.1,x.2.2.2.1,x.2.2.2.2)))
 (some (aU ()))
def kD (rec:(jS×Int×jQ×jR×jQ)->Option (Unit⊕Bool)) (x:(jS×Int×jQ×jR×jQ)):Option (Unit⊕Bool) :=
 cond (decide (x.2.1<((af x.2.2.1:Nat):Int)))
 ((gx x.2.2.1 x.2.1).bind fun e4 =>
  (sR x.1 e4.1 e4.2).bind fun r5 =>
  cond (!r5)
  (some (aH false))
  (rec (x.1,(ag .i64 (x.2.1+1)),x.2.2.1,x.2.2.2.1,x.2.2.2.2)))
 (some (aU ()))
def Q7 (a0:jS) (a1:jQ) (a2:jR) (a3:jQ):Option Bool :=
 (jG a0).bind fun r31 =>
 cond (!r31)
 (some false)
 (cond (decide (((af a1:Nat):Int)>5))
  (some false)
  (cond (decide (((af a3:Nat):Int)>3))
   (some false)
   (cond (decide (((af a2:Nat):Int)>3))
    (some false)
    (((lp kD ze) (a0,0,a1,a2,a3)).bind fun r32 =>
     yb r32
     (fun _z33=>((lp ja ze) (a0,0,a1,a2,a3)).bind fun r34 =>
      yb r34
      (fun _z35=>((lp kO ze) (a0,0,a1,a2,a3)).bind fun r36 =>
       yb r36
       (fun _z37=>(ZF a1 a2 a3).bind fun r38 =>
        ((lp je ze) (r38,0,0)).bind fun r39 =>
        some (decide (r39<=240)))
       (fun z40=>some z40))
      (fun z41=>some z41))
     (fun z42=>some z42)))))
def ug (rec:(jS×jI×Int×Int)->Option Int) (x:(jS×jI×Int×Int)):Option Int :=
 cond (decide (x.2.2.1>0))
 ((gx x.2.1 x.2.2.2).bind fun e4 =>
  cond (decide (e4≥0))
  ((gx x.2.1 x.2.2.2).bind fun e5 =>
   (gx x.1 e5).bind fun e6 =>
   rec (x.1,x.2.1,(ag .i64 ((ag .i64 (x.2.2.1 - 1))+e6.2.2.1)),(ag .i64 (x.2.2.2+1))))
  (rec (x.1,x.2.1,(ag .i64 (x.2.2.1 - 1)),(ag .i64 (x.2.2.2+1)))))
 (some x.2.2.2)
def X4 (a0:jS) (a1:jI) (a2:Int):Option Int :=
 ((lp ug ze) (a0,a1,1,a2)).bind fun r8 =>
 some r8
def rV (rec:(jS×jI×Int×jR)->Option jR) (x:(jS×jI×Int×jR)):Option jR :=
 cond (decide (x.2.2.1<((af x.2.1:Nat):Int)))
 ((X4 x.1 x.2.1 x.2.2.1).bind fun r5 =>
  (uh x.2.1 (some x.2.2.1) (some r5)).bind fun y6 =>
  cond (yK (af x.2.2.2+af ([y6]:List jI)) 24)
  (rec (x.1,x.2.1,r5,(x.2.2.2++([y6]:List jI))))
  (none))
 (some x.2.2.2)
def yd (a0:jS) (a1:jI):Option jR :=
 ((lp rV ze) (a0,a1,0,([]:jR))).bind fun r8 =>
 some r8
def yI:List UInt8->Option (Unit⊕Bool)
 | []=>some (aU ())
 | e::es =>
  (QS ((bH e:Nat):Int)).bind fun r8 =>
  cond (!r8)
  (cond (decide (((bH e:Nat):Int)<48))
   (some (aH false))
   (cond (decide (((bH e:Nat):Int)>57))
    (some (aH false))
    (yI es)))
  (yI es)
theorem Qh (s1:Str) (s2:Int) (s3:Int) (s4:Int) (hl:af s1<=maxLen):lp tf ze (0,s1,s2,s3,s4)=yI s1:=sr tf (fun i=>(i,s1,s2,s3,s4)) (fun es i=>yI es) hl (fun r i h=>by unfold tf yI; simp only[h,cond_false]) (fun r i e es h g w k=>by unfold tf yI; simp only[h,cond_true,g,aa,w,k])
def wl (s1:Str):List zg->Nat->Option (Unit⊕Int)
 | [],_i=>some (aU ())
 | e::es,i =>
  cond (e.1==s1)
  (some (aH (i:Int)))
  (wl s1 es (i+1))
theorem X0 (s0:jS) (s1:Str) (hl:af s0<=maxLen):lp rz ze (s0,s1,0)=wl s1 s0 0:=sr rz (fun i=>(s0,s1,i)) (fun es i=>wl s1 es i) hl (fun r i h=>by unfold rz wl; simp only[h,cond_false]) (fun r i e es h g w k=>by unfold rz wl; simp only[h,cond_true,g,aa,w,k])
def xE (s0:jS):List zg->Nat->Option (Unit⊕Bool)
 | [],_i=>some (aU ())
 | e::es,i =>
  (Yn e.1 e.2.1 e.2.2.1 e.2.2.2).bind fun r7 =>
  cond (!r7)
  (some (aH false))
  ((WI s0 e.1).bind fun r9 =>
   cond (r9 != (i:Int))
   (some (aH false))
   (xE s0 es (i+1)))
theorem Qp (s0:jS) (hl:af s0<=maxLen):∀(es:List zg) (i:Nat) (k:Nat),s0.drop i=es->es.length<k->lp vv k (s0,(i:Int))=xE s0 es i:=by
 intro es
 induction es with
 | nil =>
  intro i k h hk;obtain⟨k,rfl⟩:∃ k',k=k'+1:=⟨k - 1,by omega⟩
  rw[zv];generalize lp vv k=rec;unfold vv xE;simp only[jD (vd h),cond_false]
 | cons e es ih =>
  intro i k h hk;obtain⟨k,rfl⟩:∃ k',k=k'+1:=⟨k - 1,by omega⟩
  rw[zv];have hi:=qr h;have hk2:es.length<k:=cr hk;have key:=fun (_:Unit)=>ih (i+1) k (zj h) hk2;generalize lp vv k=rec at key ⊢;unfold vv xE;simp only[ZZ hi,cond_true,y8,zr h,aa,j5 hi hl,key ()]
def xv:List zc->jR->Option jR
 | [],s4=>some s4
 | e::es,s4 =>
  cond (yK (af s4+af ([e.2]:List jI)) 24)
  (xv es (s4++([e.2]:List jI)))
  (none)
theorem XQ (s1:jQ) (s2:jR) (s3:jQ) (s4:jR) (hl:af s3<=maxLen):lp tG ze (0,s1,s2,s3,s4)=xv s3 s4:=x9 tG (fun i s4=>(i,s1,s2,s3,s4)) (fun es i s4=>xv es s4) hl (fun r i s4 h=>by unfold tG xv; simp only[h,cond_false]) (fun r i s4 e es h g w k=>by unfold tG xv; simp only[h,cond_true,g,aa,w,k]) s4
def xj:List jI->jR->Option jR
 | [],s4=>some s4
 | e::es,s4 =>
  cond (yK (af s4+af ([e]:List jI)) 24)
  (xj es (s4++([e]:List jI)))
  (none)
theorem XG (s1:jQ) (s2:jR) (s3:jQ) (s4:jR) (hl:af s2<=maxLen):lp tM ze (0,s1,s2,s3,s4)=xj s2 s4:=x9 tM (fun i s4=>(i,s1,s2,s3,s4)) (fun es i s4=>xj es s4) hl (fun r i s4 h=>by unfold tM xj; simp only[h,cond_false]) (fun r i s4 e es h g w k=>by unfold tM xj; simp only[h,cond_true,g,aa,w,k]) s4
def xt:List zc->jR->Option jR
 | [],s4=>some s4
 | e::es,s4 =>
  cond (yK (af s4+af ([e.2]:List jI)) 24)
  (xt es (s4++([e.2]:List jI)))
  (none)
theorem Xz (s1:jQ) (s2:jR) (s3:jQ) (s4:jR) (hl:af s1<=maxLen):lp tL ze (0,s1,s2,s3,s4)=xt s1 s4:=x9 tL (fun i s4=>(i,s1,s2,s3,s4)) (fun es i s4=>xt es s4) hl (fun r i s4 h=>by unfold tL xt; simp only[h,cond_false]) (fun r i s4 e es h g w k=>by unfold tL xt; simp only[h,cond_true,g,aa,w,k]) s4
def xX:List jI->Int->Option Int
 | [],s1=>some s1
 | e::es,s1 =>
  xX es (ag .i64 (s1+((af e:Nat):Int)))
theorem Ww (s0:jR) (s1:Int) (hl:af s0<=maxLen):lp je ze (s0,s1,0)=xX s0 s1:=x9 je (fun i s1=>(s0,s1,i)) (fun es i s1=>xX es s1) hl (fun r i s1 h=>by unfold je xX; simp only[h,cond_false]) (fun r i s1 e es h g w k=>by unfold je xX; simp only[h,cond_true,g,aa,w,k]) s1
def xT (s0:jS) (s3:jR):List jI->Option (Unit⊕Bool)
 | []=>some (aU ())
 | e::es =>
  (sD s0 e).bind fun r19 =>
  cond (decide (r19<0))
  (some (aH false))
  ((gx s3 0).bind fun e20 =>
   (sD s0 e20).bind fun r21 =>
   cond (r19 != r21)
   (some (aH false))
   (xT s0 s3 es))
theorem WK (s0:jS) (s2:jQ) (s3:jR) (s4:jQ) (hl:af s3<=maxLen):lp kO ze (s0,0,s2,s3,s4)=xT s0 s3 s3:=sr kO (fun i=>(s0,i,s2,s3,s4)) (fun es i=>xT s0 s3 es) hl (fun r i h=>by unfold kO xT; simp only[h,cond_false]) (fun r i e es h g w k=>by unfold kO xT; simp only[h,cond_true,g,aa,w,k])
def vg (s0:jS):List zc->Option (Unit⊕Bool)
 | []=>some (aU ())
 | e::es =>
  (sR s0 e.1 e.2).bind fun r11 =>
  cond (!r11)
  (some (aH false))
  (vg s0 es)
theorem We (s0:jS) (s2:jQ) (s3:jR) (s4:jQ) (hl:af s4<=maxLen):lp ja ze (s0,0,s2,s3,s4)=vg s0 s4:=sr ja (fun i=>(s0,i,s2,s3,s4)) (fun es i=>vg s0 es) hl (fun r i h=>by unfold ja vg; simp only[h,cond_false]) (fun r i e es h g w k=>by unfold ja vg; simp only[h,cond_true,g,aa,w,k])
def vj (s0:jS):List zc->Option (Unit⊕Bool)
 | []=>some (aU ())
 | e::es =>
  (sR s0 e.1 e.2).bind fun r5 =>
  cond (!r5)
  (some (aH false))
  (vj s0 es)
theorem Wh (s0:jS) (s2:jQ) (s3:jR) (s4:jQ) (hl:af s2<=maxLen):lp kD ze (s0,0,s2,s3,s4)=vj s0 s2:=sr kD (fun i=>(s0,i,s2,s3,s4)) (fun es i=>vj s0 es) hl (fun r i h=>by unfold kD vj; simp only[h,cond_false]) (fun r i e es h g w k=>by unfold kD vj; simp only[h,cond_true,g,aa,w,k])
theorem WD (n:Int):QS n=some (Wc n):=rY n
theorem FS (es:List UInt8):yI es=some (cond (es.all Hh) (.inl ()) (.inr false)):=by
 have:∀ es,yI es=ye es:=by
  intro es
  induction es with
  | nil=>rfl
  | cons e es ih =>
   unfold yI ye;rw[WD,rY,ih]
 rw[this,DX]
theorem JR (e:zg):Yn e.1 e.2.1 e.2.2.1 e.2.2.2=some (Mm e):=by
 obtain⟨s,a,b,c⟩:=e;unfold Yn Mm QP;dsimp only;cases s with
 | nil=>rfl
 | cons x r =>
  rw[decide_eq_false (show ¬(((af (x::r):Nat):Int)<1) by rw[ak]; omega),cond_false]
  by_cases h:(x::r).length<=8
  ·rw[decide_eq_false (show ¬(((af (x::r):Nat):Int)>8) by omega),cond_false,z6,aB,aa,WD,aa,Qh _ _ _ _ (by unfold maxLen; omega),FS,decide_eq_true h]
   dsimp only;cases Wc ((bH x:Nat):Int) with
   | false=>rfl
   | true =>
    cases (x::r).all Hh with
    | false=>rfl
    | true =>
     simp only[az,cond_false,cond_true,aa,vT,aN,ed,ge_iff_le];cases decide (0<=a)<;>simp only[cond_true,cond_false,aN,bt]
     cases decide (a<=2)<;>simp only[cond_true,cond_false,aN,bt]
     cases decide (0<=b)<;>simp only[cond_true,cond_false,aN,bt]
     cases decide (b<=3)<;>simp only[cond_true,cond_false,aN,bt]
     cases decide (1<=c)<;>simp only[cond_true,cond_false,aN,bt]
  ·rw[decide_eq_true (show (((af (x::r):Nat):Int)>8) by omega),decide_eq_false h]
   rfl
theorem IZ (a0:List zg) (nm:Str) (h:a0.length<=maxLen):WI a0 nm=some (Sg (a0.findIdx? (fun e=>e.1==nm))):=by
 have:∀ es i,wl nm es i=qz nm es i:=by
  intro es
  induction es with
  | nil=>intro i; rfl
  | cons e es ih=>intro i; unfold wl qz; rw[ih]
 unfold WI;rw[X0 _ _ h,this,MZ];cases a0.findIdx? (fun e=>e.1==nm) with
 | none=>rfl
 | some j=>simp [yb,Sg]
theorem zam (a0:List zg) (h:a0.length<=maxLen) (es:List zg) (i:Nat):xE a0 es i=some (cond (W3 a0 es i) (.inl ()) (.inr false)):=by
 induction es generalizing i with
 | nil=>rfl
 | cons e es ih =>
  unfold xE W3;rw[JR,aa,IZ _ _ h,aa,ih,bne];cases Mm e with
  | false=>rfl
  | true =>
   cases (Sg (a0.findIdx? (fun d=>d.1==e.1))==(i:Int)) with
   | false=>rfl
   | true=>simp
theorem Qz (a0:List zg):jG a0=some (uU a0):=by
 unfold jG uU;cases a0 with
 | nil=>rfl
 | cons e es =>
  rw[decide_eq_false (show ¬(((af (e::es):Nat):Int)<1) by rw[ak]; omega),cond_false]
  by_cases h:(e::es).length<=20
  ·have h1:¬(((af (e::es):Nat):Int)>20):=by omega
   have hm:(e::es).length<=maxLen:=by unfold maxLen; omega
   rw[decide_eq_false h1,cond_false,z6,aB,aa,decide_eq_true h];show cond (!(eqQ e)) _ _=some (true&&eqQ e&&W3 (e::es) es 1);cases eqQ e with
   | false=>rfl
   | true =>
    have:=Qp (e::es) hm es 1 ze rfl (by simp [ze]; simp at h; omega)
    simp only[az,cond_false];rw[show ((1:Int))=((1:Nat):Int) from rfl,this,zam _ hm]
    cases W3 (e::es) es 1<;>rfl
  ·have h1:((af (e::es):Nat):Int)>20:=by omega
   rw[decide_eq_true h1,decide_eq_false h];rfl
theorem Nv {a0:List zg} (h:SignOk a0) (a1:List Int) (hl:a1.length<=1099511627776):∀(m i n:Nat) (k:Nat),a1.length - i=m->i<=a1.length->n<=1+3*i->m+1<k ->
  lp sB k (a0,a1,(n:Int),(i:Int))=some (match sk a0 n (a1.drop i) with
   | some j=>.inl ((i+j:Nat):Int)
   | none=>.inr (-1)):=by
 intro m
 induction m with
 | zero =>
  intro i n k hm hi hni hk;obtain⟨k,rfl⟩:∃ k',k=k'+1:=⟨k - 1,by omega⟩
  rw[zv];generalize lp sB k=rec;unfold sB;rw[cP.2 (show a1.length<=i by omega)]
  cases n with
  | zero=>simp [sk]
  | succ n =>
   simp only[decide_eq_true (show ((n+1:Nat):Int)>0 by omega),cond_true,decide_eq_true (show ((i:Int)≥((af a1:Nat):Int)) by omega)]
   rfl
 | succ m ih =>
  intro i n k hm hi hni hk;obtain⟨k,rfl⟩:∃ k',k=k'+1:=⟨k - 1,by omega⟩
  have hi:i<a1.length:=by omega
  rw[zv];have key:=fun n' h1=>ih (i+1) n' k (by omega) (by omega) h1 (by omega)
  generalize lp sB k=rec at key ⊢;unfold sB;cases n with
  | zero=>simp [sk]
  | succ n =>
   have e1:ag .i64 (((n+1:Nat):Int) - 1)=(n:Int):=by rw[zo]<;>omega
   have e3:ag .i64 ((i:Int)+1)=((i+1:Nat):Int):=by rw[zo]<;>omega
   simp only[decide_eq_true (show ((n+1:Nat):Int)>0 by omega),cond_true,decide_eq_false (show ¬((i:Int)≥((af a1:Nat):Int)) by omega),cond_false,y8,al hi,aa,aY hi,sk,e1,e3]
   generalize a1[i]=x;unfold uV;by_cases h0:x<0
   ·rw[decide_eq_true h0,cond_true];by_cases h1 : -24<=x
    ·rw[decide_eq_false (show ¬(x < -24) by omega),cond_false,decide_eq_false (show ¬(x≥((af a0:Nat):Int)) by omega),cond_false,decide_eq_false (show ¬(x≥0) by omega),cond_false,decide_eq_true h1,cond_true,key n (by omega)]
     dsimp only;rw[Nat.add_zero];cases sk a0 n (a1.drop (i+1)) with
     | none=>rfl
     | some j=>simp only[bD]; rw[show i+1+j=i+(j+1) from by omega]
    ·rw[decide_eq_true (show x < -24 by omega),decide_eq_false h1]; rfl
   ·rw[decide_eq_false h0,decide_eq_false (show ¬(x < -24) by omega),cond_false,cond_false]
    by_cases h1:x≥((af a0:Nat):Int)
    ·rw[decide_eq_true h1,cond_true,aQ (by omega)]
    ·obtain⟨e,he1,he2,he3⟩:=WN (xs:=a0) (i:=x) (by omega) (by omega)
     have hat:=h.at he3;rw[decide_eq_false h1,cond_false,decide_eq_true (show x≥0 by omega),cond_true,he1,aa,he3]
     dsimp only;cases hk0:(e.2.1==0) with
     | true=>rfl
     | false =>
      have e2:ag .i64 ((n:Int)+e.2.2.1)=((n+e.2.2.1.toNat:Nat):Int):=by rw[zo]<;>omega
      simp only[cond_false,aa,e2];rw[key _ (by omega)]
      cases sk a0 (n+e.2.2.1.toNat) (a1.drop (i+1)) with
      | none=>rfl
      | some j=>simp only[bD]; rw[show i+1+j=i+(j+1) from by omega]
def Ld (o:Option Nat):Int:=match o with
 | some k=>(k:Int)
 | none => -1
theorem K8 {a0:List zg} (h:SignOk a0) (a1:List Int) (hl:a1.length<=1099511627776) (i:Nat) (hi:i<=a1.length):QV a0 a1 (i:Int)=some (Ld ((sk a0 1 (a1.drop i)).map (i + ·))):=by
 unfold QV;rw[show (1:Int)=((1:Nat):Int) from rfl,Nv h a1 hl (a1.length - i) i 1 ze rfl hi (by omega) (by unfold ze; omega)]
 cases sk a0 1 (a1.drop i) with
 | none=>rfl
 | some j=>rfl
theorem AO {a0:List zg} (h:SignOk a0) (a1:List Int) (hl:a1.length<=1099511627776):∀(m i n k:Nat),a1.length - i=m->i<=a1.length->n<=i->m<k ->
  lp kg k (a0,a1,(n:Int),(i:Int))=some (match V1 a0 (a1.drop i) with
   | some ps=>.inl ((n+ps.length:Nat):Int)
   | none=>.inr (-1)):=by
 intro m
 induction m using cU with
 | _ m ih =>
  intro i n k hm hi hn hk;obtain⟨k,rfl⟩:∃ k',k=k'+1:=⟨k - 1,by omega⟩
  rw[zv];have key:=fun j n' (h1:i<j) h2 h3=>ih (a1.length - j) (by omega) j n' k rfl h2 h3 (by omega)
  generalize lp kg k=rec at key ⊢;unfold kg;by_cases he:i=a1.length
  ·subst he;simp [Ko]
  ·have hlt:i<a1.length:=by omega
   have hne:a1.drop i≠[]:=by simp; omega
   simp only[ZZ hlt,cond_true,K8 h a1 hl i hi,aa,rj hne];cases hs:sk a0 1 (a1.drop i) with
   | none=>rfl
   | some j =>
    have hj:=Kx hs;rw[bq] at hj;have e1:ag .i64 ((n:Int)+1)=((n+1:Nat):Int):=by rw[zo]<;>omega
    rw[show Ld (Option.map (fun x=>i+x) (some j))=((i+j:Nat):Int) from rfl,decide_eq_false (show ¬(((i+j:Nat):Int)<0) by omega),cond_false,e1]
    rw[key (i+j) (n+1) (by omega) (by omega) (by omega)]
    dsimp only;rw[cf];cases V1 a0 (a1.drop (i+j)) with
    | none=>rfl
    | some ps=>simp only[bD,ak]; rw[show n+1+ps.length=n+(ps.length+1) from by omega]
theorem ZP {a0:List zg} (hs:uU a0=true) (a1:List Int):sD a0 a1=some (Ld (YO a0 a1)):=by
 have h:=ut hs;unfold sD YO uq;rw[hs,aN];by_cases hl:a1.length<=48
 ·have:=AO h a1 (by omega) a1.length 0 0 ze rfl (bN _) (aC _) (by unfold ze; omega)
  rw[show ((0:Nat):Int)=0 from rfl,bQ] at this
  rw[decide_eq_false (show ¬(((af a1:Nat):Int)>48) by omega),decide_eq_true hl,cond_false,cond_true,this]
  cases V1 a0 a1 with
  | none=>rfl
  | some ps=>simp [yb,Ld]
 ·rw[decide_eq_true (show (((af a1:Nat):Int)>48) by omega),decide_eq_false hl]; rfl
theorem J4 {a0:List zg} (hs:uU a0=true) (xs:List Int):X2 a0 xs=some (vq a0 xs):=by
 have h:=ut hs;unfold X2 vq;cases xs with
 | nil=>rfl
 | cons x r =>
  simp only[decide_eq_true (show (((x::r).length:Nat):Int)>0 by simp<;>omega),cond_true,z6,aB,aa]
  by_cases h0:x<0
  ·rw[decide_eq_false (show ¬(x≥0) by omega)]; rfl
  ·rw[decide_eq_true (show x≥0 by omega),cond_true,aN]
   by_cases h1:x≥((af a0:Nat):Int)
   ·rw[decide_eq_false (show ¬(x<((af a0:Nat):Int)) by omega),aQ (by omega)]; rfl
   ·obtain⟨e,he1,he2,he3⟩:=WN (xs:=a0) (i:=x) (by omega) (by omega)
    have hat:=h.at he3;simp only[decide_eq_true (show x<((af a0:Nat):Int) by omega),cond_true,he1,he3,aa]
    cases hk:(e.2.1==0) with
    | false=>rfl
    | true =>
     simp only[cond_true,wW,aa,ZP hs,aN];unfold YO;cases uq a0 r with
     | none =>
      have:((-1:Int)==e.2.2.1)=false:=by simp; omega
      simp [Ld,this]
     | some ps=>rfl
theorem Fy {a0:List zg} {xs:List Int} (h:vq a0 xs=true):uU a0=true:=by
 obtain⟨_,_,_,_,_,_,_,_,_,hs,_⟩:=QW h;exact hs
theorem JV (a0:List zg) (b:Bool) (xs:List Int):sR a0 b xs=some (vq a0 xs):=by
 unfold sR;rw[Qz,aa];cases hs:uU a0 with
 | true=>rw[cond_true,J4 hs]; rfl
 | false =>
  cases ha:vq a0 xs with
  | false=>rfl
  | true=>rw[Fy ha] at hs; cases hs
theorem Nm (s:List zc):(es:List zc)->(acc:List jI)->acc.length+es.length<=1000000->xv es acc=some (acc++es.map (·.2))∧xt es acc=some (acc++es.map (·.2))
 | [],acc,_=>⟨by simp [xv],by simp [xt]⟩
 | e::es,acc,h=>by
  rw[ak] at h;obtain⟨k1,k2⟩:=Nm s es (acc++[e.2]) (by simp; omega)
  unfold xv xt;rw[zp (show (acc.length+[e.2].length)*24<=140737488351232 by simp; omega),cond_true,cond_true,k1,k2]
  simp
theorem TF:(es:List jI)->(acc:List jI)->acc.length+es.length<=1000000->xj es acc=some (acc++es)
 | [],acc,_=>by simp [xj]
 | e::es,acc,h=>by
  rw[ak] at h;have k1:=TF es (acc++[e]) (by simp; omega)
  unfold xj;rw[zp (show (acc.length+[e].length)*24<=140737488351232 by simp; omega),cond_true,k1]
  simp
theorem Y7 (a1:List zc) (a2:List jI) (a3:List zc) (h1:a1.length<=1000) (h2:a2.length<=1000) (h3:a3.length<=1000):ZF a1 a2 a3=some (a1.map (·.2)++a2++a3.map (·.2)):=by
 unfold ZF;rw[Xz _ _ _ _ (by unfold maxLen; omega),(Nm [] a1 [] (by simp; omega)).2,aa,XG _ _ _ _ (by unfold maxLen; omega),TF a2 _ (by simp; omega),aa,
  XQ _ _ _ _ (by unfold maxLen; omega),(Nm [] a3 _ (by simp; omega)).1]
 simp
theorem Pp:(es:List jI)->(t:Nat)->t+zk es<=1000000000000->xX es (t:Int)=some ((t+zk es:Nat):Int)
 | [],t,_=>by simp [xX,zk]
 | e::es,t,h=>by
  have hs:zk (e::es)=e.length+zk es:=by simp [zk]
  rw[hs] at h;unfold xX;have e1:ag .i64 ((t:Int)+((af e:Nat):Int))=((t+e.length:Nat):Int):=by rw[zo]<;>omega
  rw[e1,Pp es (t+e.length) (by omega),hs]
  congr 2
  omega
theorem Iz (a0:List zg):(es:List zc)->vj a0 es=some (cond (su a0 es) (.inl ()) (.inr false))∧vg a0 es=some (cond (su a0 es) (.inl ()) (.inr false))
 | []=>⟨rfl,rfl⟩
 | e::es=>by
  obtain⟨k1,k2⟩:=Iz a0 es;unfold vj vg;rw[JV,k1,k2];unfold su;rw[bX];cases vq a0 e.2<;>exact ⟨rfl,rfl⟩
theorem CL {a0:List zg} (hs:uU a0=true) (s3:List jI) (r:List Int) (h0:s3[0]? = some r):(es:List jI)->xT a0 s3 es=some (cond (es.all fun q=>(YO a0 q).isSome&&(YO a0 q==YO a0 r)) (.inl ()) (.inr false))
 | []=>rfl
 | e::es=>by
  unfold xT;rw[ZP hs,aa,z6,h0,aa,ZP hs,aa,CL hs s3 r h0 es,bX];cases h1:YO a0 e with
  | none=>rfl
  | some n =>
   rw[show Ld (some n)=(n:Int) from rfl,decide_eq_false (show ¬((n:Int)<0) by omega),cond_false]
   cases h2:YO a0 r with
   | none =>
    rw[show (((n:Int)) != Ld none)=true from by simp [Ld]<;>omega]
    rfl
   | some k =>
    by_cases hn:n=k
    ·subst hn; simp [Ld]
    ·have e1:(((n:Int)) != Ld (some k))=true:=by simp [Ld]; omega
     have e2:(some n==some k)=false:=by simpa using hn
     rw[e1,e2]; simp
theorem FR {a0:List zg} (r:List Int) (rs:List jI):((r::rs).all fun q=>(YO a0 q).isSome&&(YO a0 q==YO a0 r))=ZE a0 (r::rs):=by
 unfold ZE;dsimp only;cases hr:YO a0 r with
 | none=>simp [hr]
 | some n =>
  rw[bX,hr];simp only[Option.isSome_some,beq_self_eq_true,aN]
  congr 1
  funext q
  cases YO a0 q<;>simp
theorem ya (a0:List zg) (a1:List zc) (a2:List jI) (a3:List zc):Q7 a0 a1 a2 a3=some (qy a0 a1 a2 a3):=by
 unfold Q7 qy;rw[Qz,aa];cases hs:uU a0 with
 | false=>rfl
 | true =>
  by_cases h1:a1.length<=5
  ·by_cases h3:a3.length<=3
   ·by_cases h2:a2.length<=3
    ·simp only[az,cond_false,decide_eq_false (show ¬(((af a1:Nat):Int)>5) by omega),decide_eq_false (show ¬(((af a2:Nat):Int)>3) by omega),decide_eq_false (show ¬(((af a3:Nat):Int)>3) by omega),
      decide_eq_true h1,decide_eq_true h2,decide_eq_true h3,aN]
     rw[Wh _ _ _ _ (by unfold maxLen; omega),(Iz a0 a1).1]
     cases hb1:su a0 a1 with
     | false=>rfl
     | true =>
      simp only[cond_true,aa,vT,aN];rw[We _ _ _ _ (by unfold maxLen; omega),(Iz a0 a3).2]
      cases hb3:su a0 a3 with
      | false=>simp [yb]
      | true =>
       simp only[cond_true,aa,vT,ed];rw[WK _ _ _ _ (by unfold maxLen; omega)]
       have hrows:xT a0 a2 a2=some (cond (ZE a0 a2) (.inl ()) (.inr false)):=by
        cases a2 with
        | nil=>rfl
        | cons r rs=>rw[CL hs (r::rs) r rfl (r::rs),FR]
       rw[hrows];cases hb2:ZE a0 a2 with
       | false=>rfl
       | true =>
        have s1:=WC a1 hb1;have s2:=CC a2 hb2;have s3:=WC a3 hb3;have hsum:zk (a1.map (·.2)++a2++a3.map (·.2))=zk (a1.map (·.2))+zk a2+zk (a3.map (·.2)):=by simp [zk]; omega
        simp only[cond_true,aa,vT,Y7 a1 a2 a3 (by omega) (by omega) (by omega),aN]
        rw[Ww _ _ (by simp only[am,List.length_map]; unfold maxLen; omega),show (0:Int)=((0:Nat):Int) from rfl,Pp _ 0 (by rw[hsum]; omega),aa,aP,hsum]
        simp only[aq,decide_eq_decide];omega
    ·simp only[az,cond_false,decide_eq_false (show ¬(((af a1:Nat):Int)>5) by omega),decide_eq_false (show ¬(((af a3:Nat):Int)>3) by omega),decide_eq_true (show (((af a2:Nat):Int)>3) by omega),decide_eq_false h2,cond_true,cB,bt]
   ·simp only[az,cond_false,decide_eq_false (show ¬(((af a1:Nat):Int)>5) by omega),decide_eq_true (show (((af a3:Nat):Int)>3) by omega),decide_eq_false h3,cond_true,cB,bt]
  ·simp only[az,cond_false,decide_eq_true (show (((af a1:Nat):Int)>5) by omega),decide_eq_false h1,cond_true,cB,bt]
theorem DD {a0:List zg} (h:SignOk a0) (a1:List Int) (hl:a1.length<=1099511627776):∀(m i n j k:Nat),a1.length - i=m->i<=a1.length->n<=1+3*i->sk a0 n (a1.drop i)=some j->m+1<k ->
  lp ug k (a0,a1,(n:Int),(i:Int))=some ((i+j:Nat):Int):=by
 intro m
 induction m with
 | zero =>
  intro i n j k hm hi hni hs hk;obtain⟨k,rfl⟩:∃ k',k=k'+1:=⟨k - 1,by omega⟩
  rw[zv];generalize lp ug k=rec;unfold ug;rw[cP.2 (show a1.length<=i by omega)] at hs
  cases n with
  | zero =>
   simp [sk] at hs;subst hs;simp
  | succ n=>simp [sk] at hs
 | succ m ih =>
  intro i n j k hm hi hni hs hk;obtain⟨k,rfl⟩:∃ k',k=k'+1:=⟨k - 1,by omega⟩
  have hi:i<a1.length:=by omega
  rw[zv];have key:=fun n' j' h1 h2=>ih (i+1) n' j' k (by omega) (by omega) h1 h2 (by omega)
  generalize lp ug k=rec at key ⊢;unfold ug;cases n with
  | zero =>
   simp [sk] at hs;subst hs;simp
  | succ n =>
   have e1:ag .i64 (((n+1:Nat):Int) - 1)=(n:Int):=by rw[zo]<;>omega
   have e3:ag .i64 ((i:Int)+1)=((i+1:Nat):Int):=by rw[zo]<;>omega
   rw[aY hi] at hs;simp only[sk] at hs;simp only[decide_eq_true (show ((n+1:Nat):Int)>0 by omega),cond_true,y8,al hi,aa,e1,e3]
   generalize a1[i]=x at hs;cases ha:uV a0 x with
   | none=>rw[ha] at hs; cases hs
   | some q =>
    rw[ha] at hs;simp only[bA] at hs;obtain⟨j',hj',rfl⟩:=hs;by_cases h0:x<0
    ·obtain⟨_,rfl⟩:=Bw ha h0;rw[decide_eq_false (show ¬(x≥0) by omega),cond_false,key n j' (by omega) hj']
     rw[show i+1+j'=i+(j'+1) from by omega]
    ·obtain⟨e,he1,he2,he3,rfl⟩:=DS ha h0;have hat:=h.at he2;have e2:ag .i64 ((n:Int)+e.2.2.1)=((n+e.2.2.1.toNat:Nat):Int):=by rw[zo]<;>omega
     rw[decide_eq_true (show x≥0 by omega),cond_true,he1,aa,e2,key _ j' (by omega) hj']
     rw[show i+1+j'=i+(j'+1) from by omega]
theorem JL {a0:List zg} (h:SignOk a0) (a1:List Int) (hl:a1.length<=1099511627776) (i j:Nat) (hi:i<=a1.length) (hs:sk a0 1 (a1.drop i)=some j):X4 a0 a1 (i:Int)=some ((i+j:Nat):Int):=by
 unfold X4;rw[show (1:Int)=((1:Nat):Int) from rfl,DD h a1 hl (a1.length - i) i 1 j ze rfl hi (by omega) hs (by unfold ze; omega)]
 rfl
theorem AM {a0:List zg} (h:SignOk a0) (a1:List Int) (hl:a1.length<=1099511627776):∀(m i:Nat) (acc ps:List jI) (k:Nat),a1.length - i=m->i<=a1.length->acc.length<=i->V1 a0 (a1.drop i)=some ps->m<k ->
  lp rV k (a0,a1,(i:Int),acc)=some (acc++ps):=by
 intro m
 induction m using cU with
 | _ m ih =>
  intro i acc ps k hm hi hacc hc hk;obtain⟨k,rfl⟩:∃ k',k=k'+1:=⟨k - 1,by omega⟩
  rw[zv];have key:=fun j acc' ps' (h1:i<j) h2 h3 h4=>ih (a1.length - j) (by omega) j acc' ps' k rfl h2 h3 h4 (by omega)
  generalize lp rV k=rec at key ⊢;unfold rV;by_cases he:i=a1.length
  ·subst he;rw[fo,Ko] at hc;injection hc with hc; subst hc;simp
  ·have hlt:i<a1.length:=by omega
   have hne:a1.drop i≠[]:=by simp; omega
   rw[rj hne] at hc;cases hs:sk a0 1 (a1.drop i) with
   | none=>rw[hs] at hc; cases hc
   | some j =>
    rw[hs] at hc;simp only[bA] at hc;obtain⟨qs,hq,rfl⟩:=hc;have hj:=Kx hs;rw[bq] at hj;have e1:uh a1 (some (i:Int)) (some ((i+j:Nat):Int))=some ((a1.drop i).take j):=by
     rw[zev a1 (by omega) (by omega),show i+j - i=j from by omega]
    simp only[decide_eq_true (show (i:Int)<((af a1:Nat):Int) by omega),cond_true,JL h a1 hl i j hi hs,aa,e1,aX,zp (show (acc.length+1)*24<=140737488351232 by omega)]
    rw[cf] at hq;rw[key (i+j) _ qs (by omega) (by omega) (by simp; omega) hq]
    simp
theorem vK {a0:List zg} (h:SignOk a0) {a1:List Int} (hl:a1.length<=1099511627776) {ps:List jI} (hc:V1 a0 a1=some ps):yd a0 a1=some ps:=by
 unfold yd;have:=AM h a1 hl a1.length 0 [] ps ze rfl (bN _) (bN _) hc (by unfold ze; omega)
 rw[show ((0:Nat):Int)=0 from rfl] at this
 rw[this];rfl
theorem JD (ys:List Int):(es:List Int)->(i:Nat)->es.length=(ys.drop i).length->qc ys es i=some (cond (decide (es=ys.drop i)) (.inl ()) (.inr false))
 | [],i,h=>by
  have:ys.drop i=[]:=cn.1 h.symm;rw[this]; rfl
 | e::es,i,h=>by
  unfold qc;rw[ak,bq] at h;have hi:i<ys.length:=by omega
  rw[y8,al hi,aa,aY hi,JD ys es (i+1) (by rw[bq]; omega)]
  generalize ys[i]=y;by_cases he:e=y
  ·subst he;rw[show (e != e)=false from by simp,cond_false]
   simp
  ·rw[show (e != y)=true from by simpa using he,cond_true]
   rw[decide_eq_false (by intro h; injection h with h1 h2; exact he h1)]
   rfl
theorem YH {xs ys:List Int} (h:xs.length<=maxLen):wS xs ys=some (decide (xs=ys)):=by
 unfold wS;by_cases hl:xs.length=ys.length
 ·rw[show (((af xs:Nat):Int) != ((af ys:Nat):Int))=false from by simp [hl],cond_false,Z5 _ _ h,JD ys xs 0 hl,bQ]
  cases decide (xs=ys)<;>rfl
 ·rw[show (((af xs:Nat):Int) != ((af ys:Nat):Int))=true from by simp; omega,cond_true,decide_eq_false (by intro h; subst h; exact hl rfl)]
theorem KR (ys:List zc):(es:List zc)->(i:Nat)->es.length=(ys.drop i).length->(∀ e∈es,e.2.length<=maxLen)->qa ys es i=some (cond (decide (es=ys.drop i)) (.inl ()) (.inr false))
 | [],i,h,_=>by
  have:ys.drop i=[]:=cn.1 h.symm;rw[this]; rfl
 | e::es,i,h,hm=>by
  unfold qa;rw[ak,bq] at h;have hi:i<ys.length:=by omega
  rw[y8,al hi,aa,aY hi,KR ys es (i+1) (by rw[bq]; omega) (fun x hx=>hm x (by simp [hx]))]
  generalize ys[i]=y;obtain⟨a,b⟩:=e;obtain⟨c,d⟩:=y;have hb:b.length<=maxLen:=hm (a,b) (by simp)
  simp only[aa,YH hb];by_cases h1:a=c
  ·subst h1;by_cases h2:b=d
   ·subst h2;simp
   ·have:¬((a,b)::es=(a,d)::ys.drop (i+1)):=fun h=>by injection h with h _; injection h with _ h; exact h2 h
    simp [h2,this]
  ·have:¬((a,b)::es=(c,d)::ys.drop (i+1)):=fun h=>by injection h with h _; injection h with h _; exact h1 h
   have h3:(a==c)=false:=by simpa using h1
   rw[h3,decide_eq_false this]; rfl
theorem YG {xs ys:List zc} (h:xs.length<=maxLen) (hm:∀ e∈xs,e.2.length<=maxLen):t8 xs ys=some (decide (xs=ys)):=by
 unfold t8;by_cases hl:xs.length=ys.length
 ·rw[show (((af xs:Nat):Int) != ((af ys:Nat):Int))=false from by simp [hl],cond_false,Yd _ _ h,KR ys xs 0 hl hm,bQ]
  cases decide (xs=ys)<;>rfl
 ·rw[show (((af xs:Nat):Int) != ((af ys:Nat):Int))=true from by simp; omega,cond_true,decide_eq_false (by intro h; subst h; exact hl rfl)]
theorem KA (ys:List jI):(es:List jI)->(i:Nat)->es.length=(ys.drop i).length->(∀ e∈es,e.length<=maxLen)->qd ys es i=some (cond (decide (es=ys.drop i)) (.inl ()) (.inr false))
 | [],i,h,_=>by
  have:ys.drop i=[]:=cn.1 h.symm;rw[this]; rfl
 | e::es,i,h,hm=>by
  unfold qd;rw[ak,bq] at h;have hi:i<ys.length:=by omega
  rw[y8,al hi,aa,aY hi,YH (hm e (by simp)),aa,KA ys es (i+1) (by rw[bq]; omega) (fun x hx=>hm x (by simp [hx]))]
  generalize ys[i]=y;by_cases h1:e=y
  ·subst h1;simp
  ·have:¬(e::es=y::ys.drop (i+1)):=fun h=>by injection h with h _; exact h1 h
   rw[decide_eq_false h1,decide_eq_false this]; rfl
theorem V3 {xs ys:List jI} (h:xs.length<=maxLen) (hm:∀ e∈xs,e.length<=maxLen):rZ xs ys=some (decide (xs=ys)):=by
 unfold rZ;by_cases hl:xs.length=ys.length
 ·rw[show (((af xs:Nat):Int) != ((af ys:Nat):Int))=false from by simp [hl],cond_false,Yj _ _ h,KA ys xs 0 hl hm,bQ]
  cases decide (xs=ys)<;>rfl
 ·rw[show (((af xs:Nat):Int) != ((af ys:Nat):Int))=true from by simp; omega,cond_true,decide_eq_false (by intro h; subst h; exact hl rfl)]
theorem rS {a0:List zc} {a1:List jI} {a2:List zc} (h0:a0.length<=maxLen) (h0m:∀ e∈a0,e.2.length<=maxLen) (h1:a1.length<=maxLen) (h1m:∀ e∈a1,e.length<=maxLen) (h2:a2.length<=maxLen) (h2m:∀ e∈a2,e.2.length<=maxLen) :
  vw a0 a1 a2 a0 a1 a2=some true:=by
 unfold vw;rw[YG h0 h0m,V3 h1 h1m,YG h2 h2m];simp
def tK (a0:jQ) (_a1:jR) (_a2:jQ) (a3:Int):Option Bool :=
 cond (decide (a3≥0))
 (some (decide (a3<((af a0:Nat):Int))))
 (some false)
def qH (rec:(jR×jR×Int×Int×(List (jI×Int×jI×Int))×jI×Int×jI×Int)->Option (List (jI×Int×jI×Int))) (x:(jR×jR×Int×Int×(List (jI×Int×jI×Int))×jI×Int×jI×Int)):Option (List (jI×Int×jI×Int)) :=
 cond (decide (x.2.2.2.1<x.2.2.1))
 ((gx x.1 x.2.2.2.1).bind fun e7 =>
  (gx x.2.1 x.2.2.2.1).bind fun e8 =>
  cond (yK (af x.2.2.2.2.1+af ([(e7,x.2.2.2.2.2.2.1,e8,x.2.2.2.2.2.2.2.2)]:List (jI×Int×jI×Int))) 64)
  (rec (x.1,x.2.1,x.2.2.1,(ag .i64 (x.2.2.2.1+1)),(x.2.2.2.2.1++([(e7,x.2.2.2.2.2.2.1,e8,x.2.2.2.2.2.2.2.2)]:List (jI×Int×jI×Int))),x.2.2.2.2.2.1,x.2.2.2.2.2.2.1,x.2.2.2.2.2.2.2.1,x.2.2.2.2.2.2.2.2))
  (none))
 (some x.2.2.2.2.1)
def xb (a0:jI) (a1:Int) (a2:jI) (a3:Int) (a4:jS) (_a5:(List ((Option jI)×Int))) (a6:(List (jI×Int×jI×Int))):Option (List (jI×Int×jI×Int)) :=
 (uA a4 a0).bind fun r10 =>
 (uA a4 a2).bind fun r11 =>
 ((lp qH ze) (r10,r11,((af r10:Nat):Int),0,a6,a0,a1,a2,a3)).bind fun r12 =>
 some r12
def yT (_a0:jI) (a1:Int) (a2:Int):Option Int :=
 (zQ a2).bind fun r2 =>
 some (ag .i64 (r2+a1))
def vu (rec:(jS×(List ((Option jI)×Int))×jI×Int×Int)->Option (jI×Int)) (x:(jS×(List ((Option jI)×Int))×jI×Int×Int)):Option (jI×Int) :=
 (gx x.2.2.1 0).bind fun e6 =>
 cond (decide (e6<0))
 ((gx x.2.2.1 0).bind fun e7 =>
  (yT x.2.2.1 x.2.2.2.1 e7).bind fun r8 =>
  (inR r8 48).bind fun k9 =>
  (x.2.1[k9]?).bind fun x10 =>
  cond (co x10.1)
  (some (x.2.2.1,x.2.2.2.1))
  (rec (x.1,x.2.1,(bM x10.1 []),x10.2,x.2.2.2.2)))
 (some (x.2.2.1,x.2.2.2.1))
def vl (a0:jI) (a1:Int) (a2:jS) (a3:(List ((Option jI)×Int))):Option (jI×Int) :=
 ((lp vu ze) (a2,a3,a0,a1,0)).bind fun r12 =>
 some (r12.1,r12.2)
def q9 (rec:(Int×jI×Int×Int×jS×(List ((Option jI)×Int))×jI×Int×(List Bool)×(List (jI×Int)))->Option (((List Bool)×(List (jI×Int)))⊕Bool)) (x:(Int×jI×Int×Int×jS×(List ((Option jI)×Int))×jI×Int×(List Bool)×(List (jI×Int)))):Option (((List Bool)×(List (jI×Int)))⊕Bool) :=
 cond (decide (x.2.2.2.1<x.2.2.1))
 ((gx x.2.1 x.2.2.2.1).bind fun e14 =>
  cond (decide (e14≥0))
  (rec (x.1,x.2.1,x.2.2.1,(ag .i64 (x.2.2.2.1+1)),x.2.2.2.2.1,x.2.2.2.2.2.1,x.2.2.2.2.2.2.1,x.2.2.2.2.2.2.2.1,x.2.2.2.2.2.2.2.2.1,x.2.2.2.2.2.2.2.2.2))
  ((yT x.2.2.2.2.2.2.1 x.2.2.2.2.2.2.2.1 e14).bind fun r15 =>
   cond (r15==x.1)
   (some (aH true))
   ((inR r15 48).bind fun k16 =>
    (x.2.2.2.2.2.2.2.2.1[k16]?).bind fun x17 =>
    cond (!x17)
    ((inR r15 48).bind fun k18 =>
     (x.2.2.2.2.2.1[k18]?).bind fun x19 =>
     cond (!(co x19.1))
     ((inR r15 48).bind fun k20 =>
      (x.2.2.2.2.2.2.2.2.1[k20]?).bind fun _x21 =>
      (inR r15 48).bind fun k22 =>
      (x.2.2.2.2.2.1[k22]?).bind fun x23 =>
      cond (yK (af x.2.2.2.2.2.2.2.2.2+af ([((bM x23.1 []),x23.2)]:List (jI×Int))) 32)
      (rec (x.1,x.2.1,x.2.2.1,(ag .i64 (x.2.2.2.1+1)),x.2.2.2.2.1,x.2.2.2.2.2.1,x.2.2.2.2.2.2.1,x.2.2.2.2.2.2.2.1,(bw x.2.2.2.2.2.2.2.2.1 k20 true),(x.2.2.2.2.2.2.2.2.2++([((bM x23.1 []),x23.2)]:List (jI×Int)))))
      (none))
     (rec (x.1,x.2.1,x.2.2.1,(ag .i64 (x.2.2.2.1+1)),x.2.2.2.2.1,x.2.2.2.2.2.1,x.2.2.2.2.2.2.1,x.2.2.2.2.2.2.2.1,x.2.2.2.2.2.2.2.2.1,x.2.2.2.2.2.2.2.2.2)))
    (rec (x.1,x.2.1,x.2.2.1,(ag .i64 (x.2.2.2.1+1)),x.2.2.2.2.1,x.2.2.2.2.2.1,x.2.2.2.2.2.2.1,x.2.2.2.2.2.2.2.1,x.2.2.2.2.2.2.2.2.1,x.2.2.2.2.2.2.2.2.2)))))
 (some (aU (x.2.2.2.2.2.2.2.2.1,x.2.2.2.2.2.2.2.2.2)))
def wr (rec:(Int×jS×(List ((Option jI)×Int))×jI×Int×(List Bool)×(List (jI×Int)))->Option (Unit⊕Bool)) (x:(Int×jS×(List ((Option jI)×Int))×jI×Int×(List Bool)×(List (jI×Int)))):Option (Unit⊕Bool) :=
 cond (decide (((af x.2.2.2.2.2.2:Nat):Int)>0))
 ((inR (ag .i64 (((af x.2.2.2.2.2.2:Nat):Int) - 1)) (af x.2.2.2.2.2.2)).bind fun k32 =>
  (x.2.2.2.2.2.2[k32]?).bind fun x33 =>
  (uh x.2.2.2.2.2.2 none (some (ag .i64 (((af x.2.2.2.2.2.2:Nat):Int) - 1)))).bind fun y34 =>
  ((lp q9 ze) (x.1,x33.1,((af x33.1:Nat):Int),0,x.2.1,x.2.2.1,x33.1,x33.2,x.2.2.2.2.2.1,y34)).bind fun r35 =>
  yb r35
  (fun z36=>rec (x.1,x.2.1,x.2.2.1,x33.1,x33.2,z36.1,z36.2))
  (fun z37=>some (aH z37)))
 (some (aU ()))
def tj (a0:Int) (a1:jI) (a2:Int) (a3:jS) (a4:(List ((Option jI)×Int))):Option Bool :=
 ((lp wr ze) (a0,a3,a4,a1,a2,(ax 48 false),([(a1,a2)]:List (jI×Int)))).bind fun r41 =>
 yb r41
 (fun _z42=>some false)
 (fun z43=>some z43)
def qB (a0:jI) (a1:Int) (a2:jI) (a3:Int) (a4:jS) (a5:(List ((Option jI)×Int))):Option (Bool×jS×(List ((Option jI)×Int))) :=
 (gx a0 0).bind fun e16 =>
 (yT a0 a1 e16).bind fun r17 =>
 (gx a2 0).bind fun e18 =>
 cond (decide (e18≥0))
 ((tj r17 a2 a3 a4 a5).bind fun r19 =>
  cond r19
  (some (false,a4,a5))
  ((inR r17 48).bind fun k20 =>
   (a5[k20]?).bind fun _x21 =>
   (nn a2).bind fun p22 =>
   some (true,a4,(bw a5 k20 ((some p22),a3)))))
 ((gx a2 0).bind fun e23 =>
  (yT a2 a3 e23).bind fun r24 =>
  cond (decide (r24>r17))
  ((inR r24 48).bind fun k25 =>
   (a5[k25]?).bind fun _x26 =>
   (nn a0).bind fun p27 =>
   some (true,a4,(bw a5 k25 ((some p27),a1))))
  (cond (decide (r24<r17))
   ((inR r17 48).bind fun k28 =>
    (a5[k28]?).bind fun _x29 =>
    (nn a2).bind fun p30 =>
    some (true,a4,(bw a5 k28 ((some p30),a3))))
   (some (true,a4,a5))))
def zw (rec:(jS×(List ((Option jI)×Int))×(List (jI×Int×jI×Int)))->Option (Bool×jS×(List ((Option jI)×Int)))) (x:(jS×(List ((Option jI)×Int))×(List (jI×Int×jI×Int)))):Option (Bool×jS×(List ((Option jI)×Int))) :=
 cond (((af x.2.2:Nat):Int)==0)
 (some (true,x.1,x.2.1))
 ((inR (ag .i64 (((af x.2.2:Nat):Int) - 1)) (af x.2.2)).bind fun k27 =>
  (x.2.2[k27]?).bind fun x28 =>
  (vl x28.1 x28.2.1 x.1 x.2.1).bind fun r29 =>
  (inR (ag .i64 (((af x.2.2:Nat):Int) - 1)) (af x.2.2)).bind fun k30 =>
  (x.2.2[k30]?).bind fun x31 =>
  (vl x31.2.2.1 x31.2.2.2 x.1 x.2.1).bind fun r32 =>
  (uh x.2.2 none (some (ag .i64 (((af x.2.2:Nat):Int) - 1)))).bind fun y33 =>
  (gx r29.1 0).bind fun e34 =>
  cond (decide (e34<0))
  ((qB r29.1 r29.2 r32.1 r32.2 x.1 x.2.1).bind fun r35 =>
   cond r35.1
   (rec (r35.2.1,r35.2.2,y33))
   (some (false,r35.2.1,r35.2.2)))
  ((gx r32.1 0).bind fun e36 =>
   cond (decide (e36<0))
   ((qB r32.1 r32.2 r29.1 r29.2 x.1 x.2.1).bind fun r37 =>
    cond r37.1
    (rec (r37.2.1,r37.2.2,y33))
    (some (false,r37.2.1,r37.2.2)))
   ((gx r29.1 0).bind fun e38 =>
    (gx r32.1 0).bind fun e39 =>
    cond (e38 != e39)
    (some (false,x.1,x.2.1))
    ((uh r29.1 (some 1) none).bind fun y40 =>
     (uh r32.1 (some 1) none).bind fun y41 =>
     (xb y40 r29.2 y41 r32.2 x.1 x.2.1 y33).bind fun r42 =>
     rec (x.1,x.2.1,r42)))))
def wB (a0:jI) (a1:Int) (a2:jI) (a3:Int) (a4:jS) (a5:(List ((Option jI)×Int))):Option (Bool×jS×(List ((Option jI)×Int))) :=
 (xb a0 a1 a2 a3 a4 a5 ([]:(List (jI×Int×jI×Int)))).bind fun r53 =>
 cond (((af r53:Nat):Int)==0)
 (some (true,a4,a5))
 ((inR (ag .i64 (((af r53:Nat):Int) - 1)) (af r53)).bind fun k54 =>
  (r53[k54]?).bind fun x55 =>
  (vl x55.1 x55.2.1 a4 a5).bind fun r56 =>
  (inR (ag .i64 (((af r53:Nat):Int) - 1)) (af r53)).bind fun k57 =>
  (r53[k57]?).bind fun x58 =>
  (vl x58.2.2.1 x58.2.2.2 a4 a5).bind fun r59 =>
  (uh r53 none (some (ag .i64 (((af r53:Nat):Int) - 1)))).bind fun y60 =>
  (gx r56.1 0).bind fun e61 =>
  cond (decide (e61<0))
  ((qB r56.1 r56.2 r59.1 r59.2 a4 a5).bind fun r62 =>
   cond r62.1
   ((((lp zw ze) (r62.2.1,r62.2.2,y60))).bind fun r63 =>
    some (r63.1,r63.2.1,r63.2.2))
   (some (false,r62.2.1,r62.2.2)))
  ((gx r59.1 0).bind fun e64 =>
   cond (decide (e64<0))
   ((qB r59.1 r59.2 r56.1 r56.2 a4 a5).bind fun r65 =>
    cond r65.1
    ((((lp zw ze) (r65.2.1,r65.2.2,y60))).bind fun r66 =>
     some (r66.1,r66.2.1,r66.2.2))
    (some (false,r65.2.1,r65.2.2)))
   ((gx r56.1 0).bind fun e67 =>
    (gx r59.1 0).bind fun e68 =>
    cond (e67 != e68)
    (some (false,a4,a5))
    ((uh r56.1 (some 1) none).bind fun y69 =>
     (uh r59.1 (some 1) none).bind fun y70 =>
     (xb y69 r56.2 y70 r59.2 a4 a5 y60).bind fun r71 =>
     (((lp zw ze) (a4,a5,r71))).bind fun r72 =>
     some (r72.1,r72.2.1,r72.2.2)))))
def xO (_a0:(Option jI)) (a1:Int) (a2:Int):Option Int :=
 (zQ a2).bind fun r2 =>
 some (ag .i64 (r2+a1))
def yP (rf:(((Option jI)×Int×jS×(List ((Option jI)×Int)))->Option (Option jI))) (rec:((Option jI)×Int×Int×jS×(List ((Option jI)×Int))×(Option jI)×Int×jI)->Option (jI⊕Unit)) (x:((Option jI)×Int×Int×jS×(List ((Option jI)×Int))×(Option jI)×Int×jI)):Option (jI⊕Unit) :=
 cond (decide (x.2.2.1<x.2.1))
 ((gx (bM x.1 []) x.2.2.1).bind fun e27 =>
  cond (decide (e27<0))
  ((xO x.2.2.2.2.2.1 x.2.2.2.2.2.2.1 e27).bind fun r28 =>
   (inR r28 48).bind fun k29 =>
   (x.2.2.2.2.1[k29]?).bind fun x30 =>
   cond (!(co x30.1))
   ((xO x.2.2.2.2.2.1 x.2.2.2.2.2.2.1 e27).bind fun r31 =>
    (inR r31 48).bind fun k32 =>
    (x.2.2.2.2.1[k32]?).bind fun x33 =>
    (rf (x33.1,x33.2,x.2.2.2.1,x.2.2.2.2.1)).bind fun r34 =>
    cond (co r34)
    (some (aH ()))
    (cond (decide ((ag .i64 (((af x.2.2.2.2.2.2.2:Nat):Int)+((af (bM r34 []):Nat):Int)))>48))
     (some (aH ()))
     (cond (yK (af x.2.2.2.2.2.2.2+af (bM r34 [])) 8)
      (rec (x.1,x.2.1,(ag .i64 (x.2.2.1+1)),x.2.2.2.1,x.2.2.2.2.1,x.2.2.2.2.2.1,x.2.2.2.2.2.2.1,(x.2.2.2.2.2.2.2++(bM r34 []))))
      (none))))
   ((((nn ([e27]:List Int)).bind fun _ =>
     some false)).bind fun z35 =>
    cond z35
    (some (aH ()))
    (cond (decide ((ag .i64 (((af x.2.2.2.2.2.2.2:Nat):Int)+((af ([e27]:List Int):Nat):Int)))>48))
     (some (aH ()))
     (cond (yK (af x.2.2.2.2.2.2.2+af ([e27]:List Int)) 8)
      (rec (x.1,x.2.1,(ag .i64 (x.2.2.1+1)),x.2.2.2.1,x.2.2.2.2.1,x.2.2.2.2.2.1,x.2.2.2.2.2.2.1,(x.2.2.2.2.2.2.2++([e27]:List Int))))
      (none)))))
  ((((nn ([e27]:List Int)).bind fun _ =>
    some false)).bind fun z36 =>
   cond z36
   (some (aH ()))
   (cond (decide ((ag .i64 (((af x.2.2.2.2.2.2.2:Nat):Int)+((af ([e27]:List Int):Nat):Int)))>48))
    (some (aH ()))
    (cond (yK (af x.2.2.2.2.2.2.2+af ([e27]:List Int)) 8)
     (rec (x.1,x.2.1,(ag .i64 (x.2.2.1+1)),x.2.2.2.1,x.2.2.2.2.1,x.2.2.2.2.2.1,x.2.2.2.2.2.2.1,(x.2.2.2.2.2.2.2++([e27]:List Int))))
     (none)))))
 (some (aU x.2.2.2.2.2.2.2))
def sK (rf:(((Option jI)×Int×jS×(List ((Option jI)×Int)))->Option (Option jI))) (a0:(Option jI)) (a1:Int) (a2:jS) (a3:(List ((Option jI)×Int))):Option (Option jI) :=
 ((lp (yP rf) ze) (a0,((af (bM a0 []):Nat):Int),0,a2,a3,a0,a1,([]:jI))).bind fun r40 =>
 yb r40
 (fun z41=>((nn z41).bind fun z=>some ((2:Nat),some z)).bind fun p42 =>
  some p42.2)
 (fun _z43=>some (none:(Option jI)))
def YW (rf:(((Option jI)×Int×jS×(List ((Option jI)×Int)))->Option (Option jI))):(((Option jI)×Int×jS×(List ((Option jI)×Int)))->Option (Option jI)) :=
 fun (x:((Option jI)×Int×jS×(List ((Option jI)×Int))))=>sK rf x.1 x.2.1 x.2.2.1 x.2.2.2
def YU:(((Option jI)×Int×jS×(List ((Option jI)×Int)))->Option (Option jI)):=fun _=>none
def qS (k:Nat):(((Option jI)×Int×jS×(List ((Option jI)×Int)))->Option (Option jI)):=lpR YU YW k
def kN (a0:(Option jI)) (a1:Int) (a2:jS) (a3:(List ((Option jI)×Int))):Option (Option jI):=(qS ze) (a0,a1,a2,a3)
def vk (rec:(Int×jS×(List ((Option jI)×Int))×(List (Int×jI)))->Option ((List (Int×jI))⊕(Bool×Int))) (x:(Int×jS×(List ((Option jI)×Int))×(List (Int×jI)))):Option ((List (Int×jI))⊕(Bool×Int)) :=
 cond (decide (x.1<24))
 ((inR x.1 48).bind fun k16 =>
  (x.2.2.1[k16]?).bind fun x17 =>
  cond (co x17.1)
  (rec ((ag .i64 (x.1+1)),x.2.1,x.2.2.1,x.2.2.2))
  ((inR x.1 48).bind fun k18 =>
   (x.2.2.1[k18]?).bind fun x19 =>
   (kN x19.1 x19.2 x.2.1 x.2.2.1).bind fun r20 =>
   cond (co r20)
   (some (aH (false,401)))
   ((zD (bM r20 [])).bind fun r21 =>
    cond (yK (af x.2.2.2+af ([(x.1,r21)]:List (Int×jI))) 32)
    (rec ((ag .i64 (x.1+1)),x.2.1,x.2.2.1,(x.2.2.2++([(x.1,r21)]:List (Int×jI)))))
    (none))))
 (some (aU x.2.2.2))
def uI (a0:jS) (a1:jI) (a2:jI):Option (Bool×Int×(List (Int×jI))) :=
 (Ym a0 a1).bind fun r25 =>
 (Ym a0 a2).bind fun r26 =>
 cond (r25.2 != 0)
 (some (false,400,([]:(List (Int×jI)))))
 (cond (r26.2 != 0)
  (some (false,400,([]:(List (Int×jI)))))
  (cond (r25.1 != r26.1)
   (some (false,0,([]:(List (Int×jI)))))
   ((wB a1 0 a2 0 a0 (ax 48 ((none:(Option jI)),(0:Int)))).bind fun r27 =>
    cond (!r27.1)
    (some (false,0,([]:(List (Int×jI)))))
    (((lp vk ze) (0,r27.2.1,r27.2.2,([]:(List (Int×jI))))).bind fun r28 =>
     yb r28
     (fun z29=>some (true,0,z29))
     (fun z30=>some (z30.1,z30.2,([]:(List (Int×jI)))))))))
def Yr (a0:Int):Option jR :=
 cond (decide (a0<0))
 (none)
 (cond (decide ((ag .i64 (a0 - 0))>0))
  (cond (eqI 0 0&&eqI 0 0)
   (cond (Ei (ag .i64 (a0 - 0)))
    (cond (yK (bc (ag .i64 (a0 - 0))) 24)
     ((uh (ax (bc (ag .i64 (a0 - 0))) ([]:jI)) none (some 0)).bind fun y2 =>
      some y2)
     (none))
    (none))
   (none))
  (some ([]:jR)))
def wz (rec:((List jR)×Int×Int×jR)->Option jR) (x:((List jR)×Int×Int×jR)):Option jR :=
 cond (decide (x.2.2.1<x.2.1))
 ((gx x.1 x.2.2.1).bind fun e7 =>
  cond (yK (af x.2.2.2+af e7) 24)
  (rec (x.1,x.2.1,(ag .i64 (x.2.2.1+1)),(x.2.2.2++e7)))
  (none))
 (some x.2.2.2)
def wO (rec:((List jR)×Int×(List jR)×Int×Int)->Option Int) (x:((List jR)×Int×(List jR)×Int×Int)):Option Int :=
 cond (decide (x.2.2.2.2<x.2.2.2.1))
 ((gx x.2.2.1 x.2.2.2.2).bind fun e2 =>
  cond (decide ((ag .i64 (x.2.1+((af e2:Nat):Int)))<0))
  (none)
  (rec (x.1,(ag .i64 (x.2.1+((af e2:Nat):Int))),x.2.2.1,x.2.2.2.1,(ag .i64 (x.2.2.2.2+1)))))
 (some x.2.1)
def kc (a0:(List jR)):Option jR :=
 ((lp wO ze) (a0,0,a0,((af a0:Nat):Int),0)).bind fun r9 =>
 (Yr r9).bind fun r10 =>
 ((lp wz ze) (a0,((af a0:Nat):Int),0,r10)).bind fun r11 =>
 some r11
def kf (a0:Int):Option jQ :=
 cond (decide (a0<0))
 (none)
 (cond (decide ((ag .i64 (a0 - 0))>0))
  (cond (eqI 0 0&&eqI 0 0)
   (cond (Ei (ag .i64 (a0 - 0)))
    (cond (yK (bc (ag .i64 (a0 - 0))) 32)
     ((uh (ax (bc (ag .i64 (a0 - 0))) (false,([]:jI))) none (some 0)).bind fun y2 =>
      some y2)
     (none))
    (none))
   (none))
  (some ([]:jQ)))
def xz (rec:((List jQ)×Int×Int×jQ)->Option jQ) (x:((List jQ)×Int×Int×jQ)):Option jQ :=
 cond (decide (x.2.2.1<x.2.1))
 ((gx x.1 x.2.2.1).bind fun e7 =>
  cond (yK (af x.2.2.2+af e7) 32)
  (rec (x.1,x.2.1,(ag .i64 (x.2.2.1+1)),(x.2.2.2++e7)))
  (none))
 (some x.2.2.2)
def xC (rec:((List jQ)×Int×(List jQ)×Int×Int)->Option Int) (x:((List jQ)×Int×(List jQ)×Int×Int)):Option Int :=
 cond (decide (x.2.2.2.2<x.2.2.2.1))
 ((gx x.2.2.1 x.2.2.2.2).bind fun e2 =>
  cond (decide ((ag .i64 (x.2.1+((af e2:Nat):Int)))<0))
  (none)
  (rec (x.1,(ag .i64 (x.2.1+((af e2:Nat):Int))),x.2.2.1,x.2.2.2.1,(ag .i64 (x.2.2.2.2+1)))))
 (some x.2.1)
def uK (a0:(List jQ)):Option jQ :=
 ((lp xC ze) (a0,0,a0,((af a0:Nat):Int),0)).bind fun r9 =>
 (kf r9).bind fun r10 =>
 ((lp xz ze) (a0,((af a0:Nat):Int),0,r10)).bind fun r11 =>
 some r11
def vx (rec:(Int×jQ×Int×Int×jR×jQ×jQ)->Option (jR×jQ×jQ)) (x:(Int×jQ×Int×Int×jR×jQ×jQ)):Option (jR×jQ×jQ) :=
 cond (decide (x.2.2.2.1<x.2.2.1))
 ((gx x.2.1 x.2.2.2.1).bind fun e8 =>
  cond (x.2.2.2.1 != x.1)
  (cond (yK (af x.2.2.2.2.2.1+af ([(e8.1,e8.2)]:List zc)) 32)
   (rec (x.1,x.2.1,x.2.2.1,(ag .i64 (x.2.2.2.1+1)),x.2.2.2.2.1,(x.2.2.2.2.2.1++([(e8.1,e8.2)]:List zc)),x.2.2.2.2.2.2))
   (none))
  (rec (x.1,x.2.1,x.2.2.1,(ag .i64 (x.2.2.2.1+1)),x.2.2.2.2.1,x.2.2.2.2.2.1,x.2.2.2.2.2.2)))
 (some (x.2.2.2.2.1,x.2.2.2.2.2.1,x.2.2.2.2.2.2))
def vt (rec:(Int×Int×jQ×Int×Int×jQ×jR×jQ×jR×jQ×jQ)->Option (jR×jQ×jQ)) (x:(Int×Int×jQ×Int×Int×jQ×jR×jQ×jR×jQ×jQ)):Option (jR×jQ×jQ) :=
 cond (decide (x.2.2.2.2.1<x.2.2.2.1))
 ((gx x.2.2.1 x.2.2.2.2.1).bind fun e5 =>
  cond (x.2.2.2.2.1 != x.1)
  (cond (yK (af x.2.2.2.2.2.2.2.2.2.1+af ([(e5.1,e5.2)]:List zc)) 32)
   (rec (x.1,x.2.1,x.2.2.1,x.2.2.2.1,(ag .i64 (x.2.2.2.2.1+1)),x.2.2.2.2.2.1,x.2.2.2.2.2.2.1,x.2.2.2.2.2.2.2.1,x.2.2.2.2.2.2.2.2.1,(x.2.2.2.2.2.2.2.2.2.1++([(e5.1,e5.2)]:List zc)),x.2.2.2.2.2.2.2.2.2.2))
   (none))
  (rec (x.1,x.2.1,x.2.2.1,x.2.2.2.1,(ag .i64 (x.2.2.2.2.1+1)),x.2.2.2.2.2.1,x.2.2.2.2.2.2.1,x.2.2.2.2.2.2.2.1,x.2.2.2.2.2.2.2.2.1,x.2.2.2.2.2.2.2.2.2.1,x.2.2.2.2.2.2.2.2.2.2)))
 (some (x.2.2.2.2.2.2.2.2.1,x.2.2.2.2.2.2.2.2.2.1,x.2.2.2.2.2.2.2.2.2.2))
def vG (a0:jQ) (a1:jR) (a2:jQ) (a3:Int) (a4:jQ) (a5:jR) (a6:jQ) (a7:Int):Option (jR×jQ×jQ) :=
 (kc ([a1,a5]:List jR)).bind fun r10 =>
 (uK ([a2,a6]:List jQ)).bind fun r11 =>
 ((lp vt ze) (a3,a7,a0,((af a0:Nat):Int),0,a4,a5,a6,r10,([]:jQ),r11)).bind fun r12 =>
 ((lp vx ze) (a7,a4,((af a4:Nat):Int),0,r12.1,r12.2.1,r12.2.2)).bind fun r13 =>
 some (r13.1,r13.2.1,r13.2.2)
def tJ (rec:(Int×(List (Int×jI))×Int×Int)->Option (Unit⊕jI)) (x:(Int×(List (Int×jI))×Int×Int)):Option (Unit⊕jI) :=
 cond (decide (x.2.2.2<x.2.2.1))
 ((gx x.2.1 x.2.2.2).bind fun e2 =>
  cond (e2.1==x.1)
  (some (aH e2.2))
  (rec (x.1,x.2.1,x.2.2.1,(ag .i64 (x.2.2.2+1)))))
 (some (aU ()))
def QD (a0:(List (Int×jI))) (a1:Int):Option (Option jI) :=
 ((lp tJ ze) (a1,a0,((af a0:Nat):Int),0)).bind fun r6 =>
 yb r6
 (fun _z7=>some (none:(Option jI)))
 (fun z8=>(nn z8).bind fun p9 =>
  some (some p9))
def ky (rec:((List (Int×jI))×jI×Int×Int×jI)->Option jI) (x:((List (Int×jI))×jI×Int×Int×jI)):Option jI :=
 cond (decide (x.2.2.2.1<x.2.2.1))
 ((gx x.2.1 x.2.2.2.1).bind fun e10 =>
  (zQ e10).bind fun r11 =>
  (QD x.1 r11).bind fun r12 =>
  cond (decide (e10≥0))
  (cond (yK (af x.2.2.2.2+af ([e10]:List Int)) 8)
   (rec (x.1,x.2.1,x.2.2.1,(ag .i64 (x.2.2.2.1+1)),(x.2.2.2.2++([e10]:List Int))))
   (none))
  (cond (co r12)
   (cond (yK (af x.2.2.2.2+af ([e10]:List Int)) 8)
    (rec (x.1,x.2.1,x.2.2.1,(ag .i64 (x.2.2.2.1+1)),(x.2.2.2.2++([e10]:List Int))))
    (none))
   (cond (yK (af x.2.2.2.2+af (bM r12 [])) 8)
    (rec (x.1,x.2.1,x.2.2.1,(ag .i64 (x.2.2.2.1+1)),(x.2.2.2.2++(bM r12 []))))
    (none))))
 (some x.2.2.2.2)
def Z6 (a0:(List (Int×jI))) (a1:jI):Option jI :=
 ((lp ky ze) (a0,a1,((af a1:Nat):Int),0,([]:jI))).bind fun r14 =>
 some r14
def xW (a0:jI) (a1:(List (Int×jI))):Option jI :=
 (Z6 a1 a0).bind fun r2 =>
 some r2
def um (rec:(jQ×Int×Int×(List (Int×jI))×jQ×jR×jQ)->Option (jQ×jR×jQ)) (x:(jQ×Int×Int×(List (Int×jI))×jQ×jR×jQ)):Option (jQ×jR×jQ) :=
 cond (decide (x.2.2.1<x.2.1))
 ((gx x.1 x.2.2.1).bind fun e19 =>
  (xW e19.2 x.2.2.2.1).bind fun r20 =>
  cond (yK (af x.2.2.2.2.2.2+af ([(e19.1,r20)]:List zc)) 32)
  (rec (x.1,x.2.1,(ag .i64 (x.2.2.1+1)),x.2.2.2.1,x.2.2.2.2.1,x.2.2.2.2.2.1,(x.2.2.2.2.2.2++([(e19.1,r20)]:List zc))))
  (none))
 (some (x.2.2.2.2.1,x.2.2.2.2.2.1,x.2.2.2.2.2.2))
def un (rec:(jR×Int×Int×(List (Int×jI))×jQ×jR×jQ×jQ×jR)->Option (jQ×jR)) (x:(jR×Int×Int×(List (Int×jI))×jQ×jR×jQ×jQ×jR)):Option (jQ×jR) :=
 cond (decide (x.2.2.1<x.2.1))
 ((gx x.1 x.2.2.1).bind fun e12 =>
  (xW e12 x.2.2.2.1).bind fun r13 =>
  cond (yK (af x.2.2.2.2.2.2.2.2+af ([r13]:List jI)) 24)
  (rec (x.1,x.2.1,(ag .i64 (x.2.2.1+1)),x.2.2.2.1,x.2.2.2.2.1,x.2.2.2.2.2.1,x.2.2.2.2.2.2.1,x.2.2.2.2.2.2.2.1,(x.2.2.2.2.2.2.2.2++([r13]:List jI))))
  (none))
 (some (x.2.2.2.2.2.2.2.1,x.2.2.2.2.2.2.2.2))
def v7 (rec:(jQ×Int×Int×(List (Int×jI))×jQ×jR×jQ×jQ)->Option jQ) (x:(jQ×Int×Int×(List (Int×jI))×jQ×jR×jQ×jQ)):Option jQ :=
 cond (decide (x.2.2.1<x.2.1))
 ((gx x.1 x.2.2.1).bind fun e5 =>
  (xW e5.2 x.2.2.2.1).bind fun r6 =>
  cond (yK (af x.2.2.2.2.2.2.2+af ([(e5.1,r6)]:List zc)) 32)
  (rec (x.1,x.2.1,(ag .i64 (x.2.2.1+1)),x.2.2.2.1,x.2.2.2.2.1,x.2.2.2.2.2.1,x.2.2.2.2.2.2.1,(x.2.2.2.2.2.2.2++([(e5.1,r6)]:List zc))))
  (none))
 (some x.2.2.2.2.2.2.2)
def Xt (a0:jQ) (a1:jR) (a2:jQ) (a3:(List (Int×jI))):Option (jQ×jR×jQ) :=
 ((lp v7 ze) (a0,((af a0:Nat):Int),0,a3,a0,a1,a2,([]:jQ))).bind fun r22 =>
 ((lp un ze) (a1,((af a1:Nat):Int),0,a3,a0,a1,a2,r22,([]:jR))).bind fun r23 =>
 ((lp um ze) (a2,((af a2:Nat):Int),0,a3,r23.1,r23.2,([]:jQ))).bind fun r24 =>
 some (r24.1,r24.2.1,r24.2.2)
def rE (a0:(List (Int×jI))) (a1:jQ) (a2:jR) (a3:jQ):Option (jQ×jR×jQ) :=
 (Xt a1 a2 a3 a0).bind fun r2 =>
 some (r2.1,r2.2.1,r2.2.2)
def Zg (a0:jS) (a1:jQ) (a2:jR) (a3:jQ) (a4:Int) (a5:Int):Option (jQ×jR×Bool×Int×jQ) :=
 (gx a1 a4).bind fun e11 =>
 (gx a1 a5).bind fun e12 =>
 cond (!(e11.1==e12.1))
 (some (([]:jQ),([]:jR),false,0,([]:jQ)))
 ((gx e11.2 0).bind fun e13 =>
  (gx e12.2 0).bind fun e14 =>
  cond (e13 != e14)
  (some (([]:jQ),([]:jR),false,0,([]:jQ)))
  ((uh e11.2 (some 1) none).bind fun y15 =>
   (uh e12.2 (some 1) none).bind fun y16 =>
   (uI a0 y15 y16).bind fun r17 =>
   cond (r17.2.1 != 0)
   (some (([]:jQ),([]:jR),false,1401,([]:jQ)))
   (cond (!r17.1)
    (some (([]:jQ),([]:jR),false,0,([]:jQ)))
    ((vG a1 a2 a3 a5 ([]:jQ) ([]:jR) ([]:jQ) (-1)).bind fun r18 =>
     (rE r17.2.2 r18.2.1 r18.1 r18.2.2).bind fun r19 =>
     (xd a0 r19.1 r19.2.1 r19.2.2).bind fun r20 =>
     cond (r20.2.2.1 != 0)
     (some (([]:jQ),([]:jR),false,1401,([]:jQ)))
     (some (r20.1,r20.2.1,true,0,r20.2.2.2))))))
def ku (a0:jS) (a1:jQ) (a2:jR) (a3:jQ) (a4:Int) (a5:Int):Option (jQ×jR×Bool×Int×jQ) :=
 (qI a0 a1 a2 a3).bind fun r5 =>
 cond (!r5)
 (some (([]:jQ),([]:jR),false,1400,([]:jQ)))
 ((tK a1 a2 a3 a4).bind fun r6 =>
  cond (!r6)
  (some (([]:jQ),([]:jR),false,1400,([]:jQ)))
  ((tK a1 a2 a3 a5).bind fun r7 =>
   cond (!r7)
   (some (([]:jQ),([]:jR),false,1400,([]:jQ)))
   (cond (a4==a5)
    (some (([]:jQ),([]:jR),false,1400,([]:jQ)))
    ((Zg a0 a1 a2 a3 a4 a5).bind fun r8 =>
     some (r8.1,r8.2.1,r8.2.2.1,r8.2.2.2.1,r8.2.2.2.2)))))
def tA (a0:jS) (a1:jI):Option Bool :=
 (sO a0 a1).bind fun r2 =>
 cond r2.1
 (some (((af r2.2:Nat):Int)==1))
 (some false)
def ub (rec:(jI×Int×Int×jI)->Option jI) (x:(jI×Int×Int×jI)):Option jI :=
 cond (decide (x.2.2.1<x.2.1))
 ((gx x.1 x.2.2.1).bind fun e7 =>
  cond (decide (e7<0))
  ((zQ e7).bind fun r8 =>
   (inR r8 24).bind fun k9 =>
   (x.2.2.2[k9]?).bind fun x10 =>
   (inR r8 24).bind fun k11 =>
   (x.2.2.2[k11]?).bind fun _x12 =>
   rec (x.1,x.2.1,(ag .i64 (x.2.2.1+1)),(bw x.2.2.2 k11 (ag .i64 (x10+1)))))
  (rec (x.1,x.2.1,(ag .i64 (x.2.2.1+1)),x.2.2.2)))
 (some x.2.2.2)
def ji (a0:jI):Option jI :=
 ((lp ub ze) (a0,((af a0:Nat):Int),0,(ax 24 (0:Int)))).bind fun r14 =>
 cond (aA (af r14) 24)
 (cond (aA (af r14) 24)
  (cond (aA (af r14) 24)
   (some r14)
   (none))
  (none))
 (none)
def wc (rec:(Int×jI×jI)->Option (Unit⊕Bool)) (x:(Int×jI×jI)):Option (Unit⊕Bool) :=
 cond (decide (x.1<24))
 ((inR x.1 24).bind fun k11 =>
  (x.2.1[k11]?).bind fun x12 =>
  (inR x.1 24).bind fun k13 =>
  (x.2.2[k13]?).bind fun x14 =>
  cond (decide (x12<x14))
  (some (aH false))
  (rec ((ag .i64 (x.1+1)),x.2.1,x.2.2)))
 (some (aU ()))
def jE (a0:jI) (a1:jI):Option Bool :=
 (ji a0).bind fun r18 =>
 (ji a1).bind fun r19 =>
 cond (aA (af (ax 24 (0:Int))) 24)
 (cond (aA (af (ax 24 (0:Int))) 24)
  (((lp wc ze) (0,r18,r19)).bind fun r20 =>
   yb r20
   (fun _z21=>some true)
   (fun z22=>some z22))
  (none))
 (none)
def sE (rec:(jS×Int×jI×Int×Int)->Option Int) (x:(jS×Int×jI×Int×Int)):Option Int :=
 cond (decide (x.2.2.2.2<x.2.2.2.1))
 ((gx x.2.2.1 x.2.2.2.2).bind fun e3 =>
  cond (decide (e3<0))
  (rec (x.1,(ag .i64 (x.2.1+1)),x.2.2.1,x.2.2.2.1,(ag .i64 (x.2.2.2.2+1))))
  ((gx x.1 e3).bind fun e4 =>
   rec (x.1,(ag .i64 (x.2.1+e4.2.2.2)),x.2.2.1,x.2.2.2.1,(ag .i64 (x.2.2.2.2+1)))))
 (some x.2.1)
def Yh (a0:jS) (a1:jI):Option Int :=
 ((lp sE ze) (a0,0,a1,((af a1:Nat):Int),0)).bind fun r6 =>
 some r6
def vC (rec:(jR×jR×Int×Int)->Option (Unit⊕(jI×jI))) (x:(jR×jR×Int×Int)):Option (Unit⊕(jI×jI)) :=
 cond (decide (x.2.2.2<x.2.2.1))
 ((gx x.2.1 x.2.2.2).bind fun e7 =>
  cond (decide (x.2.2.2<((af x.1:Nat):Int)))
  ((gx x.1 x.2.2.2).bind fun e8 =>
   (yR e7 e8).bind fun r9 =>
   cond (!r9)
   ((gx x.1 x.2.2.2).bind fun e10 =>
    some (aH (e7,e10)))
   (rec (x.1,x.2.1,x.2.2.1,(ag .i64 (x.2.2.2+1)))))
  (rec (x.1,x.2.1,x.2.2.1,(ag .i64 (x.2.2.2+1)))))
 (some (aU ()))
def QI (a0:jS) (a1:jI) (a2:jI):Option (jI×jI) :=
 (uA a0 a2).bind fun r14 =>
 (uA a0 a1).bind fun r15 =>
 ((lp vC ze) (r14,r15,((af r15:Nat):Int),0)).bind fun r16 =>
 yb r16
 (fun _z17=>some (([]:jI),([]:jI)))
 (fun z18=>some (z18.1,z18.2))
def so (rec:(jS×jI×jI)->Option (Unit⊕Bool)) (x:(jS×jI×jI)):Option (Unit⊕Bool) :=
 (((nn x.2.1).bind fun _ =>
  some false)).bind fun z23 =>
 cond (!z23)
 ((jE x.2.1 x.2.2).bind fun r24 =>
  cond r24
  ((Yh x.1 x.2.1).bind fun r25 =>
   (Yh x.1 x.2.2).bind fun r26 =>
   cond (r25 != r26)
   (some (aH (decide (r25>r26))))
   ((gx x.2.1 0).bind fun e27 =>
    (gx x.2.2 0).bind fun e28 =>
    cond (e27 != e28)
    ((gx x.2.1 0).bind fun e29 =>
     (gx x.2.2 0).bind fun e30 =>
     some (aH (decide (e29>e30))))
    ((uh x.2.1 (some 1) none).bind fun y31 =>
     (uh x.2.2 (some 1) none).bind fun y32 =>
     (QI x.1 y31 y32).bind fun r33 =>
     rec (x.1,r33.1,r33.2))))
  (some (aU ())))
 (some (aU ()))
def x6 (a0:jS) (a1:jI) (a2:jI):Option Bool :=
 ((lp so ze) (a0,a1,a2)).bind fun r37 =>
 yb r37
 (fun _z38=>some false)
 (fun z39=>some z39)
def uO (a0:jS) (a1:jI) (a2:jI):Option (Int×Int) :=
 (tA a0 a1).bind fun r19 =>
 cond r19
 ((tA a0 a2).bind fun r20 =>
  (vP a0 a1).bind fun r21 =>
  cond r21
  ((vP a0 a2).bind fun r22 =>
   cond (!r20)
   (cond (!r22)
    (some (0,600))
    ((yR a1 a2).bind fun r23 =>
     cond r23
     (some (1,0))
     ((x6 a0 a1 a2).bind fun r24 =>
      cond r24
      (some (2,0))
      ((x6 a0 a2 a1).bind fun r25 =>
       cond r25
       (some (0,0))
       (some (3,0))))))
   ((yR a1 a2).bind fun r26 =>
    cond r26
    (some (1,0))
    ((x6 a0 a1 a2).bind fun r27 =>
     cond r27
     (some (2,0))
     ((x6 a0 a2 a1).bind fun r28 =>
      cond r28
      (some (0,0))
      (some (3,0))))))
  (cond (!r20)
   (some (0,600))
   ((yR a1 a2).bind fun r29 =>
    cond r29
    (some (1,0))
    ((x6 a0 a1 a2).bind fun r30 =>
     cond r30
     (some (2,0))
     ((x6 a0 a2 a1).bind fun r31 =>
      cond r31
      (some (0,0))
      (some (3,0)))))))
 ((vP a0 a1).bind fun r32 =>
  cond r32
  ((vP a0 a2).bind fun r33 =>
   cond (!r33)
   (some (0,600))
   ((yR a1 a2).bind fun r34 =>
    cond r34
    (some (1,0))
    ((x6 a0 a1 a2).bind fun r35 =>
     cond r35
     (some (2,0))
     ((x6 a0 a2 a1).bind fun r36 =>
      cond r36
      (some (0,0))
      (some (3,0))))))
  (some (0,600)))
def wQ (a0:jS) (a1:jQ) (a2:jR) (a3:jQ) (a4:Int):Option (jQ×jR×Int×jQ) :=
 (qI a0 a1 a2 a3).bind fun r7 =>
 cond (!r7)
 (some (([]:jQ),([]:jR),1400,([]:jQ)))
 ((tK a1 a2 a3 a4).bind fun r8 =>
  cond (!r8)
  (some (([]:jQ),([]:jR),1400,([]:jQ)))
  (cond (((af a3:Nat):Int)==3)
   (some (([]:jQ),([]:jR),1401,([]:jQ)))
   ((vG a1 a2 a3 a4 ([]:jQ) ([]:jR) ([]:jQ) (-1)).bind fun r9 =>
    (gx a1 a4).bind fun e10 =>
    (Qa e10.1 e10.2).bind fun r11 =>
    cond (yK (af r9.2.2+af ([(r11.1,r11.2)]:List zc)) 32)
    ((xd a0 r9.2.1 r9.1 (r9.2.2++([(r11.1,r11.2)]:List zc))).bind fun r12 =>
     some (r12.1,r12.2.1,0,r12.2.2.2))
    (none))))
def zO (s1:jR) (s6:Int) (s8:Int):List jI->Nat->(List (jI×Int×jI×Int))->Option (List (jI×Int×jI×Int))
 | [],_i,s4=>some s4
 | e::es,i,s4 =>
  (gx s1 (i:Int)).bind fun e8 =>
  cond (yK (af s4+af ([(e,s6,e8,s8)]:List (jI×Int×jI×Int))) 64)
  (zO s1 s6 s8 es (i+1) (s4++([(e,s6,e8,s8)]:List (jI×Int×jI×Int))))
  (none)
theorem jf (s0:jR) (s1:jR) (s5:jI) (s6:Int) (s7:jI) (s8:Int) (s4:(List (jI×Int×jI×Int))) (hl:af s0<=maxLen):lp qH ze (s0,s1,((af s0:Nat):Int),0,s4,s5,s6,s7,s8)=zO s1 s6 s8 s0 0 s4:=x9 qH (fun i s4=>(s0,s1,((af s0:Nat):Int),i,s4,s5,s6,s7,s8)) (fun es i s4=>zO s1 s6 s8 es i s4) hl (fun r i s4 h=>by unfold qH zO; simp only[h,cond_false]) (fun r i s4 e es h g w k=>by unfold qH zO; simp only[h,cond_true,g,aa,w,k]) s4
def zl (s0:Int) (s5:(List ((Option jI)×Int))) (s6:jI) (s7:Int):List Int->(List Bool)->(List (jI×Int))->Option (((List Bool)×(List (jI×Int)))⊕Bool)
 | [],s8,s9=>some (aU (s8,s9))
 | e::es,s8,s9 =>
  cond (decide (e≥0))
  (zl s0 s5 s6 s7 es s8 s9)
  ((yT s6 s7 e).bind fun r15 =>
   cond (r15==s0)
   (some (aH true))
   ((inR r15 48).bind fun k16 =>
    (s8[k16]?).bind fun x17 =>
    cond (!x17)
    ((inR r15 48).bind fun k18 =>
     (s5[k18]?).bind fun x19 =>
     cond (!(co x19.1))
     ((inR r15 48).bind fun k20 =>
      (s8[k20]?).bind fun _x21 =>
      (inR r15 48).bind fun k22 =>
      (s5[k22]?).bind fun x23 =>
      cond (yK (af s9+af ([((bM x23.1 []),x23.2)]:List (jI×Int))) 32)
      (zl s0 s5 s6 s7 es (bw s8 k20 true) (s9++([((bM x23.1 []),x23.2)]:List (jI×Int))))
      (none))
     (zl s0 s5 s6 s7 es s8 s9))
    (zl s0 s5 s6 s7 es s8 s9)))
theorem jp (s0:Int) (s1:jI) (s4:jS) (s5:(List ((Option jI)×Int))) (s6:jI) (s7:Int) (s8:(List Bool)) (s9:(List (jI×Int))) (hl:af s1<=maxLen):lp q9 ze (s0,s1,((af s1:Nat):Int),0,s4,s5,s6,s7,s8,s9)=zl s0 s5 s6 s7 s1 s8 s9:=zbm q9 (fun i s8 s9=>(s0,s1,((af s1:Nat):Int),i,s4,s5,s6,s7,s8,s9)) (fun es i s8 s9=>zl s0 s5 s6 s7 es s8 s9) hl (fun r i s8 s9 h=>by unfold q9 zl; simp only[h,cond_false]) (fun r i s8 s9 e es h g w k=>by unfold q9 zl; simp only[h,cond_true,g,aa,w,k]) s8 s9
def yr:List jR->jR->Option jR
 | [],s3=>some s3
 | e::es,s3 =>
  cond (yK (af s3+af e) 24)
  (yr es (s3++e))
  (none)
theorem Ys (s0:(List jR)) (s3:jR) (hl:af s0<=maxLen):lp wz ze (s0,((af s0:Nat):Int),0,s3)=yr s0 s3:=x9 wz (fun i s3=>(s0,((af s0:Nat):Int),i,s3)) (fun es i s3=>yr es s3) hl (fun r i s3 h=>by unfold wz yr; simp only[h,cond_false]) (fun r i s3 e es h g w k=>by unfold wz yr; simp only[h,cond_true,g,aa,w,k]) s3
def yB:List jR->Int->Option Int
 | [],s1=>some s1
 | e::es,s1 =>
  cond (decide ((ag .i64 (s1+((af e:Nat):Int)))<0))
  (none)
  (yB es (ag .i64 (s1+((af e:Nat):Int))))
theorem Yz (s0:(List jR)) (s2:(List jR)) (s1:Int) (hl:af s2<=maxLen):lp wO ze (s0,s1,s2,((af s2:Nat):Int),0)=yB s2 s1:=x9 wO (fun i s1=>(s0,s1,s2,((af s2:Nat):Int),i)) (fun es i s1=>yB es s1) hl (fun r i s1 h=>by unfold wO yB; simp only[h,cond_false]) (fun r i s1 e es h g w k=>by unfold wO yB; simp only[h,cond_true,g,aa,w,k]) s1
def zX:List jQ->jQ->Option jQ
 | [],s3=>some s3
 | e::es,s3 =>
  cond (yK (af s3+af e) 32)
  (zX es (s3++e))
  (none)
theorem j2 (s0:(List jQ)) (s3:jQ) (hl:af s0<=maxLen):lp xz ze (s0,((af s0:Nat):Int),0,s3)=zX s0 s3:=x9 xz (fun i s3=>(s0,((af s0:Nat):Int),i,s3)) (fun es i s3=>zX es s3) hl (fun r i s3 h=>by unfold xz zX; simp only[h,cond_false]) (fun r i s3 e es h g w k=>by unfold xz zX; simp only[h,cond_true,g,aa,w,k]) s3
def zZ:List jQ->Int->Option Int
 | [],s1=>some s1
 | e::es,s1 =>
  cond (decide ((ag .i64 (s1+((af e:Nat):Int)))<0))
  (none)
  (zZ es (ag .i64 (s1+((af e:Nat):Int))))
theorem jW (s0:(List jQ)) (s2:(List jQ)) (s1:Int) (hl:af s2<=maxLen):lp xC ze (s0,s1,s2,((af s2:Nat):Int),0)=zZ s2 s1:=x9 xC (fun i s1=>(s0,s1,s2,((af s2:Nat):Int),i)) (fun es i s1=>zZ es s1) hl (fun r i s1 h=>by unfold xC zZ; simp only[h,cond_false]) (fun r i s1 e es h g w k=>by unfold xC zZ; simp only[h,cond_true,g,aa,w,k]) s1
def yo (s0:Int) (s4:jR) (s6:jQ):List zc->Nat->jQ->Option (jR×jQ×jQ)
 | [],_i,s5=>some (s4,s5,s6)
 | e::es,i,s5 =>
  cond ((i:Int) != s0)
  (cond (yK (af s5+af ([(e.1,e.2)]:List zc)) 32)
   (yo s0 s4 s6 es (i+1) (s5++([(e.1,e.2)]:List zc)))
   (none))
  (yo s0 s4 s6 es (i+1) s5)
theorem YV (s0:Int) (s1:jQ) (s4:jR) (s6:jQ) (s5:jQ) (hl:af s1<=maxLen):lp vx ze (s0,s1,((af s1:Nat):Int),0,s4,s5,s6)=yo s0 s4 s6 s1 0 s5:=x9 vx (fun i s5=>(s0,s1,((af s1:Nat):Int),i,s4,s5,s6)) (fun es i s5=>yo s0 s4 s6 es i s5) hl (fun r i s5 h=>by unfold vx yo; simp only[h,cond_false]) (fun r i s5 e es h g w k=>by unfold vx yo; simp only[h,cond_true,g,aa,w,k]) s5
def yn (s0:Int) (s8:jR) (s10:jQ):List zc->Nat->jQ->Option (jR×jQ×jQ)
 | [],_i,s9=>some (s8,s9,s10)
 | e::es,i,s9 =>
  cond ((i:Int) != s0)
  (cond (yK (af s9+af ([(e.1,e.2)]:List zc)) 32)
   (yn s0 s8 s10 es (i+1) (s9++([(e.1,e.2)]:List zc)))
   (none))
  (yn s0 s8 s10 es (i+1) s9)
theorem YX (s0:Int) (s1:Int) (s2:jQ) (s5:jQ) (s6:jR) (s7:jQ) (s8:jR) (s10:jQ) (s9:jQ) (hl:af s2<=maxLen):lp vt ze (s0,s1,s2,((af s2:Nat):Int),0,s5,s6,s7,s8,s9,s10)=yn s0 s8 s10 s2 0 s9:=x9 vt (fun i s9=>(s0,s1,s2,((af s2:Nat):Int),i,s5,s6,s7,s8,s9,s10)) (fun es i s9=>yn s0 s8 s10 es i s9) hl (fun r i s9 h=>by unfold vt yn; simp only[h,cond_false]) (fun r i s9 e es h g w k=>by unfold vt yn; simp only[h,cond_true,g,aa,w,k]) s9
def we (s0:Int):List (Int×jI)->Option (Unit⊕jI)
 | []=>some (aU ())
 | e::es =>
  cond (e.1==s0)
  (some (aH e.2))
  (we s0 es)
theorem XO (s0:Int) (s1:(List (Int×jI))) (hl:af s1<=maxLen):lp tJ ze (s0,s1,((af s1:Nat):Int),0)=we s0 s1:=sr tJ (fun i=>(s0,s1,((af s1:Nat):Int),i)) (fun es i=>we s0 es) hl (fun r i h=>by unfold tJ we; simp only[h,cond_false]) (fun r i e es h g w k=>by unfold tJ we; simp only[h,cond_true,g,aa,w,k])
def xf (s0:(List (Int×jI))):List Int->jI->Option jI
 | [],s4=>some s4
 | e::es,s4 =>
  (zQ e).bind fun r11 =>
  (QD s0 r11).bind fun r12 =>
  cond (decide (e≥0))
  (cond (yK (af s4+af ([e]:List Int)) 8)
   (xf s0 es (s4++([e]:List Int)))
   (none))
  (cond (co r12)
   (cond (yK (af s4+af ([e]:List Int)) 8)
    (xf s0 es (s4++([e]:List Int)))
    (none))
   (cond (yK (af s4+af (bM r12 [])) 8)
    (xf s0 es (s4++(bM r12 [])))
    (none)))
theorem WR (s0:(List (Int×jI))) (s1:jI) (s4:jI) (hl:af s1<=maxLen):lp ky ze (s0,s1,((af s1:Nat):Int),0,s4)=xf s0 s1 s4:=x9 ky (fun i s4=>(s0,s1,((af s1:Nat):Int),i,s4)) (fun es i s4=>xf s0 es s4) hl (fun r i s4 h=>by unfold ky xf; simp only[h,cond_false]) (fun r i s4 e es h g w k=>by unfold ky xf; simp only[h,cond_true,g,aa,w,k]) s4
def qf (s3:(List (Int×jI))) (s4:jQ) (s5:jR):List zc->jQ->Option (jQ×jR×jQ)
 | [],s6=>some (s4,s5,s6)
 | e::es,s6 =>
  (xW e.2 s3).bind fun r20 =>
  cond (yK (af s6+af ([(e.1,r20)]:List zc)) 32)
  (qf s3 s4 s5 es (s6++([(e.1,r20)]:List zc)))
  (none)
theorem Qk (s0:jQ) (s3:(List (Int×jI))) (s4:jQ) (s5:jR) (s6:jQ) (hl:af s0<=maxLen):lp um ze (s0,((af s0:Nat):Int),0,s3,s4,s5,s6)=qf s3 s4 s5 s0 s6:=x9 um (fun i s6=>(s0,((af s0:Nat):Int),i,s3,s4,s5,s6)) (fun es i s6=>qf s3 s4 s5 es s6) hl (fun r i s6 h=>by unfold um qf; simp only[h,cond_false]) (fun r i s6 e es h g w k=>by unfold um qf; simp only[h,cond_true,g,aa,w,k]) s6
def qn (s3:(List (Int×jI))) (s7:jQ):List jI->jR->Option (jQ×jR)
 | [],s8=>some (s7,s8)
 | e::es,s8 =>
  (xW e s3).bind fun r13 =>
  cond (yK (af s8+af ([r13]:List jI)) 24)
  (qn s3 s7 es (s8++([r13]:List jI)))
  (none)
theorem YZ (s0:jR) (s3:(List (Int×jI))) (s4:jQ) (s5:jR) (s6:jQ) (s7:jQ) (s8:jR) (hl:af s0<=maxLen):lp un ze (s0,((af s0:Nat):Int),0,s3,s4,s5,s6,s7,s8)=qn s3 s7 s0 s8:=x9 un (fun i s8=>(s0,((af s0:Nat):Int),i,s3,s4,s5,s6,s7,s8)) (fun es i s8=>qn s3 s7 es s8) hl (fun r i s8 h=>by unfold un qn; simp only[h,cond_false]) (fun r i s8 e es h g w k=>by unfold un qn; simp only[h,cond_true,g,aa,w,k]) s8
def qg (s3:(List (Int×jI))):List zc->jQ->Option jQ
 | [],s7=>some s7
 | e::es,s7 =>
  (xW e.2 s3).bind fun r6 =>
  cond (yK (af s7+af ([(e.1,r6)]:List zc)) 32)
  (qg s3 es (s7++([(e.1,r6)]:List zc)))
  (none)
theorem Qj (s0:jQ) (s3:(List (Int×jI))) (s4:jQ) (s5:jR) (s6:jQ) (s7:jQ) (hl:af s0<=maxLen):lp v7 ze (s0,((af s0:Nat):Int),0,s3,s4,s5,s6,s7)=qg s3 s0 s7:=x9 v7 (fun i s7=>(s0,((af s0:Nat):Int),i,s3,s4,s5,s6,s7)) (fun es i s7=>qg s3 es s7) hl (fun r i s7 h=>by unfold v7 qg; simp only[h,cond_false]) (fun r i s7 e es h g w k=>by unfold v7 qg; simp only[h,cond_true,g,aa,w,k]) s7
def qh:List Int->jI->Option jI
 | [],s3=>some s3
 | e::es,s3 =>
  cond (decide (e<0))
  ((zQ e).bind fun r8 =>
   (inR r8 24).bind fun k9 =>
   (s3[k9]?).bind fun x10 =>
   (inR r8 24).bind fun k11 =>
   (s3[k11]?).bind fun _x12 =>
   qh es (bw s3 k11 (ag .i64 (x10+1))))
  (qh es s3)
theorem QA (s0:jI) (s3:jI) (hl:af s0<=maxLen):lp ub ze (s0,((af s0:Nat):Int),0,s3)=qh s0 s3:=x9 ub (fun i s3=>(s0,((af s0:Nat):Int),i,s3)) (fun es i s3=>qh es s3) hl (fun r i s3 h=>by unfold ub qh; simp only[h,cond_false]) (fun r i s3 e es h g w k=>by unfold ub qh; simp only[h,cond_true,g,aa,w,k]) s3
def qw (s0:jS):List Int->Int->Option Int
 | [],s1=>some s1
 | e::es,s1 =>
  cond (decide (e<0))
  (qw s0 es (ag .i64 (s1+1)))
  ((gx s0 e).bind fun e4 =>
   qw s0 es (ag .i64 (s1+e4.2.2.2)))
theorem jt (s0:jS) (s2:jI) (s1:Int) (hl:af s2<=maxLen):lp sE ze (s0,s1,s2,((af s2:Nat):Int),0)=qw s0 s2 s1:=x9 sE (fun i s1=>(s0,s1,s2,((af s2:Nat):Int),i)) (fun es i s1=>qw s0 es s1) hl (fun r i s1 h=>by unfold sE qw; simp only[h,cond_false]) (fun r i s1 e es h g w k=>by unfold sE qw; simp only[h,cond_true,g,aa,w,k]) s1
def yO (s0:jR):List jI->Nat->Option (Unit⊕(jI×jI))
 | [],_i=>some (aU ())
 | e::es,i =>
  cond (decide ((i:Int)<((af s0:Nat):Int)))
  ((gx s0 (i:Int)).bind fun e8 =>
   (yR e e8).bind fun r9 =>
   cond (!r9)
   ((gx s0 (i:Int)).bind fun e10 =>
    some (aH (e,e10)))
   (yO s0 es (i+1)))
  (yO s0 es (i+1))
theorem YS (s0:jR) (s1:jR) (hl:af s1<=maxLen):lp vC ze (s0,s1,((af s1:Nat):Int),0)=yO s0 s1 0:=sr vC (fun i=>(s0,s1,((af s1:Nat):Int),i)) (fun es i=>yO s0 es i) hl (fun r i h=>by unfold vC yO; simp only[h,cond_false]) (fun r i e es h g w k=>by unfold vC yO; simp only[h,cond_true,g,aa,w,k])
theorem yc {xs:List Int} (h:xs.length<=1099511627776):zD xs=some xs:=by
 unfold zD Y1;simp only[cw,cond_false,bj,bm,aP,bl];rw[zp (show xs.length*8<=140737488351232 by omega)]
 rfl
theorem Er (ys:List Int):(es:List Int)->(i:Nat)->es.length=(ys.drop i).length->qA ys es i=some (cond (decide (es=ys.drop i)) (.inl ()) (.inr false))
 | [],i,h=>by
  have:ys.drop i=[]:=List.eq_nil_of_length_eq_zero h.symm;rw[this]; rfl
 | e::es,i,h=>by
  cases hd:ys.drop i with
  | nil=>rw[hd] at h; simp at h
  | cons y r =>
   have hn:=zj hd;have:=Er ys es (i+1) (by rw[hn]; rw[hd] at h; simpa using h)
   unfold qA;simp only[y8,zr hd,aa,this,hn];by_cases he:e=y
   ·subst he;simp
   ·have h1:(e != y)=true:=by simpa using he
    simp [h1,he]
theorem uC {xs ys:List Int} (h:xs.length<=maxLen):yR xs ys=some (decide (xs=ys)):=by
 unfold yR;by_cases hl:xs.length=ys.length
 ·rw[show (((af xs:Nat):Int) != ((af ys:Nat):Int))=false from by simp [hl],cond_false,YP _ _ h,Er ys xs 0 hl,bQ]
  cases decide (xs=ys)<;>rfl
 ·rw[show (((af xs:Nat):Int) != ((af ys:Nat):Int))=true from by simp; omega,cond_true,decide_eq_false (by intro h; subst h; exact hl rfl)]
theorem KK {a b:Bool} {xs ys:List Int} (h:xs.length<=maxLen):QY a xs b ys=some (decide ((a,xs)=(b,ys))):=by
 unfold QY;cases hab:(a==b) with
 | false =>
  have:a≠b:=by simpa using hab
  simp [this]
 | true =>
  have:a=b:=by simpa using hab
  subst this;rw[cond_true,uC h];simp
theorem Ea (l:zc) (hl:l.2.length<=maxLen):(es:List zc)->(i:Nat)->∃ r,yk l.1 l.2 es i=some r∧(l∈es->∃ j:Nat,r = .inr (j:Int))∧(l∉es->r = .inl ())
 | [],i=>⟨.inl (),rfl,(fun h=>by cases h),fun _=>rfl⟩
 | e::es,i=>by
  unfold yk sX;rw[KK hl];simp only[aa];by_cases he:(l.1,l.2)=(e.1,e.2)
  ·rw[decide_eq_true he,cond_true];have he':l=e:=he;exact ⟨_,rfl,fun _=>⟨i,rfl⟩,fun h=>absurd (aG.2 (.inl he')) h⟩
  ·rw[decide_eq_false he,cond_false];obtain⟨r,h1,h2,h3⟩:=Ea l hl es (i+1);have he':l≠e:=he;refine ⟨r,h1,fun h=>h2 ?_,fun h=>h3 fun h'=>h (ai _ h')⟩;rcases aG.1 h with h | h
   ·exact absurd h he'
   ·exact h
theorem YQ {l:zc} {es:List zc} (hl:l.2.length<=maxLen) (h:es.length<=maxLen):wg es l.1 l.2=some (decide (l∈es)):=by
 unfold wg rQ;rw[jo _ _ _ h];obtain⟨r,h1,h2,h3⟩:=Ea l hl es 0;rw[h1];by_cases hm:l∈es
 ·obtain⟨j,rfl⟩:=h2 hm;simp [yb,hm]
 ·rw[h3 hm];simp [yb,hm]
def zT {α:Type} [DecidableEq α]:List α->List α->List α
 | [],out=>out
 | e::es,out=>cond (decide (e∈out)) (zT es out) (zT es (out++[e]))
theorem wP {α:Type} [DecidableEq α]:(es out:List α)->(zT es out).length<=out.length+es.length
 | [],out=>by simp [zT]
 | e::es,out=>by
  unfold zT;cases decide (e∈out) with
  | true=>have:=wP es out; simp only[cond_true,ak]; omega
  | false=>have:=wP es (out++[e]); simp only[cond_false,ak,am,bm] at this ⊢; omega
theorem xk {α:Type} [DecidableEq α] {x:α}:(es out:List α)->(x∈zT es out↔x∈out∨x∈es)
 | [],out=>by simp [zT]
 | e::es,out=>by
  unfold zT;by_cases h:e∈out
  ·rw[decide_eq_true h,cond_true,xk es out,aG];constructor
   ·rintro (h1 | h1)
    ·exact .inl h1
    ·exact .inr (.inr h1)
   ·rintro (h1 | rfl | h1)
    ·exact .inl h1
    ·exact .inl h
    ·exact .inr h1
  ·rw[decide_eq_false h,cond_false,xk es (out++[e])];simp only[List.mem_append,aG,List.not_mem_nil,or_false];constructor
   ·rintro ((h1 | h1) | h1)
    ·exact .inl h1
    ·exact .inr (.inl h1)
    ·exact .inr (.inr h1)
   ·rintro (h1 | h1 | h1)
    ·exact .inl (.inl h1)
    ·exact .inl (.inr h1)
    ·exact .inr h1
theorem Cb:(es out:List zc)->(∀ e∈es,e.2.length<=maxLen)->out.length+es.length<=1000000->qj es out=some (zT es out)
 | [],out,_,_=>rfl
 | e::es,out,h,hl=>by
  have h1:=h e (aj ..);have hl':out.length+(es.length+1)<=1000000:=hl;unfold qj zT;rw[YQ h1 (by unfold maxLen; omega),aa]
  by_cases hm:e∈out
  ·simp only[hm,decide_true,az,cond_false,cond_true];exact Cb es out (fun x hx=>h x (ai _ hx)) (by omega)
  ·simp only[hm,decide_false,bE,cond_false,cond_true];rw[zp (show (out.length+([(e.1,e.2)]:List zc).length)*32<=140737488351232 by simp; omega),cond_true]
   exact Cb es (out++[e]) (fun x hx=>h x (ai _ hx)) (by simp; omega)
theorem Xj {es:List zc} (h:∀ e∈es,e.2.length<=maxLen) (hl:es.length<=1000000):kX es=some (zT es []):=by
 unfold kX;rw[Y8 _ _ (by unfold maxLen; omega),Cb es [] h (by simpa using hl)]
 rfl
theorem EG (l:List Int) (hl:l.length<=maxLen):(es:List jI)->(i:Nat)->∃ r,zV l es i=some r∧(l∈es->∃ j:Nat,r = .inr (j:Int))∧(l∉es->r = .inl ())
 | [],i=>⟨.inl (),rfl,(fun h=>by cases h),fun _=>rfl⟩
 | e::es,i=>by
  unfold zV sS;rw[uC hl];simp only[aa];by_cases he:l=e
  ·rw[decide_eq_true he,cond_true];exact ⟨_,rfl,fun _=>⟨i,rfl⟩,fun h=>absurd (aG.2 (.inl he)) h⟩
  ·rw[decide_eq_false he,cond_false];obtain⟨r,h1,h2,h3⟩:=EG l hl es (i+1);refine ⟨r,h1,fun h=>h2 ?_,fun h=>h3 fun h'=>h (ai _ h')⟩;rcases aG.1 h with h | h
   ·exact absurd h he
   ·exact h
theorem Zv {l:List Int} {es:List jI} (hl:l.length<=maxLen) (h:es.length<=maxLen):xq es l=some (decide (l∈es)):=by
 unfold xq tU;rw[kj _ _ h];obtain⟨r,h1,h2,h3⟩:=EG l hl es 0;rw[h1];by_cases hm:l∈es
 ·obtain⟨j,rfl⟩:=h2 hm;simp [yb,hm]
 ·rw[h3 hm];simp [yb,hm]
theorem As (s3 s4:List zc):(es out:List jI)->(∀ e∈es,e.length<=maxLen)->out.length+es.length<=1000000->qt s3 s4 es out=some (s3,s4,zT es out)
 | [],out,_,_=>rfl
 | e::es,out,h,hl=>by
  have h1:=h e (aj ..);have hl':out.length+(es.length+1)<=1000000:=hl;unfold qt zT;rw[Zv h1 (by unfold maxLen; omega),aa]
  by_cases hm:e∈out
  ·simp only[hm,decide_true,az,cond_false,cond_true];exact As s3 s4 es out (fun x hx=>h x (ai _ hx)) (by omega)
  ·simp only[hm,decide_false,bE,cond_false,cond_true];rw[zp (show (out.length+([e]:List jI).length)*24<=140737488351232 by simp; omega),cond_true]
   exact As s3 s4 es (out++[e]) (fun x hx=>h x (ai _ hx)) (by simp; omega)
def Kp (s:List Int×Int) (c:Int):Int×(List Int×Int) :=
 cond (decide (c≥0)) (c,s) (cond (s.1.getD (-1 - c).toNat 0==0) (-(s.2+1),(s.1.set (-1 - c).toNat (s.2+1),s.2+1)) (-(s.1.getD (-1 - c).toNat 0),s))
def rO:List Int×Int->List Int->List Int×(List Int×Int)
 | s,[]=>([],s)
 | s,c::cs=>((Kp s c).1::(rO (Kp s c).2 cs).1,(rO (Kp s c).2 cs).2)
theorem Ih:(s:List Int×Int)->(cs:List Int)->(rO s cs).1.length=cs.length
 | _,[]=>rfl
 | s,c::cs=>by simp [rO,Ih (Kp s c).2 cs]
structure RenOk (s:List Int×Int) (b:Int):Prop where
 len:s.1.length=24
 lo:0<=s.2
 hi:s.2<=b
 all:∀ x∈s.1,0<=x∧x<=s.2
theorem RenOk.more {s:List Int×Int} {b b':Int} (h:RenOk s b) (hb:b<=b'):RenOk s b':=⟨h.len,h.lo,Int.le_trans h.hi hb,h.all⟩
theorem RenOk.get {s:List Int×Int} {b:Int} (h:RenOk s b) (v:Nat):0<=s.1.getD v 0∧s.1.getD v 0<=s.2:=by
 have h0:=h.lo;rw[aE];cases hv:s.1[v]? with
 | none=>exact ⟨fe _,h0⟩
 | some x=>exact h.all x (aJ hv)
theorem Oe {s:List Int×Int} {b:Int} (h:RenOk s b) (c:Int):RenOk (Kp s c).2 (b+1):=by
 unfold Kp;cases decide (c≥0) with
 | true=>exact h.more (by omega)
 | false =>
  rw[cond_false];cases (s.1.getD (-1 - c).toNat 0==0) with
  | false=>exact h.more (by omega)
  | true =>
   refine ⟨by simpa using h.len,by have:=h.lo; simp; omega,by have:=h.hi; simp; omega,fun x hx => ?_⟩
   simp only[cond_true] at hx ⊢;rcases List.mem_or_eq_of_mem_set hx with hx | rfl
   ·have:=h.all x hx; omega
   ·have:=h.lo; omega
theorem XU:{s:List Int×Int}->{b:Int}->(cs:List Int)->RenOk s b->RenOk (rO s cs).2 (b+cs.length)
 | s,b,[],h=>by simpa[rO] using h
 | s,b,c::cs,h=>by
  have:=XU cs (Oe h c);simp only[rO,ak];exact this.more (by omega)
theorem Cl {α:Type} (done es:List α) (e x:α):(done++e::es).set done.length x=done++x::es:=by
 rw[List.set_append_right _ _ (aC _),ep];rfl
theorem QQ {α:Type} (done es:List α) (e:α):(done++e::es)[done.length]? = some e:=by
 rw[List.getElem?_append_right (aC _),ep];rfl
theorem DE:(es done:List Int)->(s:List Int×Int)->(k:Nat)->es.length<k->done.length+es.length<=1000000->RenOk s 1000000->s.2+es.length<=1000000->(∀ c∈es,-24<=c) ->
  lp y9 k (((done.length+es.length:Nat):Int),(done.length:Int),s.1,s.2,done++es)=some ((rO s es).2.1,(rO s es).2.2,done++(rO s es).1)
 | [],done,s,k,hk,hl,hs,hb,hc=>by
  obtain⟨k,rfl⟩:∃ k',k=k'+1:=⟨k - 1,by omega⟩
  rw[zv];generalize lp y9 k=rec;unfold y9;simp [rO]
 | e::es,done,s,k,hk,hl,hs,hb,hc=>by
  obtain⟨k,rfl⟩:∃ k',k=k'+1:=⟨k - 1,by omega⟩
  rw[zv];have he:=hc e (aj ..);have hl':done.length+(es.length+1)<=1000000:=hl;have hb':s.2+((es.length+1:Nat):Int)<=1000000:=hb;have key:=fun (e':Int) (s':List Int×Int) (hs':RenOk s' 1000000) (hb2:s'.2+es.length<=1000000)=>DE es (done++[e']) s' k (cr hk) (by simp; omega) hs' hb2 (fun c hx=>hc c (ai _ hx))
  generalize lp y9 k=rec at key ⊢;unfold y9;have e1:decide (((done.length:Nat):Int)<((done.length+(e::es).length:Nat):Int))=true:=by rw[decide_eq_true_eq,ak]; omega
  have e2:inR ((done.length:Nat):Int) (af (done++e::es))=some done.length:=ym (by simp)
  have e3:ag .i64 (((done.length:Nat):Int)+1)=((done.length+1:Nat):Int):=by rw[zo]<;>omega
  have key2:=fun (e':Int) (s':List Int×Int) (hs':RenOk s' 1000000) (hb2:s'.2+es.length<=1000000)=>by
   have:=key e' s' hs' hb2;rw[List.append_assoc,am,aX,bK,dj 1 es.length] at this;exact this
  simp only[e1,cond_true,e2,aa,QQ,e3];by_cases h0:e≥0
  ·have hr:Kp s e=(e,s):=by unfold Kp; rw[decide_eq_true h0]; rfl
   rw[decide_eq_true h0,cond_true];have:=key2 e s hs (by omega)
   simp only[rO,hr];exact this.trans (by simp)
  ·rw[decide_eq_false h0,cond_false];have h24:(-1 - e).toNat<24:=by omega
   have e4:inR (-1 - e) 24=some (-1 - e).toNat:=by
    have:=ym h24;rwa [Int.toNat_of_nonneg (by omega)] at this
   have hget:∀ xs:List Int,xs.length=24->xs[(-1 - e).toNat]? = some (xs.getD (-1 - e).toNat 0):=fun xs hx=>by
    rw[aE,al (by omega)]; rfl
   have hg:=hs.get (-1 - e).toNat;have hs1:=hs.hi;have hs0:=hs.lo;simp only[qx (x:=e) (by omega) (by omega),aa,e4,hget s.1 hs.len]
   by_cases hz:s.1.getD (-1 - e).toNat 0=0
   ·have hr:Kp s e=(-(s.2+1),(s.1.set (-1 - e).toNat (s.2+1),s.2+1)):=by unfold Kp; rw[decide_eq_false h0,hz]; rfl
    have w1:ag .i64 (s.2+1)=s.2+1:=by rw[zo]<;>omega
    have hset:(bw s.1 (-1 - e).toNat (s.2+1)).getD (-1 - e).toNat 0=s.2+1:=by
     rw[aE,List.getElem?_set_self (by rw[hs.len]; exact h24)]; rfl
    have hn:UV .i64 (s.2+1) = -(s.2+1):=by unfold UV; rw[zo]<;>omega
    rw[hz];simp only[show (((0:Int)==0))=true from rfl,cond_true,w1,hget (bw s.1 (-1 - e).toNat (s.2+1)) (by simpa using hs.len),aa,hset,hn,Cl]
    have hok:=Oe (b:=s.2) ⟨hs.len,hs.lo,fe _,hs.all⟩ e;rw[hr] at hok;have:=key2 (-(s.2+1)) (s.1.set (-1 - e).toNat (s.2+1),s.2+1) (hok.more (by omega)) (by simp only; omega)
    simp only[rO,hr];exact this.trans (by simp)
   ·have hr:Kp s e=(-(s.1.getD (-1 - e).toNat 0),s):=by
     unfold Kp;rw[decide_eq_false h0,show (s.1.getD (-1 - e).toNat 0==0)=false from by simpa using hz]; rfl
    have hn:UV .i64 (s.1.getD (-1 - e).toNat 0) = -(s.1.getD (-1 - e).toNat 0):=by unfold UV; rw[zo]<;>omega
    rw[show (s.1.getD (-1 - e).toNat 0==0)=false from by simpa using hz,cond_false]
    simp only[hn,Cl];have:=key2 (-(s.1.getD (-1 - e).toNat 0)) s hs (by omega)
    simp only[rO,hr];exact this.trans (by simp)
theorem tn {r:List Int} {s:List Int×Int} (hl:r.length<=1000) (hs:RenOk s 900000) (hc:∀ c∈r,-24<=c):yZ r s.1 s.2=some ((rO s r).1,(rO s r).2.1,(rO s r).2.2):=by
 unfold yZ;rw[yc (by omega),aa]
 have h1:=hs.hi;have:=DE r [] s ze (by unfold ze; omega) (by simp; omega) (hs.more (by omega)) (by omega) hc
 simp only[bm,aP,bl] at this;rw[show ((0:Nat):Int)=0 from rfl] at this
 rw[this,aa];have hlen:=(XU r hs).len;simp only[hs.len,hlen];rfl
def vh:List Int×Int->List zc->List zc×(List Int×Int)
 | s,[]=>([],s)
 | s,l::ls=>((l.1,(rO s l.2).1)::(vh (rO s l.2).2 ls).1,(vh (rO s l.2).2 ls).2)
def tT:List Int×Int->List jI->List jI×(List Int×Int)
 | s,[]=>([],s)
 | s,l::ls=>((rO s l).1::(tT (rO s l).2 ls).1,(tT (rO s l).2 ls).2)
def rF (r:List Int):Prop:=r.length<=1000∧∀ c∈r,-24<=c
theorem Iw:{s:List Int×Int}->{b:Int}->(ls:List zc)->(∀ l∈ls,rF l.2)->RenOk s b->RenOk (vh s ls).2 (b+1000*ls.length)
 | s,b,[],_,h=>by simpa[vh] using h
 | s,b,l::ls,hl,h=>by
  have h1:=hl l (aj ..);have:=Iw ls (fun x hx=>hl x (ai _ hx)) (XU l.2 h);have h2:=h1.1;simp only[vh,ak];exact this.more (by omega)
theorem CV:{s:List Int×Int}->{b:Int}->(ls:List jI)->(∀ l∈ls,rF l)->RenOk s b->RenOk (tT s ls).2 (b+1000*ls.length)
 | s,b,[],_,h=>by simpa[tT] using h
 | s,b,l::ls,hl,h=>by
  have h1:=hl l (aj ..);have:=CV ls (fun x hx=>hl x (ai _ hx)) (XU l h);have h2:=h1.1;simp only[tT,ak];exact this.more (by omega)
theorem GN:(es:List zc)->(s:List Int×Int)->(out:List zc)->(b:Int)->RenOk s b->b+1000*es.length<=900000->(∀ l∈es,rF l.2)->out.length+es.length<=1000000 ->
  yu es s.1 s.2 out=some ((vh s es).2.1,(vh s es).2.2,out++(vh s es).1)
 | [],s,out,b,_,_,_,_=>by simp [yu,vh]
 | e::es,s,out,b,hs,hb,h,hl=>by
  have he:=h e (aj ..);have h1:=he.1;rw[ak] at hb hl;unfold yu;rw[tn he.1 (hs.more (by omega)) he.2,aa]
  rw[zp (show (out.length+([(e.1,(rO s e.2).1)]:List zc).length)*32<=140737488351232 by simp; omega),cond_true]
  have:=GN es (rO s e.2).2 (out++[(e.1,(rO s e.2).1)]) _ (XU e.2 hs) (by omega) (fun x hx=>h x (ai _ hx)) (by simp; omega)
  exact this.trans (by simp [vh])
theorem Gk (s8:List zc):(es:List jI)->(s:List Int×Int)->(out:List jI)->(b:Int)->RenOk s b->b+1000*es.length<=900000->(∀ l∈es,rF l)->out.length+es.length<=1000000 ->
  yx s8 es s.1 s.2 out=some ((tT s es).2.1,(tT s es).2.2,s8,out++(tT s es).1)
 | [],s,out,b,_,_,_,_=>by simp [yx,tT]
 | e::es,s,out,b,hs,hb,h,hl=>by
  have he:=h e (aj ..);have h1:=he.1;rw[ak] at hb hl;unfold yx;rw[tn he.1 (hs.more (by omega)) he.2,aa]
  rw[zp (show (out.length+([(rO s e).1]:List jI).length)*24<=140737488351232 by simp; omega),cond_true]
  have:=Gk s8 es (rO s e).2 (out++[(rO s e).1]) _ (XU e hs) (by omega) (fun x hx=>h x (ai _ hx)) (by simp; omega)
  exact this.trans (by simp [tT])
theorem GV (s5:List zc) (s6:List jI):(es:List zc)->(s:List Int×Int)->(out:List zc)->(b:Int)->RenOk s b->b+1000*es.length<=900000->(∀ l∈es,rF l.2)->out.length+es.length<=1000000 ->
  yA s5 s6 es s.1 s.2 out=some ((vh s es).2.1,(vh s es).2.2,s5,s6,out++(vh s es).1)
 | [],s,out,b,_,_,_,_=>by simp [yA,vh]
 | e::es,s,out,b,hs,hb,h,hl=>by
  have he:=h e (aj ..);have h1:=he.1;rw[ak] at hb hl;unfold yA;rw[tn he.1 (hs.more (by omega)) he.2,aa]
  rw[zp (show (out.length+([(e.1,(rO s e.2).1)]:List zc).length)*32<=140737488351232 by simp; omega),cond_true]
  have:=GV s5 s6 es (rO s e.2).2 (out++[(e.1,(rO s e.2).1)]) _ (XU e.2 hs) (by omega) (fun x hx=>h x (ai _ hx)) (by simp; omega)
  exact this.trans (by simp [vh])
def zcs (L:List zc) (T:List jI) (C:List zc):List zc×List jI×List zc :=
 ((vh (ax 24 0,0) L).1,(tT (vh (ax 24 0,0) L).2 T).1,(vh (tT (vh (ax 24 0,0) L).2 T).2 C).1)
theorem OA:RenOk (ax 24 (0:Int),0) 0:=⟨rfl,fe _,fe _,fun x hx=>by have:=List.eq_of_mem_replicate hx; omega⟩
def x5 (L:List zc) (T:List jI) (C:List zc):List zc×List jI×List zc:=zcs (zT L []) (zT T []) (zT C [])
theorem JN {L:List zc} {T:List jI} {C:List zc} (hL:L.length<=100) (hT:T.length<=100) (hC:C.length<=100) (sL:∀ l∈L,rF l.2) (sT:∀ l∈T,rF l) (sC:∀ l∈C,rF l.2) :
  YA L T C=some (x5 L T C):=by
 have big:∀ r:List Int,rF r->r.length<=maxLen:=fun r h=>by have:=h.1; unfold maxLen; omega
 have lL:=wP L [];have lT:=wP T [];have lC:=wP C [];simp only[bm,aP] at lL lT lC;have sL':∀ l∈zT L [],rF l.2:=fun l h=>sL l (by simpa using (xk L []).1 h)
 have sT':∀ l∈zT T [],rF l:=fun l h=>sT l (by simpa using (xk T []).1 h)
 have sC':∀ l∈zT C [],rF l.2:=fun l h=>sC l (by simpa using (xk C []).1 h)
 unfold YA;rw[Xj (fun e he=>big _ (sL e he)) (by omega),aa,Xj (fun e he=>big _ (sC e he)) (by omega),aa,
  Qm _ _ _ _ (by unfold maxLen; omega),As _ _ T [] (fun e he=>big _ (sT e he)) (by simp; omega),aa]
 simp only;generalize hL2:zT L []=L2 at lL sL';generalize hT2:zT T []=T2 at lT sT';generalize hC2:zT C []=C2 at lC sC';have k0:=Iw L2 sL' OA;have k1:=CV T2 sT' k0;have k2:=Iw C2 sC' k1;have e0:=GN L2 (ax 24 0,0) [] 0 OA (by omega) sL' (by simp; omega)
 have e1:=Gk (vh (ax 24 0,0) L2).1 T2 _ [] _ k0 (by omega) sT' (by simp; omega)
 have e2:=GV (vh (ax 24 0,0) L2).1 (tT (vh (ax 24 0,0) L2).2 T2).1 C2 _ [] _ k1 (by omega) sC' (by simp; omega)
 simp only[bl] at e0 e1 e2;unfold Z9;rw[Yi L2 L2 T2 C2 (ax 24 0) 0 [] (by unfold maxLen; omega),e0,aa]
 simp only;rw[ZN _ _ _ _ _ _ _ _ (by unfold maxLen; omega),e1,aa]
 simp only;rw[Yv _ _ _ _ _ _ (by unfold maxLen; omega),e2,aa]
 have hlen:=k2.len;simp only[List.length_replicate,hlen];unfold x5 zcs;rw[hL2,hT2,hC2];rfl
theorem Ev {a0:List zg}:{xs:List Int}->{n k:Nat}->sk a0 n xs=some k->∀ c∈xs.take k,-24<=c
 | [],n,k,h,c,hc=>by simp at hc
 | x::xs,0,k,h,c,hc=>by
  simp [sk] at h; subst h; simp at hc
 | x::xs,n+1,k,h,c,hc=>by
  unfold sk at h;cases ha:uV a0 x with
  | none=>rw[ha] at h; cases h
  | some m =>
   rw[ha] at h;simp only[bA] at h;obtain⟨j,hj,rfl⟩:=h;rw[eP] at hc;rcases aG.1 hc with rfl | hc
   ·by_cases h0:c<0
    ·exact (Bw ha h0).1
    ·omega
   ·exact Ev hj c hc
theorem Vh {a0:List zg} {xs:List Int} {ps:List jI} (h:V1 a0 xs=some ps):∀ c∈xs,-24<=c:=by
 obtain⟨h1,h2⟩:=QK xs.length xs ps (aC _) h;intro c hc;rw[← h1] at hc;obtain⟨p,hp,hcp⟩:=fu.1 hc;have:=Ev (h2 p hp).2 c;rw[dW] at this;exact this hcp
theorem Cc {a0:List zg} {xs:List Int} (h:vq a0 xs=true):rF xs:=by
 obtain⟨x,r,e,ps,rfl,h0,-,-,-,-,hl,hc,-⟩:=QW h;refine ⟨by simp; omega,fun c hcm => ?_⟩
 rcases aG.1 hcm with rfl | hcm
 ·omega
 ·exact Vh hc c hcm
theorem FG {a0:List zg} {r:List Int} {n:Nat} (h:YO a0 r=some n):rF r:=by
 obtain⟨ps,hc,-,hl,-⟩:=X9 h;exact ⟨by omega,Vh hc⟩
theorem wh {a0:List zg} {ls:List zc} (h:su a0 ls=true):∀ l∈ls,rF l.2:=fun l hl =>
 Cc (aD.1 h l hl)
theorem Yp {a0:List zg} {rs:List jI} (h:ZE a0 rs=true):∀ r∈rs,rF r:=fun r hr=>by
 obtain⟨n,hn⟩:=Qi h;exact FG (hn r hr)
theorem xK (a0:List zg) (L:List zc) (T:List jI) (C:List zc):xd a0 L T C=some (cond (qy a0 L T C) ((x5 L T C).1,(x5 L T C).2.1,0,(x5 L T C).2.2) ([],[],800,[])):=by
 unfold xd;rw[zG,aa];cases h:qy a0 L T C with
 | false=>rfl
 | true =>
  obtain⟨-,h1,h2,h3,h4,h5,h6,-⟩:=zz h;rw[az,cond_false,JN (by omega) (by omega) (by omega) (wh h4) (Yp h5) (wh h6),aa]
  rfl
theorem KJ:(s:List Int×Int)->(ls:List zc)->(vh s ls).1.length=ls.length
 | _,[]=>rfl
 | s,l::ls=>by simp [vh,KJ (rO s l.2).2 ls]
theorem IX:(s:List Int×Int)->(ls:List jI)->(tT s ls).1.length=ls.length
 | _,[]=>rfl
 | s,l::ls=>by simp [tT,IX (rO s l).2 ls]
theorem WY:(s:List Int×Int)->(ls:List zc)->(b:Nat)->(∀ l∈ls,l.2.length<=b)->∀ l∈(vh s ls).1,l.2.length<=b
 | _,[],_,_,l,hl=>by cases hl
 | s,e::es,b,h,l,hl=>by
  simp only[vh] at hl;rcases aG.1 hl with rfl | hl
  ·rw[Ih]; exact h e (aj ..)
  ·exact WY _ es b (fun x hx=>h x (ai _ hx)) l hl
theorem Ge:(s:List Int×Int)->(ls:List jI)->(b:Nat)->(∀ l∈ls,l.length<=b)->∀ l∈(tT s ls).1,l.length<=b
 | _,[],_,_,l,hl=>by cases hl
 | s,e::es,b,h,l,hl=>by
  simp only[tT] at hl;rcases aG.1 hl with rfl | hl
  ·rw[Ih]; exact h e (aj ..)
  ·exact Ge _ es b (fun x hx=>h x (ai _ hx)) l hl
theorem Hy {a0:List zg} {L:List zc} {T:List jI} {C:List zc} (h:qy a0 L T C=true) :
  vw (x5 L T C).1 (x5 L T C).2.1 (x5 L T C).2.2 (x5 L T C).1 (x5 L T C).2.1 (x5 L T C).2.2=some true:=by
 obtain⟨-,h1,h2,h3,h4,h5,h6,-⟩:=zz h;have lL:=wP L [];have lT:=wP T [];have lC:=wP C [];simp only[bm,aP] at lL lT lC;have sL:∀ l∈zT L [],l.2.length<=1000:=fun l h=>(wh h4 l (by simpa using (xk L []).1 h)).1
 have sT:∀ l∈zT T [],l.length<=1000:=fun l h=>(Yp h5 l (by simpa using (xk T []).1 h)).1
 have sC:∀ l∈zT C [],l.2.length<=1000:=fun l h=>(wh h6 l (by simpa using (xk C []).1 h)).1
 unfold x5 zcs;apply rS
 ·simp only[KJ]; unfold maxLen; omega
 ·intro e he;have:=WY _ _ 1000 sL e he;unfold maxLen; omega
 ·simp only[IX]; unfold maxLen; omega
 ·intro e he;have:=Ge _ _ 1000 sT e he;unfold maxLen; omega
 ·simp only[KJ]; unfold maxLen; omega
 ·intro e he;have:=WY _ _ 1000 sC e he;unfold maxLen; omega
def zh {α:Type} (s:Int):List α->Nat->List α
 | [],_=>[]
 | e::es,i=>cond ((i:Int) != s) (e::zh s es (i+1)) (zh s es (i+1))
theorem sG {α:Type} (s:Int):(es:List α)->(i:Nat)->(zh s es i).length<=es.length
 | [],_=>aC _
 | e::es,i=>by
  unfold zh;have:=sG s es (i+1);cases ((i:Int) != s)<;>simp<;>omega
theorem BO (s0:Int) (s8:List jI) (s10:List zc):(es:List zc)->(i:Nat)->(out:List zc)->out.length+es.length<=1000000->yn s0 s8 s10 es i out=some (s8,out++zh s0 es i,s10)
 | [],i,out,_=>by simp [yn,zh]
 | e::es,i,out,h=>by
  rw[ak] at h;unfold yn zh;cases ((i:Int) != s0) with
  | true =>
   rw[cond_true,cond_true,zp (show (out.length+([(e.1,e.2)]:List zc).length)*32<=140737488351232 by simp; omega),cond_true,BO s0 s8 s10 es (i+1) _ (by simp; omega)]
   simp
  | false=>rw[cond_false,cond_false,BO s0 s8 s10 es (i+1) out (by omega)]
theorem Ae (s0:Int) (s8:List jI) (s10:List zc):(es:List zc)->(i:Nat)->(out:List zc)->out.length+es.length<=1000000->yo s0 s8 s10 es i out=some (s8,out++zh s0 es i,s10)
 | [],i,out,_=>by simp [yo,zh]
 | e::es,i,out,h=>by
  rw[ak] at h;unfold yo zh;cases ((i:Int) != s0) with
  | true =>
   rw[cond_true,cond_true,zp (show (out.length+([(e.1,e.2)]:List zc).length)*32<=140737488351232 by simp; omega),cond_true,Ae s0 s8 s10 es (i+1) _ (by simp; omega)]
   simp
  | false=>rw[cond_false,cond_false,Ae s0 s8 s10 es (i+1) out (by omega)]
theorem JZ {n:Nat} (h:n<=1000000):Yr (n:Int)=some []:=by
 unfold Yr;have e:ag .i64 ((n:Int) - 0)=(n:Int):=by rw[zo]<;>omega
 rw[e,decide_eq_false (show ¬((n:Int)<0) by omega),cond_false]
 by_cases h0:n=0
 ·subst h0; rfl
 ·rw[decide_eq_true (show (n:Int)>0 by omega),cond_true,show (eqI 0 0&&eqI 0 0)=true from rfl,cond_true,show Ei (n:Int)=true from decide_eq_true (by omega),cond_true,bo,zp (by omega),cond_true]
  have:uh (ax n ([]:List Int)) none (some 0)=some []:=by
   show slc (ax n ([]:List Int)) 0 0=some [];unfold slc;rw[decide_eq_true (show (0:Int)<=0 by omega),decide_eq_true (show (0:Int)<=(((ax n ([]:List Int)).length:Nat):Int) by omega)]
   rfl
  rw[this]; rfl
theorem V0 {n:Nat} (h:n<=1000000):kf (n:Int)=some []:=by
 unfold kf;have e:ag .i64 ((n:Int) - 0)=(n:Int):=by rw[zo]<;>omega
 rw[e,decide_eq_false (show ¬((n:Int)<0) by omega),cond_false]
 by_cases h0:n=0
 ·subst h0; rfl
 ·rw[decide_eq_true (show (n:Int)>0 by omega),cond_true,show (eqI 0 0&&eqI 0 0)=true from rfl,cond_true,show Ei (n:Int)=true from decide_eq_true (by omega),cond_true,bo,zp (by omega),cond_true]
  have:∀ z:zc,uh (ax n z) none (some 0)=some []:=fun z=>by
   show slc (ax n z) 0 0=some [];unfold slc;rw[decide_eq_true (show (0:Int)<=0 by omega),decide_eq_true (show (0:Int)<=(((ax n z).length:Nat):Int) by omega)]
   rfl
  rw[this]; rfl
theorem Vs {a b:List jI} (h:a.length+b.length<=1000000):kc [a,b]=some (a++b):=by
 have w0:ag .i64 ((0:Int)+((a.length:Nat):Int))=((a.length:Nat):Int):=by rw[zo]<;>omega
 have w1:ag .i64 (((a.length:Nat):Int)+((b.length:Nat):Int))=((a.length+b.length:Nat):Int):=by rw[zo]<;>omega
 have e0:yB [a,b] 0=some ((a.length+b.length:Nat):Int):=by
  unfold yB;rw[w0,decide_eq_false (show ¬(((a.length:Nat):Int)<0) by omega),cond_false]
  unfold yB;rw[w1,decide_eq_false (show ¬(((a.length+b.length:Nat):Int)<0) by omega),cond_false]
  rfl
 have e1:yr [a,b] []=some (a++b):=by
  unfold yr;rw[zp (by simp; omega),cond_true,bl]
  unfold yr;rw[zp (by omega),cond_true]
  rfl
 unfold kc;rw[Yz _ _ _ (by unfold maxLen; simp),e0,aa,JZ h,aa,Ys _ _ (by unfold maxLen; simp),e1]
 rfl
theorem jx {a b:List zc} (h:a.length+b.length<=1000000):uK [a,b]=some (a++b):=by
 have w0:ag .i64 ((0:Int)+((a.length:Nat):Int))=((a.length:Nat):Int):=by rw[zo]<;>omega
 have w1:ag .i64 (((a.length:Nat):Int)+((b.length:Nat):Int))=((a.length+b.length:Nat):Int):=by rw[zo]<;>omega
 have e0:zZ [a,b] 0=some ((a.length+b.length:Nat):Int):=by
  unfold zZ;rw[w0,decide_eq_false (show ¬(((a.length:Nat):Int)<0) by omega),cond_false]
  unfold zZ;rw[w1,decide_eq_false (show ¬(((a.length+b.length:Nat):Int)<0) by omega),cond_false]
  rfl
 have e1:zX [a,b] []=some (a++b):=by
  unfold zX;rw[zp (by simp; omega),cond_true,bl]
  unfold zX;rw[zp (by omega),cond_true]
  rfl
 unfold uK;rw[jW _ _ _ (by unfold maxLen; simp),e0,aa,V0 h,aa,j2 _ _ (by unfold maxLen; simp),e1]
 rfl
theorem uB {L:List zc} {T:List jI} {C:List zc} {L':List zc} {T':List jI} {C':List zc} (i j:Int) (h1:L.length<=1000) (h2:T.length<=1000) (h3:C.length<=1000) (h4:L'.length<=1000) (h5:T'.length<=1000) (h6:C'.length<=1000) :
  vG L T C i L' T' C' j=some (T++T',zh i L 0++zh j L' 0,C++C'):=by
 have hw:=sG i L 0;unfold vG;rw[Vs (by omega),aa,jx (by omega),aa,
  YX _ _ _ _ _ _ _ _ _ (by unfold maxLen; omega),BO _ _ _ _ _ _ (by simp; omega),aa]
 simp only[bl];rw[YV _ _ _ _ _ (by unfold maxLen; omega),Ae _ _ _ _ _ _ (by omega),aa]
theorem ze1 {L:List zc} {i:Int} (h0:0<=i) (h:i<L.length):∃ l,gx L i=some l∧l∈L∧L[i.toNat]? = some l:=WN h0 h
def zW (L:List zc) (i:Int):Bool:=decide (0<=i)&&decide (i<L.length)
theorem uF (L:List zc) (T:List jI) (C:List zc) (i:Int):tK L T C i=some (zW L i):=by
 unfold tK zW;by_cases h:0<=i
 ·rw[decide_eq_true h]; rfl
 ·rw[decide_eq_false h]; rfl
def XB (L:List zc) (T:List jI) (C:List zc) (i:Int):List zc×List jI×List zc :=
 x5 (zh i L 0) T (C++[(!((L[i.toNat]?).getD (false,[])).1,((L[i.toNat]?).getD (false,[])).2)])
theorem qC {α:Type} {s:Int} {x:α}:(es:List α)->(i:Nat)->x∈zh s es i->x∈es
 | [],_,h=>by cases h
 | e::es,i,h=>by
  unfold zh at h;cases hb:((i:Int) != s) with
  | true =>
   rw[hb,cond_true] at h;rcases aG.1 h with rfl | h
   ·exact aj ..
   ·exact ai _ (qC es (i+1) h)
  | false=>rw[hb,cond_false] at h; exact ai _ (qC es (i+1) h)
theorem JA {s:Int}:(es:List zc)->(i:Nat)->(l:zc)->(0<=s - i)->es[(s - i).toNat]? = some l->(zh s es i).length+1=es.length∧zk ((zh s es i).map (·.2))+l.2.length=zk (es.map (·.2))
 | [],i,l,_,h=>by simp at h
 | e::es,i,l,h0,h=>by
  by_cases hs:s=(i:Int)
  ·subst hs;simp only[Int.sub_self,Int.toNat_zero,aB] at h;injection h with h; subst h;have hw:∀(xs:List zc) (j:Nat),i<j->zh (i:Int) xs j=xs:=by
    intro xs
    induction xs with
    | nil=>intro j _; rfl
    | cons x xs ih =>
     intro j hj;unfold zh;rw[show ((j:Int) != (i:Int))=true from by simp; omega,cond_true,ih (j+1) (by omega)]
   unfold zh;rw[show ((i:Int) != (i:Int))=false from by simp,cond_false,hw es (i+1) (by omega)]
   refine ⟨by simp,?_⟩
   simp [zk]; omega
  ·obtain⟨n,hn⟩:∃ n,(s - i).toNat=n+1:=⟨(s - i).toNat - 1,by omega⟩
   rw[hn,List.getElem?_cons_succ] at h;obtain⟨k1,k2⟩:=JA (s:=s) es (i+1) l (by omega) (by rw[show (s - ((i+1:Nat):Int)).toNat=n by omega]; exact h)
   unfold zh;rw[show ((i:Int) != s)=true from by simp; omega,cond_true]
   refine ⟨by simp; omega,?_⟩
   simp only[zk,aK,cD] at k2 ⊢;omega
theorem Vl {a0:List zg} {L:List zc} {T:List jI} {C:List zc} {i:Int} {l:zc} (h:qy a0 L T C=true) (h0:0<=i) (hl:L[i.toNat]? = some l) (hC:C.length<3) :
  qy a0 (zh i L 0) T (C++[(!l.1,l.2)])=true:=by
 obtain⟨h1,h2,h3,h4,h5,h6,h7,h8⟩:=zz h;obtain⟨k1,k2⟩:=JA (s:=i) L 0 l (by omega) (by simpa using hl)
 have hm:l∈L:=aJ hl;refine AK h1 (by omega) h3 (by simp; omega) ?_ h6 ?_ ?_
 ·unfold su;exact aD.2 fun x hx=>aD.1 h5 x (qC L 0 hx)
 ·unfold su at h7 ⊢;rw[List.all_append,h7];have:=aD.1 h5 l hm;simpa using this
 ·simp only[zk,List.map_append,List.sum_append,aK,List.map_nil,cD,List.sum_nil] at k2 h8 ⊢;omega
theorem YK (a0:List zg) (L:List zc) (T:List jI) (C:List zc) (i:Int):wQ a0 L T C i=some (cond (qy a0 L T C&&zW L i)
  (cond (decide (C.length=3)) ([],[],1401,[]) ((XB L T C i).1,(XB L T C i).2.1,0,(XB L T C i).2.2)) ([],[],1400,[])):=by
 unfold wQ;rw[zG,aa];cases hm:qy a0 L T C with
 | false=>rfl
 | true =>
  rw[az,cond_false,uF,aa,aN];cases hp:zW L i with
  | false=>rfl
  | true =>
   obtain⟨h1,h2,h3,h4,h5,h6,h7,h8⟩:=zz hm;rw[az,cond_false,cond_true];by_cases hC:C.length=3
   ·rw[hC]; rfl
   ·rw[show (((af C:Nat):Int)==3)=false from by simp; omega,cond_false,decide_eq_false hC,cond_false,uB i (-1) (by omega) (by omega) (by omega) (by simp) (by simp) (by simp),aa]
    unfold zW at hp;simp only[ay,decide_eq_true_eq] at hp;obtain⟨l,g1,g2,g3⟩:=ze1 hp.1 hp.2;have hsm:=wh h5 l g2;have hls:=hsm.1;rw[g1,aa];unfold Qa;rw[yc (by omega),aa,aa]
    simp only[List.append_nil,zh];rw[zp (by simp; omega),cond_true,xK,Vl hm hp.1 g3 (by omega),aa]
    unfold XB;rw[g3];rfl
def to0:List (Option jI×Int):=ax 48 ((none:Option jI),(0:Int))
theorem zbo {k:Nat} (h:k<48):to0[k]? = some (none,0):=by
 unfold to0;rw[List.getElem?_replicate,if_pos h]
theorem CE {α:Type} (xs:List α) (y:α):uh (xs++[y]) none (some (xs.length:Int))=some xs:=by
 show slc (xs++[y]) 0 (xs.length:Int)=some xs;unfold slc;rw[decide_eq_true (show (0:Int)<=0 by omega),decide_eq_true (show (0:Int)<=(xs.length:Int) by omega),decide_eq_true (show (xs.length:Int)<=(((xs++[y]).length:Nat):Int) by simp; omega)]
 simp
theorem R4 (ps:List jI):zk ps=ps.flatten.length:=by
 induction ps with
 | nil=>rfl
 | cons p ps ih =>
  unfold zk at ih ⊢;simp only[aK,cD,fg,am,ih]
def rI (s:List (Int×List Int)) (v:Int):Option jI:=(s.find? fun b=>b.1==v).map (·.2)
def onC (s:List (Int×List Int)) (c:Int):List Int:=cond (decide (c≥0)) [c] ((rI s (-1 - c)).getD [c])
def onB (s:List (Int×List Int)) (r:List Int):List Int:=r.flatMap (onC s)
structure BindsOk (s:List (Int×List Int)):Prop where
 len:s.length<=1000
 all:∀ b∈s,b.2≠[]∧b.2.length<=1000
theorem C8 (v:Int):(es:List (Int×List Int))->we v es=some (match rI es v with
  | none=>.inl ()
  | some t=>.inr t)
 | []=>rfl
 | e::es=>by
  unfold we rI;rw[List.find?_cons];cases he:(e.1==v) with
  | true=>rfl
  | false =>
   rw[cond_false,C8 v es];rfl
theorem DY {s:List (Int×List Int)} {v:Int} {t:List Int} (h:rI s v=some t):∃ b∈s,b.1=v∧b.2=t:=by
 unfold rI at h;obtain⟨b,hb,rfl⟩:=bA.1 h;exact ⟨b,List.mem_of_find?_eq_some hb,by simpa using List.find?_some hb,rfl⟩
theorem Va {α:Type} {xs:List α} (h:xs≠[]):nn xs=some xs:=by
 cases xs with
 | nil=>exact absurd rfl h
 | cons x xs=>rfl
theorem Dj {s:List (Int×List Int)} (h:BindsOk s) (v:Int):QD s v=some (rI s v):=by
 unfold QD;rw[XO _ _ (by have:=h.len; unfold maxLen; omega),C8]
 cases hl:rI s v with
 | none=>rfl
 | some t =>
  obtain⟨b,hb,-,rfl⟩:=DY hl;show (nn b.2).bind _=_;rw[Va (h.all b hb).1];rfl
theorem zbI {s:List (Int×List Int)} (h:BindsOk s) (c:Int):(onC s c).length<=1000:=by
 unfold onC;cases decide (c≥0) with
 | true=>simp
 | false =>
  cases hl:rI s (-1 - c) with
  | none=>simp
  | some t =>
   obtain⟨b,hb,-,rfl⟩:=DY hl;exact (h.all b hb).2
theorem Dh {s:List (Int×List Int)} (h:BindsOk s):(es:List Int)->(out:List Int)->(∀ c∈es,-1000000<=c∧c<=1000000)->out.length+1000*es.length<=10000000->xf s es out=some (out++onB s es)
 | [],out,_,_=>by simp [xf,onB]
 | e::es,out,hc,hl=>by
  rw[ak] at hl;have he:=hc e (aj ..);have ih:=fun out' hl'=>Dh h es out' (fun c hx=>hc c (ai _ hx)) hl';have hcl:=zbI h e;have hB:onB s (e::es)=onC s e++onB s es:=by simp [onB]
  unfold xf;rw[qx (by omega) (by omega),aa,Dj h,aa,hB]
  unfold onC at hcl ⊢;by_cases h0:e≥0
  ·rw[decide_eq_true h0,cond_true,cond_true,zp (show (out.length+([e]:List Int).length)*8<=140737488351232 by simp; omega),cond_true,ih _ (by simp; omega)]
   simp
  ·rw[decide_eq_false h0] at hcl ⊢;simp only[cond_false] at hcl ⊢;cases hl2:rI s (-1 - e) with
   | none =>
    simp only[Option.isNone_none,cond_true,Option.getD_none];rw[zp (show (out.length+([e]:List Int).length)*8<=140737488351232 by simp; omega),cond_true,ih _ (by simp; omega)]
    simp
   | some t =>
    rw[hl2] at hcl;simp only[bj] at hcl;simp only[cw,cond_false,bj];rw[zp (by omega),cond_true,ih _ (by simp; omega)]
    simp
theorem ko {s:List (Int×List Int)} (h:BindsOk s) {r:List Int} (hl:r.length<=1000) (hc:∀ c∈r,-1000000<=c∧c<=1000000):Z6 s r=some (onB s r):=by
 unfold Z6;rw[WR _ _ _ (by unfold maxLen; omega),Dh h r [] hc (by simp; omega)]
 rfl
def tS (r:List Int):Prop:=r.length<=1000∧∀ c∈r,-1000000<=c∧c<=1000000
def JY (s:List (Int×List Int)) (ls:List zc):List zc:=ls.map fun l=>(l.1,onB s l.2)
def HD (s:List (Int×List Int)) (rs:List jI):List jI:=rs.map (onB s)
theorem Dy {s:List (Int×List Int)} (h:BindsOk s):(es out:List zc)->(∀ l∈es,tS l.2)->out.length+es.length<=1000000->qg s es out=some (out++JY s es)
 | [],out,_,_=>by simp [qg,JY]
 | e::es,out,hn,hl=>by
  rw[ak] at hl;have he:=hn e (aj ..);unfold qg xW;rw[ko h he.1 he.2,aa,aa,zp (show (out.length+([(e.1,onB s e.2)]:List zc).length)*32<=140737488351232 by simp; omega),cond_true,
   Dy h es _ (fun l hl=>hn l (ai _ hl)) (by simp; omega)]
  simp [JY]
theorem DV {s:List (Int×List Int)} (h:BindsOk s) (s7:List zc):(es out:List jI)->(∀ l∈es,tS l)->out.length+es.length<=1000000->qn s s7 es out=some (s7,out++HD s es)
 | [],out,_,_=>by simp [qn,HD]
 | e::es,out,hn,hl=>by
  rw[ak] at hl;have he:=hn e (aj ..);unfold qn xW;rw[ko h he.1 he.2,aa,aa,zp (show (out.length+([onB s e]:List jI).length)*24<=140737488351232 by simp; omega),cond_true,
   DV h s7 es _ (fun l hl=>hn l (ai _ hl)) (by simp; omega)]
  simp [HD]
theorem Di {s:List (Int×List Int)} (h:BindsOk s) (s4:List zc) (s5:List jI):(es out:List zc)->(∀ l∈es,tS l.2)->out.length+es.length<=1000000->qf s s4 s5 es out=some (s4,s5,out++JY s es)
 | [],out,_,_=>by simp [qf,JY]
 | e::es,out,hn,hl=>by
  rw[ak] at hl;have he:=hn e (aj ..);unfold qf xW;rw[ko h he.1 he.2,aa,aa,zp (show (out.length+([(e.1,onB s e.2)]:List zc).length)*32<=140737488351232 by simp; omega),cond_true,
   Di h s4 s5 es _ (fun l hl=>hn l (ai _ hl)) (by simp; omega)]
  simp [JY]
theorem IR {s:List (Int×List Int)} (h:BindsOk s) {L:List zc} {T:List jI} {C:List zc} (hL:∀ l∈L,tS l.2) (hT:∀ l∈T,tS l) (hC:∀ l∈C,tS l.2) (h1:L.length<=1000) (h2:T.length<=1000) (h3:C.length<=1000) :
  rE s L T C=some (JY s L,HD s T,JY s C):=by
 unfold rE Xt;rw[Qj _ _ _ _ _ _ (by unfold maxLen; omega),Dy h L [] hL (by simp; omega),aa,
  YZ _ _ _ _ _ _ _ (by unfold maxLen; omega),DV h _ T [] hT (by simp; omega),aa,
  Qk _ _ _ _ _ (by unfold maxLen; omega),Di h _ _ C [] hC (by simp; omega),aa]
 simp
def rT (a0:Int):Option jI :=
 cond (decide (a0<0))
 (none)
 (cond (decide ((ag .i64 (a0 - 0))>0))
  (cond (eqI 0 0&&eqI 0 0)
   (cond (Ei (ag .i64 (a0 - 0)))
    (cond (yK (bc (ag .i64 (a0 - 0))) 8)
     ((uh (ax (bc (ag .i64 (a0 - 0))) (0:Int)) none (some 0)).bind fun y2 =>
      some y2)
     (none))
    (none))
   (none))
  (some ([]:jI)))
def xB (rec:(jR×Int×Int×jI)->Option jI) (x:(jR×Int×Int×jI)):Option jI :=
 cond (decide (x.2.2.1<x.2.1))
 ((gx x.1 x.2.2.1).bind fun e7 =>
  cond (yK (af x.2.2.2+af e7) 8)
  (rec (x.1,x.2.1,(ag .i64 (x.2.2.1+1)),(x.2.2.2++e7)))
  (none))
 (some x.2.2.2)
def xD (rec:(jR×Int×jR×Int×Int)->Option Int) (x:(jR×Int×jR×Int×Int)):Option Int :=
 cond (decide (x.2.2.2.2<x.2.2.2.1))
 ((gx x.2.2.1 x.2.2.2.2).bind fun e2 =>
  cond (decide ((ag .i64 (x.2.1+((af e2:Nat):Int)))<0))
  (none)
  (rec (x.1,(ag .i64 (x.2.1+((af e2:Nat):Int))),x.2.2.1,x.2.2.2.1,(ag .i64 (x.2.2.2.2+1)))))
 (some x.2.1)
def vo (a0:jR):Option jI :=
 ((lp xD ze) (a0,0,a0,((af a0:Nat):Int),0)).bind fun r9 =>
 (rT r9).bind fun r10 =>
 ((lp xB ze) (a0,((af a0:Nat):Int),0,r10)).bind fun r11 =>
 some r11
def zP:List jI->jI->Option jI
 | [],s3=>some s3
 | e::es,s3 =>
  cond (yK (af s3+af e) 8)
  (zP es (s3++e))
  (none)
theorem jP (s0:jR) (s3:jI) (hl:af s0<=maxLen):lp xB ze (s0,((af s0:Nat):Int),0,s3)=zP s0 s3:=x9 xB (fun i s3=>(s0,((af s0:Nat):Int),i,s3)) (fun es i s3=>zP es s3) hl (fun r i s3 h=>by unfold xB zP; simp only[h,cond_false]) (fun r i s3 e es h g w k=>by unfold xB zP; simp only[h,cond_true,g,aa,w,k]) s3
def zN:List jI->Int->Option Int
 | [],s1=>some s1
 | e::es,s1 =>
  cond (decide ((ag .i64 (s1+((af e:Nat):Int)))<0))
  (none)
  (zN es (ag .i64 (s1+((af e:Nat):Int))))
theorem j8 (s0:jR) (s2:jR) (s1:Int) (hl:af s2<=maxLen):lp xD ze (s0,s1,s2,((af s2:Nat):Int),0)=zN s2 s1:=x9 xD (fun i s1=>(s0,s1,s2,((af s2:Nat):Int),i)) (fun es i s1=>zN es s1) hl (fun r i s1 h=>by unfold xD zN; simp only[h,cond_false]) (fun r i s1 e es h g w k=>by unfold xD zN; simp only[h,cond_true,g,aa,w,k]) s1
def zgV (c:UInt8):Bool:=Wc ((bH c:Nat):Int)
def zg2 (c:UInt8):Bool:=decide (((bH c:Nat):Int)≥48)&&decide (((bH c:Nat):Int)<=57)
def zgS (b:Bool) (c:UInt8):Bool:=zg2 c||(b&&zgV c)
def Stop (c:Str):Prop:=c.takeWhile (zgS true)=[]
theorem VX {n:Nat} (h:n<=10000000):rT (n:Int)=some []:=by
 unfold rT;have e:ag .i64 ((n:Int) - 0)=(n:Int):=by rw[zo]<;>omega
 rw[e,decide_eq_false (show ¬((n:Int)<0) by omega),cond_false]
 by_cases h0:n=0
 ·subst h0; rfl
 ·rw[decide_eq_true (show (n:Int)>0 by omega),cond_true,show (eqI 0 0&&eqI 0 0)=true from rfl,cond_true,show Ei (n:Int)=true from decide_eq_true (by omega),cond_true,bo,zp (by omega),cond_true]
  have:∀ z:Int,uh (ax n z) none (some 0)=some []:=fun z=>by
   show slc (ax n z) 0 0=some [];unfold slc;rw[decide_eq_true (show (0:Int)<=0 by omega),decide_eq_true (show (0:Int)<=(((ax n z).length:Nat):Int) by omega)]
   rfl
  rw[this]; rfl
theorem AN {a b c:List Int} (h:a.length+b.length+c.length<=9000000):vo [a,b,c]=some ((a++b)++c):=by
 have w0:ag .i64 ((0:Int)+((a.length:Nat):Int))=((a.length:Nat):Int):=by rw[zo]<;>omega
 have w1:ag .i64 (((a.length:Nat):Int)+((b.length:Nat):Int))=((a.length+b.length:Nat):Int):=by rw[zo]<;>omega
 have w2:ag .i64 (((a.length+b.length:Nat):Int)+((c.length:Nat):Int))=((a.length+b.length+c.length:Nat):Int):=by rw[zo]<;>omega
 have e0:zN [a,b,c] 0=some ((a.length+b.length+c.length:Nat):Int):=by
  unfold zN;rw[w0,decide_eq_false (show ¬(((a.length:Nat):Int)<0) by omega),cond_false]
  unfold zN;rw[w1,decide_eq_false (show ¬(((a.length+b.length:Nat):Int)<0) by omega),cond_false]
  unfold zN;rw[w2,decide_eq_false (show ¬(((a.length+b.length+c.length:Nat):Int)<0) by omega),cond_false]
  rfl
 have e1:zP [a,b,c] []=some ((a++b)++c):=by
  unfold zP;rw[zp (by simp; omega),cond_true,bl]
  unfold zP;rw[zp (by omega),cond_true]
  unfold zP;rw[zp (by simp; omega),cond_true]
  rfl
 unfold vo;rw[j8 _ _ _ (by unfold maxLen; simp),e0,aa,VX (by omega),aa,jP _ _ (by unfold maxLen; simp),e1]
 rfl
theorem TR {a0:List zg}:{xs:List Int}->{n m:Nat}->{ys:List Int}->sk a0 n xs=some xs.length->sk a0 m ys=some ys.length->sk a0 (n+m) (xs++ys)=some (xs++ys).length
 | [],0,m,ys,_,h=>by rw[aP]; exact h
 | [],n+1,m,ys,h,_=>by simp [sk] at h
 | x::xs,0,m,ys,h,_=>by simp [sk] at h
 | x::xs,n+1,m,ys,h,h'=>by
  unfold sk at h;cases ha:uV a0 x with
  | none=>rw[ha] at h; cases h
  | some k =>
   rw[ha] at h;simp only[bA,ak] at h;obtain⟨j,hj,hjl⟩:=h;have hj2:j=xs.length:=by omega
   subst hj2;have ih:=TR hj h';rw[show n+1+m=(n+m)+1 from by omega,List.cons_append]
   unfold sk;rw[ha];simp only;rw[show n+m+k=n+k+m from by omega,ih]
   rfl
theorem LQ {a0:List zg} {x:Int} {q:Nat} (h:uV a0 x=some q):x<0∨x<a0.length:=by
 by_cases hx:x<0
 ·exact .inl hx
 ·obtain⟨e,-,he,-⟩:=DS h hx;have:=(aw.1 he).1;exact .inr (by omega)
theorem XH {a0:List zg}:{xs:List Int}->{n k:Nat}->sk a0 n xs=some k->∀ c∈xs.take k,c<0∨c<a0.length
 | [],n,k,h,c,hc=>by simp at hc
 | x::xs,0,k,h,c,hc=>by
  simp [sk] at h; subst h; simp at hc
 | x::xs,n+1,k,h,c,hc=>by
  unfold sk at h;cases ha:uV a0 x with
  | none=>rw[ha] at h; cases h
  | some m =>
   rw[ha] at h;simp only[bA] at h;obtain⟨j,hj,rfl⟩:=h;rw[eP] at hc;rcases aG.1 hc with rfl | hc
   ·exact LQ ha
   ·exact XH hj c hc
theorem D8 {a0:List zg} (hs:SignOk a0) {xs:List Int} {ps:List jI} (h:V1 a0 xs=some ps):∀ c∈xs,-24<=c∧c<20:=by
 obtain⟨h1,h2⟩:=QK xs.length xs ps (aC _) h;have hl:=hs.len;intro c hc;refine ⟨Vh h c hc,?_⟩;rw[← h1] at hc;obtain⟨p,hp,hcp⟩:=fu.1 hc;have:=XH (h2 p hp).2 c;rw[dW] at this;rcases this hcp with h | h<;>omega
theorem FQ {a0:List zg} (hs:SignOk a0) {xs:List Int} (h:vq a0 xs=true):tS xs:=by
 obtain⟨x,r,e,ps,rfl,h0,he,-,-,-,hl,hc,-⟩:=QW h;have:=(aw.1 he).1;have hl2:=hs.len;refine ⟨by simp; omega,fun c hcm => ?_⟩
 rcases aG.1 hcm with rfl | hcm
 ·omega
 ·have:=D8 hs hc c hcm; omega
theorem kp {a0:List zg} (hs:SignOk a0) {ls:List zc} (h:su a0 ls=true):∀ l∈ls,tS l.2:=fun l hl=>FQ hs (aD.1 h l hl)
theorem W9 {a0:List zg} (hs:SignOk a0) {rs:List jI} (h:ZE a0 rs=true):∀ r∈rs,tS r:=fun r hr=>by
 obtain⟨n,hn⟩:=Qi h;obtain⟨ps,hc,-,hl,-⟩:=X9 (hn r hr);exact ⟨by omega,fun c hcm=>by have:=D8 hs hc c hcm; omega⟩
def t7 (a0:jQ) (_a1:jR) (_a2:jQ) (a3:Int):Option Bool :=
 cond (decide (a3≥0))
 (some (decide (a3<((af a0:Nat):Int))))
 (some false)
def Wy (a0:Int):Option Bool :=
 some (a0 != a0)
def Kb (a0:Int) (a1:Int):Option Bool :=
 (Wy a0).bind fun r3 =>
 cond r3
 ((Wy a1).bind fun r4 =>
  cond (!r4)
  (some true)
  (some (decide (a0<a1))))
 (some (decide (a0<a1)))
def ri (a0:Int):Option Bool :=
 some (a0 != a0)
def yW (rec:(jI×Int×Int×Int×Int)->Option Int) (x:(jI×Int×Int×Int×Int)):Option Int :=
 cond (decide (x.2.2.2.1<x.2.2.2.2))
 ((gx x.1 (ag .i64 (gP (ag .u64 (ag .i64 (x.2.2.2.1+x.2.2.2.2))) (2 ^ min (bc 1) (cS .u64))))).bind fun e3 =>
  (Kb e3 x.2.1).bind fun r4 =>
  cond r4
  (rec (x.1,x.2.1,x.2.2.1,(ag .i64 ((ag .i64 (gP (ag .u64 (ag .i64 (x.2.2.2.1+x.2.2.2.2))) (2 ^ min (bc 1) (cS .u64))))+1)),x.2.2.2.2))
  (rec (x.1,x.2.1,x.2.2.1,x.2.2.2.1,(ag .i64 (gP (ag .u64 (ag .i64 (x.2.2.2.1+x.2.2.2.2))) (2 ^ min (bc 1) (cS .u64)))))))
 (some x.2.2.2.1)
def wk (a0:jI) (a1:Int):Option (Int×Bool) :=
 ((lp yW ze) (a0,a1,((af a0:Nat):Int),0,((af a0:Nat):Int))).bind fun r10 =>
 cond (decide (r10<((af a0:Nat):Int)))
 ((gx a0 r10).bind fun e11 =>
  cond (e11==a1)
  (some (r10,true))
  ((gx a0 r10).bind fun e12 =>
   (ri e12).bind fun r13 =>
   cond r13
   ((ri a1).bind fun r14 =>
    some (r10,r14))
   (some (r10,false))))
 (some (r10,false))
def ki (a0:Int) (a1:jI) (a2:jI):Option jI:=zeA a0 a1 a2
def uj (rec:(jI×Int×Int×jI)->Option jI) (x:(jI×Int×Int×jI)):Option jI :=
 cond (decide (x.2.2.1<x.2.1))
 ((gx x.1 x.2.2.1).bind fun e11 =>
  cond (decide (e11≥0))
  (rec (x.1,x.2.1,(ag .i64 (x.2.2.1+1)),x.2.2.2))
  ((zQ e11).bind fun r12 =>
   (wk x.2.2.2 r12).bind fun r13 =>
   cond (!r13.2)
   ((zQ e11).bind fun r14 =>
    (ki r13.1 x.2.2.2 ([r14]:List Int)).bind fun r15 =>
    rec (x.1,x.2.1,(ag .i64 (x.2.2.1+1)),r15))
   (rec (x.1,x.2.1,(ag .i64 (x.2.2.1+1)),x.2.2.2))))
 (some x.2.2.2)
def tm (a0:jI) (a1:jI):Option jI :=
 ((lp uj ze) (a0,((af a0:Nat):Int),0,a1)).bind fun r17 =>
 some r17
def ue (rec:(jR×Int×Int×jI)->Option jI) (x:(jR×Int×Int×jI)):Option jI :=
 cond (decide (x.2.2.1<x.2.1))
 ((gx x.1 x.2.2.1).bind fun e12 =>
  (tm e12 x.2.2.2).bind fun r13 =>
  rec (x.1,x.2.1,(ag .i64 (x.2.2.1+1)),r13))
 (some x.2.2.2)
def v8 (rec:(jQ×Int×Int×jQ×jR×jQ×jI)->Option jI) (x:(jQ×Int×Int×jQ×jR×jQ×jI)):Option jI :=
 cond (decide (x.2.2.1<x.2.1))
 ((gx x.1 x.2.2.1).bind fun e7 =>
  (tm e7.2 x.2.2.2.2.2.2).bind fun r8 =>
  rec (x.1,x.2.1,(ag .i64 (x.2.2.1+1)),x.2.2.2.1,x.2.2.2.2.1,x.2.2.2.2.2.1,r8))
 (some x.2.2.2.2.2.2)
def yL (a0:jS) (a1:jQ) (a2:jR) (a3:jQ):Option (Int×jI) :=
 (qI a0 a1 a2 a3).bind fun r15 =>
 cond (!r15)
 (some (800,([]:jI)))
 ((uK ([a1,a3]:List jQ)).bind fun r16 =>
  ((lp v8 ze) (r16,((af r16:Nat):Int),0,a1,a2,a3,([]:jI))).bind fun r17 =>
  ((lp ue ze) (a2,((af a2:Nat):Int),0,r17)).bind fun r18 =>
  some (0,r18))
def qF (rec:(Int×Int×Int×jI)->Option jI) (x:(Int×Int×Int×jI)):Option jI :=
 cond (decide (x.2.1<x.1))
 ((inR x.2.1 (af x.2.2.2)).bind fun k6 =>
  (x.2.2.2[k6]?).bind fun x7 =>
  cond (decide (x7<0))
  ((inR x.2.1 (af x.2.2.2)).bind fun k8 =>
   (x.2.2.2[k8]?).bind fun _x9 =>
   rec (x.1,(ag .i64 (x.2.1+1)),x.2.2.1,(bw x.2.2.2 k8 (ag .i64 (x7 - x.2.2.1)))))
  (rec (x.1,(ag .i64 (x.2.1+1)),x.2.2.1,x.2.2.2)))
 (some x.2.2.2)
def qD (a0:jI) (a1:Int):Option jI :=
 (zD a0).bind fun r11 =>
 ((lp qF ze) (((af r11:Nat):Int),0,a1,r11)).bind fun r12 =>
 some r12
def ww (rec:(jQ×Int×Int×Int×jQ×jR×jQ)->Option (jQ×jR×jQ)) (x:(jQ×Int×Int×Int×jQ×jR×jQ)):Option (jQ×jR×jQ) :=
 cond (decide (x.2.2.1<x.2.1))
 ((gx x.1 x.2.2.1).bind fun e19 =>
  (qD e19.2 x.2.2.2.1).bind fun r20 =>
  cond (yK (af x.2.2.2.2.2.2+af ([(e19.1,r20)]:List zc)) 32)
  (rec (x.1,x.2.1,(ag .i64 (x.2.2.1+1)),x.2.2.2.1,x.2.2.2.2.1,x.2.2.2.2.2.1,(x.2.2.2.2.2.2++([(e19.1,r20)]:List zc))))
  (none))
 (some (x.2.2.2.2.1,x.2.2.2.2.2.1,x.2.2.2.2.2.2))
def wF (rec:(jR×Int×Int×Int×jQ×jR×jQ×jQ×jR)->Option (jQ×jR)) (x:(jR×Int×Int×Int×jQ×jR×jQ×jQ×jR)):Option (jQ×jR) :=
 cond (decide (x.2.2.1<x.2.1))
 ((gx x.1 x.2.2.1).bind fun e12 =>
  (qD e12 x.2.2.2.1).bind fun r13 =>
  cond (yK (af x.2.2.2.2.2.2.2.2+af ([r13]:List jI)) 24)
  (rec (x.1,x.2.1,(ag .i64 (x.2.2.1+1)),x.2.2.2.1,x.2.2.2.2.1,x.2.2.2.2.2.1,x.2.2.2.2.2.2.1,x.2.2.2.2.2.2.2.1,(x.2.2.2.2.2.2.2.2++([r13]:List jI))))
  (none))
 (some (x.2.2.2.2.2.2.2.1,x.2.2.2.2.2.2.2.2))
def wN (rec:(jQ×Int×Int×Int×jQ×jR×jQ×jQ)->Option jQ) (x:(jQ×Int×Int×Int×jQ×jR×jQ×jQ)):Option jQ :=
 cond (decide (x.2.2.1<x.2.1))
 ((gx x.1 x.2.2.1).bind fun e5 =>
  (qD e5.2 x.2.2.2.1).bind fun r6 =>
  cond (yK (af x.2.2.2.2.2.2.2+af ([(e5.1,r6)]:List zc)) 32)
  (rec (x.1,x.2.1,(ag .i64 (x.2.2.1+1)),x.2.2.2.1,x.2.2.2.2.1,x.2.2.2.2.2.1,x.2.2.2.2.2.2.1,(x.2.2.2.2.2.2.2++([(e5.1,r6)]:List zc))))
  (none))
 (some x.2.2.2.2.2.2.2)
def Yx (a0:jQ) (a1:jR) (a2:jQ) (a3:Int):Option (jQ×jR×jQ) :=
 ((lp wN ze) (a0,((af a0:Nat):Int),0,a3,a0,a1,a2,([]:jQ))).bind fun r22 =>
 ((lp wF ze) (a1,((af a1:Nat):Int),0,a3,a0,a1,a2,r22,([]:jR))).bind fun r23 =>
 ((lp ww ze) (a2,((af a2:Nat):Int),0,a3,r23.1,r23.2,([]:jQ))).bind fun r24 =>
 some (r24.1,r24.2.1,r24.2.2)
def zJ (a0:jQ) (a1:jR) (a2:jQ) (a3:Int):Option (jQ×jR×jQ) :=
 (Yx a0 a1 a2 a3).bind fun r2 =>
 some (r2.1,r2.2.1,r2.2.2)
def vN (a0:jS) (a1:jQ) (a2:jR) (a3:jQ) (a4:jQ) (a5:jR) (a6:jQ):Option (jQ×jR×Bool×jQ) :=
 (yL a0 a1 a2 a3).bind fun r14 =>
 cond (decide (((af r14.2:Nat):Int)>0))
 ((inR (ag .i64 (((af r14.2:Nat):Int) - 1)) (af r14.2)).bind fun k15 =>
  (r14.2[k15]?).bind fun x16 =>
  (yL a0 a4 a5 a6).bind fun r17 =>
  cond (decide (((af r17.2:Nat):Int)>0))
  ((inR (ag .i64 (((af r17.2:Nat):Int) - 1)) (af r17.2)).bind fun k18 =>
   (r17.2[k18]?).bind fun x19 =>
   cond (decide ((ag .i64 (x19+(ag .i64 (x16+1))))>23))
   (some (([]:jQ),([]:jR),false,([]:jQ)))
   ((zJ a4 a5 a6 (ag .i64 (x16+1))).bind fun r20 =>
    some (r20.1,r20.2.1,true,r20.2.2)))
  ((zJ a4 a5 a6 (ag .i64 (x16+1))).bind fun r21 =>
   some (r21.1,r21.2.1,true,r21.2.2)))
 ((yL a0 a4 a5 a6).bind fun r22 =>
  cond (decide (((af r22.2:Nat):Int)>0))
  ((inR (ag .i64 (((af r22.2:Nat):Int) - 1)) (af r22.2)).bind fun k23 =>
   (r22.2[k23]?).bind fun x24 =>
   cond (decide ((ag .i64 (x24+0))>23))
   (some (([]:jQ),([]:jR),false,([]:jQ)))
   ((zJ a4 a5 a6 0).bind fun r25 =>
    some (r25.1,r25.2.1,true,r25.2.2)))
  ((zJ a4 a5 a6 0).bind fun r26 =>
   some (r26.1,r26.2.1,true,r26.2.2)))
def vL (a0:jS) (a1:jQ) (a2:jR) (a3:jQ) (a4:Int) (a5:jQ) (a6:jR) (a7:jQ) (a8:Int):Option (jQ×jR×Bool×Int×jQ) :=
 (gx a1 a4).bind fun e16 =>
 (gx a5 a8).bind fun e17 =>
 cond (e16.1==e17.1)
 (some (([]:jQ),([]:jR),false,0,([]:jQ)))
 ((gx a1 a4).bind fun e18 =>
  (gx e18.2 0).bind fun e19 =>
  (gx a5 a8).bind fun e20 =>
  (gx e20.2 0).bind fun e21 =>
  cond (e19 != e21)
  (some (([]:jQ),([]:jR),false,0,([]:jQ)))
  ((vN a0 a1 a2 a3 a5 a6 a7).bind fun r22 =>
   cond (!r22.2.2.1)
   (some (([]:jQ),([]:jR),false,1301,([]:jQ)))
   ((gx a1 a4).bind fun e23 =>
    (uh e23.2 (some 1) none).bind fun y24 =>
    (gx r22.1 a8).bind fun e25 =>
    (uh e25.2 (some 1) none).bind fun y26 =>
    (uI a0 y24 y26).bind fun r27 =>
    cond (r27.2.1 != 0)
    (some (([]:jQ),([]:jR),false,1302,([]:jQ)))
    (cond (!r27.1)
     (some (([]:jQ),([]:jR),false,0,([]:jQ)))
     ((vG a1 a2 a3 a4 r22.1 r22.2.1 r22.2.2.2 a8).bind fun r28 =>
      (rE r27.2.2 r28.2.1 r28.1 r28.2.2).bind fun r29 =>
      (xd a0 r29.1 r29.2.1 r29.2.2).bind fun r30 =>
      cond (r30.2.2.1 != 0)
      (some (([]:jQ),([]:jR),false,1302,([]:jQ)))
      (some (r30.1,r30.2.1,true,0,r30.2.2.2)))))))
def sH (a0:jS) (a1:jQ) (a2:jR) (a3:jQ) (a4:Int) (a5:jQ) (a6:jR) (a7:jQ) (a8:Int):Option (jQ×jR×Bool×Int×jQ) :=
 (qI a0 a1 a2 a3).bind fun r6 =>
 cond (!r6)
 (some (([]:jQ),([]:jR),false,1300,([]:jQ)))
 ((qI a0 a5 a6 a7).bind fun r7 =>
  cond (!r7)
  (some (([]:jQ),([]:jR),false,1300,([]:jQ)))
  ((t7 a1 a2 a3 a4).bind fun r8 =>
   cond (!r8)
   (some (([]:jQ),([]:jR),false,1300,([]:jQ)))
   ((t7 a5 a6 a7 a8).bind fun r9 =>
    cond (!r9)
    (some (([]:jQ),([]:jR),false,1300,([]:jQ)))
    ((vL a0 a1 a2 a3 a4 a5 a6 a7 a8).bind fun r10 =>
     some (r10.1,r10.2.1,r10.2.2.1,r10.2.2.2.1,r10.2.2.2.2)))))
def yG:List Int->jI->Option jI
 | [],s3=>some s3
 | e::es,s3 =>
  cond (decide (e≥0))
  (yG es s3)
  ((zQ e).bind fun r12 =>
   (wk s3 r12).bind fun r13 =>
   cond (!r13.2)
   ((zQ e).bind fun r14 =>
    (ki r13.1 s3 ([r14]:List Int)).bind fun r15 =>
    yG es r15)
   (yG es s3))
theorem Qr (s0:jI) (s3:jI) (hl:af s0<=maxLen):lp uj ze (s0,((af s0:Nat):Int),0,s3)=yG s0 s3:=x9 uj (fun i s3=>(s0,((af s0:Nat):Int),i,s3)) (fun es i s3=>yG es s3) hl (fun r i s3 h=>by unfold uj yG; simp only[h,cond_false]) (fun r i s3 e es h g w k=>by unfold uj yG; simp only[h,cond_true,g,aa,w,k]) s3
def qW:List jI->jI->Option jI
 | [],s3=>some s3
 | e::es,s3 =>
  (tm e s3).bind fun r13 =>
  qW es r13
theorem Qd (s0:jR) (s3:jI) (hl:af s0<=maxLen):lp ue ze (s0,((af s0:Nat):Int),0,s3)=qW s0 s3:=x9 ue (fun i s3=>(s0,((af s0:Nat):Int),i,s3)) (fun es i s3=>qW es s3) hl (fun r i s3 h=>by unfold ue qW; simp only[h,cond_false]) (fun r i s3 e es h g w k=>by unfold ue qW; simp only[h,cond_true,g,aa,w,k]) s3
def qR:List zc->jI->Option jI
 | [],s6=>some s6
 | e::es,s6 =>
  (tm e.2 s6).bind fun r8 =>
  qR es r8
theorem Qu (s0:jQ) (s3:jQ) (s4:jR) (s5:jQ) (s6:jI) (hl:af s0<=maxLen):lp v8 ze (s0,((af s0:Nat):Int),0,s3,s4,s5,s6)=qR s0 s6:=x9 v8 (fun i s6=>(s0,((af s0:Nat):Int),i,s3,s4,s5,s6)) (fun es i s6=>qR es s6) hl (fun r i s6 h=>by unfold v8 qR; simp only[h,cond_false]) (fun r i s6 e es h g w k=>by unfold v8 qR; simp only[h,cond_true,g,aa,w,k]) s6
def yw (s3:Int) (s4:jQ) (s5:jR):List zc->jQ->Option (jQ×jR×jQ)
 | [],s6=>some (s4,s5,s6)
 | e::es,s6 =>
  (qD e.2 s3).bind fun r20 =>
  cond (yK (af s6+af ([(e.1,r20)]:List zc)) 32)
  (yw s3 s4 s5 es (s6++([(e.1,r20)]:List zc)))
  (none)
theorem ZS (s0:jQ) (s3:Int) (s4:jQ) (s5:jR) (s6:jQ) (hl:af s0<=maxLen):lp ww ze (s0,((af s0:Nat):Int),0,s3,s4,s5,s6)=yw s3 s4 s5 s0 s6:=x9 ww (fun i s6=>(s0,((af s0:Nat):Int),i,s3,s4,s5,s6)) (fun es i s6=>yw s3 s4 s5 es s6) hl (fun r i s6 h=>by unfold ww yw; simp only[h,cond_false]) (fun r i s6 e es h g w k=>by unfold ww yw; simp only[h,cond_true,g,aa,w,k]) s6
def yE (s3:Int) (s7:jQ):List jI->jR->Option (jQ×jR)
 | [],s8=>some (s7,s8)
 | e::es,s8 =>
  (qD e s3).bind fun r13 =>
  cond (yK (af s8+af ([r13]:List jI)) 24)
  (yE s3 s7 es (s8++([r13]:List jI)))
  (none)
theorem YC (s0:jR) (s3:Int) (s4:jQ) (s5:jR) (s6:jQ) (s7:jQ) (s8:jR) (hl:af s0<=maxLen):lp wF ze (s0,((af s0:Nat):Int),0,s3,s4,s5,s6,s7,s8)=yE s3 s7 s0 s8:=x9 wF (fun i s8=>(s0,((af s0:Nat):Int),i,s3,s4,s5,s6,s7,s8)) (fun es i s8=>yE s3 s7 es s8) hl (fun r i s8 h=>by unfold wF yE; simp only[h,cond_false]) (fun r i s8 e es h g w k=>by unfold wF yE; simp only[h,cond_true,g,aa,w,k]) s8
def yF (s3:Int):List zc->jQ->Option jQ
 | [],s7=>some s7
 | e::es,s7 =>
  (qD e.2 s3).bind fun r6 =>
  cond (yK (af s7+af ([(e.1,r6)]:List zc)) 32)
  (yF s3 es (s7++([(e.1,r6)]:List zc)))
  (none)
theorem ZQ (s0:jQ) (s3:Int) (s4:jQ) (s5:jR) (s6:jQ) (s7:jQ) (hl:af s0<=maxLen):lp wN ze (s0,((af s0:Nat):Int),0,s3,s4,s5,s6,s7)=yF s3 s0 s7:=x9 wN (fun i s7=>(s0,((af s0:Nat):Int),i,s3,s4,s5,s6,s7)) (fun es i s7=>yF s3 es s7) hl (fun r i s7 h=>by unfold wN yF; simp only[h,cond_false]) (fun r i s7 e es h g w k=>by unfold wN yF; simp only[h,cond_true,g,aa,w,k]) s7
end Go.Abs.Q
