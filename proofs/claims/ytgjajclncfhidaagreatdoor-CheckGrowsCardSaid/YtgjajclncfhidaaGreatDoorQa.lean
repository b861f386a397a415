import Derived.Test.YtgjajclncfhidaaGreatDoorFc
/-
  What the functions make of plain values, and what the law says of that.
-/
open Bool renaming and_eq_true -> ax, and_false -> cz, and_true -> d0, false_and -> bj, not_false -> bu, not_true -> ay, or_false -> ex, true_and -> aN
open Go.IntKind renaming bits -> dm, signed -> eP, wrap -> ag
open Int renaming le_refl -> ef, toNat -> bc, toNat_natCast -> bl
open List renaming all_cons -> b9, all_eq_true -> aC, drop_drop -> cp, drop_eq_getElem_cons -> aX, drop_eq_nil_iff -> cN, drop_length -> fc, drop_take -> eM, drop_zero -> bM, flatten_cons -> eW, getD_eq_getElem?_getD -> aG, getElem?_cons_zero -> aB, getElem?_eq_getElem -> al, getElem?_eq_none -> aR, getElem?_eq_some_iff -> au, length -> af, length_append -> am, length_cons -> ak, length_drop -> bz, length_eq_zero_iff -> cj, length_nil -> bb, length_pos_iff -> eH, length_singleton -> aV, map_cons -> aM, mem_cons -> aD, mem_cons_of_mem -> ai, mem_cons_self -> aj, mem_flatten -> fh, mem_of_getElem? -> aI, nil_append -> bm, replicate -> az, set -> bP, sum_cons -> cA, take_length -> dR, take_succ_cons -> eI
open Nat renaming add_assoc -> bK, add_comm -> dg, beq -> aA, le_refl -> aF, lt_of_le_of_lt -> cn, lt_of_succ_lt_succ -> cm, min_eq_left -> dH, strongRecOn -> cQ, sub_self -> ej, zero_add -> aQ, zero_le -> bI
open Option renaming bind_some -> aa, getD -> bH, getD_some -> ba, isNone -> ck, isNone_some -> co, map_eq_some_iff -> bv, map_some -> bx
open Option.some renaming injEq -> aq
open Prod.mk renaming injEq -> aL
open Sum renaming inl -> aT, inr -> aE
open UInt8 renaming toNat -> bE
namespace Go.Abs.Q
open Go Go.Abs
abbrev zg:=Str×Int×Int×Int
abbrev PK:Tys:=.cons .str (.cons (.int .i64) (.cons (.int .i64) (.one (.int .i64))))
abbrev zc:=Bool×List Int
abbrev HO:Tys:=.cons .bool (.one (.sl (.one (.int .i64))))
abbrev jR:=List (List Int)
abbrev jI:=List Int
abbrev jQ:=List zc
abbrev jS:=List zg
abbrev jT:=List (Int×Int×Int×Int×Int×Int×Int×jQ×jR×jQ)
abbrev jU:=Int×Int×Int×Int×Int×Int×Int×jQ×jR×jQ
def kD (a0:Int):Option Bool :=
 cond (decide (a0≥97))
 (some (decide (a0<=122)))
 (some false)
def uA (rec:(Str×Int×Int)->Option (Unit⊕Bool)) (x:(Str×Int×Int)):Option (Unit⊕Bool) :=
 cond (decide (x.2.2<x.2.1))
 ((gx x.1 x.2.2).bind fun c7 =>
  (kD ((bE c7:Nat):Int)).bind fun r8 =>
  cond (!r8)
  ((gx x.1 x.2.2).bind fun c9 =>
   cond (decide (((bE c9:Nat):Int)<48))
   (some (aE false))
   ((gx x.1 x.2.2).bind fun c10 =>
    cond (decide (((bE c10:Nat):Int)>57))
    (some (aE false))
    (rec (x.1,x.2.1,(ag .i64 (x.2.2+1))))))
  (rec (x.1,x.2.1,(ag .i64 (x.2.2+1)))))
 (some (aT ()))
def YF (a0:Str):Option Bool :=
 cond (a0==([]:Str))
 (some false)
 (cond (decide (((af a0:Nat):Int)>8))
  (some false)
  ((gx a0 0).bind fun c14 =>
   (kD ((bE c14:Nat):Int)).bind fun r15 =>
   cond (!r15)
   (some false)
   (((lp uA ze) (a0,((af a0:Nat):Int),0)).bind fun r16 =>
    zR r16
    (fun _z17=>some true)
    (fun z18=>some z18))))
def jo (a0:Str) (a1:Int) (a2:Int) (a3:Int):Option Bool :=
 (YF a0).bind fun r2 =>
 cond r2
 (cond (decide (a1≥0))
  (cond (decide (a1<=2))
   (cond (decide (a2≥0))
    (cond (decide (a2<=3))
     (cond (decide (a3≥1))
      (some (decide (a3<=20)))
      (some false))
     (some false))
    (some false))
   (some false))
  (some false))
 (some false)
def tS (rec:(jS×Str×Int×Int)->Option (Unit⊕Int)) (x:(jS×Str×Int×Int)):Option (Unit⊕Int) :=
 cond (decide (x.2.2.2<x.2.2.1))
 ((gx x.1 x.2.2.2).bind fun e2 =>
  cond (e2.1==x.2.1)
  (some (aE x.2.2.2))
  (rec (x.1,x.2.1,x.2.2.1,(ag .i64 (x.2.2.2+1)))))
 (some (aT ()))
def QT (a0:jS) (a1:Str):Option Int :=
 ((lp tS ze) (a0,a1,((af a0:Nat):Int),0)).bind fun r6 =>
 zR r6
 (fun _z7=>some (-1))
 (fun z8=>some z8)
def tJ (rec:(jS×Int)->Option (Unit⊕Bool)) (x:(jS×Int)):Option (Unit⊕Bool) :=
 cond (decide (x.2<((af x.1:Nat):Int)))
 ((gx x.1 x.2).bind fun e6 =>
  (jo e6.1 e6.2.1 e6.2.2.1 e6.2.2.2).bind fun r7 =>
  cond (!r7)
  (some (aE false))
  ((gx x.1 x.2).bind fun e8 =>
   (QT x.1 e8.1).bind fun r9 =>
   cond (r9 != x.2)
   (some (aE false))
   (rec (x.1,(ag .i64 (x.2+1))))))
 (some (aT ()))
def YH (a0:jS):Option Bool :=
 cond (decide (((af a0:Nat):Int)<1))
 (some false)
 (cond (decide (((af a0:Nat):Int)>20))
  (some false)
  ((gx a0 0).bind fun e13 =>
   cond (!(cond (eqS e13.1 [61]) (cond (eqI e13.2.1 0) (cond (eqI e13.2.2.1 2) (cond (eqI e13.2.2.2 1) true false) false) false) false))
   (some false)
   (((lp tJ ze) (a0,1)).bind fun r14 =>
    zR r14
    (fun _z15=>some true)
    (fun z16=>some z16))))
def vw (rec:(jI×Int×Int×Int)->Option (Unit⊕Int)) (x:(jI×Int×Int×Int)):Option (Unit⊕Int) :=
 cond (decide (x.2.2.2<x.2.2.1))
 ((gx x.1 x.2.2.2).bind fun e2 =>
  cond (x.2.1==e2)
  (some (aE x.2.2.2))
  (rec (x.1,x.2.1,x.2.2.1,(ag .i64 (x.2.2.2+1)))))
 (some (aT ()))
def Qr (a0:jI) (a1:Int):Option Int :=
 ((lp vw ze) (a0,a1,((af a0:Nat):Int),0)).bind fun r6 =>
 zR r6
 (fun _z7=>some (-1))
 (fun z8=>some z8)
def vy (a0:jI) (a1:Int):Option Bool :=
 (Qr a0 a1).bind fun r2 =>
 some (decide (r2≥0))
def QG (a0:(Option jI)):Option jI :=
 cond (ck a0)
 (some ([]:jI))
 (cond (yp (af ([]:List Int)+af (bH a0 [])) 8)
  (some (([]:List Int)++(bH a0 [])))
  (none))
def Ga:Option jI :=
 some ([]:jI)
def zC (a0:jI):Option jI:=QG (some a0)
def Qw (a0:Bool) (a1:jI):Option zc :=
 (zC a1).bind fun r2 =>
 some ((!a0),r2)
def zP (a0:Int):Option Int :=
 some (ag .i64 ((-1) - a0))
def Qp (a0:jS) (a1:Int):Option (Int×Bool) :=
 cond (decide (a1<0))
 ((zP 23).bind fun r4 =>
  some (0,(decide (a1≥r4))))
 (cond (decide (a1≥((af a0:Nat):Int)))
  (some (0,false))
  ((gx a0 a1).bind fun e5 =>
   cond (e5.2.1==0)
   (some (0,false))
   ((gx a0 a1).bind fun e6 =>
    some (e6.2.2.1,true))))
def uN (rec:(jS×jI×Int×Int)->Option (Int×Bool)) (x:(jS×jI×Int×Int)):Option (Int×Bool) :=
 cond (decide (x.2.2.1≥((af x.2.1:Nat):Int)))
 (some (0,false))
 ((gx x.2.1 x.2.2.1).bind fun e5 =>
  (Qp x.1 e5).bind fun r6 =>
  cond (!r6.2)
  (some (0,false))
  (cond (decide ((ag .i64 (x.2.2.2+(ag .i64 (r6.1 - 1))))>0))
   (rec (x.1,x.2.1,(ag .i64 (x.2.2.1+1)),(ag .i64 (x.2.2.2+(ag .i64 (r6.1 - 1))))))
   (some ((ag .i64 (x.2.2.1+1)),true))))
def wu (a0:jS) (a1:jI) (a2:Int):Option (Int×Bool) :=
 cond (decide (a2≥((af a1:Nat):Int)))
 (some (0,false))
 ((gx a1 a2).bind fun e8 =>
  (Qp a0 e8).bind fun r9 =>
  cond (!r9.2)
  (some (0,false))
  (cond (decide ((ag .i64 (1+(ag .i64 (r9.1 - 1))))>0))
   ((((lp uN ze) (a0,a1,(ag .i64 (a2+1)),(ag .i64 (1+(ag .i64 (r9.1 - 1))))))).bind fun r10 =>
    some (r10.1,r10.2))
   (some ((ag .i64 (a2+1)),true))))
def tl (rec:(jS×jI×Int×jI)->Option zc) (x:(jS×jI×Int×jI)):Option zc :=
 cond (x.2.2.1==((af x.2.1:Nat):Int))
 (some (true,x.2.2.2))
 ((wu x.1 x.2.1 x.2.2.1).bind fun r4 =>
  cond (!r4.2)
  (some (false,([]:jI)))
  (cond (yp (af x.2.2.2+af ([x.2.2.1]:List Int)) 8)
   (rec (x.1,x.2.1,r4.1,(x.2.2.2++([x.2.2.1]:List Int))))
   (none)))
def re (a0:jS) (a1:jI):Option zc :=
 (YH a0).bind fun r6 =>
 cond (!r6)
 (some (false,([]:jI)))
 (cond (decide (((af a1:Nat):Int)>48))
  (some (false,([]:jI)))
  (cond (0==((af a1:Nat):Int))
   (some (true,([]:jI)))
   ((wu a0 a1 0).bind fun r7 =>
    cond (!r7.2)
    (some (false,([]:jI)))
    (cond (yp (af ([0]:List Int)) 8)
     ((((lp tl ze) (a0,a1,r7.1,([0]:List Int)))).bind fun r8 =>
      some (r8.1,r8.2))
     (none)))))
def v5 (a0:jS) (a1:jI):Option Bool :=
 cond (((af a1:Nat):Int)==0)
 (some false)
 ((gx a1 0).bind fun e9 =>
  cond (decide (e9<0))
  (some false)
  ((gx a1 0).bind fun e10 =>
   cond (decide (e10≥((af a0:Nat):Int)))
   (some false)
   ((gx a1 0).bind fun e11 =>
    (gx a0 e11).bind fun e12 =>
    cond (e12.2.1 != 0)
    (some false)
    ((vM a1 (some 1) none).bind fun y13 =>
     (re a0 y13).bind fun r14 =>
     cond r14.1
     ((gx a1 0).bind fun e15 =>
      (gx a0 e15).bind fun e16 =>
      some (((af r14.2:Nat):Int)==e16.2.2.1))
     (some false)))))
def sY (a0:jS) (_a1:Bool) (a2:jI):Option Bool :=
 (v5 a0 a2).bind fun r2 =>
 some r2
def wi (rec:(jS×Int×jQ×Int×Int)->Option (Int⊕(Int×Bool))) (x:(jS×Int×jQ×Int×Int)):Option (Int⊕(Int×Bool)) :=
 cond (decide (x.2.2.2.2<x.2.2.2.1))
 ((gx x.2.2.1 x.2.2.2.2).bind fun e3 =>
  (sY x.1 e3.1 e3.2).bind fun r4 =>
  cond (!r4)
  (some (aE (0,false)))
  (rec (x.1,(ag .i64 (x.2.1+((af e3.2:Nat):Int))),x.2.2.1,x.2.2.2.1,(ag .i64 (x.2.2.2.2+1)))))
 (some (aT x.2.1))
def tf (a0:jS) (a1:jQ):Option (Int×Bool) :=
 ((lp wi ze) (a0,0,a1,((af a1:Nat):Int),0)).bind fun r8 =>
 zR r8
 (fun z9=>some (z9,true))
 (fun z10=>some (z10.1,z10.2))
def ZO (a0:jS) (a1:jI):Option (Int×Int) :=
 (re a0 a1).bind fun r2 =>
 cond (!r2.1)
 (some (0,200))
 (some (((af r2.2:Nat):Int),0))
def wb (rec:(jS×Int×Int×jR×Int×Int)->Option (Int⊕(Int×Bool))) (x:(jS×Int×Int×jR×Int×Int)):Option (Int⊕(Int×Bool)) :=
 cond (decide (x.2.2.2.2.2<x.2.2.2.2.1))
 ((gx x.2.2.2.1 x.2.2.2.2.2).bind fun e3 =>
  (ZO x.1 e3).bind fun r4 =>
  cond (x.2.2.2.2.2==0)
  (cond (r4.2 != 0)
   (some (aE (0,false)))
   (cond (r4.1 != r4.1)
    (some (aE (0,false)))
    (rec (x.1,(ag .i64 (x.2.1+((af e3:Nat):Int))),r4.1,x.2.2.2.1,x.2.2.2.2.1,(ag .i64 (x.2.2.2.2.2+1))))))
  (cond (r4.2 != 0)
   (some (aE (0,false)))
   (cond (r4.1 != x.2.2.1)
    (some (aE (0,false)))
    (rec (x.1,(ag .i64 (x.2.1+((af e3:Nat):Int))),x.2.2.1,x.2.2.2.1,x.2.2.2.2.1,(ag .i64 (x.2.2.2.2.2+1)))))))
 (some (aT x.2.1))
def rj (a0:jS) (a1:jR):Option (Int×Bool) :=
 ((lp wb ze) (a0,0,0,a1,((af a1:Nat):Int),0)).bind fun r8 =>
 zR r8
 (fun z9=>some (z9,true))
 (fun z10=>some (z10.1,z10.2))
def yq (a0:jS) (a1:jQ) (a2:jR) (a3:jQ):Option Bool :=
 (YH a0).bind fun r5 =>
 cond (!r5)
 (some false)
 (cond (decide (((af a1:Nat):Int)>5))
  (some false)
  (cond (decide (((af a2:Nat):Int)>3))
   (some false)
   (cond (decide (((af a3:Nat):Int)>3))
    (some false)
    ((tf a0 a1).bind fun r6 =>
     (rj a0 a2).bind fun r7 =>
     (tf a0 a3).bind fun r8 =>
     cond r6.2
     (cond r7.2
      (cond r8.2
       (some (decide ((ag .i64 ((ag .i64 (r6.1+r7.1))+r8.1))<=240)))
       (some false))
      (some false))
     (some false)))))
def vA (rec:(jI×jI×Int×Int)->Option (Unit⊕Bool)) (x:(jI×jI×Int×Int)):Option (Unit⊕Bool) :=
 cond (decide (x.2.2.2<x.2.2.1))
 ((gx x.1 x.2.2.2).bind fun e3 =>
  (gx x.2.1 x.2.2.2).bind fun e4 =>
  cond (e3 != e4)
  (some (aE false))
  (rec (x.1,x.2.1,x.2.2.1,(ag .i64 (x.2.2.2+1)))))
 (some (aT ()))
def yb (a0:jI) (a1:jI):Option Bool :=
 cond (((af a0:Nat):Int) != ((af a1:Nat):Int))
 (some false)
 (((lp vA ze) (a0,a1,((af a0:Nat):Int),0)).bind fun r8 =>
  zR r8
  (fun _z9=>some true)
  (fun z10=>some z10))
def Q3 (a0:Bool) (a1:jI) (a2:Bool) (a3:jI):Option Bool :=
 cond (a0==a2)
 ((yb a1 a3).bind fun r2 =>
  some r2)
 (some false)
def rk (a0:Bool) (a1:jI) (a2:Bool) (a3:jI):Option Bool :=
 (Q3 a2 a3 a0 a1).bind fun r2 =>
 some r2
def xd (rec:(jQ×Int×Int×Bool×jI)->Option (Unit⊕Int)) (x:(jQ×Int×Int×Bool×jI)):Option (Unit⊕Int) :=
 cond (decide (x.2.2.1<x.2.1))
 ((gx x.1 x.2.2.1).bind fun e3 =>
  (rk e3.1 e3.2 x.2.2.2.1 x.2.2.2.2).bind fun r4 =>
  cond r4
  (some (aE x.2.2.1))
  (rec (x.1,x.2.1,(ag .i64 (x.2.2.1+1)),x.2.2.2.1,x.2.2.2.2)))
 (some (aT ()))
def kg (a0:jQ) (a1:Bool) (a2:jI):Option Int :=
 ((lp xd ze) (a0,((af a0:Nat):Int),0,a1,a2)).bind fun r8 =>
 zR r8
 (fun _z9=>some (-1))
 (fun z10=>some z10)
def wv (a0:jQ) (a1:Bool) (a2:jI):Option Bool :=
 (kg a0 a1 a2).bind fun r2 =>
 some (decide (r2≥0))
def ul (rec:(jQ×Int×Int×jQ)->Option jQ) (x:(jQ×Int×Int×jQ)):Option jQ :=
 cond (decide (x.2.2.1<x.2.1))
 ((gx x.1 x.2.2.1).bind fun e5 =>
  (wv x.2.2.2 e5.1 e5.2).bind fun r6 =>
  cond (!r6)
  (cond (yp (af x.2.2.2+af ([(e5.1,e5.2)]:List zc)) 32)
   (rec (x.1,x.2.1,(ag .i64 (x.2.2.1+1)),(x.2.2.2++([(e5.1,e5.2)]:List zc))))
   (none))
  (rec (x.1,x.2.1,(ag .i64 (x.2.2.1+1)),x.2.2.2)))
 (some x.2.2.2)
def jf (a0:jQ):Option jQ :=
 ((lp ul ze) (a0,((af a0:Nat):Int),0,([]:jQ))).bind fun r8 =>
 some r8
def rm (a0:jI) (a1:jI):Option Bool :=
 (yb a1 a0).bind fun r2 =>
 some r2
def ql (rec:(jR×Int×Int×jI)->Option (Unit⊕Int)) (x:(jR×Int×Int×jI)):Option (Unit⊕Int) :=
 cond (decide (x.2.2.1<x.2.1))
 ((gx x.1 x.2.2.1).bind fun e3 =>
  (rm e3 x.2.2.2).bind fun r4 =>
  cond r4
  (some (aE x.2.2.1))
  (rec (x.1,x.2.1,(ag .i64 (x.2.2.1+1)),x.2.2.2)))
 (some (aT ()))
def sy (a0:jR) (a1:jI):Option Int :=
 ((lp ql ze) (a0,((af a0:Nat):Int),0,a1)).bind fun r8 =>
 zR r8
 (fun _z9=>some (-1))
 (fun z10=>some z10)
def xn (a0:jR) (a1:jI):Option Bool :=
 (sy a0 a1).bind fun r2 =>
 some (decide (r2≥0))
def qb (rec:(Int×Int×jI×Int×jI)->Option (jI×Int×jI)) (x:(Int×Int×jI×Int×jI)):Option (jI×Int×jI) :=
 cond (decide (x.2.1<x.1))
 ((inR x.2.1 (af x.2.2.2.2)).bind fun k33 =>
  (x.2.2.2.2[k33]?).bind fun x34 =>
  cond (decide (x34≥0))
  (rec (x.1,(ag .i64 (x.2.1+1)),x.2.2.1,x.2.2.2.1,x.2.2.2.2))
  ((zP x34).bind fun r35 =>
   (inR r35 24).bind fun k36 =>
   (x.2.2.1[k36]?).bind fun x37 =>
   cond (x37==0)
   ((zP x34).bind fun r38 =>
    (inR r38 24).bind fun k39 =>
    (x.2.2.1[k39]?).bind fun _x40 =>
    (zP x34).bind fun r41 =>
    (inR r41 24).bind fun k42 =>
    ((bP x.2.2.1 k39 (ag .i64 (x.2.2.2.1+1)))[k42]?).bind fun x43 =>
    (inR x.2.1 (af x.2.2.2.2)).bind fun k44 =>
    (x.2.2.2.2[k44]?).bind fun _x45 =>
    rec (x.1,(ag .i64 (x.2.1+1)),(bP x.2.2.1 k39 (ag .i64 (x.2.2.2.1+1))),(ag .i64 (x.2.2.2.1+1)),(bP x.2.2.2.2 k44 (zbf .i64 x43))))
   ((zP x34).bind fun r46 =>
    (inR r46 24).bind fun k47 =>
    (x.2.2.1[k47]?).bind fun x48 =>
    (inR x.2.1 (af x.2.2.2.2)).bind fun k49 =>
    (x.2.2.2.2[k49]?).bind fun _x50 =>
    rec (x.1,(ag .i64 (x.2.1+1)),x.2.2.1,x.2.2.2.1,(bP x.2.2.2.2 k49 (zbf .i64 x48))))))
 (some (x.2.2.1,x.2.2.2.1,x.2.2.2.2))
def y5 (a0:jI) (a1:jI) (a2:Int):Option (jI×jI×Int) :=
 (zC a0).bind fun r52 =>
 ((lp qb ze) (((af r52:Nat):Int),0,a1,a2,r52)).bind fun r53 =>
 cond (aA (af a1) (af r53.1)&&true)
 (some (r53.2.2,r53.1,r53.2.1))
 (none)
def wF (rec:(jQ×Int×Int×jI×Int×jQ×jR×jQ)->Option (jI×Int×jQ×jR×jQ)) (x:(jQ×Int×Int×jI×Int×jQ×jR×jQ)):Option (jI×Int×jQ×jR×jQ) :=
 cond (decide (x.2.2.1<x.2.1))
 ((gx x.1 x.2.2.1).bind fun e19 =>
  (y5 e19.2 x.2.2.2.1 x.2.2.2.2.1).bind fun r20 =>
  cond (yp (af x.2.2.2.2.2.2.2+af ([(e19.1,r20.1)]:List zc)) 32)
  (rec (x.1,x.2.1,(ag .i64 (x.2.2.1+1)),r20.2.1,r20.2.2,x.2.2.2.2.2.1,x.2.2.2.2.2.2.1,(x.2.2.2.2.2.2.2++([(e19.1,r20.1)]:List zc))))
  (none))
 (some (x.2.2.2.1,x.2.2.2.2.1,x.2.2.2.2.2.1,x.2.2.2.2.2.2.1,x.2.2.2.2.2.2.2))
def wN (rec:(jR×Int×Int×jI×Int×jQ×jR×jQ×jQ×jR)->Option (jI×Int×jQ×jR)) (x:(jR×Int×Int×jI×Int×jQ×jR×jQ×jQ×jR)):Option (jI×Int×jQ×jR) :=
 cond (decide (x.2.2.1<x.2.1))
 ((gx x.1 x.2.2.1).bind fun e12 =>
  (y5 e12 x.2.2.2.1 x.2.2.2.2.1).bind fun r13 =>
  cond (yp (af x.2.2.2.2.2.2.2.2.2+af ([r13.1]:List jI)) 24)
  (rec (x.1,x.2.1,(ag .i64 (x.2.2.1+1)),r13.2.1,r13.2.2,x.2.2.2.2.2.1,x.2.2.2.2.2.2.1,x.2.2.2.2.2.2.2.1,x.2.2.2.2.2.2.2.2.1,(x.2.2.2.2.2.2.2.2.2++([r13.1]:List jI))))
  (none))
 (some (x.2.2.2.1,x.2.2.2.2.1,x.2.2.2.2.2.2.2.2.1,x.2.2.2.2.2.2.2.2.2))
def wR (rec:(jQ×Int×Int×jI×Int×jQ×jR×jQ×jQ)->Option (jI×Int×jQ)) (x:(jQ×Int×Int×jI×Int×jQ×jR×jQ×jQ)):Option (jI×Int×jQ) :=
 cond (decide (x.2.2.1<x.2.1))
 ((gx x.1 x.2.2.1).bind fun e5 =>
  (y5 e5.2 x.2.2.2.1 x.2.2.2.2.1).bind fun r6 =>
  cond (yp (af x.2.2.2.2.2.2.2.2+af ([(e5.1,r6.1)]:List zc)) 32)
  (rec (x.1,x.2.1,(ag .i64 (x.2.2.1+1)),r6.2.1,r6.2.2,x.2.2.2.2.2.1,x.2.2.2.2.2.2.1,x.2.2.2.2.2.2.2.1,(x.2.2.2.2.2.2.2.2++([(e5.1,r6.1)]:List zc))))
  (none))
 (some (x.2.2.2.1,x.2.2.2.2.1,x.2.2.2.2.2.2.2.2))
def Yn (a0:jQ) (a1:jR) (a2:jQ) (a3:jI) (a4:Int):Option (jQ×jR×jQ×jI×Int) :=
 ((lp wR ze) (a0,((af a0:Nat):Int),0,a3,a4,a0,a1,a2,([]:jQ))).bind fun r22 =>
 ((lp wN ze) (a1,((af a1:Nat):Int),0,r22.1,r22.2.1,a0,a1,a2,r22.2.2,([]:jR))).bind fun r23 =>
 ((lp wF ze) (a2,((af a2:Nat):Int),0,r23.1,r23.2.1,r23.2.2.1,r23.2.2.2,([]:jQ))).bind fun r24 =>
 cond (aA (af a3) (af r24.1)&&true)
 (some (r24.2.2.1,r24.2.2.2.1,r24.2.2.2.2,r24.1,r24.2.1))
 (none)
def ut (rec:(jR×Int×Int×jQ×jQ×jR)->Option (jQ×jQ×jR)) (x:(jR×Int×Int×jQ×jQ×jR)):Option (jQ×jQ×jR) :=
 cond (decide (x.2.2.1<x.2.1))
 ((gx x.1 x.2.2.1).bind fun e7 =>
  (xn x.2.2.2.2.2 e7).bind fun r8 =>
  cond (!r8)
  (cond (yp (af x.2.2.2.2.2+af ([e7]:List jI)) 24)
   (rec (x.1,x.2.1,(ag .i64 (x.2.2.1+1)),x.2.2.2.1,x.2.2.2.2.1,(x.2.2.2.2.2++([e7]:List jI))))
   (none))
  (rec (x.1,x.2.1,(ag .i64 (x.2.2.1+1)),x.2.2.2.1,x.2.2.2.2.1,x.2.2.2.2.2)))
 (some (x.2.2.2.1,x.2.2.2.2.1,x.2.2.2.2.2))
def Yf (a0:jQ) (a1:jR) (a2:jQ):Option (jQ×jR×jQ) :=
 (jf a0).bind fun r11 =>
 (jf a2).bind fun r12 =>
 ((lp ut ze) (a1,((af a1:Nat):Int),0,r11,r12,([]:jR))).bind fun r13 =>
 (Yn r13.1 r13.2.2 r13.2.1 (az 24 (0:Int)) 0).bind fun r14 =>
 some (r14.1,r14.2.1,r14.2.2.1)
def xi (a0:jS) (a1:jQ) (a2:jR) (a3:jQ):Option (jQ×jR×Int×jQ) :=
 (yq a0 a1 a2 a3).bind fun r3 =>
 cond (!r3)
 (some (([]:jQ),([]:jR),800,([]:jQ)))
 ((Yf a1 a2 a3).bind fun r4 =>
  some (r4.1,r4.2.1,0,r4.2.2))
def th (rec:(jS×jI×Int×jR)->Option (jR⊕jR)) (x:(jS×jI×Int×jR)):Option (jR⊕jR) :=
 cond (decide (x.2.2.1<((af x.2.1:Nat):Int)))
 ((wu x.1 x.2.1 x.2.2.1).bind fun r5 =>
  cond (!r5.2)
  (some (aE x.2.2.2))
  ((vM x.2.1 (some x.2.2.1) (some r5.1)).bind fun y6 =>
   cond (yp (af x.2.2.2+af ([y6]:List jI)) 24)
   (rec (x.1,x.2.1,r5.1,(x.2.2.2++([y6]:List jI))))
   (none)))
 (some (aT x.2.2.2))
def v9 (a0:jS) (a1:jI):Option jR :=
 ((lp th ze) (a0,a1,0,([]:jR))).bind fun r10 =>
 zR r10
 (fun z11=>some z11)
 (fun z12=>some z12)
def tp (a0:Int):Option Int :=
 some a0
def wJ (rec:(jI×jI×Int)->Option (Unit⊕Bool)) (x:(jI×jI×Int)):Option (Unit⊕Bool) :=
 cond (decide (x.2.2<((af x.1:Nat):Int)))
 ((gx x.1 x.2.2).bind fun e3 =>
  (gx x.2.1 x.2.2).bind fun e4 =>
  cond (e3 != e4)
  (some (aE false))
  (rec (x.1,x.2.1,(ag .i64 (x.2.2+1)))))
 (some (aT ()))
def va (a0:jI) (a1:jI):Option Bool :=
 cond (((af a0:Nat):Int) != ((af a1:Nat):Int))
 (some false)
 (((lp wJ ze) (a0,a1,0)).bind fun r8 =>
  zR r8
  (fun _z9=>some true)
  (fun z10=>some z10))
def wW (rec:(jQ×jQ×Int)->Option (Unit⊕Bool)) (x:(jQ×jQ×Int)):Option (Unit⊕Bool) :=
 cond (decide (x.2.2<((af x.1:Nat):Int)))
 ((gx x.1 x.2.2).bind fun e6 =>
  (gx x.2.1 x.2.2).bind fun e7 =>
  cond (!(e6.1==e7.1))
  (some (aE false))
  ((gx x.1 x.2.2).bind fun e8 =>
   (gx x.2.1 x.2.2).bind fun e9 =>
   (va e8.2 e9.2).bind fun r10 =>
   cond (!r10)
   (some (aE false))
   (rec (x.1,x.2.1,(ag .i64 (x.2.2+1))))))
 (some (aT ()))
def sn (a0:jQ) (a1:jQ):Option Bool :=
 cond (((af a0:Nat):Int) != ((af a1:Nat):Int))
 (some false)
 (((lp wW ze) (a0,a1,0)).bind fun r14 =>
  zR r14
  (fun _z15=>some true)
  (fun z16=>some z16))
def wI (rec:(jR×jR×Int)->Option (Unit⊕Bool)) (x:(jR×jR×Int)):Option (Unit⊕Bool) :=
 cond (decide (x.2.2<((af x.1:Nat):Int)))
 ((gx x.1 x.2.2).bind fun e4 =>
  (gx x.2.1 x.2.2).bind fun e5 =>
  (va e4 e5).bind fun r6 =>
  cond (!r6)
  (some (aE false))
  (rec (x.1,x.2.1,(ag .i64 (x.2.2+1)))))
 (some (aT ()))
def kA (a0:jR) (a1:jR):Option Bool :=
 cond (((af a0:Nat):Int) != ((af a1:Nat):Int))
 (some false)
 (((lp wI ze) (a0,a1,0)).bind fun r10 =>
  zR r10
  (fun _z11=>some true)
  (fun z12=>some z12))
def vu (a0:jQ) (a1:jR) (a2:jQ) (a3:jQ) (a4:jR) (a5:jQ):Option Bool :=
 (sn a0 a3).bind fun r4 =>
 cond r4
 ((kA a1 a4).bind fun r5 =>
  cond r5
  ((sn a2 a5).bind fun r6 =>
   some r6)
  (some false))
 (some false)
theorem zu {X Y:Type} (s:(X->Option Y)->X->Option Y) (k:Nat):lp s (k+1)=s (lp s k):=rfl
theorem yH {α:Type} (xs:List α) (i:Nat):gx xs (i:Int)=xs[i]? := by
 unfold gx;rw[show decide ((0:Int)<=(i:Int))=true from by simp]
 rfl
theorem yc {α:Type} (xs:List α):gx xs 0=xs[0]? := yH xs 0
theorem JZ {α:Type} {xs:List α} {i:Int} (h0:0<=i) (h:i<xs.length):∃ x,gx xs i=some x∧x∈xs∧xs[i.toNat]? = some x:=by
 have hi:i.toNat<xs.length:=by omega
 refine ⟨xs[i.toNat],?_,List.getElem_mem hi,al hi⟩;unfold gx;rw[show decide ((0:Int)<=i)=true from by simp; omega,cond_true,al hi]
theorem yN {i l:Nat} (h:i<l):inR (i:Int) l=some i:=by
 unfold inR;simp [h]
theorem zp {n:Int} (h1 : -9223372036854775808<=n) (h2:n<=9223372036854775807):ag .i64 n=n:=by
 simp [ag,eP,dm];omega
theorem t8 {i l:Nat} (h:i<l) (hl:l<=maxLen):ag .i64 ((i:Int)+1)=((i+1:Nat):Int):=by
 unfold maxLen at hl;rw[zp]<;>omega
theorem sZ {i l:Nat} (h:i<l):decide ((i:Int)<(l:Int))=true:=by simp [h]
theorem tq {i l:Nat} (h:l<=i):decide ((i:Int)<(l:Int))=false:=by simp; omega
theorem vk {α:Type} {xs:List α} {i:Nat} (h:xs.drop i=[]):xs.length<=i:=by simpa using h
theorem qj {α:Type} {xs es:List α} {e:α} {i:Nat} (h:xs.drop i=e::es):i<xs.length:=by
 rw[← Nat.not_le];intro hn;rw[cN.2 hn] at h;cases h
theorem zw {α:Type} {xs es:List α} {e:α} {i:Nat} (h:xs.drop i=e::es):xs[i]? = some e:=by
 have:=congrArg (·[0]?) h;simpa using this
theorem zj {α:Type} {xs es:List α} {e:α} {i:Nat} (h:xs.drop i=e::es):xs.drop (i+1)=es:=by
 rw[← cp,h];rfl
theorem tw {A R T:Type} {xs:List A} (f:(T->Option R)->T->Option R) (mk:Int->T) (go:List A->Nat->Option R) (hl:af xs<=maxLen)
  (h0:∀(r:T->Option R) (i:Nat),decide ((i:Int)<((af xs:Nat):Int))=false->f r (mk (i:Int))=go [] i)
  (h1:∀(r:T->Option R) (i:Nat) e es,decide ((i:Int)<((af xs:Nat):Int))=true->gx xs (i:Int)=some e->ag .i64 ((i:Int)+1)=((i+1:Nat):Int)->(r (mk ((i+1:Nat):Int))=go es (i+1))->f r (mk (i:Int))=go (e::es) i)
   : lp f ze (mk 0)=go xs 0:=by
 have key:∀(es:List A) (i k:Nat),xs.drop i=es->es.length<k->lp f k (mk (i:Int))=go es i:=by
  intro es
  induction es with
  | nil =>
   intro i k h hk;obtain⟨k,rfl⟩:∃ k',k=k'+1:=⟨k - 1,by omega⟩
   exact h0 _ i (tq (vk h))
  | cons e es ih =>
   intro i k h hk;obtain⟨k,rfl⟩:∃ k',k=k'+1:=⟨k - 1,by omega⟩
   have hi:=qj h;exact h1 _ i e es (sZ hi) ((yH xs i).trans (zw h)) (t8 hi hl) (ih (i+1) k (zj h) (cm hk))
 exact key xs 0 ze rfl (cn hl (by decide))
theorem xR {A S0 R T:Type} {xs:List A} (f:(T->Option R)->T->Option R) (mk:Int->S0->T) (go:List A->Nat->S0->Option R) (hl:af xs<=maxLen)
  (h0:∀(r:T->Option R) (i:Nat) s0,decide ((i:Int)<((af xs:Nat):Int))=false->f r (mk (i:Int) s0)=go [] i s0)
  (h1:∀(r:T->Option R) (i:Nat) s0 e es,decide ((i:Int)<((af xs:Nat):Int))=true->gx xs (i:Int)=some e->ag .i64 ((i:Int)+1)=((i+1:Nat):Int)->(∀ s0,r (mk ((i+1:Nat):Int) s0)=go es (i+1) s0)->f r (mk (i:Int) s0)=go (e::es) i s0)
  (s0:S0):lp f ze (mk 0 s0)=go xs 0 s0:=by
 have key:∀(es:List A) (i k:Nat) s0,xs.drop i=es->es.length<k->lp f k (mk (i:Int) s0)=go es i s0:=by
  intro es
  induction es with
  | nil =>
   intro i k s0 h hk;obtain⟨k,rfl⟩:∃ k',k=k'+1:=⟨k - 1,by omega⟩
   exact h0 _ i s0 (tq (vk h))
  | cons e es ih =>
   intro i k s0 h hk;obtain⟨k,rfl⟩:∃ k',k=k'+1:=⟨k - 1,by omega⟩
   have hi:=qj h;exact h1 _ i s0 e es (sZ hi) ((yH xs i).trans (zw h)) (t8 hi hl) (fun s0=>ih (i+1) k s0 (zj h) (cm hk))
 exact key xs 0 ze s0 rfl (cn hl (by decide))
theorem zbd {A S0 S1 R T:Type} {xs:List A} (f:(T->Option R)->T->Option R) (mk:Int->S0->S1->T) (go:List A->Nat->S0->S1->Option R) (hl:af xs<=maxLen)
  (h0:∀(r:T->Option R) (i:Nat) s0 s1,decide ((i:Int)<((af xs:Nat):Int))=false->f r (mk (i:Int) s0 s1)=go [] i s0 s1)
  (h1:∀(r:T->Option R) (i:Nat) s0 s1 e es,decide ((i:Int)<((af xs:Nat):Int))=true->gx xs (i:Int)=some e->ag .i64 ((i:Int)+1)=((i+1:Nat):Int)->(∀ s0 s1,r (mk ((i+1:Nat):Int) s0 s1)=go es (i+1) s0 s1)->f r (mk (i:Int) s0 s1)=go (e::es) i s0 s1)
  (s0:S0) (s1:S1):lp f ze (mk 0 s0 s1)=go xs 0 s0 s1:=by
 have key:∀(es:List A) (i k:Nat) s0 s1,xs.drop i=es->es.length<k->lp f k (mk (i:Int) s0 s1)=go es i s0 s1:=by
  intro es
  induction es with
  | nil =>
   intro i k s0 s1 h hk;obtain⟨k,rfl⟩:∃ k',k=k'+1:=⟨k - 1,by omega⟩
   exact h0 _ i s0 s1 (tq (vk h))
  | cons e es ih =>
   intro i k s0 s1 h hk;obtain⟨k,rfl⟩:∃ k',k=k'+1:=⟨k - 1,by omega⟩
   have hi:=qj h;exact h1 _ i s0 s1 e es (sZ hi) ((yH xs i).trans (zw h)) (t8 hi hl) (fun s0 s1=>ih (i+1) k s0 s1 (zj h) (cm hk))
 exact key xs 0 ze s0 s1 rfl (cn hl (by decide))
theorem Hd {A S0 S1 S2 R T:Type} {xs:List A} (f:(T->Option R)->T->Option R) (mk:Int->S0->S1->S2->T) (go:List A->Nat->S0->S1->S2->Option R) (hl:af xs<=maxLen)
  (h0:∀(r:T->Option R) (i:Nat) s0 s1 s2,decide ((i:Int)<((af xs:Nat):Int))=false->f r (mk (i:Int) s0 s1 s2)=go [] i s0 s1 s2)
  (h1:∀(r:T->Option R) (i:Nat) s0 s1 s2 e es,decide ((i:Int)<((af xs:Nat):Int))=true->gx xs (i:Int)=some e->ag .i64 ((i:Int)+1)=((i+1:Nat):Int)->(∀ s0 s1 s2,r (mk ((i+1:Nat):Int) s0 s1 s2)=go es (i+1) s0 s1 s2)->f r (mk (i:Int) s0 s1 s2)=go (e::es) i s0 s1 s2)
  (s0:S0) (s1:S1) (s2:S2):lp f ze (mk 0 s0 s1 s2)=go xs 0 s0 s1 s2:=by
 have key:∀(es:List A) (i k:Nat) s0 s1 s2,xs.drop i=es->es.length<k->lp f k (mk (i:Int) s0 s1 s2)=go es i s0 s1 s2:=by
  intro es
  induction es with
  | nil =>
   intro i k s0 s1 s2 h hk;obtain⟨k,rfl⟩:∃ k',k=k'+1:=⟨k - 1,by omega⟩
   exact h0 _ i s0 s1 s2 (tq (vk h))
  | cons e es ih =>
   intro i k s0 s1 s2 h hk;obtain⟨k,rfl⟩:∃ k',k=k'+1:=⟨k - 1,by omega⟩
   have hi:=qj h;exact h1 _ i s0 s1 s2 e es (sZ hi) ((yH xs i).trans (zw h)) (t8 hi hl) (fun s0 s1 s2=>ih (i+1) k s0 s1 s2 (zj h) (cm hk))
 exact key xs 0 ze s0 s1 s2 rfl (cn hl (by decide))
def yf:List UInt8->Option (Unit⊕Bool)
 | []=>some (aT ())
 | e::es =>
  (kD ((bE e:Nat):Int)).bind fun r8 =>
  cond (!r8)
  (cond (decide (((bE e:Nat):Int)<48))
   (some (aE false))
   (cond (decide (((bE e:Nat):Int)>57))
    (some (aE false))
    (yf es)))
  (yf es)
theorem Qt (s0:Str) (hl:af s0<=maxLen):lp uA ze (s0,((af s0:Nat):Int),0)=yf s0:=tw uA (fun i=>(s0,((af s0:Nat):Int),i)) (fun es i=>yf es) hl (fun r i h=>by unfold uA yf; simp only[h,cond_false]) (fun r i e es h g w k=>by unfold uA yf; simp only[h,cond_true,g,aa,w,k])
def qG (s1:Str):List zg->Nat->Option (Unit⊕Int)
 | [],_i=>some (aT ())
 | e::es,i =>
  cond (e.1==s1)
  (some (aE (i:Int)))
  (qG s1 es (i+1))
theorem Xx (s0:jS) (s1:Str) (hl:af s0<=maxLen):lp tS ze (s0,s1,((af s0:Nat):Int),0)=qG s1 s0 0:=tw tS (fun i=>(s0,s1,((af s0:Nat):Int),i)) (fun es i=>qG s1 es i) hl (fun r i h=>by unfold tS qG; simp only[h,cond_false]) (fun r i e es h g w k=>by unfold tS qG; simp only[h,cond_true,g,aa,w,k])
def um (s0:jS):List zg->Nat->Option (Unit⊕Bool)
 | [],_i=>some (aT ())
 | e::es,i =>
  (jo e.1 e.2.1 e.2.2.1 e.2.2.2).bind fun r7 =>
  cond (!r7)
  (some (aE false))
  ((QT s0 e.1).bind fun r9 =>
   cond (r9 != (i:Int))
   (some (aE false))
   (um s0 es (i+1)))
theorem Vp (s0:jS) (hl:af s0<=maxLen):∀(es:List zg) (i:Nat) (k:Nat),s0.drop i=es->es.length<k->lp tJ k (s0,(i:Int))=um s0 es i:=by
 intro es
 induction es with
 | nil =>
  intro i k h hk;obtain⟨k,rfl⟩:∃ k',k=k'+1:=⟨k - 1,by omega⟩
  rw[zu];generalize lp tJ k=rec;unfold tJ um;simp only[tq (vk h),cond_false]
 | cons e es ih =>
  intro i k h hk;obtain⟨k,rfl⟩:∃ k',k=k'+1:=⟨k - 1,by omega⟩
  rw[zu];have hi:=qj h;have hk2:es.length<k:=cm hk;have key:=fun (_:Unit)=>ih (i+1) k (zj h) hk2;generalize lp tJ k=rec at key ⊢;unfold tJ um;simp only[sZ hi,cond_true,yH,zw h,aa,t8 hi hl,key ()]
def yR (s1:Int):List Int->Nat->Option (Unit⊕Int)
 | [],_i=>some (aT ())
 | e::es,i =>
  cond (s1==e)
  (some (aE (i:Int)))
  (yR s1 es (i+1))
theorem Y3 (s0:jI) (s1:Int) (hl:af s0<=maxLen):lp vw ze (s0,s1,((af s0:Nat):Int),0)=yR s1 s0 0:=tw vw (fun i=>(s0,s1,((af s0:Nat):Int),i)) (fun es i=>yR s1 es i) hl (fun r i h=>by unfold vw yR; simp only[h,cond_false]) (fun r i e es h g w k=>by unfold vw yR; simp only[h,cond_true,g,aa,w,k])
def yi (s0:jS):List zc->Int->Option (Int⊕(Int×Bool))
 | [],s1=>some (aT s1)
 | e::es,s1 =>
  (sY s0 e.1 e.2).bind fun r4 =>
  cond (!r4)
  (some (aE (0,false)))
  (yi s0 es (ag .i64 (s1+((af e.2:Nat):Int))))
theorem Zt (s0:jS) (s2:jQ) (s1:Int) (hl:af s2<=maxLen):lp wi ze (s0,s1,s2,((af s2:Nat):Int),0)=yi s0 s2 s1:=xR wi (fun i s1=>(s0,s1,s2,((af s2:Nat):Int),i)) (fun es i s1=>yi s0 es s1) hl (fun r i s1 h=>by unfold wi yi; simp only[h,cond_false]) (fun r i s1 e es h g w k=>by unfold wi yi; simp only[h,cond_true,g,aa,w,k]) s1
def zK (s0:jS):List jI->Nat->Int->Int->Option (Int⊕(Int×Bool))
 | [],_i,s1,_s2=>some (aT s1)
 | e::es,i,s1,s2 =>
  (ZO s0 e).bind fun r4 =>
  cond ((i:Int)==0)
  (cond (r4.2 != 0)
   (some (aE (0,false)))
   (cond (r4.1 != r4.1)
    (some (aE (0,false)))
    (zK s0 es (i+1) (ag .i64 (s1+((af e:Nat):Int))) r4.1)))
  (cond (r4.2 != 0)
   (some (aE (0,false)))
   (cond (r4.1 != s2)
    (some (aE (0,false)))
    (zK s0 es (i+1) (ag .i64 (s1+((af e:Nat):Int))) s2)))
theorem Zz (s0:jS) (s3:jR) (s1:Int) (s2:Int) (hl:af s3<=maxLen):lp wb ze (s0,s1,s2,s3,((af s3:Nat):Int),0)=zK s0 s3 0 s1 s2:=zbd wb (fun i s1 s2=>(s0,s1,s2,s3,((af s3:Nat):Int),i)) (fun es i s1 s2=>zK s0 es i s1 s2) hl (fun r i s1 s2 h=>by unfold wb zK; simp only[h,cond_false]) (fun r i s1 s2 e es h g w k=>by unfold wb zK; simp only[h,cond_true,g,aa,w,k]) s1 s2
def qE (s1:jI):List Int->Nat->Option (Unit⊕Bool)
 | [],_i=>some (aT ())
 | e::es,i =>
  (gx s1 (i:Int)).bind fun e4 =>
  cond (e != e4)
  (some (aE false))
  (qE s1 es (i+1))
theorem Y2 (s0:jI) (s1:jI) (hl:af s0<=maxLen):lp vA ze (s0,s1,((af s0:Nat):Int),0)=qE s1 s0 0:=tw vA (fun i=>(s0,s1,((af s0:Nat):Int),i)) (fun es i=>qE s1 es i) hl (fun r i h=>by unfold vA qE; simp only[h,cond_false]) (fun r i e es h g w k=>by unfold vA qE; simp only[h,cond_true,g,aa,w,k])
def yj (s3:Bool) (s4:jI):List zc->Nat->Option (Unit⊕Int)
 | [],_i=>some (aT ())
 | e::es,i =>
  (rk e.1 e.2 s3 s4).bind fun r4 =>
  cond r4
  (some (aE (i:Int)))
  (yj s3 s4 es (i+1))
theorem jB (s0:jQ) (s3:Bool) (s4:jI) (hl:af s0<=maxLen):lp xd ze (s0,((af s0:Nat):Int),0,s3,s4)=yj s3 s4 s0 0:=tw xd (fun i=>(s0,((af s0:Nat):Int),i,s3,s4)) (fun es i=>yj s3 s4 es i) hl (fun r i h=>by unfold xd yj; simp only[h,cond_false]) (fun r i e es h g w k=>by unfold xd yj; simp only[h,cond_true,g,aa,w,k])
def qw:List zc->jQ->Option jQ
 | [],s3=>some s3
 | e::es,s3 =>
  (wv s3 e.1 e.2).bind fun r6 =>
  cond (!r6)
  (cond (yp (af s3+af ([(e.1,e.2)]:List zc)) 32)
   (qw es (s3++([(e.1,e.2)]:List zc)))
   (none))
  (qw es s3)
theorem Qk (s0:jQ) (s3:jQ) (hl:af s0<=maxLen):lp ul ze (s0,((af s0:Nat):Int),0,s3)=qw s0 s3:=xR ul (fun i s3=>(s0,((af s0:Nat):Int),i,s3)) (fun es i s3=>qw es s3) hl (fun r i s3 h=>by unfold ul qw; simp only[h,cond_false]) (fun r i s3 e es h g w k=>by unfold ul qw; simp only[h,cond_true,g,aa,w,k]) s3
def zZ (s3:jI):List jI->Nat->Option (Unit⊕Int)
 | [],_i=>some (aT ())
 | e::es,i =>
  (rm e s3).bind fun r4 =>
  cond r4
  (some (aE (i:Int)))
  (zZ s3 es (i+1))
theorem kr (s0:jR) (s3:jI) (hl:af s0<=maxLen):lp ql ze (s0,((af s0:Nat):Int),0,s3)=zZ s3 s0 0:=tw ql (fun i=>(s0,((af s0:Nat):Int),i,s3)) (fun es i=>zZ s3 es i) hl (fun r i h=>by unfold ql zZ; simp only[h,cond_false]) (fun r i e es h g w k=>by unfold ql zZ; simp only[h,cond_true,g,aa,w,k])
def yF (s5:jQ) (s6:jR):List zc->jI->Int->jQ->Option (jI×Int×jQ×jR×jQ)
 | [],s3,s4,s7=>some (s3,s4,s5,s6,s7)
 | e::es,s3,s4,s7 =>
  (y5 e.2 s3 s4).bind fun r20 =>
  cond (yp (af s7+af ([(e.1,r20.1)]:List zc)) 32)
  (yF s5 s6 es r20.2.1 r20.2.2 (s7++([(e.1,r20.1)]:List zc)))
  (none)
theorem YB (s0:jQ) (s5:jQ) (s6:jR) (s3:jI) (s4:Int) (s7:jQ) (hl:af s0<=maxLen):lp wF ze (s0,((af s0:Nat):Int),0,s3,s4,s5,s6,s7)=yF s5 s6 s0 s3 s4 s7:=Hd wF (fun i s3 s4 s7=>(s0,((af s0:Nat):Int),i,s3,s4,s5,s6,s7)) (fun es i s3 s4 s7=>yF s5 s6 es s3 s4 s7) hl (fun r i s3 s4 s7 h=>by unfold wF yF; simp only[h,cond_false]) (fun r i s3 s4 s7 e es h g w k=>by unfold wF yF; simp only[h,cond_true,g,aa,w,k]) s3 s4 s7
def yA (s8:jQ):List jI->jI->Int->jR->Option (jI×Int×jQ×jR)
 | [],s3,s4,s9=>some (s3,s4,s8,s9)
 | e::es,s3,s4,s9 =>
  (y5 e s3 s4).bind fun r13 =>
  cond (yp (af s9+af ([r13.1]:List jI)) 24)
  (yA s8 es r13.2.1 r13.2.2 (s9++([r13.1]:List jI)))
  (none)
theorem ZT (s0:jR) (s5:jQ) (s6:jR) (s7:jQ) (s8:jQ) (s3:jI) (s4:Int) (s9:jR) (hl:af s0<=maxLen):lp wN ze (s0,((af s0:Nat):Int),0,s3,s4,s5,s6,s7,s8,s9)=yA s8 s0 s3 s4 s9:=Hd wN (fun i s3 s4 s9=>(s0,((af s0:Nat):Int),i,s3,s4,s5,s6,s7,s8,s9)) (fun es i s3 s4 s9=>yA s8 es s3 s4 s9) hl (fun r i s3 s4 s9 h=>by unfold wN yA; simp only[h,cond_false]) (fun r i s3 s4 s9 e es h g w k=>by unfold wN yA; simp only[h,cond_true,g,aa,w,k]) s3 s4 s9
def yw:List zc->jI->Int->jQ->Option (jI×Int×jQ)
 | [],s3,s4,s8=>some (s3,s4,s8)
 | e::es,s3,s4,s8 =>
  (y5 e.2 s3 s4).bind fun r6 =>
  cond (yp (af s8+af ([(e.1,r6.1)]:List zc)) 32)
  (yw es r6.2.1 r6.2.2 (s8++([(e.1,r6.1)]:List zc)))
  (none)
theorem Yk (s0:jQ) (s5:jQ) (s6:jR) (s7:jQ) (s3:jI) (s4:Int) (s8:jQ) (hl:af s0<=maxLen):lp wR ze (s0,((af s0:Nat):Int),0,s3,s4,s5,s6,s7,s8)=yw s0 s3 s4 s8:=Hd wR (fun i s3 s4 s8=>(s0,((af s0:Nat):Int),i,s3,s4,s5,s6,s7,s8)) (fun es i s3 s4 s8=>yw es s3 s4 s8) hl (fun r i s3 s4 s8 h=>by unfold wR yw; simp only[h,cond_false]) (fun r i s3 s4 s8 e es h g w k=>by unfold wR yw; simp only[h,cond_true,g,aa,w,k]) s3 s4 s8
def qp (s3:jQ) (s4:jQ):List jI->jR->Option (jQ×jQ×jR)
 | [],s5=>some (s3,s4,s5)
 | e::es,s5 =>
  (xn s5 e).bind fun r8 =>
  cond (!r8)
  (cond (yp (af s5+af ([e]:List jI)) 24)
   (qp s3 s4 es (s5++([e]:List jI)))
   (none))
  (qp s3 s4 es s5)
theorem Qo (s0:jR) (s3:jQ) (s4:jQ) (s5:jR) (hl:af s0<=maxLen):lp ut ze (s0,((af s0:Nat):Int),0,s3,s4,s5)=qp s3 s4 s0 s5:=xR ut (fun i s5=>(s0,((af s0:Nat):Int),i,s3,s4,s5)) (fun es i s5=>qp s3 s4 es s5) hl (fun r i s5 h=>by unfold ut qp; simp only[h,cond_false]) (fun r i s5 e es h g w k=>by unfold ut qp; simp only[h,cond_true,g,aa,w,k]) s5
def qf (s1:jI):List Int->Nat->Option (Unit⊕Bool)
 | [],_i=>some (aT ())
 | e::es,i =>
  (gx s1 (i:Int)).bind fun e4 =>
  cond (e != e4)
  (some (aE false))
  (qf s1 es (i+1))
theorem ZX (s0:jI) (s1:jI) (hl:af s0<=maxLen):lp wJ ze (s0,s1,0)=qf s1 s0 0:=tw wJ (fun i=>(s0,s1,i)) (fun es i=>qf s1 es i) hl (fun r i h=>by unfold wJ qf; simp only[h,cond_false]) (fun r i e es h g w k=>by unfold wJ qf; simp only[h,cond_true,g,aa,w,k])
def qd (s1:jQ):List zc->Nat->Option (Unit⊕Bool)
 | [],_i=>some (aT ())
 | e::es,i =>
  (gx s1 (i:Int)).bind fun e7 =>
  cond (!(e.1==e7.1))
  (some (aE false))
  ((gx s1 (i:Int)).bind fun e9 =>
   (va e.2 e9.2).bind fun r10 =>
   cond (!r10)
   (some (aE false))
   (qd s1 es (i+1)))
theorem Yc (s0:jQ) (s1:jQ) (hl:af s0<=maxLen):lp wW ze (s0,s1,0)=qd s1 s0 0:=tw wW (fun i=>(s0,s1,i)) (fun es i=>qd s1 es i) hl (fun r i h=>by unfold wW qd; simp only[h,cond_false]) (fun r i e es h g w k=>by unfold wW qd; simp only[h,cond_true,g,aa,w,k])
def qc (s1:jR):List jI->Nat->Option (Unit⊕Bool)
 | [],_i=>some (aT ())
 | e::es,i =>
  (gx s1 (i:Int)).bind fun e5 =>
  (va e e5).bind fun r6 =>
  cond (!r6)
  (some (aE false))
  (qc s1 es (i+1))
theorem Yi (s0:jR) (s1:jR) (hl:af s0<=maxLen):lp wI ze (s0,s1,0)=qc s1 s0 0:=tw wI (fun i=>(s0,s1,i)) (fun es i=>qc s1 es i) hl (fun r i h=>by unfold wI qc; simp only[h,cond_false]) (fun r i e es h g w k=>by unfold wI qc; simp only[h,cond_true,g,aa,w,k])
def WC (n:Int):Bool:=decide (97<=n)&&decide (n<=122)
theorem kn (n:Int):kD n=some (WC n):=by
 unfold kD WC;by_cases h:n≥97<;>simp [h]
def Fn (e:UInt8):Bool:=WC ((bE e:Nat):Int)||(decide (48<=((bE e:Nat):Int))&&decide (((bE e:Nat):Int)<=57))
theorem Dm (es:List UInt8):yf es=some (cond (es.all Fn) (.inl ()) (.inr false)):=by
 induction es with
 | nil=>rfl
 | cons e es ih =>
  unfold yf;rw[kn,aa,ih,b9];unfold Fn;cases h:WC ((bE e:Nat):Int) with
  | true=>simp
  | false =>
   by_cases h1:((bE e:Nat):Int)<48
   ·have:¬(48<=((bE e:Nat):Int)):=by omega
    simp only[bu,cond_true,decide_eq_true h1,decide_eq_false this,bj,ex,cond_false]
   ·have h3:48<=((bE e:Nat):Int):=by omega
    by_cases h2:((bE e:Nat):Int)>57
    ·have:¬(((bE e:Nat):Int)<=57):=by omega
     simp only[bu,cond_true,decide_eq_false h1,decide_eq_true h2,decide_eq_false this,cz,bj,ex,cond_false]
    ·have h4:((bE e:Nat):Int)<=57:=by omega
     simp only[bu,cond_true,decide_eq_false h1,decide_eq_false h2,decide_eq_true h3,decide_eq_true h4,d0,aN,Bool.or_true,cond_false]
def Y6 (s:Str):Bool:=match s with
 | []=>false
 | c::_=>decide (s.length<=8)&&WC ((bE c:Nat):Int)&&s.all Fn
theorem J4 (s:Str):YF s=some (Y6 s):=by
 unfold YF Y6;cases s with
 | nil=>rfl
 | cons c r =>
  rw[show ((c::r:Str)==([]:Str))=false from rfl,cond_false]
  by_cases h:(c::r).length<=8
  ·have h1:¬(((af (c::r):Nat):Int)>8):=by omega
   rw[decide_eq_false h1,cond_false,yc,aB,aa,kn,aa,Qt _ (by unfold maxLen; omega),Dm,decide_eq_true h]
   dsimp only;cases WC ((bE c:Nat):Int) with
   | false=>rfl
   | true=>cases (c::r).all Fn<;>rfl
  ·have h1:((af (c::r):Nat):Int)>8:=by omega
   rw[decide_eq_true h1,decide_eq_false h];rfl
def LT (e:zg):Bool:=Y6 e.1&&decide (0<=e.2.1)&&decide (e.2.1<=2)&&decide (0<=e.2.2.1)&&decide (e.2.2.1<=3)&&decide (1<=e.2.2.2)&&decide (e.2.2.2<=20)
theorem JX (e:zg):jo e.1 e.2.1 e.2.2.1 e.2.2.2=some (LT e):=by
 unfold jo LT;rw[J4,aa];cases Y6 e.1<;>simp only[cond_true,cond_false,aN,bj,ge_iff_le]
 cases decide (0<=e.2.1)<;>simp only[cond_true,cond_false,aN,bj]
 cases decide (e.2.1<=2)<;>simp only[cond_true,cond_false,aN,bj]
 cases decide (0<=e.2.2.1)<;>simp only[cond_true,cond_false,aN,bj]
 cases decide (e.2.2.1<=3)<;>simp only[cond_true,cond_false,aN,bj]
 cases decide (1<=e.2.2.2)<;>simp only[cond_true,cond_false,aN,bj]
def Ra (o:Option Nat):Int:=match o with
 | some i=>(i:Int)
 | none => -1
theorem Pp (nm:Str) (es:List zg) (i:Nat):qG nm es i=some (match es.findIdx? (fun e=>e.1==nm) with
  | some j=>.inr ((i+j:Nat):Int)
  | none=>.inl ()):=by
 induction es generalizing i with
 | nil=>rfl
 | cons e es ih =>
  unfold qG;rw[List.findIdx?_cons];cases h:(e.1==nm) with
  | true=>simp
  | false =>
   rw[cond_false,ih];cases es.findIdx? (fun e=>e.1==nm) with
   | none=>rfl
   | some j=>simp; omega
theorem Dn (a0:List zg) (nm:Str) (h:a0.length<=maxLen):QT a0 nm=some (Ra (a0.findIdx? (fun e=>e.1==nm))):=by
 unfold QT;rw[Xx _ _ h,Pp];cases a0.findIdx? (fun e=>e.1==nm) with
 | none=>rfl
 | some j=>simp [zR,Ra]
def Vj (a0:List zg):List zg->Nat->Bool
 | [],_=>true
 | e::es,i=>LT e&&(Ra (a0.findIdx? (fun d=>d.1==e.1))==(i:Int))&&Vj a0 es (i+1)
theorem zcs (a0:List zg) (h:a0.length<=maxLen) (es:List zg) (i:Nat):um a0 es i=some (cond (Vj a0 es i) (.inl ()) (.inr false)):=by
 induction es generalizing i with
 | nil=>rfl
 | cons e es ih =>
  unfold um Vj;rw[JX,aa,Dn _ _ h,aa,ih,bne];cases LT e with
  | false=>rfl
  | true =>
   cases (Ra (a0.findIdx? (fun d=>d.1==e.1))==(i:Int)) with
   | false=>rfl
   | true=>simp
def Cc:zg:=([61],0,2,1)
def eqQ (e:zg):Bool:=cond (eqS e.1 [61]) (cond (eqI e.2.1 0) (cond (eqI e.2.2.1 2) (cond (eqI e.2.2.2 1) true false) false) false) false
theorem zaY (e:zg):eqQ e=true↔e=Cc:=by
 obtain⟨a,b,c,d⟩:=e;unfold eqQ Cc eqS eqI;cases h1:(a==([61]:List UInt8))<;>cases h2:(b==0)<;>cases h3:(c==2)<;>cases h4:(d==1)<;>simp_all
def uP (a0:List zg):Bool:=match a0 with
 | []=>false
 | e::es=>decide (a0.length<=20)&&eqQ e&&Vj a0 es 1
theorem YG (a0:List zg):YH a0=some (uP a0):=by
 unfold YH uP;cases a0 with
 | nil=>rfl
 | cons e es =>
  rw[decide_eq_false (show ¬(((af (e::es):Nat):Int)<1) by rw[ak]; omega),cond_false]
  by_cases h:(e::es).length<=20
  ·have h1:¬(((af (e::es):Nat):Int)>20):=by omega
   have hm:(e::es).length<=maxLen:=by unfold maxLen; omega
   rw[decide_eq_false h1,cond_false,yc,aB,aa,decide_eq_true h];show cond (!(eqQ e)) _ _=some (true&&eqQ e&&Vj (e::es) es 1);cases eqQ e with
   | false=>rfl
   | true =>
    have:=Vp (e::es) hm es 1 ze rfl (by simp [ze]; simp at h; omega)
    simp only[ay,cond_false];rw[show ((1:Int))=((1:Nat):Int) from rfl,this,zcs _ hm]
    cases Vj (e::es) es 1<;>rfl
  ·have h1:((af (e::es):Nat):Int)>20:=by omega
   rw[decide_eq_true h1,decide_eq_false h];rfl
theorem EY {a0:List zg}:{es:List zg}->{i:Nat}->Vj a0 es i=true->∀(j:Nat) e,es[j]? = some e->LT e=true∧Ra (a0.findIdx? (fun d=>d.1==e.1))=((i+j:Nat):Int)
 | [],_,_,j,e,he=>by simp at he
 | d::es,i,h,0,e,he=>by
  injection he with he; subst he;simp only[Vj,ax] at h;exact ⟨h.1.1,by simpa using h.1.2⟩
 | d::es,i,h,j+1,e,he=>by
  simp only[Vj,ax] at h;have:=EY h.2 j e (by simpa using he)
  exact ⟨this.1,by rw[this.2]; omega⟩
structure SignOk (a0:List zg):Prop where
 pos:1<=a0.length
 len:a0.length<=20
 eq:a0[0]? = some Cc
 sym:∀(i:Nat) e,a0[i+1]? = some e->LT e=true∧Ra (a0.findIdx? (fun d=>d.1==e.1))=((i+1:Nat):Int)
theorem xS {a0:List zg} (h:uP a0=true):SignOk a0:=by
 unfold uP at h;cases a0 with
 | nil=>cases h
 | cons e es =>
  simp only[ax,decide_eq_true_eq] at h;exact ⟨by simp,h.1.1,by rw[aB,(zaY e).1 h.1.2],fun i d hd=>by
   have:=EY h.2 i d (by simpa using hd)
   exact ⟨this.1,by rw[this.2]; omega⟩⟩
theorem SignOk.max {a0:List zg} (h:SignOk a0):a0.length<=maxLen:=Nat.le_trans h.len (by unfold maxLen; omega)
theorem O8 {e:zg} (h:LT e=true):Y6 e.1=true∧0<=e.2.1∧e.2.1<=2∧0<=e.2.2.1∧e.2.2.1<=3∧1<=e.2.2.2∧e.2.2.2<=20:=by
 unfold LT at h;simp only[ax,decide_eq_true_eq] at h;exact ⟨h.1.1.1.1.1.1,h.1.1.1.1.1.2,h.1.1.1.1.2,h.1.1.1.2,h.1.1.2,h.1.2,h.2⟩
theorem AX {s:Str} (h:Y6 s=true):1<=s.length∧s.length<=8:=by
 unfold Y6 at h;cases s with
 | nil=>cases h
 | cons c r =>
  simp only[ax,decide_eq_true_eq] at h;exact ⟨by simp,h.1.1⟩
theorem SignOk.at {a0:List zg} (h:SignOk a0) {i:Nat} {e:zg} (he:a0[i]? = some e):1<=e.1.length∧e.1.length<=8∧0<=e.2.1∧e.2.1<=2∧0<=e.2.2.1∧e.2.2.1<=3:=by
 cases i with
 | zero =>
  rw[h.eq] at he;injection he with he; subst he;decide
 | succ i =>
  obtain⟨h1,h2,h3,h4,h5,_⟩:=O8 (h.sym i e he).1;have:=AX h1;exact ⟨this.1,this.2,h2,h3,h4,h5⟩
def uX (a0:List zg) (x:Int):Option Nat :=
 cond (decide (x<0)) (cond (decide (-24<=x)) (some 0) none) (match a0[x.toNat]? with
  | some e=>cond (e.2.1==0) none (some e.2.2.1.toNat)
  | none=>none)
def nOk (o:Option Nat):Int×Bool:=match o with
 | some k=>((k:Int),true)
 | none=>(0,false)
theorem qA {x:Int} (h1 : -9223372036854775808<=x) (h2:x<=9223372036854775807):zP x=some (-1 - x):=by
 unfold zP;rw[zp]<;>omega
theorem VL {a0:List zg} (h:SignOk a0) (x:Int):Qp a0 x=some (nOk (uX a0 x)):=by
 unfold Qp uX;by_cases h0:x<0
 ·rw[decide_eq_true h0,cond_true,cond_true,qA (by omega) (by omega),aa]
  by_cases h1 : -24<=x
  ·rw[decide_eq_true h1,decide_eq_true (show x ≥ -1 - 23 by omega)]; rfl
  ·rw[decide_eq_false h1,decide_eq_false (show ¬(x ≥ -1 - 23) by omega)]; rfl
 ·rw[decide_eq_false h0,cond_false,cond_false];by_cases h1:x≥((af a0:Nat):Int)
  ·rw[decide_eq_true h1,cond_true,aR (by omega)]; rfl
  ·obtain⟨e,he1,he2,he3⟩:=JZ (xs:=a0) (i:=x) (by omega) (by omega)
   have:=h.at he3;rw[decide_eq_false h1,cond_false,he1,aa,he3];cases he:(e.2.1==0) with
   | true=>simp only[he,cond_true]; rfl
   | false =>
    simp only[he,cond_false,aa];unfold nOk;simp only[aq,aL,and_true];omega
theorem IG {a0:List zg} (h:SignOk a0) {x:Int} {k:Nat} (hk:uX a0 x=some k):k<=3:=by
 unfold uX at hk;by_cases h0:x<0
 ·rw[decide_eq_true h0,cond_true] at hk;by_cases h1 : -24<=x
  ·rw[decide_eq_true h1] at hk; injection hk with hk; omega
  ·rw[decide_eq_false h1] at hk; cases hk
 ·rw[decide_eq_false h0,cond_false] at hk;cases he:a0[x.toNat]? with
  | none=>rw[he] at hk; cases hk
  | some e =>
   rw[he] at hk;have:=h.at he;simp only at hk;cases hz:(e.2.1==0) with
   | true=>rw[hz] at hk; cases hk
   | false=>rw[hz] at hk; injection hk with hk; omega
def sk (a0:List zg):Nat->List Int->Option Nat
 | 0,_=>some 0
 | _+1,[]=>none
 | n+1,x::xs=>match uX a0 x with
  | none=>none
  | some k=>(sk a0 (n+k) xs).map (· + 1)
theorem K4 {a0:List zg}:{xs:List Int}->{n k:Nat}->sk a0 n xs=some k->k<=xs.length∧(0<n->0<k)∧n<=k
 | [],0,k,h=>by simp [sk] at h; omega
 | [],n+1,k,h=>by simp [sk] at h
 | x::xs,0,k,h=>by simp [sk] at h; omega
 | x::xs,n+1,k,h=>by
  unfold sk at h;cases ha:uX a0 x with
  | none=>rw[ha] at h; cases h
  | some m =>
   rw[ha] at h;simp only[bv] at h;obtain⟨j,hj,rfl⟩:=h;have:=K4 hj;rw[ak];omega
theorem FU {a0:List zg} (h:SignOk a0) (a1:List Int) (hl:a1.length<=1099511627776):∀(m i n:Nat) (k:Nat),a1.length - i=m->0<n->n<=1+3*i->m<k ->
  lp uN k (a0,a1,(i:Int),(n:Int))=some (match sk a0 n (a1.drop i) with
   | some j=>(((i+j:Nat):Int),true)
   | none=>(0,false)):=by
 intro m
 induction m with
 | zero =>
  intro i n k hm hn hni hk;obtain⟨k,rfl⟩:∃ k',k=k'+1:=⟨k - 1,by omega⟩
  rw[zu];generalize lp uN k=rec;unfold uN;simp only[decide_eq_true (show ((i:Int)≥((af a1:Nat):Int)) by omega),cond_true,cN.2 (show a1.length<=i by omega)]
  obtain⟨n,rfl⟩:∃ n',n=n'+1:=⟨n - 1,by omega⟩
  rfl
 | succ m ih =>
  intro i n k hm hn hni hk;obtain⟨k,rfl⟩:∃ k',k=k'+1:=⟨k - 1,by omega⟩
  have hi:i<a1.length:=by omega
  rw[zu];have key:=fun n' h1 h2=>ih (i+1) n' k (by omega) h1 h2 (by omega)
  generalize lp uN k=rec at key ⊢;unfold uN;obtain⟨n,rfl⟩:∃ n',n=n'+1:=⟨n - 1,by omega⟩
  simp only[decide_eq_false (show ¬((i:Int)≥((af a1:Nat):Int)) by omega),cond_false,yH,al hi,aa,VL h,aX hi,sk]
  cases ha:uX a0 a1[i] with
  | none=>simp [nOk]
  | some q =>
   have hq:=IG h ha;have e1:ag .i64 ((q:Int) - 1)=(q:Int) - 1:=zp (by omega) (by omega)
   have e2:ag .i64 (((n+1:Nat):Int)+((q:Int) - 1))=((n+q:Nat):Int):=by rw[zp]<;>omega
   have e3:ag .i64 ((i:Int)+1)=((i+1:Nat):Int):=by rw[zp]<;>omega
   simp only[nOk,ay,cond_false,e1,e2,e3];by_cases hp:0<n+q
   ·rw[decide_eq_true (show ((n+q:Nat):Int)>0 by omega),cond_true,key _ hp (by omega)]
    cases sk a0 (n+q) (a1.drop (i+1)) with
    | none=>rfl
    | some j=>simp only[bx]; rw[show i+1+j=i+(j+1) from by omega]
   ·rw[decide_eq_false (show ¬(((n+q:Nat):Int)>0) by omega),cond_false]
    have:n+q=0:=by omega
    rw[this];simp [sk]
theorem jJ {a0:List zg} (h:SignOk a0) (a1:List Int) (hl:a1.length<=1099511627776) (i:Nat):wu a0 a1 (i:Int)=some (match sk a0 1 (a1.drop i) with
   | some j=>(((i+j:Nat):Int),true)
   | none=>(0,false)):=by
 unfold wu;by_cases hi:i<a1.length
 ·simp only[decide_eq_false (show ¬((i:Int)≥((af a1:Nat):Int)) by omega),cond_false,yH,al hi,aa,VL h,aX hi,sk]
  cases ha:uX a0 a1[i] with
  | none=>simp [nOk]
  | some q =>
   have hq:=IG h ha;have e1:ag .i64 ((q:Int) - 1)=(q:Int) - 1:=zp (by omega) (by omega)
   have e2:ag .i64 (1+((q:Int) - 1))=((q:Nat):Int):=by rw[zp]<;>omega
   have e3:ag .i64 ((i:Int)+1)=((i+1:Nat):Int):=by rw[zp]<;>omega
   simp only[nOk,ay,cond_false,e1,e2,e3];by_cases hp:0<q
   ·rw[decide_eq_true (show (q:Int)>0 by omega),cond_true,FU h a1 hl (a1.length - (i+1)) (i+1) q ze rfl hp (by omega) (by unfold ze; omega),aQ]
    cases sk a0 q (a1.drop (i+1)) with
    | none=>rfl
    | some j=>simp only[bx,aa]; rw[show i+1+j=i+(j+1) from by omega]
   ·rw[decide_eq_false (show ¬((q:Int)>0) by omega),cond_false]
    have:q=0:=by omega
    subst this;simp [sk]
 ·simp only[decide_eq_true (show ((i:Int)≥((af a1:Nat):Int)) by omega),cond_true,cN.2 (show a1.length<=i by omega)]
  rfl
def CI (a0:List zg):Nat->List Int->Option jR
 | _,[]=>some []
 | 0,_::_=>none
 | n+1,x::xs=>match sk a0 1 (x::xs) with
  | none=>none
  | some k=>(CI a0 n ((x::xs).drop k)).map ((x::xs).take k :: ·)
def VP (a0:List zg) (xs:List Int):Option jR:=CI a0 xs.length xs
theorem GP {a0:List zg}:{n m:Nat}->{xs:List Int}->xs.length<=n->n<=m->CI a0 m xs=CI a0 n xs
 | n,m,[],_,_=>by cases n<;>cases m<;>rfl
 | 0,_,_::_,h,_=>by simp at h
 | n+1,0,_::_,_,h=>by omega
 | n+1,m+1,x::xs,h,hm=>by
  unfold CI;cases hk:sk a0 1 (x::xs) with
  | none=>rfl
  | some k =>
   have:=K4 hk;simp only;rw[GP (n:=n) (m:=m) (by simp at h ⊢; omega) (by omega)]
theorem V9 (a0:List zg):VP a0 []=some []:=rfl
theorem rB {a0:List zg} {xs:List Int} (h:xs≠[]):VP a0 xs=match sk a0 1 xs with
  | none=>none
  | some k=>(VP a0 (xs.drop k)).map (xs.take k :: ·):=by
 cases xs with
 | nil=>exact absurd rfl h
 | cons x xs =>
  show CI a0 (xs.length+1) (x::xs)=_;unfold CI;cases hk:sk a0 1 (x::xs) with
  | none=>rfl
  | some k =>
   have:=K4 hk;simp only;unfold VP;rw[GP (n:=((x::xs).drop k).length) (m:=xs.length) (aF _) (by simp; omega)]
theorem O2 {a0:List zg}:{xs:List Int}->{n k:Nat}->sk a0 n xs=some k->sk a0 n (xs.take k)=some k
 | [],0,k,h=>by simp [sk] at h; subst h; rfl
 | [],n+1,k,h=>by simp [sk] at h
 | x::xs,0,k,h=>by simp [sk] at h; subst h; rfl
 | x::xs,n+1,k,h=>by
  unfold sk at h;cases ha:uX a0 x with
  | none=>rw[ha] at h; cases h
  | some m =>
   rw[ha] at h;simp only[bv] at h;obtain⟨j,hj,rfl⟩:=h;rw[eI];unfold sk;rw[ha];simp only[O2 hj,bx]
theorem Qm {a0:List zg}:∀(n:Nat) (xs:List Int) (ps:List jI),xs.length<=n->VP a0 xs=some ps->ps.flatten=xs∧∀ p∈ps,p≠[]∧sk a0 1 p=some p.length:=by
 intro n
 induction n with
 | zero =>
  intro xs ps h hc;obtain rfl:xs=[]:=cj.1 (by omega)
  injection hc with hc; subst hc;exact ⟨rfl,fun p hp=>by cases hp⟩
 | succ n ih =>
  intro xs ps h hc;by_cases hx:xs=[]
  ·subst hx;injection hc with hc; subst hc;exact ⟨rfl,fun p hp=>by cases hp⟩
  ·rw[rB hx] at hc;cases hk:sk a0 1 xs with
   | none=>rw[hk] at hc; cases hc
   | some k =>
    rw[hk] at hc;simp only[bv] at hc;obtain⟨qs,hq,rfl⟩:=hc;have hle:=K4 hk;obtain⟨h1,h2⟩:=ih _ qs (by simp; omega) hq
    refine ⟨by rw[eW,h1,List.take_append_drop],fun p hp => ?_⟩
    rcases aD.1 hp with rfl | hp
    ·have hl:(xs.take k).length=k:=by simp; omega
     exact ⟨fun e=>by rw[e] at hl; simp at hl; omega,by rw[hl]; exact O2 hk⟩
    ·exact h2 p hp
def jK:Nat->List jI->List Int
 | _,[]=>[]
 | i,p::ps=>(i:Int)::jK (i+p.length) ps
theorem QF:(i:Nat)->(ps:List jI)->(jK i ps).length=ps.length
 | _,[]=>rfl
 | i,p::ps=>by simp [jK,QF (i+p.length) ps]
theorem zk {n b:Nat} (h:n*b<=140737488351232):yp n b=true:=by simpa[yp] using h
theorem Du {a0:List zg} (h:SignOk a0) (a1:List Int) (hl:a1.length<=1099511627776):∀(m i:Nat) (acc:List Int) (k:Nat),a1.length - i=m->i<=a1.length->acc.length<=i->m<k ->
  lp tl k (a0,a1,(i:Int),acc)=some (match VP a0 (a1.drop i) with
   | some ps=>(true,acc++jK i ps)
   | none=>(false,[])):=by
 intro m
 induction m using cQ with
 | _ m ih =>
  intro i acc k hm hi hacc hk;obtain⟨k,rfl⟩:∃ k',k=k'+1:=⟨k - 1,by omega⟩
  rw[zu];have key:=fun j acc' (h1:i<j) h2 h3=>ih (a1.length - j) (by omega) j acc' k rfl h2 h3 (by omega)
  generalize lp tl k=rec at key ⊢;unfold tl;by_cases he:i=a1.length
  ·subst he;simp [V9,jK]
  ·have hlt:i<a1.length:=by omega
   have hne:a1.drop i≠[]:=by simp; omega
   simp only[show (((i:Int))==((af a1:Nat):Int))=false from by simp; omega,cond_false,jJ h a1 hl,aa,rB hne]
   cases hs:sk a0 1 (a1.drop i) with
   | none=>rfl
   | some j =>
    have hj:=K4 hs;rw[bz] at hj;simp only[ay,cond_false,aV,zk (show (acc.length+1)*8<=140737488351232 by omega),cond_true]
    rw[key (i+j) _ (by omega) (by omega) (by simp; omega),cp]
    cases VP a0 (a1.drop (i+j)) with
    | none=>rfl
    | some ps =>
     simp only[bx,jK];rw[List.length_take,bz,dH (by omega)]
     simp
def vW (a0:List zg) (a1:List Int):Option jR:=cond (uP a0&&decide (a1.length<=48)) (VP a0 a1) none
theorem ru (a0:List zg) (a1:List Int):re a0 a1=some (match vW a0 a1 with
  | some ps=>(true,jK 0 ps)
  | none=>(false,[])):=by
 unfold re vW;rw[YG,aa];cases hs:uP a0 with
 | false=>rfl
 | true =>
  have h:=xS hs;by_cases hl:a1.length<=48
  ·simp only[ay,cond_false,decide_eq_false (show ¬(((af a1:Nat):Int)>48) by omega),decide_eq_true hl,d0,cond_true]
   by_cases h0:a1=[]
   ·subst h0; rfl
   ·have hpos:0<a1.length:=eH.2 h0;simp only[show ((0:Int)==((af a1:Nat):Int))=false from by simp; omega,cond_false]
    have e:=jJ h a1 (by omega) 0
    rw[show ((0:Nat):Int)=0 from rfl] at e
    rw[e,aa,bM,rB h0];cases hk:sk a0 1 a1 with
    | none=>rfl
    | some j =>
     have hj:=K4 hk;simp only[ay,cond_false,aQ,aV,zk (show 1*8<=140737488351232 by omega),cond_true]
     rw[Du h a1 (by omega) (a1.length - j) j [0] ze rfl (by omega) (by simp; omega) (by unfold ze; omega)]
     cases VP a0 (a1.drop j) with
     | none=>rfl
     | some ps=>simp [jK,dH hj.1]
  ·simp only[ay,cond_false,decide_eq_true (show (((af a1:Nat):Int)>48) by omega),decide_eq_false hl,cz,cond_true]
def qN (a0:List zg) (xs:List Int):Bool:=match xs with
 | []=>false
 | x::r=>decide (0<=x)&&(match a0[x.toNat]? with
  | none=>false
  | some e=>(e.2.1==0)&&(match vW a0 r with
   | none=>false
   | some ps=>((ps.length:Nat):Int)==e.2.2.1))
theorem wB {α:Type} (x:α) (r:List α):vM (x::r) (some 1) none=some r:=by
 show slc (x::r) 1 ((x::r).length:Int)=some r;unfold slc;simp only[ak];rw[decide_eq_true (show (0:Int)<=1 by omega),decide_eq_true (show (1:Int)<=((r.length+1:Nat):Int) by omega),decide_eq_true (show ((r.length+1:Nat):Int)<=((r.length+1:Nat):Int) by omega)]
 simp
theorem uB (a0:List zg) (xs:List Int):v5 a0 xs=some (qN a0 xs):=by
 unfold v5 qN;cases xs with
 | nil=>rfl
 | cons x r =>
  simp only[show ((((x::r).length:Nat):Int)==0)=false from by simp; omega,cond_false,yc,aB,aa]
  by_cases h0:x<0
  ·rw[decide_eq_true h0,decide_eq_false (show ¬(0<=x) by omega)]; rfl
  ·rw[decide_eq_false h0,decide_eq_true (show 0<=x by omega),cond_false,aN]
   by_cases h1:x≥((af a0:Nat):Int)
   ·rw[decide_eq_true h1,aR (by omega)]; rfl
   ·obtain⟨e,he1,he2,he3⟩:=JZ (xs:=a0) (i:=x) (by omega) (by omega)
    simp only[decide_eq_false h1,cond_false,he1,he3,aa,bne];cases hk:(e.2.1==0) with
    | false=>rfl
    | true =>
     simp only[ay,cond_false,wB,aa,ru,aN];cases vW a0 r with
     | none=>rfl
     | some ps=>simp [QF]
def zi (xs:List jI):Nat:=(xs.map af).sum
def sN (a0:List zg) (ls:List zc):Bool:=ls.all fun l=>qN a0 l.2
theorem Qx {a0:List zg} {xs:List Int} (h:qN a0 xs=true):xs.length<=49:=by
 unfold qN at h;cases xs with
 | nil=>cases h
 | cons x r =>
  simp only[ax] at h;cases he:a0[x.toNat]? with
  | none=>rw[he] at h; simp at h
  | some e =>
   rw[he] at h;simp only[ax] at h;cases hb:vW a0 r with
   | none=>rw[hb] at h; simp at h
   | some ps =>
    unfold vW at hb;cases hl:decide (r.length<=48) with
    | false=>rw[hl,cz] at hb; cases hb
    | true=>rw[decide_eq_true_eq] at hl; simp; omega
theorem Pb (a0:List zg):(es:List zc)->(t:Nat)->t+49*es.length<=1099511627776->yi a0 es (t:Int)=some (cond (sN a0 es) (.inl ((t+zi (es.map (·.2)):Nat):Int)) (.inr (0,false)))
 | [],t,_=>by simp [yi,sN,zi]
 | e::es,t,h=>by
  unfold yi sY sN;rw[uB,aa,aa,b9];cases ha:qN a0 e.2 with
  | false=>rfl
  | true =>
   have hl:=Qx ha;rw[ak] at h;have e1:ag .i64 ((t:Int)+((af e.2:Nat):Int))=((t+e.2.length:Nat):Int):=by rw[zp]<;>omega
   rw[e1];have:=Pb a0 es (t+e.2.length) (by omega)
   unfold sN at this;simp only[ay,cond_false,aN,this];rw[show t+e.2.length+zi (es.map (·.2))=t+zi ((e::es).map (·.2)) from by simp [zi]; omega]
theorem Zn (a0:List zg) (ls:List zc) (h:ls.length<=1000000000):tf a0 ls=some (cond (sN a0 ls) (((zi (ls.map (·.2)):Nat):Int),true) (0,false)):=by
 unfold tf;rw[Zt _ _ _ (by unfold maxLen; omega),show ((0:Int))=((0:Nat):Int) from rfl,Pb a0 ls 0 (by omega)]
 cases sN a0 ls with
 | false=>rfl
 | true=>simp [zR]
def Y0 (a0:List zg) (xs:List Int):Option Nat:=(vW a0 xs).map af
theorem ZV (a0:List zg) (xs:List Int):ZO a0 xs=some (match Y0 a0 xs with
  | some n=>((n:Int),0)
  | none=>(0,200)):=by
 unfold ZO Y0;rw[ru,aa];cases vW a0 xs with
 | none=>rfl
 | some ps=>simp [QF]
theorem Wy {a0:List zg} {xs:List Int} {n:Nat} (h:Y0 a0 xs=some n):xs.length<=48:=by
 unfold Y0 vW at h;cases hl:decide (xs.length<=48) with
 | false=>rw[hl,cz] at h; cases h
 | true=>rw[decide_eq_true_eq] at hl; exact hl
def ZZ (a0:List zg) (rs:List jI):Bool:=match rs with
 | []=>true
 | r::rs=>match Y0 a0 r with
  | none=>false
  | some n=>rs.all fun q=>Y0 a0 q==some n
theorem Mc (a0:List zg) (w:Nat):(es:List jI)->(i t:Nat)->t+49*es.length<=1099511627776->zK a0 es (i+1) (t:Int) (w:Int)=some (cond (es.all fun q=>Y0 a0 q==some w) (.inl ((t+zi es:Nat):Int)) (.inr (0,false)))
 | [],i,t,_=>by simp [zK,zi]
 | e::es,i,t,h=>by
  unfold zK;rw[ZV,aa,b9];rw[show ((((i+1:Nat):Int))==0)=false from by simp; omega,cond_false]
  cases hr:Y0 a0 e with
  | none=>rfl
  | some n =>
   have hl:=Wy hr;rw[ak] at h;have e1:ag .i64 ((t:Int)+((af e:Nat):Int))=((t+e.length:Nat):Int):=by rw[zp]<;>omega
   have:=Mc a0 w es (i+1) (t+e.length) (by omega)
   simp only[e1,this];by_cases hn:n=w
   ·subst hn;simp [zi,bK]
   ·have h1:((n:Int) != (w:Int))=true:=by simp; omega
    have h2:(some n==some w)=false:=by simpa using hn
    simp [h1,h2]
theorem Vi (a0:List zg) (rs:List jI) (h:rs.length<=1000000000):rj a0 rs=some (cond (ZZ a0 rs) (((zi rs:Nat):Int),true) (0,false)):=by
 unfold rj;rw[Zz _ _ _ _ (by unfold maxLen; omega)]
 cases rs with
 | nil=>rfl
 | cons r rs =>
  unfold zK ZZ;rw[ZV,aa];rw[show ((((0:Nat):Int))==0)=true from rfl,cond_true]
  dsimp only;cases hr:Y0 a0 r with
  | none=>rfl
  | some n =>
   have hl:=Wy hr;rw[ak] at h;have e1:ag .i64 (0+((af r:Nat):Int))=((r.length:Nat):Int):=by rw[zp]<;>omega
   have:=Mc a0 n rs 0 r.length (by omega)
   simp only[e1,this];cases hb:rs.all fun q=>Y0 a0 q==some n with
   | false=>simp [zR]
   | true=>simp [zR,zi]
def xD (a0:List zg) (a1:List zc) (a2:List jI) (a3:List zc):Bool :=
 uP a0&&decide (a1.length<=5)&&decide (a2.length<=3)&&decide (a3.length<=3)&&sN a0 a1&&ZZ a0 a2&&sN a0 a3&&decide (zi (a1.map (·.2))+zi a2+zi (a3.map (·.2))<=240)
theorem X7 {a0:List zg}:(ls:List zc)->sN a0 ls=true->zi (ls.map (·.2))<=49*ls.length
 | [],_=>by simp [zi]
 | l::ls,h=>by
  unfold sN at h;rw[b9,ax] at h;have h1:=Qx h.1;have h2:=X7 ls h.2;unfold zi at h2 ⊢;simp only[aM,cA,ak];omega
theorem Ep {a0:List zg} (rs:List jI) (h:ZZ a0 rs=true):zi rs<=49*rs.length:=by
 cases rs with
 | nil=>simp [zi]
 | cons r rs =>
  unfold ZZ at h;dsimp only at h;cases hr:Y0 a0 r with
  | none=>rw[hr] at h; cases h
  | some n =>
   rw[hr] at h;have h1:=Wy hr;have h2:∀ qs:List jI,(qs.all fun q=>Y0 a0 q==some n)=true->zi qs<=49*qs.length:=by
    intro qs
    induction qs with
    | nil=>intro _; simp [zi]
    | cons q qs ih =>
     intro hq;rw[b9,ax] at hq;have h3:=ih hq.2;have h4:=Wy (by simpa using hq.1)
     unfold zi at h3 ⊢;simp only[aM,cA,ak];omega
   have h5:=h2 rs h;unfold zi at h5 ⊢;simp only[aM,cA,ak];omega
theorem zD (a0:List zg) (a1:List zc) (a2:List jI) (a3:List zc):yq a0 a1 a2 a3=some (xD a0 a1 a2 a3):=by
 unfold yq xD;rw[YG,aa];cases uP a0 with
 | false=>rfl
 | true =>
  by_cases h1:a1.length<=5
  ·by_cases h2:a2.length<=3
   ·by_cases h3:a3.length<=3
    ·simp only[ay,cond_false,decide_eq_false (show ¬(((af a1:Nat):Int)>5) by omega),decide_eq_false (show ¬(((af a2:Nat):Int)>3) by omega),decide_eq_false (show ¬(((af a3:Nat):Int)>3) by omega),
      decide_eq_true h1,decide_eq_true h2,decide_eq_true h3,Zn a0 a1 (by omega),Vi a0 a2 (by omega),Zn a0 a3 (by omega),aa,aN]
     cases hb1:sN a0 a1 with
     | false=>rfl
     | true =>
      cases hb2:ZZ a0 a2 with
      | false=>rfl
      | true =>
       cases hb3:sN a0 a3 with
       | false=>rfl
       | true =>
        have s1:=X7 a1 hb1;have s2:=Ep a2 hb2;have s3:=X7 a3 hb3;simp only[cond_true,aN];have e1:ag .i64 (((zi (a1.map (·.2)):Nat):Int)+((zi a2:Nat):Int))=((zi (a1.map (·.2))+zi a2:Nat):Int):=by rw[zp]<;>omega
        have e2:ag .i64 (((zi (a1.map (·.2))+zi a2:Nat):Int)+((zi (a3.map (·.2)):Nat):Int))=((zi (a1.map (·.2))+zi a2+zi (a3.map (·.2)):Nat):Int):=by rw[zp]<;>omega
        simp only[e1,e2,aq,decide_eq_decide];omega
    ·simp only[ay,cond_false,decide_eq_false (show ¬(((af a1:Nat):Int)>5) by omega),decide_eq_false (show ¬(((af a2:Nat):Int)>3) by omega),decide_eq_true (show (((af a3:Nat):Int)>3) by omega),decide_eq_false h3,cond_true,cz,bj]
   ·simp only[ay,cond_false,decide_eq_false (show ¬(((af a1:Nat):Int)>5) by omega),decide_eq_true (show (((af a2:Nat):Int)>3) by omega),decide_eq_false h2,cond_true,cz,bj]
  ·simp only[ay,cond_false,decide_eq_true (show (((af a1:Nat):Int)>5) by omega),decide_eq_false h1,cond_true,cz,bj]
theorem TF {a0:List zg}:{xs:List Int}->{n m k:Nat}->sk a0 (n+m) xs=some k->∃ j,sk a0 n xs=some j∧j<=k∧sk a0 m (xs.drop j)=some (k - j)
 | xs,0,m,k,h=>⟨0,by cases xs<;>rfl,bI _,by simpa using h⟩
 | [],n+1,m,k,h=>by rw[show n+1+m=n+m+1 from by omega] at h; simp [sk] at h
 | x::xs,n+1,m,k,h=>by
  rw[show n+1+m=n+m+1 from by omega] at h
  unfold sk at h;cases ha:uX a0 x with
  | none=>rw[ha] at h; cases h
  | some q =>
   rw[ha] at h;simp only[bv] at h;obtain⟨j,hj,rfl⟩:=h;rw[show n+m+q=(n+q)+m from by omega] at hj
   obtain⟨i,h1,h2,h3⟩:=TF hj;refine ⟨i+1,?_,by omega,?_⟩
   ·unfold sk; rw[ha]; simp only[h1,bx]
   ·rw[List.drop_succ_cons,h3]; congr 1; omega
theorem za2 {a0:List zg}:∀(n:Nat) (xs:List Int),sk a0 n xs=some xs.length->∃ ps,VP a0 xs=some ps∧ps.length=n:=by
 intro n
 induction n with
 | zero =>
  intro xs h;have:xs.length=0:=by cases xs<;>simp [sk] at h ⊢
  obtain rfl:=cj.1 this;exact ⟨[],rfl,rfl⟩
 | succ n ih =>
  intro xs h;rw[dg] at h;obtain⟨j,h1,h2,h3⟩:=TF h;have hj:=K4 h1;have hne:xs≠[]:=fun e=>by subst e; simp at hj; omega
  obtain⟨ps,h4,h5⟩:=ih (xs.drop j) (by rw[h3,bz])
  refine ⟨xs.take j::ps,?_,by simp [h5]⟩
  rw[rB hne,h1];dsimp only;rw[h4]; rfl
theorem A7 {a0:List zg} {p:List Int} (h:sk a0 1 p=some p.length):∃ x r q,p=x::r∧uX a0 x=some q∧sk a0 q r=some r.length:=by
 cases p with
 | nil=>simp [sk] at h
 | cons x r =>
  unfold sk at h;cases ha:uX a0 x with
  | none=>rw[ha] at h; cases h
  | some q =>
   rw[ha] at h;simp only[bv,aQ] at h;obtain⟨j,hj,he⟩:=h;rw[ak] at he;exact ⟨x,r,q,rfl,ha,by rw[hj]; congr 1; omega⟩
theorem DY {a0:List zg} (h:SignOk a0) (a1:List Int) (hl:a1.length<=1099511627776):∀(m i:Nat) (acc ps:List jI) (k:Nat),a1.length - i=m->i<=a1.length->acc.length<=i->VP a0 (a1.drop i)=some ps->m<k ->
  lp th k (a0,a1,(i:Int),acc)=some (.inl (acc++ps)):=by
 intro m
 induction m using cQ with
 | _ m ih =>
  intro i acc ps k hm hi hacc hc hk;obtain⟨k,rfl⟩:∃ k',k=k'+1:=⟨k - 1,by omega⟩
  rw[zu];have key:=fun j acc' ps' (h1:i<j) h2 h3 h4=>ih (a1.length - j) (by omega) j acc' ps' k rfl h2 h3 h4 (by omega)
  generalize lp th k=rec at key ⊢;unfold th;by_cases he:i=a1.length
  ·subst he;rw[fc,V9] at hc;injection hc with hc; subst hc;simp
  ·have hlt:i<a1.length:=by omega
   have hne:a1.drop i≠[]:=by simp; omega
   rw[rB hne] at hc;simp only[decide_eq_true (show (i:Int)<((af a1:Nat):Int) by omega),cond_true,jJ h a1 hl,aa]
   cases hs:sk a0 1 (a1.drop i) with
   | none=>rw[hs] at hc; cases hc
   | some j =>
    rw[hs] at hc;simp only[bv] at hc;obtain⟨qs,hq,rfl⟩:=hc;have hj:=K4 hs;rw[bz] at hj;have e1:vM a1 (some (i:Int)) (some ((i+j:Nat):Int))=some ((a1.drop i).take j):=by
     show slc a1 _ _=_;unfold slc;rw[decide_eq_true (show (0:Int)<=(i:Int) by omega),decide_eq_true (show (i:Int)<=((i+j:Nat):Int) by omega),decide_eq_true (show ((i+j:Nat):Int)<=((a1.length:Nat):Int) by omega)]
     simp only[cond_true,bl,aq];rw[eM]; congr 1; omega
    simp only[ay,cond_false,e1,aa,aV,zk (show (acc.length+1)*24<=140737488351232 by omega),cond_true]
    rw[cp] at hq;rw[key (i+j) _ qs (by omega) (by omega) (by simp; omega) hq]
    simp
theorem ur {a0:List zg} (h:SignOk a0) {a1:List Int} (hl:a1.length<=1099511627776) {ps:List jI} (hc:VP a0 a1=some ps):v9 a0 a1=some ps:=by
 unfold v9;have:=DY h a1 hl a1.length 0 [] ps ze rfl (bI _) (bI _) hc (by unfold ze; omega)
 rw[show ((0:Nat):Int)=0 from rfl] at this
 rw[this];rfl
theorem Q7 {a0:List zg} {xs:List Int} {ps:List jI} (h:VP a0 xs=some ps):ps.length<=xs.length:=by
 obtain⟨h1,h2⟩:=Qm xs.length xs ps (aF _) h;have h3:∀ qs:List jI,(∀ p∈qs,p≠[])->qs.length<=qs.flatten.length:=by
  intro qs
  induction qs with
  | nil=>intro _; simp
  | cons q qs ih =>
   intro hq;have:=ih fun p hp=>hq p (by simp [hp])
   have h4:=eH.2 (hq q (by simp))
   simp only[eW,am,ak];omega
 have:=h3 ps fun p hp=>(h2 p hp).1;rw[h1] at this;exact this
theorem BU {a0:List zg} {x:Int} {q:Nat} (h:uX a0 x=some q) (hx:x<0) : -24<=x∧q=0:=by
 unfold uX at h;rw[decide_eq_true hx,cond_true] at h;cases hd:decide (-24<=x) with
 | false=>rw[hd] at h; cases h
 | true=>rw[hd] at h; injection h with h; exact ⟨of_decide_eq_true hd,h.symm⟩
theorem DJ {a0:List zg} {x:Int} {q:Nat} (h:uX a0 x=some q) (hx:¬ x<0):∃ e,gx a0 x=some e∧a0[x.toNat]? = some e∧e.2.1≠0∧q=e.2.2.1.toNat:=by
 unfold uX at h;rw[decide_eq_false hx,cond_false] at h;cases he:a0[x.toNat]? with
 | none=>rw[he] at h; cases h
 | some e =>
  rw[he] at h;have hg:gx a0 x=some e:=by
   unfold gx;rw[decide_eq_true (show 0<=x by omega),cond_true,he]
  dsimp only at h;cases hz:(e.2.1==0) with
  | true=>rw[hz] at h; cases h
  | false=>rw[hz] at h; injection h with h; exact ⟨e,hg,rfl,by simpa using hz,h.symm⟩
theorem Q6 {a0:List zg} {xs:List Int} (h:qN a0 xs=true):∃ x r e ps,xs=x::r∧0<=x∧a0[x.toNat]? = some e∧gx a0 x=some e∧e.2.1=0∧uP a0=true∧r.length<=48∧VP a0 r=some ps∧((ps.length:Nat):Int)=e.2.2.1:=by
 unfold qN at h;cases xs with
 | nil=>cases h
 | cons x r =>
  simp only[ax,decide_eq_true_eq] at h;obtain⟨h0,h⟩:=h;cases he:a0[x.toNat]? with
  | none=>rw[he] at h; cases h
  | some e =>
   rw[he] at h;simp only[ax] at h;obtain⟨h1,h⟩:=h;cases hb:vW a0 r with
   | none=>rw[hb] at h; cases h
   | some ps =>
    rw[hb] at h;unfold vW at hb;cases hs:uP a0 with
    | false=>rw[hs] at hb; cases hb
    | true =>
     cases hl:decide (r.length<=48) with
     | false=>rw[hs,hl] at hb; cases hb
     | true =>
      rw[hs,hl] at hb;refine ⟨x,r,e,ps,rfl,h0,he,?_,by simpa using h1,rfl,of_decide_eq_true hl,hb,by simpa using h⟩
      unfold gx;rw[decide_eq_true h0,cond_true,he]
theorem JM {a0:List zg} {r:List Int} {n:Nat} (h:Y0 a0 r=some n):∃ ps,VP a0 r=some ps∧ps.length=n∧r.length<=48∧uP a0=true:=by
 have hl:=Wy h;unfold Y0 vW at h;cases hs:uP a0 with
 | false=>rw[hs] at h; cases h
 | true =>
  rw[hs,decide_eq_true hl] at h;simp only[d0,cond_true,bv] at h;obtain⟨ps,h1,h2⟩:=h;exact ⟨ps,h1,h2,hl,rfl⟩
theorem WJ {a0:List zg} {rs:List jI} (h:ZZ a0 rs=true):∃ n,∀ r∈rs,Y0 a0 r=some n:=by
 cases rs with
 | nil=>exact ⟨0,fun r hr=>by cases hr⟩
 | cons r rs =>
  unfold ZZ at h;dsimp only at h;cases hr:Y0 a0 r with
  | none=>rw[hr] at h; cases h
  | some n =>
   rw[hr] at h;refine ⟨n,fun q hq => ?_⟩;rcases aD.1 hq with rfl | hq
   ·exact hr
   ·simpa using aC.1 h q hq
theorem zn {a0:List zg} {a1:List zc} {a2:List jI} {a3:List zc} (h:xD a0 a1 a2 a3=true):uP a0=true∧a1.length<=5∧a2.length<=3∧a3.length<=3∧sN a0 a1=true∧ZZ a0 a2=true∧sN a0 a3=true∧zi (a1.map (·.2))+zi a2+zi (a3.map (·.2))<=240:=by
 unfold xD at h;simp only[ax,decide_eq_true_eq] at h;exact ⟨h.1.1.1.1.1.1.1,h.1.1.1.1.1.1.2,h.1.1.1.1.1.2,h.1.1.1.1.2,h.1.1.1.2,h.1.1.2,h.1.2,h.2⟩
theorem Cz {a0:List zg} {a1:List zc} {a2:List jI} {a3:List zc} (h1:uP a0=true) (h2:a1.length<=5) (h3:a2.length<=3) (h4:a3.length<=3) (h5:sN a0 a1=true) (h6:ZZ a0 a2=true) (h7:sN a0 a3=true)
  (h8:zi (a1.map (·.2))+zi a2+zi (a3.map (·.2))<=240):xD a0 a1 a2 a3=true:=by
 unfold xD;simp only[h1,decide_eq_true h2,decide_eq_true h3,decide_eq_true h4,h5,h6,h7,decide_eq_true h8,Bool.and_self]
def bad (t:UInt8):Bool:=t==111||t==114||t==105||t==102||t==38
theorem zcI {α:Type} (s:List α) {i j:Nat} (hij:i<=j) (h:j<=s.length):vM s (some (i:Int)) (some (j:Int))=some ((s.drop i).take (j - i)):=by
 show slc s _ _=_;unfold slc;rw[decide_eq_true (show (0:Int)<=(i:Int) by omega),decide_eq_true (show (i:Int)<=(j:Int) by omega),decide_eq_true (show (j:Int)<=((s.length:Nat):Int) by omega)]
 simp only[cond_true,bl,aq];rw[eM]
def vY (a0:jI):Option jI :=
 cond (yp (af ([]:List Int)+af a0) 8)
 (some (([]:List Int)++a0))
 (none)
def wK (rec:(jQ×Int×jQ)->Option jQ) (x:(jQ×Int×jQ)):Option jQ :=
 cond (decide (x.2.1<((af x.1:Nat):Int)))
 ((gx x.1 x.2.1).bind fun e7 =>
  (gx x.1 x.2.1).bind fun e8 =>
  (vY e8.2).bind fun r9 =>
  cond (yp (af x.2.2+af ([(e7.1,r9)]:List zc)) 32)
  (rec (x.1,(ag .i64 (x.2.1+1)),(x.2.2++([(e7.1,r9)]:List zc))))
  (none))
 (some x.2.2)
def sc (a0:jQ):Option jQ :=
 ((lp wK ze) (a0,0,([]:jQ))).bind fun r11 =>
 some r11
def wH (rec:(jR×Int×jR)->Option jR) (x:(jR×Int×jR)):Option jR :=
 cond (decide (x.2.1<((af x.1:Nat):Int)))
 ((gx x.1 x.2.1).bind fun e5 =>
  (vY e5).bind fun r6 =>
  cond (yp (af x.2.2+af ([r6]:List jI)) 24)
  (rec (x.1,(ag .i64 (x.2.1+1)),(x.2.2++([r6]:List jI))))
  (none))
 (some x.2.2)
def km (a0:jR):Option jR :=
 ((lp wH ze) (a0,0,([]:jR))).bind fun r8 =>
 some r8
def vK (a0:jQ) (a1:jR) (a2:jQ):Option (jQ×jR×jQ) :=
 (sc a0).bind fun r4 =>
 (km a1).bind fun r5 =>
 (sc a2).bind fun r6 =>
 some (r4,r5,r6)
def Xg (a0:Int):Option Bool :=
 cond (decide (a0≥97))
 (some (decide (a0<=122)))
 (some false)
def tj (rec:(Int×Str×Int×Int×Int)->Option (Unit⊕Bool)) (x:(Int×Str×Int×Int×Int)):Option (Unit⊕Bool) :=
 cond (decide (x.1<((af x.2.1:Nat):Int)))
 ((gx x.2.1 x.1).bind fun c7 =>
  (Xg ((bE c7:Nat):Int)).bind fun r8 =>
  cond (!r8)
  ((gx x.2.1 x.1).bind fun c9 =>
   cond (decide (((bE c9:Nat):Int)<48))
   (some (aE false))
   ((gx x.2.1 x.1).bind fun c10 =>
    cond (decide (((bE c10:Nat):Int)>57))
    (some (aE false))
    (rec ((ag .i64 (x.1+1)),x.2.1,x.2.2.1,x.2.2.2.1,x.2.2.2.2))))
  (rec ((ag .i64 (x.1+1)),x.2.1,x.2.2.1,x.2.2.2.1,x.2.2.2.2)))
 (some (aT ()))
def YA (a0:Str) (a1:Int) (a2:Int) (a3:Int):Option Bool :=
 cond (decide (((af a0:Nat):Int)<1))
 (some false)
 (cond (decide (((af a0:Nat):Int)>8))
  (some false)
  ((gx a0 0).bind fun c14 =>
   (Xg ((bE c14:Nat):Int)).bind fun r15 =>
   cond (!r15)
   (some false)
   (((lp tj ze) (0,a0,a1,a2,a3)).bind fun r16 =>
    zR r16
    (fun _z17=>cond (decide (a1≥0))
     (cond (decide (a1<=2))
      (cond (decide (a2≥0))
       (cond (decide (a2<=3))
        (cond (decide (a3≥1))
         (some (decide (a3<=20)))
         (some false))
        (some false))
       (some false))
      (some false))
     (some false))
    (fun z18=>some z18))))
def rW (rec:(jS×Str×Int)->Option (Unit⊕Int)) (x:(jS×Str×Int)):Option (Unit⊕Int) :=
 cond (decide (x.2.2<((af x.1:Nat):Int)))
 ((gx x.1 x.2.2).bind fun e2 =>
  cond (e2.1==x.2.1)
  (some (aE x.2.2))
  (rec (x.1,x.2.1,(ag .i64 (x.2.2+1)))))
 (some (aT ()))
def Wq (a0:jS) (a1:Str):Option Int :=
 ((lp rW ze) (a0,a1,0)).bind fun r6 =>
 zR r6
 (fun _z7=>some (-1))
 (fun z8=>some z8)
def vx (rec:(jS×Int)->Option (Unit⊕Bool)) (x:(jS×Int)):Option (Unit⊕Bool) :=
 cond (decide (x.2<((af x.1:Nat):Int)))
 ((gx x.1 x.2).bind fun e6 =>
  (YA e6.1 e6.2.1 e6.2.2.1 e6.2.2.2).bind fun r7 =>
  cond (!r7)
  (some (aE false))
  ((gx x.1 x.2).bind fun e8 =>
   (Wq x.1 e8.1).bind fun r9 =>
   cond (r9 != x.2)
   (some (aE false))
   (rec (x.1,(ag .i64 (x.2+1))))))
 (some (aT ()))
def jE (a0:jS):Option Bool :=
 cond (decide (((af a0:Nat):Int)<1))
 (some false)
 (cond (decide (((af a0:Nat):Int)>20))
  (some false)
  ((gx a0 0).bind fun e13 =>
   cond (!(cond (eqS e13.1 ([61]:Str)) (cond (eqI e13.2.1 0) (cond (eqI e13.2.2.1 2) (cond (eqI e13.2.2.2 1) true false) false) false) false))
   (some false)
   (((lp vx ze) (a0,1)).bind fun r14 =>
    zR r14
    (fun _z15=>some true)
    (fun z16=>some z16))))
def sQ (rec:(jS×jI×Int×Int)->Option (Int⊕Int)) (x:(jS×jI×Int×Int)):Option (Int⊕Int) :=
 cond (decide (x.2.2.1>0))
 (cond (decide (x.2.2.2≥((af x.2.1:Nat):Int)))
  (some (aE (-1)))
  ((gx x.2.1 x.2.2.2).bind fun e8 =>
   cond (decide (e8<(-24)))
   (some (aE (-1)))
   ((gx x.2.1 x.2.2.2).bind fun e9 =>
    cond (decide (e9≥((af x.1:Nat):Int)))
    (some (aE (-1)))
    ((gx x.2.1 x.2.2.2).bind fun e10 =>
     cond (decide (e10≥0))
     ((gx x.2.1 x.2.2.2).bind fun e11 =>
      (gx x.1 e11).bind fun e12 =>
      cond (e12.2.1==0)
      (some (aE (-1)))
      ((gx x.2.1 x.2.2.2).bind fun e13 =>
       (gx x.1 e13).bind fun e14 =>
       rec (x.1,x.2.1,(ag .i64 ((ag .i64 (x.2.2.1 - 1))+e14.2.2.1)),(ag .i64 (x.2.2.2+1)))))
     (rec (x.1,x.2.1,(ag .i64 (x.2.2.1 - 1)),(ag .i64 (x.2.2.2+1))))))))
 (some (aT x.2.2.2))
def Xd (a0:jS) (a1:jI) (a2:Int):Option Int :=
 ((lp sQ ze) (a0,a1,1,a2)).bind fun r18 =>
 zR r18
 (fun z19=>some z19)
 (fun z20=>some z20)
def kz (rec:(jS×jI×Int×Int)->Option (Int⊕Int)) (x:(jS×jI×Int×Int)):Option (Int⊕Int) :=
 cond (decide (x.2.2.2<((af x.2.1:Nat):Int)))
 ((Xd x.1 x.2.1 x.2.2.2).bind fun r2 =>
  cond (decide (r2<0))
  (some (aE (-1)))
  (rec (x.1,x.2.1,(ag .i64 (x.2.2.1+1)),r2)))
 (some (aT x.2.2.1))
def sO (a0:jS) (a1:jI):Option Int :=
 cond (decide (((af a1:Nat):Int)>48))
 (some (-1))
 (((lp kz ze) (a0,a1,0,0)).bind fun r6 =>
  zR r6
  (fun z7=>some z7)
  (fun z8=>some z8))
def XK (a0:jS) (a1:jI):Option Bool :=
 cond (decide (((af a1:Nat):Int)>0))
 ((gx a1 0).bind fun e9 =>
  cond (decide (e9≥0))
  ((gx a1 0).bind fun e10 =>
   cond (decide (e10<((af a0:Nat):Int)))
   ((gx a1 0).bind fun e11 =>
    (gx a0 e11).bind fun e12 =>
    cond (e12.2.1==0)
    ((vM a1 (some 1) none).bind fun y13 =>
     (sO a0 y13).bind fun r14 =>
     (gx a1 0).bind fun e15 =>
     (gx a0 e15).bind fun e16 =>
     some (r14==e16.2.2.1))
    (some false))
   (some false))
  (some false))
 (some false)
def sJ (a0:jS) (_a1:Bool) (a2:jI):Option Bool :=
 (jE a0).bind fun r3 =>
 cond r3
 ((XK a0 a2).bind fun r4 =>
  some r4)
 (some false)
def rA (rec:(Int×jQ×jR×jQ×jR)->Option jR) (x:(Int×jQ×jR×jQ×jR)):Option jR :=
 cond (decide (x.1<((af x.2.2.2.1:Nat):Int)))
 ((gx x.2.2.2.1 x.1).bind fun e9 =>
  cond (yp (af x.2.2.2.2+af ([e9.2]:List jI)) 24)
  (rec ((ag .i64 (x.1+1)),x.2.1,x.2.2.1,x.2.2.2.1,(x.2.2.2.2++([e9.2]:List jI))))
  (none))
 (some x.2.2.2.2)
def rP (rec:(Int×jQ×jR×jQ×jR)->Option jR) (x:(Int×jQ×jR×jQ×jR)):Option jR :=
 cond (decide (x.1<((af x.2.2.1:Nat):Int)))
 ((gx x.2.2.1 x.1).bind fun e6 =>
  cond (yp (af x.2.2.2.2+af ([e6]:List jI)) 24)
  (rec ((ag .i64 (x.1+1)),x.2.1,x.2.2.1,x.2.2.2.1,(x.2.2.2.2++([e6]:List jI))))
  (none))
 (some x.2.2.2.2)
def rI (rec:(Int×jQ×jR×jQ×jR)->Option jR) (x:(Int×jQ×jR×jQ×jR)):Option jR :=
 cond (decide (x.1<((af x.2.1:Nat):Int)))
 ((gx x.2.1 x.1).bind fun e3 =>
  cond (yp (af x.2.2.2.2+af ([e3.2]:List jI)) 24)
  (rec ((ag .i64 (x.1+1)),x.2.1,x.2.2.1,x.2.2.2.1,(x.2.2.2.2++([e3.2]:List jI))))
  (none))
 (some x.2.2.2.2)
def Qc (a0:jQ) (a1:jR) (a2:jQ):Option jR :=
 ((lp rI ze) (0,a0,a1,a2,([]:jR))).bind fun r11 =>
 ((lp rP ze) (0,a0,a1,a2,r11)).bind fun r12 =>
 ((lp rA ze) (0,a0,a1,a2,r12)).bind fun r13 =>
 some r13
def jq (rec:(jR×Int×Int)->Option Int) (x:(jR×Int×Int)):Option Int :=
 cond (decide (x.2.2<((af x.1:Nat):Int)))
 ((gx x.1 x.2.2).bind fun e26 =>
  rec (x.1,(ag .i64 (x.2.1+((af e26:Nat):Int))),(ag .i64 (x.2.2+1))))
 (some x.2.1)
def jv (rec:(jS×Int×jQ×jR×jQ)->Option (Unit⊕Bool)) (x:(jS×Int×jQ×jR×jQ)):Option (Unit⊕Bool) :=
 cond (decide (x.2.1<((af x.2.2.2.1:Nat):Int)))
 ((gx x.2.2.2.1 x.2.1).bind fun e18 =>
  (sO x.1 e18).bind fun r19 =>
  cond (decide (r19<0))
  (some (aE false))
  ((gx x.2.2.2.1 0).bind fun e20 =>
   (sO x.1 e20).bind fun r21 =>
   cond (r19 != r21)
   (some (aE false))
   (rec (x.1,(ag .i64 (x.2.1+1)),x.2.2.1,x.2.2.2.1,x.2.2.2.2))))
 (some (aT ()))
def jc (rec:(jS×Int×jQ×jR×jQ)->Option (Unit⊕Bool)) (x:(jS×Int×jQ×jR×jQ)):Option (Unit⊕Bool) :=
 cond (decide (x.2.1<((af x.2.2.2.2:Nat):Int)))
 ((gx x.2.2.2.2 x.2.1).bind fun e10 =>
  (sJ x.1 e10.1 e10.2).bind fun r11 =>
  cond (!r11)
  (some (aE false))
  (rec (x.1,(ag .i64 (x.2.1+1)),x.2.2.1,x.2.2.2.1,x.2.2.2.2)))
 (some (aT ()))
def kP (rec:(jS×Int×jQ×jR×jQ)->Option (Unit⊕Bool)) (x:(jS×Int×jQ×jR×jQ)):Option (Unit⊕Bool) :=
 cond (decide (x.2.1<((af x.2.2.1:Nat):Int)))
 ((gx x.2.2.1 x.2.1).bind fun e4 =>
  (sJ x.1 e4.1 e4.2).bind fun r5 =>
  cond (!r5)
  (some (aE false))
  (rec (x.1,(ag .i64 (x.2.1+1)),x.2.2.1,x.2.2.2.1,x.2.2.2.2)))
 (some (aT ()))
def jX (a0:jS) (a1:jQ) (a2:jR) (a3:jQ):Option Bool :=
 (jE a0).bind fun r31 =>
 cond (!r31)
 (some false)
 (cond (decide (((af a1:Nat):Int)>5))
  (some false)
  (cond (decide (((af a3:Nat):Int)>3))
   (some false)
   (cond (decide (((af a2:Nat):Int)>3))
    (some false)
    (((lp kP ze) (a0,0,a1,a2,a3)).bind fun r32 =>
     zR r32
     (fun _z33=>((lp jc ze) (a0,0,a1,a2,a3)).bind fun r34 =>
      zR r34
      (fun _z35=>((lp jv ze) (a0,0,a1,a2,a3)).bind fun r36 =>
       zR r36
       (fun _z37=>(Qc a1 a2 a3).bind fun r38 =>
        ((lp jq ze) (r38,0,0)).bind fun r39 =>
        some (decide (r39<=240)))
       (fun z40=>some z40))
      (fun z41=>some z41))
     (fun z42=>some z42)))))
def uw (rec:(jS×jI×Int×Int)->Option Int) (x:(jS×jI×Int×Int)):Option Int :=
 cond (decide (x.2.2.1>0))
 ((gx x.2.1 x.2.2.2).bind fun e4 =>
  cond (decide (e4≥0))
  ((gx x.2.1 x.2.2.2).bind fun e5 =>
   (gx x.1 e5).bind fun e6 =>
   rec (x.1,x.2.1,(ag .i64 ((ag .i64 (x.2.2.1 - 1))+e6.2.2.1)),(ag .i64 (x.2.2.2+1))))
  (rec (x.1,x.2.1,(ag .i64 (x.2.2.1 - 1)),(ag .i64 (x.2.2.2+1)))))
 (some x.2.2.2)
def Xz (a0:jS) (a1:jI) (a2:Int):Option Int :=
 ((lp uw ze) (a0,a1,1,a2)).bind fun r8 =>
 some r8
def ky (rec:(jS×jI×Int×jR)->Option jR) (x:(jS×jI×Int×jR)):Option jR :=
 cond (decide (x.2.2.1<((af x.2.1:Nat):Int)))
 ((Xz x.1 x.2.1 x.2.2.1).bind fun r5 =>
  (vM x.2.1 (some x.2.2.1) (some r5)).bind fun y6 =>
  cond (yp (af x.2.2.2+af ([y6]:List jI)) 24)
  (rec (x.1,x.2.1,r5,(x.2.2.2++([y6]:List jI))))
  (none))
 (some x.2.2.2)
def zQ (a0:jS) (a1:jI):Option jR :=
 ((lp ky ze) (a0,a1,0,([]:jR))).bind fun r8 =>
 some r8
def yx:List zc->jQ->Option jQ
 | [],s2=>some s2
 | e::es,s2 =>
  (vY e.2).bind fun r9 =>
  cond (yp (af s2+af ([(e.1,r9)]:List zc)) 32)
  (yx es (s2++([(e.1,r9)]:List zc)))
  (none)
theorem Ya (s0:jQ) (s2:jQ) (hl:af s0<=maxLen):lp wK ze (s0,0,s2)=yx s0 s2:=xR wK (fun i s2=>(s0,i,s2)) (fun es i s2=>yx es s2) hl (fun r i s2 h=>by unfold wK yx; simp only[h,cond_false]) (fun r i s2 e es h g w k=>by unfold wK yx; simp only[h,cond_true,g,aa,w,k]) s2
def yB:List jI->jR->Option jR
 | [],s2=>some s2
 | e::es,s2 =>
  (vY e).bind fun r6 =>
  cond (yp (af s2+af ([r6]:List jI)) 24)
  (yB es (s2++([r6]:List jI)))
  (none)
theorem Z6 (s0:jR) (s2:jR) (hl:af s0<=maxLen):lp wH ze (s0,0,s2)=yB s0 s2:=xR wH (fun i s2=>(s0,i,s2)) (fun es i s2=>yB es s2) hl (fun r i s2 h=>by unfold wH yB; simp only[h,cond_false]) (fun r i s2 e es h g w k=>by unfold wH yB; simp only[h,cond_true,g,aa,w,k]) s2
def yJ:List UInt8->Option (Unit⊕Bool)
 | []=>some (aT ())
 | e::es =>
  (Xg ((bE e:Nat):Int)).bind fun r8 =>
  cond (!r8)
  (cond (decide (((bE e:Nat):Int)<48))
   (some (aE false))
   (cond (decide (((bE e:Nat):Int)>57))
    (some (aE false))
    (yJ es)))
  (yJ es)
theorem QJ (s1:Str) (s2:Int) (s3:Int) (s4:Int) (hl:af s1<=maxLen):lp tj ze (0,s1,s2,s3,s4)=yJ s1:=tw tj (fun i=>(i,s1,s2,s3,s4)) (fun es i=>yJ es) hl (fun r i h=>by unfold tj yJ; simp only[h,cond_false]) (fun r i e es h g w k=>by unfold tj yJ; simp only[h,cond_true,g,aa,w,k])
def wA (s1:Str):List zg->Nat->Option (Unit⊕Int)
 | [],_i=>some (aT ())
 | e::es,i =>
  cond (e.1==s1)
  (some (aE (i:Int)))
  (wA s1 es (i+1))
theorem XC (s0:jS) (s1:Str) (hl:af s0<=maxLen):lp rW ze (s0,s1,0)=wA s1 s0 0:=tw rW (fun i=>(s0,s1,i)) (fun es i=>wA s1 es i) hl (fun r i h=>by unfold rW wA; simp only[h,cond_false]) (fun r i e es h g w k=>by unfold rW wA; simp only[h,cond_true,g,aa,w,k])
def xH (s0:jS):List zg->Nat->Option (Unit⊕Bool)
 | [],_i=>some (aT ())
 | e::es,i =>
  (YA e.1 e.2.1 e.2.2.1 e.2.2.2).bind fun r7 =>
  cond (!r7)
  (some (aE false))
  ((Wq s0 e.1).bind fun r9 =>
   cond (r9 != (i:Int))
   (some (aE false))
   (xH s0 es (i+1)))
theorem Qe (s0:jS) (hl:af s0<=maxLen):∀(es:List zg) (i:Nat) (k:Nat),s0.drop i=es->es.length<k->lp vx k (s0,(i:Int))=xH s0 es i:=by
 intro es
 induction es with
 | nil =>
  intro i k h hk;obtain⟨k,rfl⟩:∃ k',k=k'+1:=⟨k - 1,by omega⟩
  rw[zu];generalize lp vx k=rec;unfold vx xH;simp only[tq (vk h),cond_false]
 | cons e es ih =>
  intro i k h hk;obtain⟨k,rfl⟩:∃ k',k=k'+1:=⟨k - 1,by omega⟩
  rw[zu];have hi:=qj h;have hk2:es.length<k:=cm hk;have key:=fun (_:Unit)=>ih (i+1) k (zj h) hk2;generalize lp vx k=rec at key ⊢;unfold vx xH;simp only[sZ hi,cond_true,yH,zw h,aa,t8 hi hl,key ()]
def xk:List zc->jR->Option jR
 | [],s4=>some s4
 | e::es,s4 =>
  cond (yp (af s4+af ([e.2]:List jI)) 24)
  (xk es (s4++([e.2]:List jI)))
  (none)
theorem XL (s1:jQ) (s2:jR) (s3:jQ) (s4:jR) (hl:af s3<=maxLen):lp rA ze (0,s1,s2,s3,s4)=xk s3 s4:=xR rA (fun i s4=>(i,s1,s2,s3,s4)) (fun es i s4=>xk es s4) hl (fun r i s4 h=>by unfold rA xk; simp only[h,cond_false]) (fun r i s4 e es h g w k=>by unfold rA xk; simp only[h,cond_true,g,aa,w,k]) s4
def xw:List jI->jR->Option jR
 | [],s4=>some s4
 | e::es,s4 =>
  cond (yp (af s4+af ([e]:List jI)) 24)
  (xw es (s4++([e]:List jI)))
  (none)
theorem XJ (s1:jQ) (s2:jR) (s3:jQ) (s4:jR) (hl:af s2<=maxLen):lp rP ze (0,s1,s2,s3,s4)=xw s2 s4:=xR rP (fun i s4=>(i,s1,s2,s3,s4)) (fun es i s4=>xw es s4) hl (fun r i s4 h=>by unfold rP xw; simp only[h,cond_false]) (fun r i s4 e es h g w k=>by unfold rP xw; simp only[h,cond_true,g,aa,w,k]) s4
def xp:List zc->jR->Option jR
 | [],s4=>some s4
 | e::es,s4 =>
  cond (yp (af s4+af ([e.2]:List jI)) 24)
  (xp es (s4++([e.2]:List jI)))
  (none)
theorem XP (s1:jQ) (s2:jR) (s3:jQ) (s4:jR) (hl:af s1<=maxLen):lp rI ze (0,s1,s2,s3,s4)=xp s1 s4:=xR rI (fun i s4=>(i,s1,s2,s3,s4)) (fun es i s4=>xp es s4) hl (fun r i s4 h=>by unfold rI xp; simp only[h,cond_false]) (fun r i s4 e es h g w k=>by unfold rI xp; simp only[h,cond_true,g,aa,w,k]) s4
def xX:List jI->Int->Option Int
 | [],s1=>some s1
 | e::es,s1 =>
  xX es (ag .i64 (s1+((af e:Nat):Int)))
theorem WA (s0:jR) (s1:Int) (hl:af s0<=maxLen):lp jq ze (s0,s1,0)=xX s0 s1:=xR jq (fun i s1=>(s0,s1,i)) (fun es i s1=>xX es s1) hl (fun r i s1 h=>by unfold jq xX; simp only[h,cond_false]) (fun r i s1 e es h g w k=>by unfold jq xX; simp only[h,cond_true,g,aa,w,k]) s1
def x6 (s0:jS) (s3:jR):List jI->Option (Unit⊕Bool)
 | []=>some (aT ())
 | e::es =>
  (sO s0 e).bind fun r19 =>
  cond (decide (r19<0))
  (some (aE false))
  ((gx s3 0).bind fun e20 =>
   (sO s0 e20).bind fun r21 =>
   cond (r19 != r21)
   (some (aE false))
   (x6 s0 s3 es))
theorem WK (s0:jS) (s2:jQ) (s3:jR) (s4:jQ) (hl:af s3<=maxLen):lp jv ze (s0,0,s2,s3,s4)=x6 s0 s3 s3:=tw jv (fun i=>(s0,i,s2,s3,s4)) (fun es i=>x6 s0 s3 es) hl (fun r i h=>by unfold jv x6; simp only[h,cond_false]) (fun r i e es h g w k=>by unfold jv x6; simp only[h,cond_true,g,aa,w,k])
def vp (s0:jS):List zc->Option (Unit⊕Bool)
 | []=>some (aT ())
 | e::es =>
  (sJ s0 e.1 e.2).bind fun r11 =>
  cond (!r11)
  (some (aE false))
  (vp s0 es)
theorem X8 (s0:jS) (s2:jQ) (s3:jR) (s4:jQ) (hl:af s4<=maxLen):lp jc ze (s0,0,s2,s3,s4)=vp s0 s4:=tw jc (fun i=>(s0,i,s2,s3,s4)) (fun es i=>vp s0 es) hl (fun r i h=>by unfold jc vp; simp only[h,cond_false]) (fun r i e es h g w k=>by unfold jc vp; simp only[h,cond_true,g,aa,w,k])
def vg (s0:jS):List zc->Option (Unit⊕Bool)
 | []=>some (aT ())
 | e::es =>
  (sJ s0 e.1 e.2).bind fun r5 =>
  cond (!r5)
  (some (aE false))
  (vg s0 es)
theorem We (s0:jS) (s2:jQ) (s3:jR) (s4:jQ) (hl:af s2<=maxLen):lp kP ze (s0,0,s2,s3,s4)=vg s0 s2:=tw kP (fun i=>(s0,i,s2,s3,s4)) (fun es i=>vg s0 es) hl (fun r i h=>by unfold kP vg; simp only[h,cond_false]) (fun r i e es h g w k=>by unfold kP vg; simp only[h,cond_true,g,aa,w,k])
theorem WL (n:Int):Xg n=some (WC n):=kn n
theorem Fw (es:List UInt8):yJ es=some (cond (es.all Fn) (.inl ()) (.inr false)):=by
 have:∀ es,yJ es=yf es:=by
  intro es
  induction es with
  | nil=>rfl
  | cons e es ih =>
   unfold yJ yf;rw[WL,kn,ih]
 rw[this,Dm]
theorem JV (e:zg):YA e.1 e.2.1 e.2.2.1 e.2.2.2=some (LT e):=by
 obtain⟨s,a,b,c⟩:=e;unfold YA LT Y6;dsimp only;cases s with
 | nil=>rfl
 | cons x r =>
  rw[decide_eq_false (show ¬(((af (x::r):Nat):Int)<1) by rw[ak]; omega),cond_false]
  by_cases h:(x::r).length<=8
  ·rw[decide_eq_false (show ¬(((af (x::r):Nat):Int)>8) by omega),cond_false,yc,aB,aa,WL,aa,QJ _ _ _ _ (by unfold maxLen; omega),Fw,decide_eq_true h]
   dsimp only;cases WC ((bE x:Nat):Int) with
   | false=>rfl
   | true =>
    cases (x::r).all Fn with
    | false=>rfl
    | true =>
     simp only[ay,cond_false,cond_true,aa,sr,aN,d0,ge_iff_le];cases decide (0<=a)<;>simp only[cond_true,cond_false,aN,bj]
     cases decide (a<=2)<;>simp only[cond_true,cond_false,aN,bj]
     cases decide (0<=b)<;>simp only[cond_true,cond_false,aN,bj]
     cases decide (b<=3)<;>simp only[cond_true,cond_false,aN,bj]
     cases decide (1<=c)<;>simp only[cond_true,cond_false,aN,bj]
  ·rw[decide_eq_true (show (((af (x::r):Nat):Int)>8) by omega),decide_eq_false h]
   rfl
theorem Dq (a0:List zg) (nm:Str) (h:a0.length<=maxLen):Wq a0 nm=some (Ra (a0.findIdx? (fun e=>e.1==nm))):=by
 have:∀ es i,wA nm es i=qG nm es i:=by
  intro es
  induction es with
  | nil=>intro i; rfl
  | cons e es ih=>intro i; unfold wA qG; rw[ih]
 unfold Wq;rw[XC _ _ h,this,Pp];cases a0.findIdx? (fun e=>e.1==nm) with
 | none=>rfl
 | some j=>simp [zR,Ra]
theorem zbZ (a0:List zg) (h:a0.length<=maxLen) (es:List zg) (i:Nat):xH a0 es i=some (cond (Vj a0 es i) (.inl ()) (.inr false)):=by
 induction es generalizing i with
 | nil=>rfl
 | cons e es ih =>
  unfold xH Vj;rw[JV,aa,Dq _ _ h,aa,ih,bne];cases LT e with
  | false=>rfl
  | true =>
   cases (Ra (a0.findIdx? (fun d=>d.1==e.1))==(i:Int)) with
   | false=>rfl
   | true=>simp
theorem Qg (a0:List zg):jE a0=some (uP a0):=by
 unfold jE uP;cases a0 with
 | nil=>rfl
 | cons e es =>
  rw[decide_eq_false (show ¬(((af (e::es):Nat):Int)<1) by rw[ak]; omega),cond_false]
  by_cases h:(e::es).length<=20
  ·have h1:¬(((af (e::es):Nat):Int)>20):=by omega
   have hm:(e::es).length<=maxLen:=by unfold maxLen; omega
   rw[decide_eq_false h1,cond_false,yc,aB,aa,decide_eq_true h];show cond (!(eqQ e)) _ _=some (true&&eqQ e&&Vj (e::es) es 1);cases eqQ e with
   | false=>rfl
   | true =>
    have:=Qe (e::es) hm es 1 ze rfl (by simp [ze]; simp at h; omega)
    simp only[ay,cond_false];rw[show ((1:Int))=((1:Nat):Int) from rfl,this,zbZ _ hm]
    cases Vj (e::es) es 1<;>rfl
  ·have h1:((af (e::es):Nat):Int)>20:=by omega
   rw[decide_eq_true h1,decide_eq_false h];rfl
theorem LB {a0:List zg} (h:SignOk a0) (a1:List Int) (hl:a1.length<=1099511627776):∀(m i n:Nat) (k:Nat),a1.length - i=m->i<=a1.length->n<=1+3*i->m+1<k ->
  lp sQ k (a0,a1,(n:Int),(i:Int))=some (match sk a0 n (a1.drop i) with
   | some j=>.inl ((i+j:Nat):Int)
   | none=>.inr (-1)):=by
 intro m
 induction m with
 | zero =>
  intro i n k hm hi hni hk;obtain⟨k,rfl⟩:∃ k',k=k'+1:=⟨k - 1,by omega⟩
  rw[zu];generalize lp sQ k=rec;unfold sQ;rw[cN.2 (show a1.length<=i by omega)]
  cases n with
  | zero=>simp [sk]
  | succ n =>
   simp only[decide_eq_true (show ((n+1:Nat):Int)>0 by omega),cond_true,decide_eq_true (show ((i:Int)≥((af a1:Nat):Int)) by omega)]
   rfl
 | succ m ih =>
  intro i n k hm hi hni hk;obtain⟨k,rfl⟩:∃ k',k=k'+1:=⟨k - 1,by omega⟩
  have hi:i<a1.length:=by omega
  rw[zu];have key:=fun n' h1=>ih (i+1) n' k (by omega) (by omega) h1 (by omega)
  generalize lp sQ k=rec at key ⊢;unfold sQ;cases n with
  | zero=>simp [sk]
  | succ n =>
   have e1:ag .i64 (((n+1:Nat):Int) - 1)=(n:Int):=by rw[zp]<;>omega
   have e3:ag .i64 ((i:Int)+1)=((i+1:Nat):Int):=by rw[zp]<;>omega
   simp only[decide_eq_true (show ((n+1:Nat):Int)>0 by omega),cond_true,decide_eq_false (show ¬((i:Int)≥((af a1:Nat):Int)) by omega),cond_false,yH,al hi,aa,aX hi,sk,e1,e3]
   generalize a1[i]=x;unfold uX;by_cases h0:x<0
   ·rw[decide_eq_true h0,cond_true];by_cases h1 : -24<=x
    ·rw[decide_eq_false (show ¬(x < -24) by omega),cond_false,decide_eq_false (show ¬(x≥((af a0:Nat):Int)) by omega),cond_false,decide_eq_false (show ¬(x≥0) by omega),cond_false,decide_eq_true h1,cond_true,key n (by omega)]
     dsimp only;rw[Nat.add_zero];cases sk a0 n (a1.drop (i+1)) with
     | none=>rfl
     | some j=>simp only[bx]; rw[show i+1+j=i+(j+1) from by omega]
    ·rw[decide_eq_true (show x < -24 by omega),decide_eq_false h1]; rfl
   ·rw[decide_eq_false h0,decide_eq_false (show ¬(x < -24) by omega),cond_false,cond_false]
    by_cases h1:x≥((af a0:Nat):Int)
    ·rw[decide_eq_true h1,cond_true,aR (by omega)]
    ·obtain⟨e,he1,he2,he3⟩:=JZ (xs:=a0) (i:=x) (by omega) (by omega)
     have hat:=h.at he3;rw[decide_eq_false h1,cond_false,decide_eq_true (show x≥0 by omega),cond_true,he1,aa,he3]
     dsimp only;cases hk0:(e.2.1==0) with
     | true=>rfl
     | false =>
      have e2:ag .i64 ((n:Int)+e.2.2.1)=((n+e.2.2.1.toNat:Nat):Int):=by rw[zp]<;>omega
      simp only[cond_false,aa,e2];rw[key _ (by omega)]
      cases sk a0 (n+e.2.2.1.toNat) (a1.drop (i+1)) with
      | none=>rfl
      | some j=>simp only[bx]; rw[show i+1+j=i+(j+1) from by omega]
def O9 (o:Option Nat):Int:=match o with
 | some k=>(k:Int)
 | none => -1
theorem K7 {a0:List zg} (h:SignOk a0) (a1:List Int) (hl:a1.length<=1099511627776) (i:Nat) (hi:i<=a1.length):Xd a0 a1 (i:Int)=some (O9 ((sk a0 1 (a1.drop i)).map (i + ·))):=by
 unfold Xd;rw[show (1:Int)=((1:Nat):Int) from rfl,LB h a1 hl (a1.length - i) i 1 ze rfl hi (by omega) (by unfold ze; omega)]
 cases sk a0 1 (a1.drop i) with
 | none=>rfl
 | some j=>rfl
theorem B3 {a0:List zg} (h:SignOk a0) (a1:List Int) (hl:a1.length<=1099511627776):∀(m i n k:Nat),a1.length - i=m->i<=a1.length->n<=i->m<k ->
  lp kz k (a0,a1,(n:Int),(i:Int))=some (match VP a0 (a1.drop i) with
   | some ps=>.inl ((n+ps.length:Nat):Int)
   | none=>.inr (-1)):=by
 intro m
 induction m using cQ with
 | _ m ih =>
  intro i n k hm hi hn hk;obtain⟨k,rfl⟩:∃ k',k=k'+1:=⟨k - 1,by omega⟩
  rw[zu];have key:=fun j n' (h1:i<j) h2 h3=>ih (a1.length - j) (by omega) j n' k rfl h2 h3 (by omega)
  generalize lp kz k=rec at key ⊢;unfold kz;by_cases he:i=a1.length
  ·subst he;simp [V9]
  ·have hlt:i<a1.length:=by omega
   have hne:a1.drop i≠[]:=by simp; omega
   simp only[sZ hlt,cond_true,K7 h a1 hl i hi,aa,rB hne];cases hs:sk a0 1 (a1.drop i) with
   | none=>rfl
   | some j =>
    have hj:=K4 hs;rw[bz] at hj;have e1:ag .i64 ((n:Int)+1)=((n+1:Nat):Int):=by rw[zp]<;>omega
    rw[show O9 (Option.map (fun x=>i+x) (some j))=((i+j:Nat):Int) from rfl,decide_eq_false (show ¬(((i+j:Nat):Int)<0) by omega),cond_false,e1]
    rw[key (i+j) (n+1) (by omega) (by omega) (by omega)]
    dsimp only;rw[cp];cases VP a0 (a1.drop (i+j)) with
    | none=>rfl
    | some ps=>simp only[bx,ak]; rw[show n+1+ps.length=n+(ps.length+1) from by omega]
theorem YC {a0:List zg} (hs:uP a0=true) (a1:List Int):sO a0 a1=some (O9 (Y0 a0 a1)):=by
 have h:=xS hs;unfold sO Y0 vW;rw[hs,aN];by_cases hl:a1.length<=48
 ·have:=B3 h a1 (by omega) a1.length 0 0 ze rfl (bI _) (aF _) (by unfold ze; omega)
  rw[show ((0:Nat):Int)=0 from rfl,bM] at this
  rw[decide_eq_false (show ¬(((af a1:Nat):Int)>48) by omega),decide_eq_true hl,cond_false,cond_true,this]
  cases VP a0 a1 with
  | none=>rfl
  | some ps=>simp [zR,O9]
 ·rw[decide_eq_true (show (((af a1:Nat):Int)>48) by omega),decide_eq_false hl]; rfl
theorem J8 {a0:List zg} (hs:uP a0=true) (xs:List Int):XK a0 xs=some (qN a0 xs):=by
 have h:=xS hs;unfold XK qN;cases xs with
 | nil=>rfl
 | cons x r =>
  simp only[decide_eq_true (show (((x::r).length:Nat):Int)>0 by simp<;>omega),cond_true,yc,aB,aa]
  by_cases h0:x<0
  ·rw[decide_eq_false (show ¬(x≥0) by omega)]; rfl
  ·rw[decide_eq_true (show x≥0 by omega),cond_true,aN]
   by_cases h1:x≥((af a0:Nat):Int)
   ·rw[decide_eq_false (show ¬(x<((af a0:Nat):Int)) by omega),aR (by omega)]; rfl
   ·obtain⟨e,he1,he2,he3⟩:=JZ (xs:=a0) (i:=x) (by omega) (by omega)
    have hat:=h.at he3;simp only[decide_eq_true (show x<((af a0:Nat):Int) by omega),cond_true,he1,he3,aa]
    cases hk:(e.2.1==0) with
    | false=>rfl
    | true =>
     simp only[cond_true,wB,aa,YC hs,aN];unfold Y0;cases vW a0 r with
     | none =>
      have:((-1:Int)==e.2.2.1)=false:=by simp; omega
      simp [O9,this]
     | some ps=>rfl
theorem Hz {a0:List zg} {xs:List Int} (h:qN a0 xs=true):uP a0=true:=by
 obtain⟨_,_,_,_,_,_,_,_,_,hs,_⟩:=Q6 h;exact hs
theorem Gg (a0:List zg) (b:Bool) (xs:List Int):sJ a0 b xs=some (qN a0 xs):=by
 unfold sJ;rw[Qg,aa];cases hs:uP a0 with
 | true=>rw[cond_true,J8 hs]; rfl
 | false =>
  cases ha:qN a0 xs with
  | false=>rfl
  | true=>rw[Hz ha] at hs; cases hs
theorem L6 (s:List zc):(es:List zc)->(acc:List jI)->acc.length+es.length<=1000000->xk es acc=some (acc++es.map (·.2))∧xp es acc=some (acc++es.map (·.2))
 | [],acc,_=>⟨by simp [xk],by simp [xp]⟩
 | e::es,acc,h=>by
  rw[ak] at h;obtain⟨k1,k2⟩:=L6 s es (acc++[e.2]) (by simp; omega)
  unfold xk xp;rw[zk (show (acc.length+[e.2].length)*24<=140737488351232 by simp; omega),cond_true,cond_true,k1,k2]
  simp
theorem UU:(es:List jI)->(acc:List jI)->acc.length+es.length<=1000000->xw es acc=some (acc++es)
 | [],acc,_=>by simp [xw]
 | e::es,acc,h=>by
  rw[ak] at h;have k1:=UU es (acc++[e]) (by simp; omega)
  unfold xw;rw[zk (show (acc.length+[e].length)*24<=140737488351232 by simp; omega),cond_true,k1]
  simp
theorem Qn (a1:List zc) (a2:List jI) (a3:List zc) (h1:a1.length<=1000) (h2:a2.length<=1000) (h3:a3.length<=1000):Qc a1 a2 a3=some (a1.map (·.2)++a2++a3.map (·.2)):=by
 unfold Qc;rw[XP _ _ _ _ (by unfold maxLen; omega),(L6 [] a1 [] (by simp; omega)).2,aa,XJ _ _ _ _ (by unfold maxLen; omega),UU a2 _ (by simp; omega),aa,
  XL _ _ _ _ (by unfold maxLen; omega),(L6 [] a3 _ (by simp; omega)).1]
 simp
theorem MY:(es:List jI)->(t:Nat)->t+zi es<=1000000000000->xX es (t:Int)=some ((t+zi es:Nat):Int)
 | [],t,_=>by simp [xX,zi]
 | e::es,t,h=>by
  have hs:zi (e::es)=e.length+zi es:=by simp [zi]
  rw[hs] at h;unfold xX;have e1:ag .i64 ((t:Int)+((af e:Nat):Int))=((t+e.length:Nat):Int):=by rw[zp]<;>omega
  rw[e1,MY es (t+e.length) (by omega),hs]
  congr 2
  omega
theorem IP (a0:List zg):(es:List zc)->vg a0 es=some (cond (sN a0 es) (.inl ()) (.inr false))∧vp a0 es=some (cond (sN a0 es) (.inl ()) (.inr false))
 | []=>⟨rfl,rfl⟩
 | e::es=>by
  obtain⟨k1,k2⟩:=IP a0 es;unfold vg vp;rw[Gg,k1,k2];unfold sN;rw[b9];cases qN a0 e.2<;>exact ⟨rfl,rfl⟩
theorem CX {a0:List zg} (hs:uP a0=true) (s3:List jI) (r:List Int) (h0:s3[0]? = some r):(es:List jI)->x6 a0 s3 es=some (cond (es.all fun q=>(Y0 a0 q).isSome&&(Y0 a0 q==Y0 a0 r)) (.inl ()) (.inr false))
 | []=>rfl
 | e::es=>by
  unfold x6;rw[YC hs,aa,yc,h0,aa,YC hs,aa,CX hs s3 r h0 es,b9];cases h1:Y0 a0 e with
  | none=>rfl
  | some n =>
   rw[show O9 (some n)=(n:Int) from rfl,decide_eq_false (show ¬((n:Int)<0) by omega),cond_false]
   cases h2:Y0 a0 r with
   | none =>
    rw[show (((n:Int)) != O9 none)=true from by simp [O9]<;>omega]
    rfl
   | some k =>
    by_cases hn:n=k
    ·subst hn; simp [O9]
    ·have e1:(((n:Int)) != O9 (some k))=true:=by simp [O9]; omega
     have e2:(some n==some k)=false:=by simpa using hn
     rw[e1,e2]; simp
theorem Fg {a0:List zg} (r:List Int) (rs:List jI):((r::rs).all fun q=>(Y0 a0 q).isSome&&(Y0 a0 q==Y0 a0 r))=ZZ a0 (r::rs):=by
 unfold ZZ;dsimp only;cases hr:Y0 a0 r with
 | none=>simp [hr]
 | some n =>
  rw[b9,hr];simp only[Option.isSome_some,beq_self_eq_true,aN]
  congr 1
  funext q
  cases Y0 a0 q<;>simp
theorem zL (a0:List zg) (a1:List zc) (a2:List jI) (a3:List zc):jX a0 a1 a2 a3=some (xD a0 a1 a2 a3):=by
 unfold jX xD;rw[Qg,aa];cases hs:uP a0 with
 | false=>rfl
 | true =>
  by_cases h1:a1.length<=5
  ·by_cases h3:a3.length<=3
   ·by_cases h2:a2.length<=3
    ·simp only[ay,cond_false,decide_eq_false (show ¬(((af a1:Nat):Int)>5) by omega),decide_eq_false (show ¬(((af a2:Nat):Int)>3) by omega),decide_eq_false (show ¬(((af a3:Nat):Int)>3) by omega),
      decide_eq_true h1,decide_eq_true h2,decide_eq_true h3,aN]
     rw[We _ _ _ _ (by unfold maxLen; omega),(IP a0 a1).1]
     cases hb1:sN a0 a1 with
     | false=>rfl
     | true =>
      simp only[cond_true,aa,sr,aN];rw[X8 _ _ _ _ (by unfold maxLen; omega),(IP a0 a3).2]
      cases hb3:sN a0 a3 with
      | false=>simp [zR]
      | true =>
       simp only[cond_true,aa,sr,d0];rw[WK _ _ _ _ (by unfold maxLen; omega)]
       have hrows:x6 a0 a2 a2=some (cond (ZZ a0 a2) (.inl ()) (.inr false)):=by
        cases a2 with
        | nil=>rfl
        | cons r rs=>rw[CX hs (r::rs) r rfl (r::rs),Fg]
       rw[hrows];cases hb2:ZZ a0 a2 with
       | false=>rfl
       | true =>
        have s1:=X7 a1 hb1;have s2:=Ep a2 hb2;have s3:=X7 a3 hb3;have hsum:zi (a1.map (·.2)++a2++a3.map (·.2))=zi (a1.map (·.2))+zi a2+zi (a3.map (·.2)):=by simp [zi]; omega
        simp only[cond_true,aa,sr,Qn a1 a2 a3 (by omega) (by omega) (by omega),aN]
        rw[WA _ _ (by simp only[am,List.length_map]; unfold maxLen; omega),show (0:Int)=((0:Nat):Int) from rfl,MY _ 0 (by rw[hsum]; omega),aa,aQ,hsum]
        simp only[aq,decide_eq_decide];omega
    ·simp only[ay,cond_false,decide_eq_false (show ¬(((af a1:Nat):Int)>5) by omega),decide_eq_false (show ¬(((af a3:Nat):Int)>3) by omega),decide_eq_true (show (((af a2:Nat):Int)>3) by omega),decide_eq_false h2,cond_true,cz,bj]
   ·simp only[ay,cond_false,decide_eq_false (show ¬(((af a1:Nat):Int)>5) by omega),decide_eq_true (show (((af a3:Nat):Int)>3) by omega),decide_eq_false h3,cond_true,cz,bj]
  ·simp only[ay,cond_false,decide_eq_true (show (((af a1:Nat):Int)>5) by omega),decide_eq_false h1,cond_true,cz,bj]
theorem DZ {a0:List zg} (h:SignOk a0) (a1:List Int) (hl:a1.length<=1099511627776):∀(m i n j k:Nat),a1.length - i=m->i<=a1.length->n<=1+3*i->sk a0 n (a1.drop i)=some j->m+1<k ->
  lp uw k (a0,a1,(n:Int),(i:Int))=some ((i+j:Nat):Int):=by
 intro m
 induction m with
 | zero =>
  intro i n j k hm hi hni hs hk;obtain⟨k,rfl⟩:∃ k',k=k'+1:=⟨k - 1,by omega⟩
  rw[zu];generalize lp uw k=rec;unfold uw;rw[cN.2 (show a1.length<=i by omega)] at hs
  cases n with
  | zero =>
   simp [sk] at hs;subst hs;simp
  | succ n=>simp [sk] at hs
 | succ m ih =>
  intro i n j k hm hi hni hs hk;obtain⟨k,rfl⟩:∃ k',k=k'+1:=⟨k - 1,by omega⟩
  have hi:i<a1.length:=by omega
  rw[zu];have key:=fun n' j' h1 h2=>ih (i+1) n' j' k (by omega) (by omega) h1 h2 (by omega)
  generalize lp uw k=rec at key ⊢;unfold uw;cases n with
  | zero =>
   simp [sk] at hs;subst hs;simp
  | succ n =>
   have e1:ag .i64 (((n+1:Nat):Int) - 1)=(n:Int):=by rw[zp]<;>omega
   have e3:ag .i64 ((i:Int)+1)=((i+1:Nat):Int):=by rw[zp]<;>omega
   rw[aX hi] at hs;simp only[sk] at hs;simp only[decide_eq_true (show ((n+1:Nat):Int)>0 by omega),cond_true,yH,al hi,aa,e1,e3]
   generalize a1[i]=x at hs;cases ha:uX a0 x with
   | none=>rw[ha] at hs; cases hs
   | some q =>
    rw[ha] at hs;simp only[bv] at hs;obtain⟨j',hj',rfl⟩:=hs;by_cases h0:x<0
    ·obtain⟨_,rfl⟩:=BU ha h0;rw[decide_eq_false (show ¬(x≥0) by omega),cond_false,key n j' (by omega) hj']
     rw[show i+1+j'=i+(j'+1) from by omega]
    ·obtain⟨e,he1,he2,he3,rfl⟩:=DJ ha h0;have hat:=h.at he2;have e2:ag .i64 ((n:Int)+e.2.2.1)=((n+e.2.2.1.toNat:Nat):Int):=by rw[zp]<;>omega
     rw[decide_eq_true (show x≥0 by omega),cond_true,he1,aa,e2,key _ j' (by omega) hj']
     rw[show i+1+j'=i+(j'+1) from by omega]
theorem J5 {a0:List zg} (h:SignOk a0) (a1:List Int) (hl:a1.length<=1099511627776) (i j:Nat) (hi:i<=a1.length) (hs:sk a0 1 (a1.drop i)=some j):Xz a0 a1 (i:Int)=some ((i+j:Nat):Int):=by
 unfold Xz;rw[show (1:Int)=((1:Nat):Int) from rfl,DZ h a1 hl (a1.length - i) i 1 j ze rfl hi (by omega) hs (by unfold ze; omega)]
 rfl
theorem Cb {a0:List zg} (h:SignOk a0) (a1:List Int) (hl:a1.length<=1099511627776):∀(m i:Nat) (acc ps:List jI) (k:Nat),a1.length - i=m->i<=a1.length->acc.length<=i->VP a0 (a1.drop i)=some ps->m<k ->
  lp ky k (a0,a1,(i:Int),acc)=some (acc++ps):=by
 intro m
 induction m using cQ with
 | _ m ih =>
  intro i acc ps k hm hi hacc hc hk;obtain⟨k,rfl⟩:∃ k',k=k'+1:=⟨k - 1,by omega⟩
  rw[zu];have key:=fun j acc' ps' (h1:i<j) h2 h3 h4=>ih (a1.length - j) (by omega) j acc' ps' k rfl h2 h3 h4 (by omega)
  generalize lp ky k=rec at key ⊢;unfold ky;by_cases he:i=a1.length
  ·subst he;rw[fc,V9] at hc;injection hc with hc; subst hc;simp
  ·have hlt:i<a1.length:=by omega
   have hne:a1.drop i≠[]:=by simp; omega
   rw[rB hne] at hc;cases hs:sk a0 1 (a1.drop i) with
   | none=>rw[hs] at hc; cases hc
   | some j =>
    rw[hs] at hc;simp only[bv] at hc;obtain⟨qs,hq,rfl⟩:=hc;have hj:=K4 hs;rw[bz] at hj;have e1:vM a1 (some (i:Int)) (some ((i+j:Nat):Int))=some ((a1.drop i).take j):=by
     rw[zcI a1 (by omega) (by omega),show i+j - i=j from by omega]
    simp only[decide_eq_true (show (i:Int)<((af a1:Nat):Int) by omega),cond_true,J5 h a1 hl i j hi hs,aa,e1,aV,zk (show (acc.length+1)*24<=140737488351232 by omega)]
    rw[cp] at hq;rw[key (i+j) _ qs (by omega) (by omega) (by simp; omega) hq]
    simp
theorem wZ {a0:List zg} (h:SignOk a0) {a1:List Int} (hl:a1.length<=1099511627776) {ps:List jI} (hc:VP a0 a1=some ps):zQ a0 a1=some ps:=by
 unfold zQ;have:=Cb h a1 hl a1.length 0 [] ps ze rfl (bI _) (bI _) hc (by unfold ze; omega)
 rw[show ((0:Nat):Int)=0 from rfl] at this
 rw[this];rfl
theorem YR {xs:List Int} (h:xs.length<=1000000000):vY xs=some xs:=by
 unfold vY;rw[zk (by simp only[bb]; omega)]; rfl
theorem K9:(es acc:List zc)->(∀ l∈es,l.2.length<=1000000000)->acc.length+es.length<=1000000000->yx es acc=some (acc++es)
 | [],acc,_,_=>by simp [yx]
 | e::es,acc,h,hl=>by
  rw[ak] at hl;unfold yx;rw[YR (h e (by simp)),aa,zk (by simp only[ak,bb]; omega),cond_true,K9 es _ (fun l hl=>h l (by simp [hl])) (by simp; omega)]
  simp
theorem YM {ls:List zc} (h:∀ l∈ls,l.2.length<=1000000000) (hl:ls.length<=1000000000):sc ls=some ls:=by
 unfold sc;rw[Ya _ _ (by unfold maxLen; omega),K9 ls [] h (by simp; omega)]
 rfl
theorem JN:(es acc:List jI)->(∀ l∈es,l.length<=1000000000)->acc.length+es.length<=1000000000->yB es acc=some (acc++es)
 | [],acc,_,_=>by simp [yB]
 | e::es,acc,h,hl=>by
  rw[ak] at hl;unfold yB;rw[YR (h e (by simp)),aa,zk (by simp only[ak,bb]; omega),cond_true,JN es _ (fun l hl=>h l (by simp [hl])) (by simp; omega)]
  simp
theorem VT {ls:List jI} (h:∀ l∈ls,l.length<=1000000000) (hl:ls.length<=1000000000):km ls=some ls:=by
 unfold km;rw[Z6 _ _ (by unfold maxLen; omega),JN ls [] h (by simp; omega)]
 rfl
theorem Kp (ys:List Int):(es:List Int)->(i:Nat)->es.length=(ys.drop i).length->qf ys es i=some (cond (decide (es=ys.drop i)) (.inl ()) (.inr false))
 | [],i,h=>by
  have:ys.drop i=[]:=cj.1 h.symm;rw[this]; rfl
 | e::es,i,h=>by
  unfold qf;rw[ak,bz] at h;have hi:i<ys.length:=by omega
  rw[yH,al hi,aa,aX hi,Kp ys es (i+1) (by rw[bz]; omega)]
  generalize ys[i]=y;by_cases he:e=y
  ·subst he;rw[show (e != e)=false from by simp,cond_false]
   simp
  ·rw[show (e != y)=true from by simpa using he,cond_true]
   rw[decide_eq_false (by intro h; injection h with h1 h2; exact he h1)]
   rfl
theorem YO {xs ys:List Int} (h:xs.length<=maxLen):va xs ys=some (decide (xs=ys)):=by
 unfold va;by_cases hl:xs.length=ys.length
 ·rw[show (((af xs:Nat):Int) != ((af ys:Nat):Int))=false from by simp [hl],cond_false,ZX _ _ h,Kp ys xs 0 hl,bM]
  cases decide (xs=ys)<;>rfl
 ·rw[show (((af xs:Nat):Int) != ((af ys:Nat):Int))=true from by simp; omega,cond_true,decide_eq_false (by intro h; subst h; exact hl rfl)]
theorem Ko (ys:List zc):(es:List zc)->(i:Nat)->es.length=(ys.drop i).length->(∀ e∈es,e.2.length<=maxLen)->qd ys es i=some (cond (decide (es=ys.drop i)) (.inl ()) (.inr false))
 | [],i,h,_=>by
  have:ys.drop i=[]:=cj.1 h.symm;rw[this]; rfl
 | e::es,i,h,hm=>by
  unfold qd;rw[ak,bz] at h;have hi:i<ys.length:=by omega
  rw[yH,al hi,aa,aX hi,Ko ys es (i+1) (by rw[bz]; omega) (fun x hx=>hm x (by simp [hx]))]
  generalize ys[i]=y;obtain⟨a,b⟩:=e;obtain⟨c,d⟩:=y;have hb:b.length<=maxLen:=hm (a,b) (by simp)
  simp only[aa,YO hb];by_cases h1:a=c
  ·subst h1;by_cases h2:b=d
   ·subst h2;simp
   ·have:¬((a,b)::es=(a,d)::ys.drop (i+1)):=fun h=>by injection h with h _; injection h with _ h; exact h2 h
    simp [h2,this]
  ·have:¬((a,b)::es=(c,d)::ys.drop (i+1)):=fun h=>by injection h with h _; injection h with h _; exact h1 h
   have h3:(a==c)=false:=by simpa using h1
   rw[h3,decide_eq_false this]; rfl
theorem YU {xs ys:List zc} (h:xs.length<=maxLen) (hm:∀ e∈xs,e.2.length<=maxLen):sn xs ys=some (decide (xs=ys)):=by
 unfold sn;by_cases hl:xs.length=ys.length
 ·rw[show (((af xs:Nat):Int) != ((af ys:Nat):Int))=false from by simp [hl],cond_false,Yc _ _ h,Ko ys xs 0 hl hm,bM]
  cases decide (xs=ys)<;>rfl
 ·rw[show (((af xs:Nat):Int) != ((af ys:Nat):Int))=true from by simp; omega,cond_true,decide_eq_false (by intro h; subst h; exact hl rfl)]
theorem KR (ys:List jI):(es:List jI)->(i:Nat)->es.length=(ys.drop i).length->(∀ e∈es,e.length<=maxLen)->qc ys es i=some (cond (decide (es=ys.drop i)) (.inl ()) (.inr false))
 | [],i,h,_=>by
  have:ys.drop i=[]:=cj.1 h.symm;rw[this]; rfl
 | e::es,i,h,hm=>by
  unfold qc;rw[ak,bz] at h;have hi:i<ys.length:=by omega
  rw[yH,al hi,aa,aX hi,YO (hm e (by simp)),aa,KR ys es (i+1) (by rw[bz]; omega) (fun x hx=>hm x (by simp [hx]))]
  generalize ys[i]=y;by_cases h1:e=y
  ·subst h1;simp
  ·have:¬(e::es=y::ys.drop (i+1)):=fun h=>by injection h with h _; exact h1 h
   rw[decide_eq_false h1,decide_eq_false this]; rfl
theorem VY {xs ys:List jI} (h:xs.length<=maxLen) (hm:∀ e∈xs,e.length<=maxLen):kA xs ys=some (decide (xs=ys)):=by
 unfold kA;by_cases hl:xs.length=ys.length
 ·rw[show (((af xs:Nat):Int) != ((af ys:Nat):Int))=false from by simp [hl],cond_false,Yi _ _ h,KR ys xs 0 hl hm,bM]
  cases decide (xs=ys)<;>rfl
 ·rw[show (((af xs:Nat):Int) != ((af ys:Nat):Int))=true from by simp; omega,cond_true,decide_eq_false (by intro h; subst h; exact hl rfl)]
theorem tc {a0:List zc} {a1:List jI} {a2:List zc} (h0:a0.length<=maxLen) (h0m:∀ e∈a0,e.2.length<=maxLen) (h1:a1.length<=maxLen) (h1m:∀ e∈a1,e.length<=maxLen) (h2:a2.length<=maxLen) (h2m:∀ e∈a2,e.2.length<=maxLen) :
  vu a0 a1 a2 a0 a1 a2=some true:=by
 unfold vu;rw[YU h0 h0m,VY h1 h1m,YU h2 h2m];simp
def tM (a0:jQ) (_a1:jR) (_a2:jQ) (a3:Int):Option Bool :=
 cond (decide (a3≥0))
 (some (decide (a3<((af a0:Nat):Int))))
 (some false)
def qM (rec:(jR×jR×Int×Int×(List (jI×Int×jI×Int))×jI×Int×jI×Int)->Option (List (jI×Int×jI×Int))) (x:(jR×jR×Int×Int×(List (jI×Int×jI×Int))×jI×Int×jI×Int)):Option (List (jI×Int×jI×Int)) :=
 cond (decide (x.2.2.2.1<x.2.2.1))
 ((gx x.1 x.2.2.2.1).bind fun e7 =>
  (gx x.2.1 x.2.2.2.1).bind fun e8 =>
  cond (yp (af x.2.2.2.2.1+af ([(e7,x.2.2.2.2.2.2.1,e8,x.2.2.2.2.2.2.2.2)]:List (jI×Int×jI×Int))) 64)
  (rec (x.1,x.2.1,x.2.2.1,(ag .i64 (x.2.2.2.1+1)),(x.2.2.2.2.1++([(e7,x.2.2.2.2.2.2.1,e8,x.2.2.2.2.2.2.2.2)]:List (jI×Int×jI×Int))),x.2.2.2.2.2.1,x.2.2.2.2.2.2.1,x.2.2.2.2.2.2.2.1,x.2.2.2.2.2.2.2.2))
  (none))
 (some x.2.2.2.2.1)
def q9 (a0:jI) (a1:Int) (a2:jI) (a3:Int) (a4:jS) (_a5:(List ((Option jI)×Int))) (a6:(List (jI×Int×jI×Int))):Option (List (jI×Int×jI×Int)) :=
 (v9 a4 a0).bind fun r10 =>
 (v9 a4 a2).bind fun r11 =>
 ((lp qM ze) (r10,r11,((af r10:Nat):Int),0,a6,a0,a1,a2,a3)).bind fun r12 =>
 some r12
def yT (_a0:jI) (a1:Int) (a2:Int):Option Int :=
 (zP a2).bind fun r2 =>
 some (ag .i64 (r2+a1))
def vH (rec:(jS×(List ((Option jI)×Int))×jI×Int×Int)->Option (jI×Int)) (x:(jS×(List ((Option jI)×Int))×jI×Int×Int)):Option (jI×Int) :=
 (gx x.2.2.1 0).bind fun e6 =>
 cond (decide (e6<0))
 ((gx x.2.2.1 0).bind fun e7 =>
  (yT x.2.2.1 x.2.2.2.1 e7).bind fun r8 =>
  (inR r8 48).bind fun k9 =>
  (x.2.1[k9]?).bind fun x10 =>
  cond (ck x10.1)
  (some (x.2.2.1,x.2.2.2.1))
  (rec (x.1,x.2.1,(bH x10.1 []),x10.2,x.2.2.2.2)))
 (some (x.2.2.1,x.2.2.2.1))
def vl (a0:jI) (a1:Int) (a2:jS) (a3:(List ((Option jI)×Int))):Option (jI×Int) :=
 ((lp vH ze) (a2,a3,a0,a1,0)).bind fun r12 =>
 some (r12.1,r12.2)
def xa (rec:(Int×jI×Int×Int×jS×(List ((Option jI)×Int))×jI×Int×(List Bool)×(List (jI×Int)))->Option (((List Bool)×(List (jI×Int)))⊕Bool)) (x:(Int×jI×Int×Int×jS×(List ((Option jI)×Int))×jI×Int×(List Bool)×(List (jI×Int)))):Option (((List Bool)×(List (jI×Int)))⊕Bool) :=
 cond (decide (x.2.2.2.1<x.2.2.1))
 ((gx x.2.1 x.2.2.2.1).bind fun e14 =>
  cond (decide (e14≥0))
  (rec (x.1,x.2.1,x.2.2.1,(ag .i64 (x.2.2.2.1+1)),x.2.2.2.2.1,x.2.2.2.2.2.1,x.2.2.2.2.2.2.1,x.2.2.2.2.2.2.2.1,x.2.2.2.2.2.2.2.2.1,x.2.2.2.2.2.2.2.2.2))
  ((yT x.2.2.2.2.2.2.1 x.2.2.2.2.2.2.2.1 e14).bind fun r15 =>
   cond (r15==x.1)
   (some (aE true))
   ((inR r15 48).bind fun k16 =>
    (x.2.2.2.2.2.2.2.2.1[k16]?).bind fun x17 =>
    cond (!x17)
    ((inR r15 48).bind fun k18 =>
     (x.2.2.2.2.2.1[k18]?).bind fun x19 =>
     cond (!(ck x19.1))
     ((inR r15 48).bind fun k20 =>
      (x.2.2.2.2.2.2.2.2.1[k20]?).bind fun _x21 =>
      (inR r15 48).bind fun k22 =>
      (x.2.2.2.2.2.1[k22]?).bind fun x23 =>
      cond (yp (af x.2.2.2.2.2.2.2.2.2+af ([((bH x23.1 []),x23.2)]:List (jI×Int))) 32)
      (rec (x.1,x.2.1,x.2.2.1,(ag .i64 (x.2.2.2.1+1)),x.2.2.2.2.1,x.2.2.2.2.2.1,x.2.2.2.2.2.2.1,x.2.2.2.2.2.2.2.1,(bP x.2.2.2.2.2.2.2.2.1 k20 true),(x.2.2.2.2.2.2.2.2.2++([((bH x23.1 []),x23.2)]:List (jI×Int)))))
      (none))
     (rec (x.1,x.2.1,x.2.2.1,(ag .i64 (x.2.2.2.1+1)),x.2.2.2.2.1,x.2.2.2.2.2.1,x.2.2.2.2.2.2.1,x.2.2.2.2.2.2.2.1,x.2.2.2.2.2.2.2.2.1,x.2.2.2.2.2.2.2.2.2)))
    (rec (x.1,x.2.1,x.2.2.1,(ag .i64 (x.2.2.2.1+1)),x.2.2.2.2.1,x.2.2.2.2.2.1,x.2.2.2.2.2.2.1,x.2.2.2.2.2.2.2.1,x.2.2.2.2.2.2.2.2.1,x.2.2.2.2.2.2.2.2.2)))))
 (some (aT (x.2.2.2.2.2.2.2.2.1,x.2.2.2.2.2.2.2.2.2)))
def wn (rec:(Int×jS×(List ((Option jI)×Int))×jI×Int×(List Bool)×(List (jI×Int)))->Option (Unit⊕Bool)) (x:(Int×jS×(List ((Option jI)×Int))×jI×Int×(List Bool)×(List (jI×Int)))):Option (Unit⊕Bool) :=
 cond (decide (((af x.2.2.2.2.2.2:Nat):Int)>0))
 ((inR (ag .i64 (((af x.2.2.2.2.2.2:Nat):Int) - 1)) (af x.2.2.2.2.2.2)).bind fun k32 =>
  (x.2.2.2.2.2.2[k32]?).bind fun x33 =>
  (vM x.2.2.2.2.2.2 none (some (ag .i64 (((af x.2.2.2.2.2.2:Nat):Int) - 1)))).bind fun y34 =>
  ((lp xa ze) (x.1,x33.1,((af x33.1:Nat):Int),0,x.2.1,x.2.2.1,x33.1,x33.2,x.2.2.2.2.2.1,y34)).bind fun r35 =>
  zR r35
  (fun z36=>rec (x.1,x.2.1,x.2.2.1,x33.1,x33.2,z36.1,z36.2))
  (fun z37=>some (aE z37)))
 (some (aT ()))
def tu (a0:Int) (a1:jI) (a2:Int) (a3:jS) (a4:(List ((Option jI)×Int))):Option Bool :=
 ((lp wn ze) (a0,a3,a4,a1,a2,(az 48 false),([(a1,a2)]:List (jI×Int)))).bind fun r41 =>
 zR r41
 (fun _z42=>some false)
 (fun z43=>some z43)
def qF (a0:jI) (a1:Int) (a2:jI) (a3:Int) (a4:jS) (a5:(List ((Option jI)×Int))):Option (Bool×jS×(List ((Option jI)×Int))) :=
 (gx a0 0).bind fun e16 =>
 (yT a0 a1 e16).bind fun r17 =>
 (gx a2 0).bind fun e18 =>
 cond (decide (e18≥0))
 ((tu r17 a2 a3 a4 a5).bind fun r19 =>
  cond r19
  (some (false,a4,a5))
  ((inR r17 48).bind fun k20 =>
   (a5[k20]?).bind fun _x21 =>
   (nn a2).bind fun p22 =>
   some (true,a4,(bP a5 k20 ((some p22),a3)))))
 ((gx a2 0).bind fun e23 =>
  (yT a2 a3 e23).bind fun r24 =>
  cond (decide (r24>r17))
  ((inR r24 48).bind fun k25 =>
   (a5[k25]?).bind fun _x26 =>
   (nn a0).bind fun p27 =>
   some (true,a4,(bP a5 k25 ((some p27),a1))))
  (cond (decide (r24<r17))
   ((inR r17 48).bind fun k28 =>
    (a5[k28]?).bind fun _x29 =>
    (nn a2).bind fun p30 =>
    some (true,a4,(bP a5 k28 ((some p30),a3))))
   (some (true,a4,a5))))
def zy (rec:(jS×(List ((Option jI)×Int))×(List (jI×Int×jI×Int)))->Option (Bool×jS×(List ((Option jI)×Int)))) (x:(jS×(List ((Option jI)×Int))×(List (jI×Int×jI×Int)))):Option (Bool×jS×(List ((Option jI)×Int))) :=
 cond (((af x.2.2:Nat):Int)==0)
 (some (true,x.1,x.2.1))
 ((inR (ag .i64 (((af x.2.2:Nat):Int) - 1)) (af x.2.2)).bind fun k27 =>
  (x.2.2[k27]?).bind fun x28 =>
  (vl x28.1 x28.2.1 x.1 x.2.1).bind fun r29 =>
  (inR (ag .i64 (((af x.2.2:Nat):Int) - 1)) (af x.2.2)).bind fun k30 =>
  (x.2.2[k30]?).bind fun x31 =>
  (vl x31.2.2.1 x31.2.2.2 x.1 x.2.1).bind fun r32 =>
  (vM x.2.2 none (some (ag .i64 (((af x.2.2:Nat):Int) - 1)))).bind fun y33 =>
  (gx r29.1 0).bind fun e34 =>
  cond (decide (e34<0))
  ((qF r29.1 r29.2 r32.1 r32.2 x.1 x.2.1).bind fun r35 =>
   cond r35.1
   (rec (r35.2.1,r35.2.2,y33))
   (some (false,r35.2.1,r35.2.2)))
  ((gx r32.1 0).bind fun e36 =>
   cond (decide (e36<0))
   ((qF r32.1 r32.2 r29.1 r29.2 x.1 x.2.1).bind fun r37 =>
    cond r37.1
    (rec (r37.2.1,r37.2.2,y33))
    (some (false,r37.2.1,r37.2.2)))
   ((gx r29.1 0).bind fun e38 =>
    (gx r32.1 0).bind fun e39 =>
    cond (e38 != e39)
    (some (false,x.1,x.2.1))
    ((vM r29.1 (some 1) none).bind fun y40 =>
     (vM r32.1 (some 1) none).bind fun y41 =>
     (q9 y40 r29.2 y41 r32.2 x.1 x.2.1 y33).bind fun r42 =>
     rec (x.1,x.2.1,r42)))))
def wY (a0:jI) (a1:Int) (a2:jI) (a3:Int) (a4:jS) (a5:(List ((Option jI)×Int))):Option (Bool×jS×(List ((Option jI)×Int))) :=
 (q9 a0 a1 a2 a3 a4 a5 ([]:(List (jI×Int×jI×Int)))).bind fun r53 =>
 cond (((af r53:Nat):Int)==0)
 (some (true,a4,a5))
 ((inR (ag .i64 (((af r53:Nat):Int) - 1)) (af r53)).bind fun k54 =>
  (r53[k54]?).bind fun x55 =>
  (vl x55.1 x55.2.1 a4 a5).bind fun r56 =>
  (inR (ag .i64 (((af r53:Nat):Int) - 1)) (af r53)).bind fun k57 =>
  (r53[k57]?).bind fun x58 =>
  (vl x58.2.2.1 x58.2.2.2 a4 a5).bind fun r59 =>
  (vM r53 none (some (ag .i64 (((af r53:Nat):Int) - 1)))).bind fun y60 =>
  (gx r56.1 0).bind fun e61 =>
  cond (decide (e61<0))
  ((qF r56.1 r56.2 r59.1 r59.2 a4 a5).bind fun r62 =>
   cond r62.1
   ((((lp zy ze) (r62.2.1,r62.2.2,y60))).bind fun r63 =>
    some (r63.1,r63.2.1,r63.2.2))
   (some (false,r62.2.1,r62.2.2)))
  ((gx r59.1 0).bind fun e64 =>
   cond (decide (e64<0))
   ((qF r59.1 r59.2 r56.1 r56.2 a4 a5).bind fun r65 =>
    cond r65.1
    ((((lp zy ze) (r65.2.1,r65.2.2,y60))).bind fun r66 =>
     some (r66.1,r66.2.1,r66.2.2))
    (some (false,r65.2.1,r65.2.2)))
   ((gx r56.1 0).bind fun e67 =>
    (gx r59.1 0).bind fun e68 =>
    cond (e67 != e68)
    (some (false,a4,a5))
    ((vM r56.1 (some 1) none).bind fun y69 =>
     (vM r59.1 (some 1) none).bind fun y70 =>
     (q9 y69 r56.2 y70 r59.2 a4 a5 y60).bind fun r71 =>
     (((lp zy ze) (a4,a5,r71))).bind fun r72 =>
     some (r72.1,r72.2.1,r72.2.2)))))
def xO (_a0:(Option jI)) (a1:Int) (a2:Int):Option Int :=
 (zP a2).bind fun r2 =>
 some (ag .i64 (r2+a1))
def yS (rf:(((Option jI)×Int×jS×(List ((Option jI)×Int)))->Option (Option jI))) (rec:((Option jI)×Int×Int×jS×(List ((Option jI)×Int))×(Option jI)×Int×jI)->Option (jI⊕Unit)) (x:((Option jI)×Int×Int×jS×(List ((Option jI)×Int))×(Option jI)×Int×jI)):Option (jI⊕Unit) :=
 cond (decide (x.2.2.1<x.2.1))
 ((gx (bH x.1 []) x.2.2.1).bind fun e27 =>
  cond (decide (e27<0))
  ((xO x.2.2.2.2.2.1 x.2.2.2.2.2.2.1 e27).bind fun r28 =>
   (inR r28 48).bind fun k29 =>
   (x.2.2.2.2.1[k29]?).bind fun x30 =>
   cond (!(ck x30.1))
   ((xO x.2.2.2.2.2.1 x.2.2.2.2.2.2.1 e27).bind fun r31 =>
    (inR r31 48).bind fun k32 =>
    (x.2.2.2.2.1[k32]?).bind fun x33 =>
    (rf (x33.1,x33.2,x.2.2.2.1,x.2.2.2.2.1)).bind fun r34 =>
    cond (ck r34)
    (some (aE ()))
    (cond (decide ((ag .i64 (((af x.2.2.2.2.2.2.2:Nat):Int)+((af (bH r34 []):Nat):Int)))>48))
     (some (aE ()))
     (cond (yp (af x.2.2.2.2.2.2.2+af (bH r34 [])) 8)
      (rec (x.1,x.2.1,(ag .i64 (x.2.2.1+1)),x.2.2.2.1,x.2.2.2.2.1,x.2.2.2.2.2.1,x.2.2.2.2.2.2.1,(x.2.2.2.2.2.2.2++(bH r34 []))))
      (none))))
   ((((nn ([e27]:List Int)).bind fun _ =>
     some false)).bind fun z35 =>
    cond z35
    (some (aE ()))
    (cond (decide ((ag .i64 (((af x.2.2.2.2.2.2.2:Nat):Int)+((af ([e27]:List Int):Nat):Int)))>48))
     (some (aE ()))
     (cond (yp (af x.2.2.2.2.2.2.2+af ([e27]:List Int)) 8)
      (rec (x.1,x.2.1,(ag .i64 (x.2.2.1+1)),x.2.2.2.1,x.2.2.2.2.1,x.2.2.2.2.2.1,x.2.2.2.2.2.2.1,(x.2.2.2.2.2.2.2++([e27]:List Int))))
      (none)))))
  ((((nn ([e27]:List Int)).bind fun _ =>
    some false)).bind fun z36 =>
   cond z36
   (some (aE ()))
   (cond (decide ((ag .i64 (((af x.2.2.2.2.2.2.2:Nat):Int)+((af ([e27]:List Int):Nat):Int)))>48))
    (some (aE ()))
    (cond (yp (af x.2.2.2.2.2.2.2+af ([e27]:List Int)) 8)
     (rec (x.1,x.2.1,(ag .i64 (x.2.2.1+1)),x.2.2.2.1,x.2.2.2.2.1,x.2.2.2.2.2.1,x.2.2.2.2.2.2.1,(x.2.2.2.2.2.2.2++([e27]:List Int))))
     (none)))))
 (some (aT x.2.2.2.2.2.2.2))
def sW (rf:(((Option jI)×Int×jS×(List ((Option jI)×Int)))->Option (Option jI))) (a0:(Option jI)) (a1:Int) (a2:jS) (a3:(List ((Option jI)×Int))):Option (Option jI) :=
 ((lp (yS rf) ze) (a0,((af (bH a0 []):Nat):Int),0,a2,a3,a0,a1,([]:jI))).bind fun r40 =>
 zR r40
 (fun z41=>((nn z41).bind fun z=>some ((2:Nat),some z)).bind fun p42 =>
  some p42.2)
 (fun _z43=>some (none:(Option jI)))
def Y1 (rf:(((Option jI)×Int×jS×(List ((Option jI)×Int)))->Option (Option jI))):(((Option jI)×Int×jS×(List ((Option jI)×Int)))->Option (Option jI)) :=
 fun (x:((Option jI)×Int×jS×(List ((Option jI)×Int))))=>sW rf x.1 x.2.1 x.2.2.1 x.2.2.2
def YY:(((Option jI)×Int×jS×(List ((Option jI)×Int)))->Option (Option jI)):=fun _=>none
def xb (k:Nat):(((Option jI)×Int×jS×(List ((Option jI)×Int)))->Option (Option jI)):=lpR YY Y1 k
def jr (a0:(Option jI)) (a1:Int) (a2:jS) (a3:(List ((Option jI)×Int))):Option (Option jI):=(xb ze) (a0,a1,a2,a3)
def vh (rec:(Int×jS×(List ((Option jI)×Int))×(List (Int×jI)))->Option ((List (Int×jI))⊕(Bool×Int))) (x:(Int×jS×(List ((Option jI)×Int))×(List (Int×jI)))):Option ((List (Int×jI))⊕(Bool×Int)) :=
 cond (decide (x.1<24))
 ((inR x.1 48).bind fun k16 =>
  (x.2.2.1[k16]?).bind fun x17 =>
  cond (ck x17.1)
  (rec ((ag .i64 (x.1+1)),x.2.1,x.2.2.1,x.2.2.2))
  ((inR x.1 48).bind fun k18 =>
   (x.2.2.1[k18]?).bind fun x19 =>
   (jr x19.1 x19.2 x.2.1 x.2.2.1).bind fun r20 =>
   cond (ck r20)
   (some (aE (false,401)))
   ((zC (bH r20 [])).bind fun r21 =>
    cond (yp (af x.2.2.2+af ([(x.1,r21)]:List (Int×jI))) 32)
    (rec ((ag .i64 (x.1+1)),x.2.1,x.2.2.1,(x.2.2.2++([(x.1,r21)]:List (Int×jI)))))
    (none))))
 (some (aT x.2.2.2))
def uO (a0:jS) (a1:jI) (a2:jI):Option (Bool×Int×(List (Int×jI))) :=
 (ZO a0 a1).bind fun r25 =>
 (ZO a0 a2).bind fun r26 =>
 cond (r25.2 != 0)
 (some (false,400,([]:(List (Int×jI)))))
 (cond (r26.2 != 0)
  (some (false,400,([]:(List (Int×jI)))))
  (cond (r25.1 != r26.1)
   (some (false,0,([]:(List (Int×jI)))))
   ((wY a1 0 a2 0 a0 (az 48 ((none:(Option jI)),(0:Int)))).bind fun r27 =>
    cond (!r27.1)
    (some (false,0,([]:(List (Int×jI)))))
    (((lp vh ze) (0,r27.2.1,r27.2.2,([]:(List (Int×jI))))).bind fun r28 =>
     zR r28
     (fun z29=>some (true,0,z29))
     (fun z30=>some (z30.1,z30.2,([]:(List (Int×jI)))))))))
def YD (a0:Int):Option jR :=
 cond (decide (a0<0))
 (none)
 (cond (decide ((ag .i64 (a0 - 0))>0))
  (cond (eqI 0 0&&eqI 0 0)
   (cond (E7 (ag .i64 (a0 - 0)))
    (cond (yp (bc (ag .i64 (a0 - 0))) 24)
     ((vM (az (bc (ag .i64 (a0 - 0))) ([]:jI)) none (some 0)).bind fun y2 =>
      some y2)
     (none))
    (none))
   (none))
  (some ([]:jR)))
def wE (rec:((List jR)×Int×Int×jR)->Option jR) (x:((List jR)×Int×Int×jR)):Option jR :=
 cond (decide (x.2.2.1<x.2.1))
 ((gx x.1 x.2.2.1).bind fun e7 =>
  cond (yp (af x.2.2.2+af e7) 24)
  (rec (x.1,x.2.1,(ag .i64 (x.2.2.1+1)),(x.2.2.2++e7)))
  (none))
 (some x.2.2.2)
def wV (rec:((List jR)×Int×(List jR)×Int×Int)->Option Int) (x:((List jR)×Int×(List jR)×Int×Int)):Option Int :=
 cond (decide (x.2.2.2.2<x.2.2.2.1))
 ((gx x.2.2.1 x.2.2.2.2).bind fun e2 =>
  cond (decide ((ag .i64 (x.2.1+((af e2:Nat):Int)))<0))
  (none)
  (rec (x.1,(ag .i64 (x.2.1+((af e2:Nat):Int))),x.2.2.1,x.2.2.2.1,(ag .i64 (x.2.2.2.2+1)))))
 (some x.2.1)
def ko (a0:(List jR)):Option jR :=
 ((lp wV ze) (a0,0,a0,((af a0:Nat):Int),0)).bind fun r9 =>
 (YD r9).bind fun r10 =>
 ((lp wE ze) (a0,((af a0:Nat):Int),0,r10)).bind fun r11 =>
 some r11
def kh (a0:Int):Option jQ :=
 cond (decide (a0<0))
 (none)
 (cond (decide ((ag .i64 (a0 - 0))>0))
  (cond (eqI 0 0&&eqI 0 0)
   (cond (E7 (ag .i64 (a0 - 0)))
    (cond (yp (bc (ag .i64 (a0 - 0))) 32)
     ((vM (az (bc (ag .i64 (a0 - 0))) (false,([]:jI))) none (some 0)).bind fun y2 =>
      some y2)
     (none))
    (none))
   (none))
  (some ([]:jQ)))
def xB (rec:((List jQ)×Int×Int×jQ)->Option jQ) (x:((List jQ)×Int×Int×jQ)):Option jQ :=
 cond (decide (x.2.2.1<x.2.1))
 ((gx x.1 x.2.2.1).bind fun e7 =>
  cond (yp (af x.2.2.2+af e7) 32)
  (rec (x.1,x.2.1,(ag .i64 (x.2.2.1+1)),(x.2.2.2++e7)))
  (none))
 (some x.2.2.2)
def xG (rec:((List jQ)×Int×(List jQ)×Int×Int)->Option Int) (x:((List jQ)×Int×(List jQ)×Int×Int)):Option Int :=
 cond (decide (x.2.2.2.2<x.2.2.2.1))
 ((gx x.2.2.1 x.2.2.2.2).bind fun e2 =>
  cond (decide ((ag .i64 (x.2.1+((af e2:Nat):Int)))<0))
  (none)
  (rec (x.1,(ag .i64 (x.2.1+((af e2:Nat):Int))),x.2.2.1,x.2.2.2.1,(ag .i64 (x.2.2.2.2+1)))))
 (some x.2.1)
def uR (a0:(List jQ)):Option jQ :=
 ((lp xG ze) (a0,0,a0,((af a0:Nat):Int),0)).bind fun r9 =>
 (kh r9).bind fun r10 =>
 ((lp xB ze) (a0,((af a0:Nat):Int),0,r10)).bind fun r11 =>
 some r11
def vF (rec:(Int×jQ×Int×Int×jR×jQ×jQ)->Option (jR×jQ×jQ)) (x:(Int×jQ×Int×Int×jR×jQ×jQ)):Option (jR×jQ×jQ) :=
 cond (decide (x.2.2.2.1<x.2.2.1))
 ((gx x.2.1 x.2.2.2.1).bind fun e8 =>
  cond (x.2.2.2.1 != x.1)
  (cond (yp (af x.2.2.2.2.2.1+af ([(e8.1,e8.2)]:List zc)) 32)
   (rec (x.1,x.2.1,x.2.2.1,(ag .i64 (x.2.2.2.1+1)),x.2.2.2.2.1,(x.2.2.2.2.2.1++([(e8.1,e8.2)]:List zc)),x.2.2.2.2.2.2))
   (none))
  (rec (x.1,x.2.1,x.2.2.1,(ag .i64 (x.2.2.2.1+1)),x.2.2.2.2.1,x.2.2.2.2.2.1,x.2.2.2.2.2.2)))
 (some (x.2.2.2.2.1,x.2.2.2.2.2.1,x.2.2.2.2.2.2))
def vG (rec:(Int×Int×jQ×Int×Int×jQ×jR×jQ×jR×jQ×jQ)->Option (jR×jQ×jQ)) (x:(Int×Int×jQ×Int×Int×jQ×jR×jQ×jR×jQ×jQ)):Option (jR×jQ×jQ) :=
 cond (decide (x.2.2.2.2.1<x.2.2.2.1))
 ((gx x.2.2.1 x.2.2.2.2.1).bind fun e5 =>
  cond (x.2.2.2.2.1 != x.1)
  (cond (yp (af x.2.2.2.2.2.2.2.2.2.1+af ([(e5.1,e5.2)]:List zc)) 32)
   (rec (x.1,x.2.1,x.2.2.1,x.2.2.2.1,(ag .i64 (x.2.2.2.2.1+1)),x.2.2.2.2.2.1,x.2.2.2.2.2.2.1,x.2.2.2.2.2.2.2.1,x.2.2.2.2.2.2.2.2.1,(x.2.2.2.2.2.2.2.2.2.1++([(e5.1,e5.2)]:List zc)),x.2.2.2.2.2.2.2.2.2.2))
   (none))
  (rec (x.1,x.2.1,x.2.2.1,x.2.2.2.1,(ag .i64 (x.2.2.2.2.1+1)),x.2.2.2.2.2.1,x.2.2.2.2.2.2.1,x.2.2.2.2.2.2.2.1,x.2.2.2.2.2.2.2.2.1,x.2.2.2.2.2.2.2.2.2.1,x.2.2.2.2.2.2.2.2.2.2)))
 (some (x.2.2.2.2.2.2.2.2.1,x.2.2.2.2.2.2.2.2.2.1,x.2.2.2.2.2.2.2.2.2.2))
def vP (a0:jQ) (a1:jR) (a2:jQ) (a3:Int) (a4:jQ) (a5:jR) (a6:jQ) (a7:Int):Option (jR×jQ×jQ) :=
 (ko ([a1,a5]:List jR)).bind fun r10 =>
 (uR ([a2,a6]:List jQ)).bind fun r11 =>
 ((lp vG ze) (a3,a7,a0,((af a0:Nat):Int),0,a4,a5,a6,r10,([]:jQ),r11)).bind fun r12 =>
 ((lp vF ze) (a7,a4,((af a4:Nat):Int),0,r12.1,r12.2.1,r12.2.2)).bind fun r13 =>
 some (r13.1,r13.2.1,r13.2.2)
def tT (rec:(Int×(List (Int×jI))×Int×Int)->Option (Unit⊕jI)) (x:(Int×(List (Int×jI))×Int×Int)):Option (Unit⊕jI) :=
 cond (decide (x.2.2.2<x.2.2.1))
 ((gx x.2.1 x.2.2.2).bind fun e2 =>
  cond (e2.1==x.1)
  (some (aE e2.2))
  (rec (x.1,x.2.1,x.2.2.1,(ag .i64 (x.2.2.2+1)))))
 (some (aT ()))
def QK (a0:(List (Int×jI))) (a1:Int):Option (Option jI) :=
 ((lp tT ze) (a1,a0,((af a0:Nat):Int),0)).bind fun r6 =>
 zR r6
 (fun _z7=>some (none:(Option jI)))
 (fun z8=>(nn z8).bind fun p9 =>
  some (some p9))
def kO (rec:((List (Int×jI))×jI×Int×Int×jI)->Option jI) (x:((List (Int×jI))×jI×Int×Int×jI)):Option jI :=
 cond (decide (x.2.2.2.1<x.2.2.1))
 ((gx x.2.1 x.2.2.2.1).bind fun e10 =>
  (zP e10).bind fun r11 =>
  (QK x.1 r11).bind fun r12 =>
  cond (decide (e10≥0))
  (cond (yp (af x.2.2.2.2+af ([e10]:List Int)) 8)
   (rec (x.1,x.2.1,x.2.2.1,(ag .i64 (x.2.2.2.1+1)),(x.2.2.2.2++([e10]:List Int))))
   (none))
  (cond (ck r12)
   (cond (yp (af x.2.2.2.2+af ([e10]:List Int)) 8)
    (rec (x.1,x.2.1,x.2.2.1,(ag .i64 (x.2.2.2.1+1)),(x.2.2.2.2++([e10]:List Int))))
    (none))
   (cond (yp (af x.2.2.2.2+af (bH r12 [])) 8)
    (rec (x.1,x.2.1,x.2.2.1,(ag .i64 (x.2.2.2.1+1)),(x.2.2.2.2++(bH r12 []))))
    (none))))
 (some x.2.2.2.2)
def Yr (a0:(List (Int×jI))) (a1:jI):Option jI :=
 ((lp kO ze) (a0,a1,((af a1:Nat):Int),0,([]:jI))).bind fun r14 =>
 some r14
def xW (a0:jI) (a1:(List (Int×jI))):Option jI :=
 (Yr a1 a0).bind fun r2 =>
 some r2
def uz (rec:(jQ×Int×Int×(List (Int×jI))×jQ×jR×jQ)->Option (jQ×jR×jQ)) (x:(jQ×Int×Int×(List (Int×jI))×jQ×jR×jQ)):Option (jQ×jR×jQ) :=
 cond (decide (x.2.2.1<x.2.1))
 ((gx x.1 x.2.2.1).bind fun e19 =>
  (xW e19.2 x.2.2.2.1).bind fun r20 =>
  cond (yp (af x.2.2.2.2.2.2+af ([(e19.1,r20)]:List zc)) 32)
  (rec (x.1,x.2.1,(ag .i64 (x.2.2.1+1)),x.2.2.2.1,x.2.2.2.2.1,x.2.2.2.2.2.1,(x.2.2.2.2.2.2++([(e19.1,r20)]:List zc))))
  (none))
 (some (x.2.2.2.2.1,x.2.2.2.2.2.1,x.2.2.2.2.2.2))
def uE (rec:(jR×Int×Int×(List (Int×jI))×jQ×jR×jQ×jQ×jR)->Option (jQ×jR)) (x:(jR×Int×Int×(List (Int×jI))×jQ×jR×jQ×jQ×jR)):Option (jQ×jR) :=
 cond (decide (x.2.2.1<x.2.1))
 ((gx x.1 x.2.2.1).bind fun e12 =>
  (xW e12 x.2.2.2.1).bind fun r13 =>
  cond (yp (af x.2.2.2.2.2.2.2.2+af ([r13]:List jI)) 24)
  (rec (x.1,x.2.1,(ag .i64 (x.2.2.1+1)),x.2.2.2.1,x.2.2.2.2.1,x.2.2.2.2.2.1,x.2.2.2.2.2.2.1,x.2.2.2.2.2.2.2.1,(x.2.2.2.2.2.2.2.2++([r13]:List jI))))
  (none))
 (some (x.2.2.2.2.2.2.2.1,x.2.2.2.2.2.2.2.2))
def uk (rec:(jQ×Int×Int×(List (Int×jI))×jQ×jR×jQ×jQ)->Option jQ) (x:(jQ×Int×Int×(List (Int×jI))×jQ×jR×jQ×jQ)):Option jQ :=
 cond (decide (x.2.2.1<x.2.1))
 ((gx x.1 x.2.2.1).bind fun e5 =>
  (xW e5.2 x.2.2.2.1).bind fun r6 =>
  cond (yp (af x.2.2.2.2.2.2.2+af ([(e5.1,r6)]:List zc)) 32)
  (rec (x.1,x.2.1,(ag .i64 (x.2.2.1+1)),x.2.2.2.1,x.2.2.2.2.1,x.2.2.2.2.2.1,x.2.2.2.2.2.2.1,(x.2.2.2.2.2.2.2++([(e5.1,r6)]:List zc))))
  (none))
 (some x.2.2.2.2.2.2.2)
def XI (a0:jQ) (a1:jR) (a2:jQ) (a3:(List (Int×jI))):Option (jQ×jR×jQ) :=
 ((lp uk ze) (a0,((af a0:Nat):Int),0,a3,a0,a1,a2,([]:jQ))).bind fun r22 =>
 ((lp uE ze) (a1,((af a1:Nat):Int),0,a3,a0,a1,a2,r22,([]:jR))).bind fun r23 =>
 ((lp uz ze) (a2,((af a2:Nat):Int),0,a3,r23.1,r23.2,([]:jQ))).bind fun r24 =>
 some (r24.1,r24.2.1,r24.2.2)
def rU (a0:(List (Int×jI))) (a1:jQ) (a2:jR) (a3:jQ):Option (jQ×jR×jQ) :=
 (XI a1 a2 a3 a0).bind fun r2 =>
 some (r2.1,r2.2.1,r2.2.2)
def uF (a0:jS) (a1:jQ) (a2:jR) (a3:jQ) (a4:Int) (a5:Int):Option (jQ×jR×Bool×Int×jQ) :=
 (gx a1 a4).bind fun e11 =>
 (gx a1 a5).bind fun e12 =>
 cond (!(e11.1==e12.1))
 (some (([]:jQ),([]:jR),false,0,([]:jQ)))
 ((gx e11.2 0).bind fun e13 =>
  (gx e12.2 0).bind fun e14 =>
  cond (e13 != e14)
  (some (([]:jQ),([]:jR),false,0,([]:jQ)))
  ((vM e11.2 (some 1) none).bind fun y15 =>
   (vM e12.2 (some 1) none).bind fun y16 =>
   (uO a0 y15 y16).bind fun r17 =>
   cond (r17.2.1 != 0)
   (some (([]:jQ),([]:jR),false,1401,([]:jQ)))
   (cond (!r17.1)
    (some (([]:jQ),([]:jR),false,0,([]:jQ)))
    ((vP a1 a2 a3 a5 ([]:jQ) ([]:jR) ([]:jQ) (-1)).bind fun r18 =>
     (rU r17.2.2 r18.2.1 r18.1 r18.2.2).bind fun r19 =>
     (xi a0 r19.1 r19.2.1 r19.2.2).bind fun r20 =>
     cond (r20.2.2.1 != 0)
     (some (([]:jQ),([]:jR),false,1401,([]:jQ)))
     (some (r20.1,r20.2.1,true,0,r20.2.2.2))))))
def wd (a0:jS) (a1:jQ) (a2:jR) (a3:jQ) (a4:Int) (a5:Int):Option (jQ×jR×Bool×Int×jQ) :=
 (yq a0 a1 a2 a3).bind fun r5 =>
 cond (!r5)
 (some (([]:jQ),([]:jR),false,1400,([]:jQ)))
 ((tM a1 a2 a3 a4).bind fun r6 =>
  cond (!r6)
  (some (([]:jQ),([]:jR),false,1400,([]:jQ)))
  ((tM a1 a2 a3 a5).bind fun r7 =>
   cond (!r7)
   (some (([]:jQ),([]:jR),false,1400,([]:jQ)))
   (cond (a4==a5)
    (some (([]:jQ),([]:jR),false,1400,([]:jQ)))
    ((uF a0 a1 a2 a3 a4 a5).bind fun r8 =>
     some (r8.1,r8.2.1,r8.2.2.1,r8.2.2.2.1,r8.2.2.2.2)))))
def ZS (a0:Bool) (a1:jI) (a2:jS):Option Bool :=
 (sY a2 a0 a1).bind fun r2 =>
 some (!r2)
def qh (rec:(jQ×Int×Int×jS)->Option (Unit⊕Int)) (x:(jQ×Int×Int×jS)):Option (Unit⊕Int) :=
 cond (decide (x.2.2.1<x.2.1))
 ((gx x.1 x.2.2.1).bind fun e3 =>
  (ZS e3.1 e3.2 x.2.2.2).bind fun r4 =>
  cond r4
  (some (aE x.2.2.1))
  (rec (x.1,x.2.1,(ag .i64 (x.2.2.1+1)),x.2.2.2)))
 (some (aT ()))
def sF (a0:jQ) (a1:jS):Option Int :=
 ((lp qh ze) (a0,((af a0:Nat):Int),0,a1)).bind fun r8 =>
 zR r8
 (fun _z9=>some (-1))
 (fun z10=>some z10)
def uL (a0:jQ) (a1:jS):Option Bool :=
 (sF a0 a1).bind fun r2 =>
 some (decide (r2≥0))
def v8 (a0:jS) (a1:jI):Option Bool :=
 (re a0 a1).bind fun r2 =>
 cond r2.1
 (some (((af r2.2:Nat):Int)==1))
 (some false)
def uy (rec:(jI×Int×Int×jI)->Option jI) (x:(jI×Int×Int×jI)):Option jI :=
 cond (decide (x.2.2.1<x.2.1))
 ((gx x.1 x.2.2.1).bind fun e7 =>
  cond (decide (e7<0))
  ((zP e7).bind fun r8 =>
   (inR r8 24).bind fun k9 =>
   (x.2.2.2[k9]?).bind fun x10 =>
   (inR r8 24).bind fun k11 =>
   (x.2.2.2[k11]?).bind fun _x12 =>
   rec (x.1,x.2.1,(ag .i64 (x.2.2.1+1)),(bP x.2.2.2 k11 (ag .i64 (x10+1)))))
  (rec (x.1,x.2.1,(ag .i64 (x.2.2.1+1)),x.2.2.2)))
 (some x.2.2.2)
def jj (a0:jI):Option jI :=
 ((lp uy ze) (a0,((af a0:Nat):Int),0,(az 24 (0:Int)))).bind fun r14 =>
 cond (aA (af r14) 24)
 (cond (aA (af r14) 24)
  (cond (aA (af r14) 24)
   (some r14)
   (none))
  (none))
 (none)
def wl (rec:(Int×jI×jI)->Option (Unit⊕Bool)) (x:(Int×jI×jI)):Option (Unit⊕Bool) :=
 cond (decide (x.1<24))
 ((inR x.1 24).bind fun k11 =>
  (x.2.1[k11]?).bind fun x12 =>
  (inR x.1 24).bind fun k13 =>
  (x.2.2[k13]?).bind fun x14 =>
  cond (decide (x12<x14))
  (some (aE false))
  (rec ((ag .i64 (x.1+1)),x.2.1,x.2.2)))
 (some (aT ()))
def jC (a0:jI) (a1:jI):Option Bool :=
 (jj a0).bind fun r18 =>
 (jj a1).bind fun r19 =>
 cond (aA (af (az 24 (0:Int))) 24)
 (cond (aA (af (az 24 (0:Int))) 24)
  (((lp wl ze) (0,r18,r19)).bind fun r20 =>
   zR r20
   (fun _z21=>some true)
   (fun z22=>some z22))
  (none))
 (none)
def sU (rec:(jS×Int×jI×Int×Int)->Option Int) (x:(jS×Int×jI×Int×Int)):Option Int :=
 cond (decide (x.2.2.2.2<x.2.2.2.1))
 ((gx x.2.2.1 x.2.2.2.2).bind fun e3 =>
  cond (decide (e3<0))
  (rec (x.1,(ag .i64 (x.2.1+1)),x.2.2.1,x.2.2.2.1,(ag .i64 (x.2.2.2.2+1))))
  ((gx x.1 e3).bind fun e4 =>
   rec (x.1,(ag .i64 (x.2.1+e4.2.2.2)),x.2.2.1,x.2.2.2.1,(ag .i64 (x.2.2.2.2+1)))))
 (some x.2.1)
def Z0 (a0:jS) (a1:jI):Option Int :=
 ((lp sU ze) (a0,0,a1,((af a1:Nat):Int),0)).bind fun r6 =>
 some r6
def vB (rec:(jR×jR×Int×Int)->Option (Unit⊕(jI×jI))) (x:(jR×jR×Int×Int)):Option (Unit⊕(jI×jI)) :=
 cond (decide (x.2.2.2<x.2.2.1))
 ((gx x.2.1 x.2.2.2).bind fun e7 =>
  cond (decide (x.2.2.2<((af x.1:Nat):Int)))
  ((gx x.1 x.2.2.2).bind fun e8 =>
   (yb e7 e8).bind fun r9 =>
   cond (!r9)
   ((gx x.1 x.2.2.2).bind fun e10 =>
    some (aE (e7,e10)))
   (rec (x.1,x.2.1,x.2.2.1,(ag .i64 (x.2.2.2+1)))))
  (rec (x.1,x.2.1,x.2.2.1,(ag .i64 (x.2.2.2+1)))))
 (some (aT ()))
def QH (a0:jS) (a1:jI) (a2:jI):Option (jI×jI) :=
 (v9 a0 a2).bind fun r14 =>
 (v9 a0 a1).bind fun r15 =>
 ((lp vB ze) (r14,r15,((af r15:Nat):Int),0)).bind fun r16 =>
 zR r16
 (fun _z17=>some (([]:jI),([]:jI)))
 (fun z18=>some (z18.1,z18.2))
def se (rec:(jS×jI×jI)->Option (Unit⊕Bool)) (x:(jS×jI×jI)):Option (Unit⊕Bool) :=
 (((nn x.2.1).bind fun _ =>
  some false)).bind fun z23 =>
 cond (!z23)
 ((jC x.2.1 x.2.2).bind fun r24 =>
  cond r24
  ((Z0 x.1 x.2.1).bind fun r25 =>
   (Z0 x.1 x.2.2).bind fun r26 =>
   cond (r25 != r26)
   (some (aE (decide (r25>r26))))
   ((gx x.2.1 0).bind fun e27 =>
    (gx x.2.2 0).bind fun e28 =>
    cond (e27 != e28)
    ((gx x.2.1 0).bind fun e29 =>
     (gx x.2.2 0).bind fun e30 =>
     some (aE (decide (e29>e30))))
    ((vM x.2.1 (some 1) none).bind fun y31 =>
     (vM x.2.2 (some 1) none).bind fun y32 =>
     (QH x.1 y31 y32).bind fun r33 =>
     rec (x.1,r33.1,r33.2))))
  (some (aT ())))
 (some (aT ()))
def we (a0:jS) (a1:jI) (a2:jI):Option Bool :=
 ((lp se ze) (a0,a1,a2)).bind fun r37 =>
 zR r37
 (fun _z38=>some false)
 (fun z39=>some z39)
def xV (a0:jS) (a1:jI) (a2:jI):Option (Int×Int) :=
 (v8 a0 a1).bind fun r19 =>
 cond r19
 ((v8 a0 a2).bind fun r20 =>
  (v5 a0 a1).bind fun r21 =>
  cond r21
  ((v5 a0 a2).bind fun r22 =>
   cond (!r20)
   (cond (!r22)
    (some (0,600))
    ((yb a1 a2).bind fun r23 =>
     cond r23
     (some (1,0))
     ((we a0 a1 a2).bind fun r24 =>
      cond r24
      (some (2,0))
      ((we a0 a2 a1).bind fun r25 =>
       cond r25
       (some (0,0))
       (some (3,0))))))
   ((yb a1 a2).bind fun r26 =>
    cond r26
    (some (1,0))
    ((we a0 a1 a2).bind fun r27 =>
     cond r27
     (some (2,0))
     ((we a0 a2 a1).bind fun r28 =>
      cond r28
      (some (0,0))
      (some (3,0))))))
  (cond (!r20)
   (some (0,600))
   ((yb a1 a2).bind fun r29 =>
    cond r29
    (some (1,0))
    ((we a0 a1 a2).bind fun r30 =>
     cond r30
     (some (2,0))
     ((we a0 a2 a1).bind fun r31 =>
      cond r31
      (some (0,0))
      (some (3,0)))))))
 ((v5 a0 a1).bind fun r32 =>
  cond r32
  ((v5 a0 a2).bind fun r33 =>
   cond (!r33)
   (some (0,600))
   ((yb a1 a2).bind fun r34 =>
    cond r34
    (some (1,0))
    ((we a0 a1 a2).bind fun r35 =>
     cond r35
     (some (2,0))
     ((we a0 a2 a1).bind fun r36 =>
      cond r36
      (some (0,0))
      (some (3,0))))))
  (some (0,600)))
def Z3 (a0:jS) (a1:Bool) (a2:jI) (a3:Bool) (a4:jI):Option (Int×Int) :=
 (sY a0 a1 a2).bind fun r4 =>
 cond (!r4)
 (some (0,700))
 ((sY a0 a3 a4).bind fun r5 =>
  cond (!r5)
  (some (0,700))
  ((xV a0 a2 a4).bind fun r6 =>
   cond (r6.1 != 1)
   (some (r6.1,0))
   (cond (a1==a3)
    (some (r6.1,0))
    (cond a1
     (some (2,0))
     (some (0,0))))))
def Yx (a0:Bool) (a1:jI) (a2:jS) (a3:Bool) (a4:jI):Option Bool :=
 (Z3 a2 a0 a1 a3 a4).bind fun r2 =>
 some (r2.1==2)
def qr (rec:(jQ×Int×Int×jS×Bool×jI)->Option (Unit⊕Int)) (x:(jQ×Int×Int×jS×Bool×jI)):Option (Unit⊕Int) :=
 cond (decide (x.2.2.1<x.2.1))
 ((gx x.1 x.2.2.1).bind fun e3 =>
  (Yx e3.1 e3.2 x.2.2.2.1 x.2.2.2.2.1 x.2.2.2.2.2).bind fun r4 =>
  cond r4
  (some (aE x.2.2.1))
  (rec (x.1,x.2.1,(ag .i64 (x.2.2.1+1)),x.2.2.2.1,x.2.2.2.2.1,x.2.2.2.2.2)))
 (some (aT ()))
def so (a0:jQ) (a1:jS) (a2:Bool) (a3:jI):Option Int :=
 ((lp qr ze) (a0,((af a0:Nat):Int),0,a1,a2,a3)).bind fun r8 =>
 zR r8
 (fun _z9=>some (-1))
 (fun z10=>some z10)
def xv (a0:jQ) (a1:jS) (a2:Bool) (a3:jI):Option Bool :=
 (so a0 a1 a2 a3).bind fun r2 =>
 some (decide (r2≥0))
def sR (rec:(jQ×jQ×Int×Int×jS×jI)->Option jI) (x:(jQ×jQ×Int×Int×jS×jI)):Option jI :=
 cond (decide (x.2.2.2.1<x.2.2.1))
 ((gx x.2.1 x.2.2.2.1).bind fun e7 =>
  (xv x.1 x.2.2.2.2.1 e7.1 e7.2).bind fun r8 =>
  cond (!r8)
  (cond (yp (af x.2.2.2.2.2+af ([x.2.2.2.1]:List Int)) 8)
   (rec (x.1,x.2.1,x.2.2.1,(ag .i64 (x.2.2.2.1+1)),x.2.2.2.2.1,(x.2.2.2.2.2++([x.2.2.2.1]:List Int))))
   (none))
  (rec (x.1,x.2.1,x.2.2.1,(ag .i64 (x.2.2.2.1+1)),x.2.2.2.2.1,x.2.2.2.2.2)))
 (some x.2.2.2.2.2)
def Xf (a0:jS) (a1:jQ):Option (Int×jI) :=
 (YH a0).bind fun r10 =>
 cond (!r10)
 (some (700,([]:jI)))
 ((uL a1 a0).bind fun r11 =>
  cond r11
  (some (700,([]:jI)))
  (((lp sR ze) (a1,a1,((af a1:Nat):Int),0,a0,([]:jI))).bind fun r12 =>
   some (0,r12)))
def vJ (a0:jS) (a1:Bool) (a2:jI):Option Bool :=
 cond a1
 (some false)
 ((gx a2 0).bind fun e9 =>
  cond (e9 != 0)
  (some false)
  ((vM a2 (some 1) none).bind fun y10 =>
   (v9 a0 y10).bind fun r11 =>
   (inR 0 (af r11)).bind fun k12 =>
   (r11[k12]?).bind fun x13 =>
   (inR 1 (af r11)).bind fun k14 =>
   (r11[k14]?).bind fun x15 =>
   (yb x13 x15).bind fun r16 =>
   some r16))
def uU (a0:Bool) (a1:jI) (a2:Bool) (a3:jI):Option Bool :=
 cond (!(a2==a0))
 ((yb a3 a1).bind fun r2 =>
  some r2)
 (some false)
def qu (rec:(jQ×Int×Int×Bool×jI)->Option (Unit⊕Int)) (x:(jQ×Int×Int×Bool×jI)):Option (Unit⊕Int) :=
 cond (decide (x.2.2.1<x.2.1))
 ((gx x.1 x.2.2.1).bind fun e3 =>
  (uU e3.1 e3.2 x.2.2.2.1 x.2.2.2.2).bind fun r4 =>
  cond r4
  (some (aE x.2.2.1))
  (rec (x.1,x.2.1,(ag .i64 (x.2.2.1+1)),x.2.2.2.1,x.2.2.2.2)))
 (some (aT ()))
def tY (a0:jQ) (a1:Bool) (a2:jI):Option Int :=
 ((lp qu ze) (a0,((af a0:Nat):Int),0,a1,a2)).bind fun r8 =>
 zR r8
 (fun _z9=>some (-1))
 (fun z10=>some z10)
def xo (a0:jQ) (a1:Bool) (a2:jI):Option Bool :=
 (tY a0 a1 a2).bind fun r2 =>
 some (decide (r2≥0))
def wc (rec:(jS×jQ×Int×Int×jQ×jR×jQ)->Option (Unit⊕(Bool×Int))) (x:(jS×jQ×Int×Int×jQ×jR×jQ)):Option (Unit⊕(Bool×Int)) :=
 cond (decide (x.2.2.2.1<x.2.2.1))
 ((gx x.2.1 x.2.2.2.1).bind fun e5 =>
  (vJ x.1 e5.1 e5.2).bind fun r6 =>
  cond r6
  (some (aE (true,0)))
  ((xo x.2.2.2.2.1 e5.1 e5.2).bind fun r7 =>
   cond r7
   (some (aE (true,0)))
   (rec (x.1,x.2.1,x.2.2.1,(ag .i64 (x.2.2.2.1+1)),x.2.2.2.2.1,x.2.2.2.2.2.1,x.2.2.2.2.2.2))))
 (some (aT ()))
def uq (a0:jS) (a1:jQ) (a2:jR) (a3:jQ):Option (Bool×Int) :=
 (yq a0 a1 a2 a3).bind fun r11 =>
 cond (!r11)
 (some (false,800))
 (((lp wc ze) (a0,a1,((af a1:Nat):Int),0,a1,a2,a3)).bind fun r12 =>
  zR r12
  (fun _z13=>some (false,0))
  (fun z14=>some (z14.1,z14.2)))
def yn (a0:Int) (a1:Int) (a2:Int) (a3:Int) (a4:Int) (a5:Int) (a6:Int) (_a7:jQ) (_a8:jR) (_a9:jQ) (a10:jQ) (a11:jR) (a12:jQ) (a13:Bool) (a14:Int) (a15:jS) (a16:Int) (a17:jT):Option (jS×Int×jT) :=
 cond (a14 != 0)
 (some (a15,(ag .i64 (a16+1)),a17))
 ((uq a15 a10 a11 a12).bind fun r2 =>
  cond (!a13)
  (some (a15,a16,a17))
  (cond r2.1
   (some (a15,a16,a17))
   (cond (yp (af a17+af ([(a0,a1,a2,a3,a4,a5,a6,a10,a11,a12)]:List jU)) 128)
    (some (a15,a16,(a17++([(a0,a1,a2,a3,a4,a5,a6,a10,a11,a12)]:List jU))))
    (none))))
def sw (rec:(jS×Int×jI×Int×Int×Int×Int×jQ×jR×jQ×jS×Int×jT)->Option (jS×Int×jT)) (x:(jS×Int×jI×Int×Int×Int×Int×jQ×jR×jQ×jS×Int×jT)):Option (jS×Int×jT) :=
 cond (decide (x.2.2.2.2.1<((af x.2.2.2.2.2.2.2.1:Nat):Int)))
 ((vy x.2.2.1 x.2.2.2.1).bind fun r12 =>
  cond r12
  ((uF x.1 x.2.2.2.2.2.2.2.1 x.2.2.2.2.2.2.2.2.1 x.2.2.2.2.2.2.2.2.2.1 x.2.2.2.1 x.2.2.2.2.1).bind fun r13 =>
   (yn 2 x.2.1 x.2.2.2.1 0 (-1) x.2.2.2.2.1 0 ([]:jQ) ([]:jR) ([]:jQ) r13.1 r13.2.1 r13.2.2.2.2 r13.2.2.1 r13.2.2.2.1 x.2.2.2.2.2.2.2.2.2.2.1 x.2.2.2.2.2.2.2.2.2.2.2.1 x.2.2.2.2.2.2.2.2.2.2.2.2).bind fun r14 =>
   rec (x.1,x.2.1,x.2.2.1,x.2.2.2.1,(ag .i64 (x.2.2.2.2.1+1)),x.2.2.2.2.2.1,x.2.2.2.2.2.2.1,x.2.2.2.2.2.2.2.1,x.2.2.2.2.2.2.2.2.1,x.2.2.2.2.2.2.2.2.2.1,r14.1,r14.2.1,r14.2.2))
  ((vy x.2.2.1 x.2.2.2.2.1).bind fun r15 =>
   cond r15
   ((uF x.1 x.2.2.2.2.2.2.2.1 x.2.2.2.2.2.2.2.2.1 x.2.2.2.2.2.2.2.2.2.1 x.2.2.2.1 x.2.2.2.2.1).bind fun r16 =>
    (yn 2 x.2.1 x.2.2.2.1 0 (-1) x.2.2.2.2.1 0 ([]:jQ) ([]:jR) ([]:jQ) r16.1 r16.2.1 r16.2.2.2.2 r16.2.2.1 r16.2.2.2.1 x.2.2.2.2.2.2.2.2.2.2.1 x.2.2.2.2.2.2.2.2.2.2.2.1 x.2.2.2.2.2.2.2.2.2.2.2.2).bind fun r17 =>
    rec (x.1,x.2.1,x.2.2.1,x.2.2.2.1,(ag .i64 (x.2.2.2.2.1+1)),x.2.2.2.2.2.1,x.2.2.2.2.2.2.1,x.2.2.2.2.2.2.2.1,x.2.2.2.2.2.2.2.2.1,x.2.2.2.2.2.2.2.2.2.1,r17.1,r17.2.1,r17.2.2))
   (rec (x.1,x.2.1,x.2.2.1,x.2.2.2.1,(ag .i64 (x.2.2.2.2.1+1)),x.2.2.2.2.2.1,x.2.2.2.2.2.2.1,x.2.2.2.2.2.2.2.1,x.2.2.2.2.2.2.2.2.1,x.2.2.2.2.2.2.2.2.2.1,x.2.2.2.2.2.2.2.2.2.2.1,x.2.2.2.2.2.2.2.2.2.2.2.1,x.2.2.2.2.2.2.2.2.2.2.2.2))))
 (some (x.2.2.2.2.2.2.2.2.2.2.1,x.2.2.2.2.2.2.2.2.2.2.2.1,x.2.2.2.2.2.2.2.2.2.2.2.2))
def t6 (rec:(jS×Int×jI×Int×Int×jQ×jR×jQ×jS×Int×jT)->Option (jS×Int×jT)) (x:(jS×Int×jI×Int×Int×jQ×jR×jQ×jS×Int×jT)):Option (jS×Int×jT) :=
 cond (decide (x.2.2.2.2.1<x.2.2.2.1))
 (((lp sw ze) (x.1,x.2.1,x.2.2.1,x.2.2.2.2.1,(ag .i64 (x.2.2.2.2.1+1)),x.2.2.2.1,x.2.2.2.2.1,x.2.2.2.2.2.1,x.2.2.2.2.2.2.1,x.2.2.2.2.2.2.2.1,x.2.2.2.2.2.2.2.2.1,x.2.2.2.2.2.2.2.2.2.1,x.2.2.2.2.2.2.2.2.2.2)).bind fun r20 =>
  rec (x.1,x.2.1,x.2.2.1,x.2.2.2.1,(ag .i64 (x.2.2.2.2.1+1)),x.2.2.2.2.2.1,x.2.2.2.2.2.2.1,x.2.2.2.2.2.2.2.1,r20.1,r20.2.1,r20.2.2))
 (some (x.2.2.2.2.2.2.2.2.1,x.2.2.2.2.2.2.2.2.2.1,x.2.2.2.2.2.2.2.2.2.2))
def ZI (a0:jS) (a1:jQ) (a2:jR) (a3:jQ) (a4:Int):Option (Int×Int×jT) :=
 (yq a0 a1 a2 a3).bind fun r22 =>
 cond (!r22)
 (some (0,1400,([]:jT)))
 ((Xf a0 a1).bind fun r23 =>
  ((lp t6 ze) (a0,a4,r23.2,((af a1:Nat):Int),0,a1,a2,a3,a0,0,([]:jT))).bind fun r24 =>
  some (r24.2.1,0,r24.2.2))
def vT (a0:jS) (a1:jQ) (a2:jR) (a3:jQ) (a4:Int):Option (jQ×jR×Int×jQ) :=
 (yq a0 a1 a2 a3).bind fun r7 =>
 cond (!r7)
 (some (([]:jQ),([]:jR),1400,([]:jQ)))
 ((tM a1 a2 a3 a4).bind fun r8 =>
  cond (!r8)
  (some (([]:jQ),([]:jR),1400,([]:jQ)))
  (cond (((af a3:Nat):Int)==3)
   (some (([]:jQ),([]:jR),1401,([]:jQ)))
   ((vP a1 a2 a3 a4 ([]:jQ) ([]:jR) ([]:jQ) (-1)).bind fun r9 =>
    (gx a1 a4).bind fun e10 =>
    (Qw e10.1 e10.2).bind fun r11 =>
    cond (yp (af r9.2.2+af ([(r11.1,r11.2)]:List zc)) 32)
    ((xi a0 r9.2.1 r9.1 (r9.2.2++([(r11.1,r11.2)]:List zc))).bind fun r12 =>
     some (r12.1,r12.2.1,0,r12.2.2.2))
    (none))))
def zM (s1:jR) (s6:Int) (s8:Int):List jI->Nat->(List (jI×Int×jI×Int))->Option (List (jI×Int×jI×Int))
 | [],_i,s4=>some s4
 | e::es,i,s4 =>
  (gx s1 (i:Int)).bind fun e8 =>
  cond (yp (af s4+af ([(e,s6,e8,s8)]:List (jI×Int×jI×Int))) 64)
  (zM s1 s6 s8 es (i+1) (s4++([(e,s6,e8,s8)]:List (jI×Int×jI×Int))))
  (none)
theorem ji (s0:jR) (s1:jR) (s5:jI) (s6:Int) (s7:jI) (s8:Int) (s4:(List (jI×Int×jI×Int))) (hl:af s0<=maxLen):lp qM ze (s0,s1,((af s0:Nat):Int),0,s4,s5,s6,s7,s8)=zM s1 s6 s8 s0 0 s4:=xR qM (fun i s4=>(s0,s1,((af s0:Nat):Int),i,s4,s5,s6,s7,s8)) (fun es i s4=>zM s1 s6 s8 es i s4) hl (fun r i s4 h=>by unfold qM zM; simp only[h,cond_false]) (fun r i s4 e es h g w k=>by unfold qM zM; simp only[h,cond_true,g,aa,w,k]) s4
def zl (s0:Int) (s5:(List ((Option jI)×Int))) (s6:jI) (s7:Int):List Int->(List Bool)->(List (jI×Int))->Option (((List Bool)×(List (jI×Int)))⊕Bool)
 | [],s8,s9=>some (aT (s8,s9))
 | e::es,s8,s9 =>
  cond (decide (e≥0))
  (zl s0 s5 s6 s7 es s8 s9)
  ((yT s6 s7 e).bind fun r15 =>
   cond (r15==s0)
   (some (aE true))
   ((inR r15 48).bind fun k16 =>
    (s8[k16]?).bind fun x17 =>
    cond (!x17)
    ((inR r15 48).bind fun k18 =>
     (s5[k18]?).bind fun x19 =>
     cond (!(ck x19.1))
     ((inR r15 48).bind fun k20 =>
      (s8[k20]?).bind fun _x21 =>
      (inR r15 48).bind fun k22 =>
      (s5[k22]?).bind fun x23 =>
      cond (yp (af s9+af ([((bH x23.1 []),x23.2)]:List (jI×Int))) 32)
      (zl s0 s5 s6 s7 es (bP s8 k20 true) (s9++([((bH x23.1 []),x23.2)]:List (jI×Int))))
      (none))
     (zl s0 s5 s6 s7 es s8 s9))
    (zl s0 s5 s6 s7 es s8 s9)))
theorem jz (s0:Int) (s1:jI) (s4:jS) (s5:(List ((Option jI)×Int))) (s6:jI) (s7:Int) (s8:(List Bool)) (s9:(List (jI×Int))) (hl:af s1<=maxLen):lp xa ze (s0,s1,((af s1:Nat):Int),0,s4,s5,s6,s7,s8,s9)=zl s0 s5 s6 s7 s1 s8 s9:=zbd xa (fun i s8 s9=>(s0,s1,((af s1:Nat):Int),i,s4,s5,s6,s7,s8,s9)) (fun es i s8 s9=>zl s0 s5 s6 s7 es s8 s9) hl (fun r i s8 s9 h=>by unfold xa zl; simp only[h,cond_false]) (fun r i s8 s9 e es h g w k=>by unfold xa zl; simp only[h,cond_true,g,aa,w,k]) s8 s9
def yu:List jR->jR->Option jR
 | [],s3=>some s3
 | e::es,s3 =>
  cond (yp (af s3+af e) 24)
  (yu es (s3++e))
  (none)
theorem YK (s0:(List jR)) (s3:jR) (hl:af s0<=maxLen):lp wE ze (s0,((af s0:Nat):Int),0,s3)=yu s0 s3:=xR wE (fun i s3=>(s0,((af s0:Nat):Int),i,s3)) (fun es i s3=>yu es s3) hl (fun r i s3 h=>by unfold wE yu; simp only[h,cond_false]) (fun r i s3 e es h g w k=>by unfold wE yu; simp only[h,cond_true,g,aa,w,k]) s3
def yC:List jR->Int->Option Int
 | [],s1=>some s1
 | e::es,s1 =>
  cond (decide ((ag .i64 (s1+((af e:Nat):Int)))<0))
  (none)
  (yC es (ag .i64 (s1+((af e:Nat):Int))))
theorem Z1 (s0:(List jR)) (s2:(List jR)) (s1:Int) (hl:af s2<=maxLen):lp wV ze (s0,s1,s2,((af s2:Nat):Int),0)=yC s2 s1:=xR wV (fun i s1=>(s0,s1,s2,((af s2:Nat):Int),i)) (fun es i s1=>yC es s1) hl (fun r i s1 h=>by unfold wV yC; simp only[h,cond_false]) (fun r i s1 e es h g w k=>by unfold wV yC; simp only[h,cond_true,g,aa,w,k]) s1
def z6:List jQ->jQ->Option jQ
 | [],s3=>some s3
 | e::es,s3 =>
  cond (yp (af s3+af e) 32)
  (z6 es (s3++e))
  (none)
theorem Zc (s0:(List jQ)) (s3:jQ) (hl:af s0<=maxLen):lp xB ze (s0,((af s0:Nat):Int),0,s3)=z6 s0 s3:=xR xB (fun i s3=>(s0,((af s0:Nat):Int),i,s3)) (fun es i s3=>z6 es s3) hl (fun r i s3 h=>by unfold xB z6; simp only[h,cond_false]) (fun r i s3 e es h g w k=>by unfold xB z6; simp only[h,cond_true,g,aa,w,k]) s3
def ya:List jQ->Int->Option Int
 | [],s1=>some s1
 | e::es,s1 =>
  cond (decide ((ag .i64 (s1+((af e:Nat):Int)))<0))
  (none)
  (ya es (ag .i64 (s1+((af e:Nat):Int))))
theorem Zd (s0:(List jQ)) (s2:(List jQ)) (s1:Int) (hl:af s2<=maxLen):lp xG ze (s0,s1,s2,((af s2:Nat):Int),0)=ya s2 s1:=xR xG (fun i s1=>(s0,s1,s2,((af s2:Nat):Int),i)) (fun es i s1=>ya es s1) hl (fun r i s1 h=>by unfold xG ya; simp only[h,cond_false]) (fun r i s1 e es h g w k=>by unfold xG ya; simp only[h,cond_true,g,aa,w,k]) s1
def ym (s0:Int) (s4:jR) (s6:jQ):List zc->Nat->jQ->Option (jR×jQ×jQ)
 | [],_i,s5=>some (s4,s5,s6)
 | e::es,i,s5 =>
  cond ((i:Int) != s0)
  (cond (yp (af s5+af ([(e.1,e.2)]:List zc)) 32)
   (ym s0 s4 s6 es (i+1) (s5++([(e.1,e.2)]:List zc)))
   (none))
  (ym s0 s4 s6 es (i+1) s5)
theorem YZ (s0:Int) (s1:jQ) (s4:jR) (s6:jQ) (s5:jQ) (hl:af s1<=maxLen):lp vF ze (s0,s1,((af s1:Nat):Int),0,s4,s5,s6)=ym s0 s4 s6 s1 0 s5:=xR vF (fun i s5=>(s0,s1,((af s1:Nat):Int),i,s4,s5,s6)) (fun es i s5=>ym s0 s4 s6 es i s5) hl (fun r i s5 h=>by unfold vF ym; simp only[h,cond_false]) (fun r i s5 e es h g w k=>by unfold vF ym; simp only[h,cond_true,g,aa,w,k]) s5
def yo (s0:Int) (s8:jR) (s10:jQ):List zc->Nat->jQ->Option (jR×jQ×jQ)
 | [],_i,s9=>some (s8,s9,s10)
 | e::es,i,s9 =>
  cond ((i:Int) != s0)
  (cond (yp (af s9+af ([(e.1,e.2)]:List zc)) 32)
   (yo s0 s8 s10 es (i+1) (s9++([(e.1,e.2)]:List zc)))
   (none))
  (yo s0 s8 s10 es (i+1) s9)
theorem YX (s0:Int) (s1:Int) (s2:jQ) (s5:jQ) (s6:jR) (s7:jQ) (s8:jR) (s10:jQ) (s9:jQ) (hl:af s2<=maxLen):lp vG ze (s0,s1,s2,((af s2:Nat):Int),0,s5,s6,s7,s8,s9,s10)=yo s0 s8 s10 s2 0 s9:=xR vG (fun i s9=>(s0,s1,s2,((af s2:Nat):Int),i,s5,s6,s7,s8,s9,s10)) (fun es i s9=>yo s0 s8 s10 es i s9) hl (fun r i s9 h=>by unfold vG yo; simp only[h,cond_false]) (fun r i s9 e es h g w k=>by unfold vG yo; simp only[h,cond_true,g,aa,w,k]) s9
def wy (s0:Int):List (Int×jI)->Option (Unit⊕jI)
 | []=>some (aT ())
 | e::es =>
  cond (e.1==s0)
  (some (aE e.2))
  (wy s0 es)
theorem XY (s0:Int) (s1:(List (Int×jI))) (hl:af s1<=maxLen):lp tT ze (s0,s1,((af s1:Nat):Int),0)=wy s0 s1:=tw tT (fun i=>(s0,s1,((af s1:Nat):Int),i)) (fun es i=>wy s0 es) hl (fun r i h=>by unfold tT wy; simp only[h,cond_false]) (fun r i e es h g w k=>by unfold tT wy; simp only[h,cond_true,g,aa,w,k])
def xh (s0:(List (Int×jI))):List Int->jI->Option jI
 | [],s4=>some s4
 | e::es,s4 =>
  (zP e).bind fun r11 =>
  (QK s0 r11).bind fun r12 =>
  cond (decide (e≥0))
  (cond (yp (af s4+af ([e]:List Int)) 8)
   (xh s0 es (s4++([e]:List Int)))
   (none))
  (cond (ck r12)
   (cond (yp (af s4+af ([e]:List Int)) 8)
    (xh s0 es (s4++([e]:List Int)))
    (none))
   (cond (yp (af s4+af (bH r12 [])) 8)
    (xh s0 es (s4++(bH r12 [])))
    (none)))
theorem Vk (s0:(List (Int×jI))) (s1:jI) (s4:jI) (hl:af s1<=maxLen):lp kO ze (s0,s1,((af s1:Nat):Int),0,s4)=xh s0 s1 s4:=xR kO (fun i s4=>(s0,s1,((af s1:Nat):Int),i,s4)) (fun es i s4=>xh s0 es s4) hl (fun r i s4 h=>by unfold kO xh; simp only[h,cond_false]) (fun r i s4 e es h g w k=>by unfold kO xh; simp only[h,cond_true,g,aa,w,k]) s4
def qx (s3:(List (Int×jI))) (s4:jQ) (s5:jR):List zc->jQ->Option (jQ×jR×jQ)
 | [],s6=>some (s4,s5,s6)
 | e::es,s6 =>
  (xW e.2 s3).bind fun r20 =>
  cond (yp (af s6+af ([(e.1,r20)]:List zc)) 32)
  (qx s3 s4 s5 es (s6++([(e.1,r20)]:List zc)))
  (none)
theorem QR (s0:jQ) (s3:(List (Int×jI))) (s4:jQ) (s5:jR) (s6:jQ) (hl:af s0<=maxLen):lp uz ze (s0,((af s0:Nat):Int),0,s3,s4,s5,s6)=qx s3 s4 s5 s0 s6:=xR uz (fun i s6=>(s0,((af s0:Nat):Int),i,s3,s4,s5,s6)) (fun es i s6=>qx s3 s4 s5 es s6) hl (fun r i s6 h=>by unfold uz qx; simp only[h,cond_false]) (fun r i s6 e es h g w k=>by unfold uz qx; simp only[h,cond_true,g,aa,w,k]) s6
def qm (s3:(List (Int×jI))) (s7:jQ):List jI->jR->Option (jQ×jR)
 | [],s8=>some (s7,s8)
 | e::es,s8 =>
  (xW e s3).bind fun r13 =>
  cond (yp (af s8+af ([r13]:List jI)) 24)
  (qm s3 s7 es (s8++([r13]:List jI)))
  (none)
theorem Y8 (s0:jR) (s3:(List (Int×jI))) (s4:jQ) (s5:jR) (s6:jQ) (s7:jQ) (s8:jR) (hl:af s0<=maxLen):lp uE ze (s0,((af s0:Nat):Int),0,s3,s4,s5,s6,s7,s8)=qm s3 s7 s0 s8:=xR uE (fun i s8=>(s0,((af s0:Nat):Int),i,s3,s4,s5,s6,s7,s8)) (fun es i s8=>qm s3 s7 es s8) hl (fun r i s8 h=>by unfold uE qm; simp only[h,cond_false]) (fun r i s8 e es h g w k=>by unfold uE qm; simp only[h,cond_true,g,aa,w,k]) s8
def qk (s3:(List (Int×jI))):List zc->jQ->Option jQ
 | [],s7=>some s7
 | e::es,s7 =>
  (xW e.2 s3).bind fun r6 =>
  cond (yp (af s7+af ([(e.1,r6)]:List zc)) 32)
  (qk s3 es (s7++([(e.1,r6)]:List zc)))
  (none)
theorem Y7 (s0:jQ) (s3:(List (Int×jI))) (s4:jQ) (s5:jR) (s6:jQ) (s7:jQ) (hl:af s0<=maxLen):lp uk ze (s0,((af s0:Nat):Int),0,s3,s4,s5,s6,s7)=qk s3 s0 s7:=xR uk (fun i s7=>(s0,((af s0:Nat):Int),i,s3,s4,s5,s6,s7)) (fun es i s7=>qk s3 es s7) hl (fun r i s7 h=>by unfold uk qk; simp only[h,cond_false]) (fun r i s7 e es h g w k=>by unfold uk qk; simp only[h,cond_true,g,aa,w,k]) s7
def zW (s3:jS):List zc->Nat->Option (Unit⊕Int)
 | [],_i=>some (aT ())
 | e::es,i =>
  (ZS e.1 e.2 s3).bind fun r4 =>
  cond r4
  (some (aE (i:Int)))
  (zW s3 es (i+1))
theorem kw (s0:jQ) (s3:jS) (hl:af s0<=maxLen):lp qh ze (s0,((af s0:Nat):Int),0,s3)=zW s3 s0 0:=tw qh (fun i=>(s0,((af s0:Nat):Int),i,s3)) (fun es i=>zW s3 es i) hl (fun r i h=>by unfold qh zW; simp only[h,cond_false]) (fun r i e es h g w k=>by unfold qh zW; simp only[h,cond_true,g,aa,w,k])
def qo:List Int->jI->Option jI
 | [],s3=>some s3
 | e::es,s3 =>
  cond (decide (e<0))
  ((zP e).bind fun r8 =>
   (inR r8 24).bind fun k9 =>
   (s3[k9]?).bind fun x10 =>
   (inR r8 24).bind fun k11 =>
   (s3[k11]?).bind fun _x12 =>
   qo es (bP s3 k11 (ag .i64 (x10+1))))
  (qo es s3)
theorem Qv (s0:jI) (s3:jI) (hl:af s0<=maxLen):lp uy ze (s0,((af s0:Nat):Int),0,s3)=qo s0 s3:=xR uy (fun i s3=>(s0,((af s0:Nat):Int),i,s3)) (fun es i s3=>qo es s3) hl (fun r i s3 h=>by unfold uy qo; simp only[h,cond_false]) (fun r i s3 e es h g w k=>by unfold uy qo; simp only[h,cond_true,g,aa,w,k]) s3
def qB (s0:jS):List Int->Int->Option Int
 | [],s1=>some s1
 | e::es,s1 =>
  cond (decide (e<0))
  (qB s0 es (ag .i64 (s1+1)))
  ((gx s0 e).bind fun e4 =>
   qB s0 es (ag .i64 (s1+e4.2.2.2)))
theorem jG (s0:jS) (s2:jI) (s1:Int) (hl:af s2<=maxLen):lp sU ze (s0,s1,s2,((af s2:Nat):Int),0)=qB s0 s2 s1:=xR sU (fun i s1=>(s0,s1,s2,((af s2:Nat):Int),i)) (fun es i s1=>qB s0 es s1) hl (fun r i s1 h=>by unfold sU qB; simp only[h,cond_false]) (fun r i s1 e es h g w k=>by unfold sU qB; simp only[h,cond_true,g,aa,w,k]) s1
def yV (s0:jR):List jI->Nat->Option (Unit⊕(jI×jI))
 | [],_i=>some (aT ())
 | e::es,i =>
  cond (decide ((i:Int)<((af s0:Nat):Int)))
  ((gx s0 (i:Int)).bind fun e8 =>
   (yb e e8).bind fun r9 =>
   cond (!r9)
   ((gx s0 (i:Int)).bind fun e10 =>
    some (aE (e,e10)))
   (yV s0 es (i+1)))
  (yV s0 es (i+1))
theorem Y4 (s0:jR) (s1:jR) (hl:af s1<=maxLen):lp vB ze (s0,s1,((af s1:Nat):Int),0)=yV s0 s1 0:=tw vB (fun i=>(s0,s1,((af s1:Nat):Int),i)) (fun es i=>yV s0 es i) hl (fun r i h=>by unfold vB yV; simp only[h,cond_false]) (fun r i e es h g w k=>by unfold vB yV; simp only[h,cond_true,g,aa,w,k])
def zX (s3:jS) (s4:Bool) (s5:jI):List zc->Nat->Option (Unit⊕Int)
 | [],_i=>some (aT ())
 | e::es,i =>
  (Yx e.1 e.2 s3 s4 s5).bind fun r4 =>
  cond r4
  (some (aE (i:Int)))
  (zX s3 s4 s5 es (i+1))
theorem kp (s0:jQ) (s3:jS) (s4:Bool) (s5:jI) (hl:af s0<=maxLen):lp qr ze (s0,((af s0:Nat):Int),0,s3,s4,s5)=zX s3 s4 s5 s0 0:=tw qr (fun i=>(s0,((af s0:Nat):Int),i,s3,s4,s5)) (fun es i=>zX s3 s4 s5 es i) hl (fun r i h=>by unfold qr zX; simp only[h,cond_false]) (fun r i e es h g w k=>by unfold qr zX; simp only[h,cond_true,g,aa,w,k])
def xj (s0:jQ) (s4:jS):List zc->Nat->jI->Option jI
 | [],_i,s5=>some s5
 | e::es,i,s5 =>
  (xv s0 s4 e.1 e.2).bind fun r8 =>
  cond (!r8)
  (cond (yp (af s5+af ([(i:Int)]:List Int)) 8)
   (xj s0 s4 es (i+1) (s5++([(i:Int)]:List Int)))
   (none))
  (xj s0 s4 es (i+1) s5)
theorem Ww (s0:jQ) (s1:jQ) (s4:jS) (s5:jI) (hl:af s1<=maxLen):lp sR ze (s0,s1,((af s1:Nat):Int),0,s4,s5)=xj s0 s4 s1 0 s5:=xR sR (fun i s5=>(s0,s1,((af s1:Nat):Int),i,s4,s5)) (fun es i s5=>xj s0 s4 es i s5) hl (fun r i s5 h=>by unfold sR xj; simp only[h,cond_false]) (fun r i s5 e es h g w k=>by unfold sR xj; simp only[h,cond_true,g,aa,w,k]) s5
def zV (s3:Bool) (s4:jI):List zc->Nat->Option (Unit⊕Int)
 | [],_i=>some (aT ())
 | e::es,i =>
  (uU e.1 e.2 s3 s4).bind fun r4 =>
  cond r4
  (some (aE (i:Int)))
  (zV s3 s4 es (i+1))
theorem kv (s0:jQ) (s3:Bool) (s4:jI) (hl:af s0<=maxLen):lp qu ze (s0,((af s0:Nat):Int),0,s3,s4)=zV s3 s4 s0 0:=tw qu (fun i=>(s0,((af s0:Nat):Int),i,s3,s4)) (fun es i=>zV s3 s4 es i) hl (fun r i h=>by unfold qu zV; simp only[h,cond_false]) (fun r i e es h g w k=>by unfold qu zV; simp only[h,cond_true,g,aa,w,k])
def yQ (s0:jS) (s4:jQ):List zc->Option (Unit⊕(Bool×Int))
 | []=>some (aT ())
 | e::es =>
  (vJ s0 e.1 e.2).bind fun r6 =>
  cond r6
  (some (aE (true,0)))
  ((xo s4 e.1 e.2).bind fun r7 =>
   cond r7
   (some (aE (true,0)))
   (yQ s0 s4 es))
theorem Zj (s0:jS) (s1:jQ) (s4:jQ) (s5:jR) (s6:jQ) (hl:af s1<=maxLen):lp wc ze (s0,s1,((af s1:Nat):Int),0,s4,s5,s6)=yQ s0 s4 s1:=tw wc (fun i=>(s0,s1,((af s1:Nat):Int),i,s4,s5,s6)) (fun es i=>yQ s0 s4 es) hl (fun r i h=>by unfold wc yQ; simp only[h,cond_false]) (fun r i e es h g w k=>by unfold wc yQ; simp only[h,cond_true,g,aa,w,k])
theorem ye {xs:List Int} (h:xs.length<=1099511627776):zC xs=some xs:=by
 unfold zC QG;simp only[co,cond_false,ba,bb,aQ,bm];rw[zk (show xs.length*8<=140737488351232 by omega)]
 rfl
theorem Ef (ys:List Int):(es:List Int)->(i:Nat)->es.length=(ys.drop i).length->qE ys es i=some (cond (decide (es=ys.drop i)) (.inl ()) (.inr false))
 | [],i,h=>by
  have:ys.drop i=[]:=List.eq_nil_of_length_eq_zero h.symm;rw[this]; rfl
 | e::es,i,h=>by
  cases hd:ys.drop i with
  | nil=>rw[hd] at h; simp at h
  | cons y r =>
   have hn:=zj hd;have:=Ef ys es (i+1) (by rw[hn]; rw[hd] at h; simpa using h)
   unfold qE;simp only[yH,zw hd,aa,this,hn];by_cases he:e=y
   ·subst he;simp
   ·have h1:(e != y)=true:=by simpa using he
    simp [h1,he]
theorem wo {xs ys:List Int} (h:xs.length<=maxLen):yb xs ys=some (decide (xs=ys)):=by
 unfold yb;by_cases hl:xs.length=ys.length
 ·rw[show (((af xs:Nat):Int) != ((af ys:Nat):Int))=false from by simp [hl],cond_false,Y2 _ _ h,Ef ys xs 0 hl,bM]
  cases decide (xs=ys)<;>rfl
 ·rw[show (((af xs:Nat):Int) != ((af ys:Nat):Int))=true from by simp; omega,cond_true,decide_eq_false (by intro h; subst h; exact hl rfl)]
theorem Jp {a b:Bool} {xs ys:List Int} (h:xs.length<=maxLen):Q3 a xs b ys=some (decide ((a,xs)=(b,ys))):=by
 unfold Q3;cases hab:(a==b) with
 | false =>
  have:a≠b:=by simpa using hab
  simp [this]
 | true =>
  have:a=b:=by simpa using hab
  subst this;rw[cond_true,wo h];simp
theorem E0 (l:zc) (hl:l.2.length<=maxLen):(es:List zc)->(i:Nat)->∃ r,yj l.1 l.2 es i=some r∧(l∈es->∃ j:Nat,r = .inr (j:Int))∧(l∉es->r = .inl ())
 | [],i=>⟨.inl (),rfl,(fun h=>by cases h),fun _=>rfl⟩
 | e::es,i=>by
  unfold yj rk;rw[Jp hl];simp only[aa];by_cases he:(l.1,l.2)=(e.1,e.2)
  ·rw[decide_eq_true he,cond_true];have he':l=e:=he;exact ⟨_,rfl,fun _=>⟨i,rfl⟩,fun h=>absurd (aD.2 (.inl he')) h⟩
  ·rw[decide_eq_false he,cond_false];obtain⟨r,h1,h2,h3⟩:=E0 l hl es (i+1);have he':l≠e:=he;refine ⟨r,h1,fun h=>h2 ?_,fun h=>h3 fun h'=>h (ai _ h')⟩;rcases aD.1 h with h | h
   ·exact absurd h he'
   ·exact h
theorem YW {l:zc} {es:List zc} (hl:l.2.length<=maxLen) (h:es.length<=maxLen):wv es l.1 l.2=some (decide (l∈es)):=by
 unfold wv kg;rw[jB _ _ _ h];obtain⟨r,h1,h2,h3⟩:=E0 l hl es 0;rw[h1];by_cases hm:l∈es
 ·obtain⟨j,rfl⟩:=h2 hm;simp [zR,hm]
 ·rw[h3 hm];simp [zR,hm]
def zU {α:Type} [DecidableEq α]:List α->List α->List α
 | [],out=>out
 | e::es,out=>cond (decide (e∈out)) (zU es out) (zU es (out++[e]))
theorem w8 {α:Type} [DecidableEq α]:(es out:List α)->(zU es out).length<=out.length+es.length
 | [],out=>by simp [zU]
 | e::es,out=>by
  unfold zU;cases decide (e∈out) with
  | true=>have:=w8 es out; simp only[cond_true,ak]; omega
  | false=>have:=w8 es (out++[e]); simp only[cond_false,ak,am,bb] at this ⊢; omega
theorem xl {α:Type} [DecidableEq α] {x:α}:(es out:List α)->(x∈zU es out↔x∈out∨x∈es)
 | [],out=>by simp [zU]
 | e::es,out=>by
  unfold zU;by_cases h:e∈out
  ·rw[decide_eq_true h,cond_true,xl es out,aD];constructor
   ·rintro (h1 | h1)
    ·exact .inl h1
    ·exact .inr (.inr h1)
   ·rintro (h1 | rfl | h1)
    ·exact .inl h1
    ·exact .inl h
    ·exact .inr h1
  ·rw[decide_eq_false h,cond_false,xl es (out++[e])];simp only[List.mem_append,aD,List.not_mem_nil,or_false];constructor
   ·rintro ((h1 | h1) | h1)
    ·exact .inl h1
    ·exact .inr (.inl h1)
    ·exact .inr (.inr h1)
   ·rintro (h1 | h1 | h1)
    ·exact .inl (.inl h1)
    ·exact .inl (.inr h1)
    ·exact .inr h1
theorem CF:(es out:List zc)->(∀ e∈es,e.2.length<=maxLen)->out.length+es.length<=1000000->qw es out=some (zU es out)
 | [],out,_,_=>rfl
 | e::es,out,h,hl=>by
  have h1:=h e (aj ..);have hl':out.length+(es.length+1)<=1000000:=hl;unfold qw zU;rw[YW h1 (by unfold maxLen; omega),aa]
  by_cases hm:e∈out
  ·simp only[hm,decide_true,ay,cond_false,cond_true];exact CF es out (fun x hx=>h x (ai _ hx)) (by omega)
  ·simp only[hm,decide_false,bu,cond_false,cond_true];rw[zk (show (out.length+([(e.1,e.2)]:List zc).length)*32<=140737488351232 by simp; omega),cond_true]
   exact CF es (out++[e]) (fun x hx=>h x (ai _ hx)) (by simp; omega)
theorem Xp {es:List zc} (h:∀ e∈es,e.2.length<=maxLen) (hl:es.length<=1000000):jf es=some (zU es []):=by
 unfold jf;rw[Qk _ _ (by unfold maxLen; omega),CF es [] h (by simpa using hl)]
 rfl
theorem Eu (l:List Int) (hl:l.length<=maxLen):(es:List jI)->(i:Nat)->∃ r,zZ l es i=some r∧(l∈es->∃ j:Nat,r = .inr (j:Int))∧(l∉es->r = .inl ())
 | [],i=>⟨.inl (),rfl,(fun h=>by cases h),fun _=>rfl⟩
 | e::es,i=>by
  unfold zZ rm;rw[wo hl];simp only[aa];by_cases he:l=e
  ·rw[decide_eq_true he,cond_true];exact ⟨_,rfl,fun _=>⟨i,rfl⟩,fun h=>absurd (aD.2 (.inl he)) h⟩
  ·rw[decide_eq_false he,cond_false];obtain⟨r,h1,h2,h3⟩:=Eu l hl es (i+1);refine ⟨r,h1,fun h=>h2 ?_,fun h=>h3 fun h'=>h (ai _ h')⟩;rcases aD.1 h with h | h
   ·exact absurd h he
   ·exact h
theorem Zh {l:List Int} {es:List jI} (hl:l.length<=maxLen) (h:es.length<=maxLen):xn es l=some (decide (l∈es)):=by
 unfold xn sy;rw[kr _ _ h];obtain⟨r,h1,h2,h3⟩:=Eu l hl es 0;rw[h1];by_cases hm:l∈es
 ·obtain⟨j,rfl⟩:=h2 hm;simp [zR,hm]
 ·rw[h3 hm];simp [zR,hm]
theorem Aa (s3 s4:List zc):(es out:List jI)->(∀ e∈es,e.length<=maxLen)->out.length+es.length<=1000000->qp s3 s4 es out=some (s3,s4,zU es out)
 | [],out,_,_=>rfl
 | e::es,out,h,hl=>by
  have h1:=h e (aj ..);have hl':out.length+(es.length+1)<=1000000:=hl;unfold qp zU;rw[Zh h1 (by unfold maxLen; omega),aa]
  by_cases hm:e∈out
  ·simp only[hm,decide_true,ay,cond_false,cond_true];exact Aa s3 s4 es out (fun x hx=>h x (ai _ hx)) (by omega)
  ·simp only[hm,decide_false,bu,cond_false,cond_true];rw[zk (show (out.length+([e]:List jI).length)*24<=140737488351232 by simp; omega),cond_true]
   exact Aa s3 s4 es (out++[e]) (fun x hx=>h x (ai _ hx)) (by simp; omega)
def Kl (s:List Int×Int) (c:Int):Int×(List Int×Int) :=
 cond (decide (c≥0)) (c,s) (cond (s.1.getD (-1 - c).toNat 0==0) (-(s.2+1),(s.1.set (-1 - c).toNat (s.2+1),s.2+1)) (-(s.1.getD (-1 - c).toNat 0),s))
def rZ:List Int×Int->List Int->List Int×(List Int×Int)
 | s,[]=>([],s)
 | s,c::cs=>((Kl s c).1::(rZ (Kl s c).2 cs).1,(rZ (Kl s c).2 cs).2)
theorem Ij:(s:List Int×Int)->(cs:List Int)->(rZ s cs).1.length=cs.length
 | _,[]=>rfl
 | s,c::cs=>by simp [rZ,Ij (Kl s c).2 cs]
structure RenOk (s:List Int×Int) (b:Int):Prop where
 len:s.1.length=24
 lo:0<=s.2
 hi:s.2<=b
 all:∀ x∈s.1,0<=x∧x<=s.2
theorem RenOk.more {s:List Int×Int} {b b':Int} (h:RenOk s b) (hb:b<=b'):RenOk s b':=⟨h.len,h.lo,Int.le_trans h.hi hb,h.all⟩
theorem RenOk.get {s:List Int×Int} {b:Int} (h:RenOk s b) (v:Nat):0<=s.1.getD v 0∧s.1.getD v 0<=s.2:=by
 have h0:=h.lo;rw[aG];cases hv:s.1[v]? with
 | none=>exact ⟨ef _,h0⟩
 | some x=>exact h.all x (aI hv)
theorem Nr {s:List Int×Int} {b:Int} (h:RenOk s b) (c:Int):RenOk (Kl s c).2 (b+1):=by
 unfold Kl;cases decide (c≥0) with
 | true=>exact h.more (by omega)
 | false =>
  rw[cond_false];cases (s.1.getD (-1 - c).toNat 0==0) with
  | false=>exact h.more (by omega)
  | true =>
   refine ⟨by simpa using h.len,by have:=h.lo; simp; omega,by have:=h.hi; simp; omega,fun x hx => ?_⟩
   simp only[cond_true] at hx ⊢;rcases List.mem_or_eq_of_mem_set hx with hx | rfl
   ·have:=h.all x hx; omega
   ·have:=h.lo; omega
theorem XQ:{s:List Int×Int}->{b:Int}->(cs:List Int)->RenOk s b->RenOk (rZ s cs).2 (b+cs.length)
 | s,b,[],h=>by simpa[rZ] using h
 | s,b,c::cs,h=>by
  have:=XQ cs (Nr h c);simp only[rZ,ak];exact this.more (by omega)
theorem Cx {α:Type} (done es:List α) (e x:α):(done++e::es).set done.length x=done++x::es:=by
 rw[List.set_append_right _ _ (aF _),ej];rfl
theorem QQ {α:Type} (done es:List α) (e:α):(done++e::es)[done.length]? = some e:=by
 rw[List.getElem?_append_right (aF _),ej];rfl
theorem D8:(es done:List Int)->(s:List Int×Int)->(k:Nat)->es.length<k->done.length+es.length<=1000000->RenOk s 1000000->s.2+es.length<=1000000->(∀ c∈es,-24<=c) ->
  lp qb k (((done.length+es.length:Nat):Int),(done.length:Int),s.1,s.2,done++es)=some ((rZ s es).2.1,(rZ s es).2.2,done++(rZ s es).1)
 | [],done,s,k,hk,hl,hs,hb,hc=>by
  obtain⟨k,rfl⟩:∃ k',k=k'+1:=⟨k - 1,by omega⟩
  rw[zu];generalize lp qb k=rec;unfold qb;simp [rZ]
 | e::es,done,s,k,hk,hl,hs,hb,hc=>by
  obtain⟨k,rfl⟩:∃ k',k=k'+1:=⟨k - 1,by omega⟩
  rw[zu];have he:=hc e (aj ..);have hl':done.length+(es.length+1)<=1000000:=hl;have hb':s.2+((es.length+1:Nat):Int)<=1000000:=hb;have key:=fun (e':Int) (s':List Int×Int) (hs':RenOk s' 1000000) (hb2:s'.2+es.length<=1000000)=>D8 es (done++[e']) s' k (cm hk) (by simp; omega) hs' hb2 (fun c hx=>hc c (ai _ hx))
  generalize lp qb k=rec at key ⊢;unfold qb;have e1:decide (((done.length:Nat):Int)<((done.length+(e::es).length:Nat):Int))=true:=by rw[decide_eq_true_eq,ak]; omega
  have e2:inR ((done.length:Nat):Int) (af (done++e::es))=some done.length:=yN (by simp)
  have e3:ag .i64 (((done.length:Nat):Int)+1)=((done.length+1:Nat):Int):=by rw[zp]<;>omega
  have key2:=fun (e':Int) (s':List Int×Int) (hs':RenOk s' 1000000) (hb2:s'.2+es.length<=1000000)=>by
   have:=key e' s' hs' hb2;rw[List.append_assoc,am,aV,bK,dg 1 es.length] at this;exact this
  simp only[e1,cond_true,e2,aa,QQ,e3];by_cases h0:e≥0
  ·have hr:Kl s e=(e,s):=by unfold Kl; rw[decide_eq_true h0]; rfl
   rw[decide_eq_true h0,cond_true];have:=key2 e s hs (by omega)
   simp only[rZ,hr];exact this.trans (by simp)
  ·rw[decide_eq_false h0,cond_false];have h24:(-1 - e).toNat<24:=by omega
   have e4:inR (-1 - e) 24=some (-1 - e).toNat:=by
    have:=yN h24;rwa [Int.toNat_of_nonneg (by omega)] at this
   have hget:∀ xs:List Int,xs.length=24->xs[(-1 - e).toNat]? = some (xs.getD (-1 - e).toNat 0):=fun xs hx=>by
    rw[aG,al (by omega)]; rfl
   have hg:=hs.get (-1 - e).toNat;have hs1:=hs.hi;have hs0:=hs.lo;simp only[qA (x:=e) (by omega) (by omega),aa,e4,hget s.1 hs.len]
   by_cases hz:s.1.getD (-1 - e).toNat 0=0
   ·have hr:Kl s e=(-(s.2+1),(s.1.set (-1 - e).toNat (s.2+1),s.2+1)):=by unfold Kl; rw[decide_eq_false h0,hz]; rfl
    have w1:ag .i64 (s.2+1)=s.2+1:=by rw[zp]<;>omega
    have hset:(bP s.1 (-1 - e).toNat (s.2+1)).getD (-1 - e).toNat 0=s.2+1:=by
     rw[aG,List.getElem?_set_self (by rw[hs.len]; exact h24)]; rfl
    have hn:zbf .i64 (s.2+1) = -(s.2+1):=by unfold zbf; rw[zp]<;>omega
    rw[hz];simp only[show (((0:Int)==0))=true from rfl,cond_true,w1,hget (bP s.1 (-1 - e).toNat (s.2+1)) (by simpa using hs.len),aa,hset,hn,Cx]
    have hok:=Nr (b:=s.2) ⟨hs.len,hs.lo,ef _,hs.all⟩ e;rw[hr] at hok;have:=key2 (-(s.2+1)) (s.1.set (-1 - e).toNat (s.2+1),s.2+1) (hok.more (by omega)) (by simp only; omega)
    simp only[rZ,hr];exact this.trans (by simp)
   ·have hr:Kl s e=(-(s.1.getD (-1 - e).toNat 0),s):=by
     unfold Kl;rw[decide_eq_false h0,show (s.1.getD (-1 - e).toNat 0==0)=false from by simpa using hz]; rfl
    have hn:zbf .i64 (s.1.getD (-1 - e).toNat 0) = -(s.1.getD (-1 - e).toNat 0):=by unfold zbf; rw[zp]<;>omega
    rw[show (s.1.getD (-1 - e).toNat 0==0)=false from by simpa using hz,cond_false]
    simp only[hn,Cx];have:=key2 (-(s.1.getD (-1 - e).toNat 0)) s hs (by omega)
    simp only[rZ,hr];exact this.trans (by simp)
theorem tL {r:List Int} {s:List Int×Int} (hl:r.length<=1000) (hs:RenOk s 900000) (hc:∀ c∈r,-24<=c):y5 r s.1 s.2=some ((rZ s r).1,(rZ s r).2.1,(rZ s r).2.2):=by
 unfold y5;rw[ye (by omega),aa]
 have h1:=hs.hi;have:=D8 r [] s ze (by unfold ze; omega) (by simp; omega) (hs.more (by omega)) (by omega) hc
 simp only[bb,aQ,bm] at this;rw[show ((0:Nat):Int)=0 from rfl] at this
 rw[this,aa];have hlen:=(XQ r hs).len;simp only[hs.len,hlen];rfl
def vo:List Int×Int->List zc->List zc×(List Int×Int)
 | s,[]=>([],s)
 | s,l::ls=>((l.1,(rZ s l.2).1)::(vo (rZ s l.2).2 ls).1,(vo (rZ s l.2).2 ls).2)
def tW:List Int×Int->List jI->List jI×(List Int×Int)
 | s,[]=>([],s)
 | s,l::ls=>((rZ s l).1::(tW (rZ s l).2 ls).1,(tW (rZ s l).2 ls).2)
def rD (r:List Int):Prop:=r.length<=1000∧∀ c∈r,-24<=c
theorem IR:{s:List Int×Int}->{b:Int}->(ls:List zc)->(∀ l∈ls,rD l.2)->RenOk s b->RenOk (vo s ls).2 (b+1000*ls.length)
 | s,b,[],_,h=>by simpa[vo] using h
 | s,b,l::ls,hl,h=>by
  have h1:=hl l (aj ..);have:=IR ls (fun x hx=>hl x (ai _ hx)) (XQ l.2 h);have h2:=h1.1;simp only[vo,ak];exact this.more (by omega)
theorem EV:{s:List Int×Int}->{b:Int}->(ls:List jI)->(∀ l∈ls,rD l)->RenOk s b->RenOk (tW s ls).2 (b+1000*ls.length)
 | s,b,[],_,h=>by simpa[tW] using h
 | s,b,l::ls,hl,h=>by
  have h1:=hl l (aj ..);have:=EV ls (fun x hx=>hl x (ai _ hx)) (XQ l h);have h2:=h1.1;simp only[tW,ak];exact this.more (by omega)
theorem Gz:(es:List zc)->(s:List Int×Int)->(out:List zc)->(b:Int)->RenOk s b->b+1000*es.length<=900000->(∀ l∈es,rD l.2)->out.length+es.length<=1000000 ->
  yw es s.1 s.2 out=some ((vo s es).2.1,(vo s es).2.2,out++(vo s es).1)
 | [],s,out,b,_,_,_,_=>by simp [yw,vo]
 | e::es,s,out,b,hs,hb,h,hl=>by
  have he:=h e (aj ..);have h1:=he.1;rw[ak] at hb hl;unfold yw;rw[tL he.1 (hs.more (by omega)) he.2,aa]
  rw[zk (show (out.length+([(e.1,(rZ s e.2).1)]:List zc).length)*32<=140737488351232 by simp; omega),cond_true]
  have:=Gz es (rZ s e.2).2 (out++[(e.1,(rZ s e.2).1)]) _ (XQ e.2 hs) (by omega) (fun x hx=>h x (ai _ hx)) (by simp; omega)
  exact this.trans (by simp [vo])
theorem GH (s8:List zc):(es:List jI)->(s:List Int×Int)->(out:List jI)->(b:Int)->RenOk s b->b+1000*es.length<=900000->(∀ l∈es,rD l)->out.length+es.length<=1000000 ->
  yA s8 es s.1 s.2 out=some ((tW s es).2.1,(tW s es).2.2,s8,out++(tW s es).1)
 | [],s,out,b,_,_,_,_=>by simp [yA,tW]
 | e::es,s,out,b,hs,hb,h,hl=>by
  have he:=h e (aj ..);have h1:=he.1;rw[ak] at hb hl;unfold yA;rw[tL he.1 (hs.more (by omega)) he.2,aa]
  rw[zk (show (out.length+([(rZ s e).1]:List jI).length)*24<=140737488351232 by simp; omega),cond_true]
  have:=GH s8 es (rZ s e).2 (out++[(rZ s e).1]) _ (XQ e hs) (by omega) (fun x hx=>h x (ai _ hx)) (by simp; omega)
  exact this.trans (by simp [tW])
theorem Gr (s5:List zc) (s6:List jI):(es:List zc)->(s:List Int×Int)->(out:List zc)->(b:Int)->RenOk s b->b+1000*es.length<=900000->(∀ l∈es,rD l.2)->out.length+es.length<=1000000 ->
  yF s5 s6 es s.1 s.2 out=some ((vo s es).2.1,(vo s es).2.2,s5,s6,out++(vo s es).1)
 | [],s,out,b,_,_,_,_=>by simp [yF,vo]
 | e::es,s,out,b,hs,hb,h,hl=>by
  have he:=h e (aj ..);have h1:=he.1;rw[ak] at hb hl;unfold yF;rw[tL he.1 (hs.more (by omega)) he.2,aa]
  rw[zk (show (out.length+([(e.1,(rZ s e.2).1)]:List zc).length)*32<=140737488351232 by simp; omega),cond_true]
  have:=Gr s5 s6 es (rZ s e.2).2 (out++[(e.1,(rZ s e.2).1)]) _ (XQ e.2 hs) (by omega) (fun x hx=>h x (ai _ hx)) (by simp; omega)
  exact this.trans (by simp [vo])
def zfv (L:List zc) (T:List jI) (C:List zc):List zc×List jI×List zc :=
 ((vo (az 24 0,0) L).1,(tW (vo (az 24 0,0) L).2 T).1,(vo (tW (vo (az 24 0,0) L).2 T).2 C).1)
theorem MU:RenOk (az 24 (0:Int),0) 0:=⟨rfl,ef _,ef _,fun x hx=>by have:=List.eq_of_mem_replicate hx; omega⟩
def tX (L:List zc) (T:List jI) (C:List zc):List zc×List jI×List zc:=zfv (zU L []) (zU T []) (zU C [])
theorem Gi {L:List zc} {T:List jI} {C:List zc} (hL:L.length<=100) (hT:T.length<=100) (hC:C.length<=100) (sL:∀ l∈L,rD l.2) (sT:∀ l∈T,rD l) (sC:∀ l∈C,rD l.2) :
  Yf L T C=some (tX L T C):=by
 have big:∀ r:List Int,rD r->r.length<=maxLen:=fun r h=>by have:=h.1; unfold maxLen; omega
 have lL:=w8 L [];have lT:=w8 T [];have lC:=w8 C [];simp only[bb,aQ] at lL lT lC;have sL':∀ l∈zU L [],rD l.2:=fun l h=>sL l (by simpa using (xl L []).1 h)
 have sT':∀ l∈zU T [],rD l:=fun l h=>sT l (by simpa using (xl T []).1 h)
 have sC':∀ l∈zU C [],rD l.2:=fun l h=>sC l (by simpa using (xl C []).1 h)
 unfold Yf;rw[Xp (fun e he=>big _ (sL e he)) (by omega),aa,Xp (fun e he=>big _ (sC e he)) (by omega),aa,
  Qo _ _ _ _ (by unfold maxLen; omega),Aa _ _ T [] (fun e he=>big _ (sT e he)) (by simp; omega),aa]
 simp only;generalize hL2:zU L []=L2 at lL sL';generalize hT2:zU T []=T2 at lT sT';generalize hC2:zU C []=C2 at lC sC';have k0:=IR L2 sL' MU;have k1:=EV T2 sT' k0;have k2:=IR C2 sC' k1;have e0:=Gz L2 (az 24 0,0) [] 0 MU (by omega) sL' (by simp; omega)
 have e1:=GH (vo (az 24 0,0) L2).1 T2 _ [] _ k0 (by omega) sT' (by simp; omega)
 have e2:=Gr (vo (az 24 0,0) L2).1 (tW (vo (az 24 0,0) L2).2 T2).1 C2 _ [] _ k1 (by omega) sC' (by simp; omega)
 simp only[bm] at e0 e1 e2;unfold Yn;rw[Yk L2 L2 T2 C2 (az 24 0) 0 [] (by unfold maxLen; omega),e0,aa]
 simp only;rw[ZT _ _ _ _ _ _ _ _ (by unfold maxLen; omega),e1,aa]
 simp only;rw[YB _ _ _ _ _ _ (by unfold maxLen; omega),e2,aa]
 have hlen:=k2.len;simp only[List.length_replicate,hlen];unfold tX zfv;rw[hL2,hT2,hC2];rfl
theorem Fa {a0:List zg}:{xs:List Int}->{n k:Nat}->sk a0 n xs=some k->∀ c∈xs.take k,-24<=c
 | [],n,k,h,c,hc=>by simp at hc
 | x::xs,0,k,h,c,hc=>by
  simp [sk] at h; subst h; simp at hc
 | x::xs,n+1,k,h,c,hc=>by
  unfold sk at h;cases ha:uX a0 x with
  | none=>rw[ha] at h; cases h
  | some m =>
   rw[ha] at h;simp only[bv] at h;obtain⟨j,hj,rfl⟩:=h;rw[eI] at hc;rcases aD.1 hc with rfl | hc
   ·by_cases h0:c<0
    ·exact (BU ha h0).1
    ·omega
   ·exact Fa hj c hc
theorem WT {a0:List zg} {xs:List Int} {ps:List jI} (h:VP a0 xs=some ps):∀ c∈xs,-24<=c:=by
 obtain⟨h1,h2⟩:=Qm xs.length xs ps (aF _) h;intro c hc;rw[← h1] at hc;obtain⟨p,hp,hcp⟩:=fh.1 hc;have:=Fa (h2 p hp).2 c;rw[dR] at this;exact this hcp
theorem AR {a0:List zg} {xs:List Int} (h:qN a0 xs=true):rD xs:=by
 obtain⟨x,r,e,ps,rfl,h0,-,-,-,-,hl,hc,-⟩:=Q6 h;refine ⟨by simp; omega,fun c hcm => ?_⟩
 rcases aD.1 hcm with rfl | hcm
 ·omega
 ·exact WT hc c hcm
theorem Fz {a0:List zg} {r:List Int} {n:Nat} (h:Y0 a0 r=some n):rD r:=by
 obtain⟨ps,hc,-,hl,-⟩:=JM h;exact ⟨by omega,WT hc⟩
theorem qX {a0:List zg} {ls:List zc} (h:sN a0 ls=true):∀ l∈ls,rD l.2:=fun l hl =>
 AR (aC.1 h l hl)
theorem ZQ {a0:List zg} {rs:List jI} (h:ZZ a0 rs=true):∀ r∈rs,rD r:=fun r hr=>by
 obtain⟨n,hn⟩:=WJ h;exact Fz (hn r hr)
theorem qO (a0:List zg) (L:List zc) (T:List jI) (C:List zc):xi a0 L T C=some (cond (xD a0 L T C) ((tX L T C).1,(tX L T C).2.1,0,(tX L T C).2.2) ([],[],800,[])):=by
 unfold xi;rw[zD,aa];cases h:xD a0 L T C with
 | false=>rfl
 | true =>
  obtain⟨-,h1,h2,h3,h4,h5,h6,-⟩:=zn h;rw[ay,cond_false,Gi (by omega) (by omega) (by omega) (qX h4) (ZQ h5) (qX h6),aa]
  rfl
theorem Kt:(s:List Int×Int)->(ls:List zc)->(vo s ls).1.length=ls.length
 | _,[]=>rfl
 | s,l::ls=>by simp [vo,Kt (rZ s l.2).2 ls]
theorem BJ:(s:List Int×Int)->(ls:List jI)->(tW s ls).1.length=ls.length
 | _,[]=>rfl
 | s,l::ls=>by simp [tW,BJ (rZ s l).2 ls]
theorem W7:(s:List Int×Int)->(ls:List zc)->(b:Nat)->(∀ l∈ls,l.2.length<=b)->∀ l∈(vo s ls).1,l.2.length<=b
 | _,[],_,_,l,hl=>by cases hl
 | s,e::es,b,h,l,hl=>by
  simp only[vo] at hl;rcases aD.1 hl with rfl | hl
  ·rw[Ij]; exact h e (aj ..)
  ·exact W7 _ es b (fun x hx=>h x (ai _ hx)) l hl
theorem G5:(s:List Int×Int)->(ls:List jI)->(b:Nat)->(∀ l∈ls,l.length<=b)->∀ l∈(tW s ls).1,l.length<=b
 | _,[],_,_,l,hl=>by cases hl
 | s,e::es,b,h,l,hl=>by
  simp only[tW] at hl;rcases aD.1 hl with rfl | hl
  ·rw[Ij]; exact h e (aj ..)
  ·exact G5 _ es b (fun x hx=>h x (ai _ hx)) l hl
theorem Hk {a0:List zg} {L:List zc} {T:List jI} {C:List zc} (h:xD a0 L T C=true) :
  vu (tX L T C).1 (tX L T C).2.1 (tX L T C).2.2 (tX L T C).1 (tX L T C).2.1 (tX L T C).2.2=some true:=by
 obtain⟨-,h1,h2,h3,h4,h5,h6,-⟩:=zn h;have lL:=w8 L [];have lT:=w8 T [];have lC:=w8 C [];simp only[bb,aQ] at lL lT lC;have sL:∀ l∈zU L [],l.2.length<=1000:=fun l h=>(qX h4 l (by simpa using (xl L []).1 h)).1
 have sT:∀ l∈zU T [],l.length<=1000:=fun l h=>(ZQ h5 l (by simpa using (xl T []).1 h)).1
 have sC:∀ l∈zU C [],l.2.length<=1000:=fun l h=>(qX h6 l (by simpa using (xl C []).1 h)).1
 unfold tX zfv;apply tc
 ·simp only[Kt]; unfold maxLen; omega
 ·intro e he;have:=W7 _ _ 1000 sL e he;unfold maxLen; omega
 ·simp only[BJ]; unfold maxLen; omega
 ·intro e he;have:=G5 _ _ 1000 sT e he;unfold maxLen; omega
 ·simp only[Kt]; unfold maxLen; omega
 ·intro e he;have:=W7 _ _ 1000 sC e he;unfold maxLen; omega
def zv {α:Type} (s:Int):List α->Nat->List α
 | [],_=>[]
 | e::es,i=>cond ((i:Int) != s) (e::zv s es (i+1)) (zv s es (i+1))
theorem tF {α:Type} (s:Int):(es:List α)->(i:Nat)->(zv s es i).length<=es.length
 | [],_=>aF _
 | e::es,i=>by
  unfold zv;have:=tF s es (i+1);cases ((i:Int) != s)<;>simp<;>omega
theorem CK (s0:Int) (s8:List jI) (s10:List zc):(es:List zc)->(i:Nat)->(out:List zc)->out.length+es.length<=1000000->yo s0 s8 s10 es i out=some (s8,out++zv s0 es i,s10)
 | [],i,out,_=>by simp [yo,zv]
 | e::es,i,out,h=>by
  rw[ak] at h;unfold yo zv;cases ((i:Int) != s0) with
  | true =>
   rw[cond_true,cond_true,zk (show (out.length+([(e.1,e.2)]:List zc).length)*32<=140737488351232 by simp; omega),cond_true,CK s0 s8 s10 es (i+1) _ (by simp; omega)]
   simp
  | false=>rw[cond_false,cond_false,CK s0 s8 s10 es (i+1) out (by omega)]
theorem Ae (s0:Int) (s8:List jI) (s10:List zc):(es:List zc)->(i:Nat)->(out:List zc)->out.length+es.length<=1000000->ym s0 s8 s10 es i out=some (s8,out++zv s0 es i,s10)
 | [],i,out,_=>by simp [ym,zv]
 | e::es,i,out,h=>by
  rw[ak] at h;unfold ym zv;cases ((i:Int) != s0) with
  | true =>
   rw[cond_true,cond_true,zk (show (out.length+([(e.1,e.2)]:List zc).length)*32<=140737488351232 by simp; omega),cond_true,Ae s0 s8 s10 es (i+1) _ (by simp; omega)]
   simp
  | false=>rw[cond_false,cond_false,Ae s0 s8 s10 es (i+1) out (by omega)]
theorem J2 {n:Nat} (h:n<=1000000):YD (n:Int)=some []:=by
 unfold YD;have e:ag .i64 ((n:Int) - 0)=(n:Int):=by rw[zp]<;>omega
 rw[e,decide_eq_false (show ¬((n:Int)<0) by omega),cond_false]
 by_cases h0:n=0
 ·subst h0; rfl
 ·rw[decide_eq_true (show (n:Int)>0 by omega),cond_true,show (eqI 0 0&&eqI 0 0)=true from rfl,cond_true,show E7 (n:Int)=true from decide_eq_true (by omega),cond_true,bl,zk (by omega),cond_true]
  have:vM (az n ([]:List Int)) none (some 0)=some []:=by
   show slc (az n ([]:List Int)) 0 0=some [];unfold slc;rw[decide_eq_true (show (0:Int)<=0 by omega),decide_eq_true (show (0:Int)<=(((az n ([]:List Int)).length:Nat):Int) by omega)]
   rfl
  rw[this]; rfl
theorem VZ {n:Nat} (h:n<=1000000):kh (n:Int)=some []:=by
 unfold kh;have e:ag .i64 ((n:Int) - 0)=(n:Int):=by rw[zp]<;>omega
 rw[e,decide_eq_false (show ¬((n:Int)<0) by omega),cond_false]
 by_cases h0:n=0
 ·subst h0; rfl
 ·rw[decide_eq_true (show (n:Int)>0 by omega),cond_true,show (eqI 0 0&&eqI 0 0)=true from rfl,cond_true,show E7 (n:Int)=true from decide_eq_true (by omega),cond_true,bl,zk (by omega),cond_true]
  have:∀ z:zc,vM (az n z) none (some 0)=some []:=fun z=>by
   show slc (az n z) 0 0=some [];unfold slc;rw[decide_eq_true (show (0:Int)<=0 by omega),decide_eq_true (show (0:Int)<=(((az n z).length:Nat):Int) by omega)]
   rfl
  rw[this]; rfl
theorem Vh {a b:List jI} (h:a.length+b.length<=1000000):ko [a,b]=some (a++b):=by
 have w0:ag .i64 ((0:Int)+((a.length:Nat):Int))=((a.length:Nat):Int):=by rw[zp]<;>omega
 have w1:ag .i64 (((a.length:Nat):Int)+((b.length:Nat):Int))=((a.length+b.length:Nat):Int):=by rw[zp]<;>omega
 have e0:yC [a,b] 0=some ((a.length+b.length:Nat):Int):=by
  unfold yC;rw[w0,decide_eq_false (show ¬(((a.length:Nat):Int)<0) by omega),cond_false]
  unfold yC;rw[w1,decide_eq_false (show ¬(((a.length+b.length:Nat):Int)<0) by omega),cond_false]
  rfl
 have e1:yu [a,b] []=some (a++b):=by
  unfold yu;rw[zk (by simp; omega),cond_true,bm]
  unfold yu;rw[zk (by omega),cond_true]
  rfl
 unfold ko;rw[Z1 _ _ _ (by unfold maxLen; simp),e0,aa,J2 h,aa,YK _ _ (by unfold maxLen; simp),e1]
 rfl
theorem jY {a b:List zc} (h:a.length+b.length<=1000000):uR [a,b]=some (a++b):=by
 have w0:ag .i64 ((0:Int)+((a.length:Nat):Int))=((a.length:Nat):Int):=by rw[zp]<;>omega
 have w1:ag .i64 (((a.length:Nat):Int)+((b.length:Nat):Int))=((a.length+b.length:Nat):Int):=by rw[zp]<;>omega
 have e0:ya [a,b] 0=some ((a.length+b.length:Nat):Int):=by
  unfold ya;rw[w0,decide_eq_false (show ¬(((a.length:Nat):Int)<0) by omega),cond_false]
  unfold ya;rw[w1,decide_eq_false (show ¬(((a.length+b.length:Nat):Int)<0) by omega),cond_false]
  rfl
 have e1:z6 [a,b] []=some (a++b):=by
  unfold z6;rw[zk (by simp; omega),cond_true,bm]
  unfold z6;rw[zk (by omega),cond_true]
  rfl
 unfold uR;rw[Zd _ _ _ (by unfold maxLen; simp),e0,aa,VZ h,aa,Zc _ _ (by unfold maxLen; simp),e1]
 rfl
theorem vC {L:List zc} {T:List jI} {C:List zc} {L':List zc} {T':List jI} {C':List zc} (i j:Int) (h1:L.length<=1000) (h2:T.length<=1000) (h3:C.length<=1000) (h4:L'.length<=1000) (h5:T'.length<=1000) (h6:C'.length<=1000) :
  vP L T C i L' T' C' j=some (T++T',zv i L 0++zv j L' 0,C++C'):=by
 have hw:=tF i L 0;unfold vP;rw[Vh (by omega),aa,jY (by omega),aa,
  YX _ _ _ _ _ _ _ _ _ (by unfold maxLen; omega),CK _ _ _ _ _ _ (by simp; omega),aa]
 simp only[bm];rw[YZ _ _ _ _ _ (by unfold maxLen; omega),Ae _ _ _ _ _ _ (by omega),aa]
theorem zc5 {L:List zc} {i:Int} (h0:0<=i) (h:i<L.length):∃ l,gx L i=some l∧l∈L∧L[i.toNat]? = some l:=JZ h0 h
def z5 (L:List zc) (i:Int):Bool:=decide (0<=i)&&decide (i<L.length)
theorem wk (L:List zc) (T:List jI) (C:List zc) (i:Int):tM L T C i=some (z5 L i):=by
 unfold tM z5;by_cases h:0<=i
 ·rw[decide_eq_true h]; rfl
 ·rw[decide_eq_false h]; rfl
def KN (L:List zc) (T:List jI) (C:List zc) (i:Int):List zc×List jI×List zc :=
 tX (zv i L 0) T (C++[(!((L[i.toNat]?).getD (false,[])).1,((L[i.toNat]?).getD (false,[])).2)])
theorem v7 {α:Type} {s:Int} {x:α}:(es:List α)->(i:Nat)->x∈zv s es i->x∈es
 | [],_,h=>by cases h
 | e::es,i,h=>by
  unfold zv at h;cases hb:((i:Int) != s) with
  | true =>
   rw[hb,cond_true] at h;rcases aD.1 h with rfl | h
   ·exact aj ..
   ·exact ai _ (v7 es (i+1) h)
  | false=>rw[hb,cond_false] at h; exact ai _ (v7 es (i+1) h)
theorem Jq {s:Int}:(es:List zc)->(i:Nat)->(l:zc)->(0<=s - i)->es[(s - i).toNat]? = some l->(zv s es i).length+1=es.length∧zi ((zv s es i).map (·.2))+l.2.length=zi (es.map (·.2))
 | [],i,l,_,h=>by simp at h
 | e::es,i,l,h0,h=>by
  by_cases hs:s=(i:Int)
  ·subst hs;simp only[Int.sub_self,Int.toNat_zero,aB] at h;injection h with h; subst h;have hw:∀(xs:List zc) (j:Nat),i<j->zv (i:Int) xs j=xs:=by
    intro xs
    induction xs with
    | nil=>intro j _; rfl
    | cons x xs ih =>
     intro j hj;unfold zv;rw[show ((j:Int) != (i:Int))=true from by simp; omega,cond_true,ih (j+1) (by omega)]
   unfold zv;rw[show ((i:Int) != (i:Int))=false from by simp,cond_false,hw es (i+1) (by omega)]
   refine ⟨by simp,?_⟩
   simp [zi]; omega
  ·obtain⟨n,hn⟩:∃ n,(s - i).toNat=n+1:=⟨(s - i).toNat - 1,by omega⟩
   rw[hn,List.getElem?_cons_succ] at h;obtain⟨k1,k2⟩:=Jq (s:=s) es (i+1) l (by omega) (by rw[show (s - ((i+1:Nat):Int)).toNat=n by omega]; exact h)
   unfold zv;rw[show ((i:Int) != s)=true from by simp; omega,cond_true]
   refine ⟨by simp; omega,?_⟩
   simp only[zi,aM,cA] at k2 ⊢;omega
theorem G1 {a0:List zg} {L:List zc} {T:List jI} {C:List zc} {i:Int} {l:zc} (h:xD a0 L T C=true) (h0:0<=i) (hl:L[i.toNat]? = some l) (hC:C.length<3) :
  xD a0 (zv i L 0) T (C++[(!l.1,l.2)])=true:=by
 obtain⟨h1,h2,h3,h4,h5,h6,h7,h8⟩:=zn h;obtain⟨k1,k2⟩:=Jq (s:=i) L 0 l (by omega) (by simpa using hl)
 have hm:l∈L:=aI hl;refine Cz h1 (by omega) h3 (by simp; omega) ?_ h6 ?_ ?_
 ·unfold sN;exact aC.2 fun x hx=>aC.1 h5 x (v7 L 0 hx)
 ·unfold sN at h7 ⊢;rw[List.all_append,h7];have:=aC.1 h5 l hm;simpa using this
 ·simp only[zi,List.map_append,List.sum_append,aM,List.map_nil,cA,List.sum_nil] at k2 h8 ⊢;omega
theorem VW (a0:List zg) (L:List zc) (T:List jI) (C:List zc) (i:Int):vT a0 L T C i=some (cond (xD a0 L T C&&z5 L i)
  (cond (decide (C.length=3)) ([],[],1401,[]) ((KN L T C i).1,(KN L T C i).2.1,0,(KN L T C i).2.2)) ([],[],1400,[])):=by
 unfold vT;rw[zD,aa];cases hm:xD a0 L T C with
 | false=>rfl
 | true =>
  rw[ay,cond_false,wk,aa,aN];cases hp:z5 L i with
  | false=>rfl
  | true =>
   obtain⟨h1,h2,h3,h4,h5,h6,h7,h8⟩:=zn hm;rw[ay,cond_false,cond_true];by_cases hC:C.length=3
   ·rw[hC]; rfl
   ·rw[show (((af C:Nat):Int)==3)=false from by simp; omega,cond_false,decide_eq_false hC,cond_false,vC i (-1) (by omega) (by omega) (by omega) (by simp) (by simp) (by simp),aa]
    unfold z5 at hp;simp only[ax,decide_eq_true_eq] at hp;obtain⟨l,g1,g2,g3⟩:=zc5 hp.1 hp.2;have hsm:=qX h5 l g2;have hls:=hsm.1;rw[g1,aa];unfold Qw;rw[ye (by omega),aa,aa]
    simp only[List.append_nil,zv];rw[zk (by simp; omega),cond_true,qO,G1 hm hp.1 g3 (by omega),aa]
    unfold KN;rw[g3];rfl
def to0:List (Option jI×Int):=az 48 ((none:Option jI),(0:Int))
theorem zb2 {k:Nat} (h:k<48):to0[k]? = some (none,0):=by
 unfold to0;rw[List.getElem?_replicate,if_pos h]
theorem C4 {α:Type} (xs:List α) (y:α):vM (xs++[y]) none (some (xs.length:Int))=some xs:=by
 show slc (xs++[y]) 0 (xs.length:Int)=some xs;unfold slc;rw[decide_eq_true (show (0:Int)<=0 by omega),decide_eq_true (show (0:Int)<=(xs.length:Int) by omega),decide_eq_true (show (xs.length:Int)<=(((xs++[y]).length:Nat):Int) by simp; omega)]
 simp
theorem So (ps:List jI):zi ps=ps.flatten.length:=by
 induction ps with
 | nil=>rfl
 | cons p ps ih =>
  unfold zi at ih ⊢;simp only[aM,cA,eW,am,ih]
def ke (s:List (Int×List Int)) (v:Int):Option jI:=(s.find? fun b=>b.1==v).map (·.2)
def onC (s:List (Int×List Int)) (c:Int):List Int:=cond (decide (c≥0)) [c] ((ke s (-1 - c)).getD [c])
def onB (s:List (Int×List Int)) (r:List Int):List Int:=r.flatMap (onC s)
structure BindsOk (s:List (Int×List Int)):Prop where
 len:s.length<=1000
 all:∀ b∈s,b.2≠[]∧b.2.length<=1000
theorem ED (v:Int):(es:List (Int×List Int))->wy v es=some (match ke es v with
  | none=>.inl ()
  | some t=>.inr t)
 | []=>rfl
 | e::es=>by
  unfold wy ke;rw[List.find?_cons];cases he:(e.1==v) with
  | true=>rfl
  | false =>
   rw[cond_false,ED v es];rfl
theorem DK {s:List (Int×List Int)} {v:Int} {t:List Int} (h:ke s v=some t):∃ b∈s,b.1=v∧b.2=t:=by
 unfold ke at h;obtain⟨b,hb,rfl⟩:=bv.1 h;exact ⟨b,List.mem_of_find?_eq_some hb,by simpa using List.find?_some hb,rfl⟩
theorem Vo {α:Type} {xs:List α} (h:xs≠[]):nn xs=some xs:=by
 cases xs with
 | nil=>exact absurd rfl h
 | cons x xs=>rfl
theorem BF {s:List (Int×List Int)} (h:BindsOk s) (v:Int):QK s v=some (ke s v):=by
 unfold QK;rw[XY _ _ (by have:=h.len; unfold maxLen; omega),ED]
 cases hl:ke s v with
 | none=>rfl
 | some t =>
  obtain⟨b,hb,-,rfl⟩:=DK hl;show (nn b.2).bind _=_;rw[Vo (h.all b hb).1];rfl
theorem zaK {s:List (Int×List Int)} (h:BindsOk s) (c:Int):(onC s c).length<=1000:=by
 unfold onC;cases decide (c≥0) with
 | true=>simp
 | false =>
  cases hl:ke s (-1 - c) with
  | none=>simp
  | some t =>
   obtain⟨b,hb,-,rfl⟩:=DK hl;exact (h.all b hb).2
theorem BL {s:List (Int×List Int)} (h:BindsOk s):(es:List Int)->(out:List Int)->(∀ c∈es,-1000000<=c∧c<=1000000)->out.length+1000*es.length<=10000000->xh s es out=some (out++onB s es)
 | [],out,_,_=>by simp [xh,onB]
 | e::es,out,hc,hl=>by
  rw[ak] at hl;have he:=hc e (aj ..);have ih:=fun out' hl'=>BL h es out' (fun c hx=>hc c (ai _ hx)) hl';have hcl:=zaK h e;have hB:onB s (e::es)=onC s e++onB s es:=by simp [onB]
  unfold xh;rw[qA (by omega) (by omega),aa,BF h,aa,hB]
  unfold onC at hcl ⊢;by_cases h0:e≥0
  ·rw[decide_eq_true h0,cond_true,cond_true,zk (show (out.length+([e]:List Int).length)*8<=140737488351232 by simp; omega),cond_true,ih _ (by simp; omega)]
   simp
  ·rw[decide_eq_false h0] at hcl ⊢;simp only[cond_false] at hcl ⊢;cases hl2:ke s (-1 - e) with
   | none =>
    simp only[Option.isNone_none,cond_true,Option.getD_none];rw[zk (show (out.length+([e]:List Int).length)*8<=140737488351232 by simp; omega),cond_true,ih _ (by simp; omega)]
    simp
   | some t =>
    rw[hl2] at hcl;simp only[ba] at hcl;simp only[co,cond_false,ba];rw[zk (by omega),cond_true,ih _ (by simp; omega)]
    simp
theorem kC {s:List (Int×List Int)} (h:BindsOk s) {r:List Int} (hl:r.length<=1000) (hc:∀ c∈r,-1000000<=c∧c<=1000000):Yr s r=some (onB s r):=by
 unfold Yr;rw[Vk _ _ _ (by unfold maxLen; omega),BL h r [] hc (by simp; omega)]
 rfl
def tV (r:List Int):Prop:=r.length<=1000∧∀ c∈r,-1000000<=c∧c<=1000000
def J7 (s:List (Int×List Int)) (ls:List zc):List zc:=ls.map fun l=>(l.1,onB s l.2)
def HR (s:List (Int×List Int)) (rs:List jI):List jI:=rs.map (onB s)
theorem D2 {s:List (Int×List Int)} (h:BindsOk s):(es out:List zc)->(∀ l∈es,tV l.2)->out.length+es.length<=1000000->qk s es out=some (out++J7 s es)
 | [],out,_,_=>by simp [qk,J7]
 | e::es,out,hn,hl=>by
  rw[ak] at hl;have he:=hn e (aj ..);unfold qk xW;rw[kC h he.1 he.2,aa,aa,zk (show (out.length+([(e.1,onB s e.2)]:List zc).length)*32<=140737488351232 by simp; omega),cond_true,
   D2 h es _ (fun l hl=>hn l (ai _ hl)) (by simp; omega)]
  simp [J7]
theorem DV {s:List (Int×List Int)} (h:BindsOk s) (s7:List zc):(es out:List jI)->(∀ l∈es,tV l)->out.length+es.length<=1000000->qm s s7 es out=some (s7,out++HR s es)
 | [],out,_,_=>by simp [qm,HR]
 | e::es,out,hn,hl=>by
  rw[ak] at hl;have he:=hn e (aj ..);unfold qm xW;rw[kC h he.1 he.2,aa,aa,zk (show (out.length+([onB s e]:List jI).length)*24<=140737488351232 by simp; omega),cond_true,
   DV h s7 es _ (fun l hl=>hn l (ai _ hl)) (by simp; omega)]
  simp [HR]
theorem Bg {s:List (Int×List Int)} (h:BindsOk s) (s4:List zc) (s5:List jI):(es out:List zc)->(∀ l∈es,tV l.2)->out.length+es.length<=1000000->qx s s4 s5 es out=some (s4,s5,out++J7 s es)
 | [],out,_,_=>by simp [qx,J7]
 | e::es,out,hn,hl=>by
  rw[ak] at hl;have he:=hn e (aj ..);unfold qx xW;rw[kC h he.1 he.2,aa,aa,zk (show (out.length+([(e.1,onB s e.2)]:List zc).length)*32<=140737488351232 by simp; omega),cond_true,
   Bg h s4 s5 es _ (fun l hl=>hn l (ai _ hl)) (by simp; omega)]
  simp [J7]
theorem I4 {s:List (Int×List Int)} (h:BindsOk s) {L:List zc} {T:List jI} {C:List zc} (hL:∀ l∈L,tV l.2) (hT:∀ l∈T,tV l) (hC:∀ l∈C,tV l.2) (h1:L.length<=1000) (h2:T.length<=1000) (h3:C.length<=1000) :
  rU s L T C=some (J7 s L,HR s T,J7 s C):=by
 unfold rU XI;rw[Y7 _ _ _ _ _ _ (by unfold maxLen; omega),D2 h L [] hL (by simp; omega),aa,
  Y8 _ _ _ _ _ _ _ (by unfold maxLen; omega),DV h _ T [] hT (by simp; omega),aa,
  QR _ _ _ _ _ (by unfold maxLen; omega),Bg h _ _ C [] hC (by simp; omega),aa]
 simp
def kj (a0:Int):Option jI :=
 cond (decide (a0<0))
 (none)
 (cond (decide ((ag .i64 (a0 - 0))>0))
  (cond (eqI 0 0&&eqI 0 0)
   (cond (E7 (ag .i64 (a0 - 0)))
    (cond (yp (bc (ag .i64 (a0 - 0))) 8)
     ((vM (az (bc (ag .i64 (a0 - 0))) (0:Int)) none (some 0)).bind fun y2 =>
      some y2)
     (none))
    (none))
   (none))
  (some ([]:jI)))
def xF (rec:(jR×Int×Int×jI)->Option jI) (x:(jR×Int×Int×jI)):Option jI :=
 cond (decide (x.2.2.1<x.2.1))
 ((gx x.1 x.2.2.1).bind fun e7 =>
  cond (yp (af x.2.2.2+af e7) 8)
  (rec (x.1,x.2.1,(ag .i64 (x.2.2.1+1)),(x.2.2.2++e7)))
  (none))
 (some x.2.2.2)
def xE (rec:(jR×Int×jR×Int×Int)->Option Int) (x:(jR×Int×jR×Int×Int)):Option Int :=
 cond (decide (x.2.2.2.2<x.2.2.2.1))
 ((gx x.2.2.1 x.2.2.2.2).bind fun e2 =>
  cond (decide ((ag .i64 (x.2.1+((af e2:Nat):Int)))<0))
  (none)
  (rec (x.1,(ag .i64 (x.2.1+((af e2:Nat):Int))),x.2.2.1,x.2.2.2.1,(ag .i64 (x.2.2.2.2+1)))))
 (some x.2.1)
def vD (a0:jR):Option jI :=
 ((lp xE ze) (a0,0,a0,((af a0:Nat):Int),0)).bind fun r9 =>
 (kj r9).bind fun r10 =>
 ((lp xF ze) (a0,((af a0:Nat):Int),0,r10)).bind fun r11 =>
 some r11
def zN:List jI->jI->Option jI
 | [],s3=>some s3
 | e::es,s3 =>
  cond (yp (af s3+af e) 8)
  (zN es (s3++e))
  (none)
theorem Za (s0:jR) (s3:jI) (hl:af s0<=maxLen):lp xF ze (s0,((af s0:Nat):Int),0,s3)=zN s0 s3:=xR xF (fun i s3=>(s0,((af s0:Nat):Int),i,s3)) (fun es i s3=>zN es s3) hl (fun r i s3 h=>by unfold xF zN; simp only[h,cond_false]) (fun r i s3 e es h g w k=>by unfold xF zN; simp only[h,cond_true,g,aa,w,k]) s3
def zO:List jI->Int->Option Int
 | [],s1=>some s1
 | e::es,s1 =>
  cond (decide ((ag .i64 (s1+((af e:Nat):Int)))<0))
  (none)
  (zO es (ag .i64 (s1+((af e:Nat):Int))))
theorem j5 (s0:jR) (s2:jR) (s1:Int) (hl:af s2<=maxLen):lp xE ze (s0,s1,s2,((af s2:Nat):Int),0)=zO s2 s1:=xR xE (fun i s1=>(s0,s1,s2,((af s2:Nat):Int),i)) (fun es i s1=>zO es s1) hl (fun r i s1 h=>by unfold xE zO; simp only[h,cond_false]) (fun r i s1 e es h g w k=>by unfold xE zO; simp only[h,cond_true,g,aa,w,k]) s1
def zhk (c:UInt8):Bool:=WC ((bE c:Nat):Int)
def zhi (c:UInt8):Bool:=decide (((bE c:Nat):Int)≥48)&&decide (((bE c:Nat):Int)<=57)
def zhg (b:Bool) (c:UInt8):Bool:=zhi c||(b&&zhk c)
def Stop (c:Str):Prop:=c.takeWhile (zhg true)=[]
theorem VX {n:Nat} (h:n<=10000000):kj (n:Int)=some []:=by
 unfold kj;have e:ag .i64 ((n:Int) - 0)=(n:Int):=by rw[zp]<;>omega
 rw[e,decide_eq_false (show ¬((n:Int)<0) by omega),cond_false]
 by_cases h0:n=0
 ·subst h0; rfl
 ·rw[decide_eq_true (show (n:Int)>0 by omega),cond_true,show (eqI 0 0&&eqI 0 0)=true from rfl,cond_true,show E7 (n:Int)=true from decide_eq_true (by omega),cond_true,bl,zk (by omega),cond_true]
  have:∀ z:Int,vM (az n z) none (some 0)=some []:=fun z=>by
   show slc (az n z) 0 0=some [];unfold slc;rw[decide_eq_true (show (0:Int)<=0 by omega),decide_eq_true (show (0:Int)<=(((az n z).length:Nat):Int) by omega)]
   rfl
  rw[this]; rfl
theorem CG {a b c:List Int} (h:a.length+b.length+c.length<=9000000):vD [a,b,c]=some ((a++b)++c):=by
 have w0:ag .i64 ((0:Int)+((a.length:Nat):Int))=((a.length:Nat):Int):=by rw[zp]<;>omega
 have w1:ag .i64 (((a.length:Nat):Int)+((b.length:Nat):Int))=((a.length+b.length:Nat):Int):=by rw[zp]<;>omega
 have w2:ag .i64 (((a.length+b.length:Nat):Int)+((c.length:Nat):Int))=((a.length+b.length+c.length:Nat):Int):=by rw[zp]<;>omega
 have e0:zO [a,b,c] 0=some ((a.length+b.length+c.length:Nat):Int):=by
  unfold zO;rw[w0,decide_eq_false (show ¬(((a.length:Nat):Int)<0) by omega),cond_false]
  unfold zO;rw[w1,decide_eq_false (show ¬(((a.length+b.length:Nat):Int)<0) by omega),cond_false]
  unfold zO;rw[w2,decide_eq_false (show ¬(((a.length+b.length+c.length:Nat):Int)<0) by omega),cond_false]
  rfl
 have e1:zN [a,b,c] []=some ((a++b)++c):=by
  unfold zN;rw[zk (by simp; omega),cond_true,bm]
  unfold zN;rw[zk (by omega),cond_true]
  unfold zN;rw[zk (by simp; omega),cond_true]
  rfl
 unfold vD;rw[j5 _ _ _ (by unfold maxLen; simp),e0,aa,VX (by omega),aa,Za _ _ (by unfold maxLen; simp),e1]
 rfl
theorem Ud {a0:List zg}:{xs:List Int}->{n m:Nat}->{ys:List Int}->sk a0 n xs=some xs.length->sk a0 m ys=some ys.length->sk a0 (n+m) (xs++ys)=some (xs++ys).length
 | [],0,m,ys,_,h=>by rw[aQ]; exact h
 | [],n+1,m,ys,h,_=>by simp [sk] at h
 | x::xs,0,m,ys,h,_=>by simp [sk] at h
 | x::xs,n+1,m,ys,h,h'=>by
  unfold sk at h;cases ha:uX a0 x with
  | none=>rw[ha] at h; cases h
  | some k =>
   rw[ha] at h;simp only[bv,ak] at h;obtain⟨j,hj,hjl⟩:=h;have hj2:j=xs.length:=by omega
   subst hj2;have ih:=Ud hj h';rw[show n+1+m=(n+m)+1 from by omega,List.cons_append]
   unfold sk;rw[ha];simp only;rw[show n+m+k=n+k+m from by omega,ih]
   rfl
theorem Ln {a0:List zg} {x:Int} {q:Nat} (h:uX a0 x=some q):x<0∨x<a0.length:=by
 by_cases hx:x<0
 ·exact .inl hx
 ·obtain⟨e,-,he,-⟩:=DJ h hx;have:=(au.1 he).1;exact .inr (by omega)
theorem X3 {a0:List zg}:{xs:List Int}->{n k:Nat}->sk a0 n xs=some k->∀ c∈xs.take k,c<0∨c<a0.length
 | [],n,k,h,c,hc=>by simp at hc
 | x::xs,0,k,h,c,hc=>by
  simp [sk] at h; subst h; simp at hc
 | x::xs,n+1,k,h,c,hc=>by
  unfold sk at h;cases ha:uX a0 x with
  | none=>rw[ha] at h; cases h
  | some m =>
   rw[ha] at h;simp only[bv] at h;obtain⟨j,hj,rfl⟩:=h;rw[eI] at hc;rcases aD.1 hc with rfl | hc
   ·exact Ln ha
   ·exact X3 hj c hc
theorem BI {a0:List zg} (hs:SignOk a0) {xs:List Int} {ps:List jI} (h:VP a0 xs=some ps):∀ c∈xs,-24<=c∧c<20:=by
 obtain⟨h1,h2⟩:=Qm xs.length xs ps (aF _) h;have hl:=hs.len;intro c hc;refine ⟨WT h c hc,?_⟩;rw[← h1] at hc;obtain⟨p,hp,hcp⟩:=fh.1 hc;have:=X3 (h2 p hp).2 c;rw[dR] at this;rcases this hcp with h | h<;>omega
theorem HE {a0:List zg} (hs:SignOk a0) {xs:List Int} (h:qN a0 xs=true):tV xs:=by
 obtain⟨x,r,e,ps,rfl,h0,he,-,-,-,hl,hc,-⟩:=Q6 h;have:=(au.1 he).1;have hl2:=hs.len;refine ⟨by simp; omega,fun c hcm => ?_⟩
 rcases aD.1 hcm with rfl | hcm
 ·omega
 ·have:=BI hs hc c hcm; omega
theorem kE {a0:List zg} (hs:SignOk a0) {ls:List zc} (h:sN a0 ls=true):∀ l∈ls,tV l.2:=fun l hl=>HE hs (aC.1 h l hl)
theorem Vr {a0:List zg} (hs:SignOk a0) {rs:List jI} (h:ZZ a0 rs=true):∀ r∈rs,tV r:=fun r hr=>by
 obtain⟨n,hn⟩:=WJ h;obtain⟨ps,hc,-,hl,-⟩:=JM (hn r hr);exact ⟨by omega,fun c hcm=>by have:=BI hs hc c hcm; omega⟩
end Go.Abs.Q
